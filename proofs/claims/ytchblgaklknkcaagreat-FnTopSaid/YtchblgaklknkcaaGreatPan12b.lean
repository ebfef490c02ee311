/-
  Panels that are copied, emptied and made: the walks. No condition beyond those written in each theorem.
-/
import Derived.Test.YtchblgaklknkcaaGreatPan12
namespace Go.Proofs.YtchblgaklknkcaaGreat
open Go.RowKit
set_option linter.unusedVariables false
set_option linter.unusedSimpArgs false
set_option linter.unusedSectionVars false
set_option maxRecDepth 4000
set_option maxHeartbeats 400000 in
theorem copyPanel_ok (u1 : Option Addr) (n1 v1 : Nat) (u2 : Option Addr) (n2 v2 : Nat) (u3 : Option Addr) (n3 v3 : Nat) (x : Pan) (w : World) (H1 : Sl i64c 1 w u1 n1 v1 x.S) (H2 : Sl i64c 1 w u2 n2 v2 x.W) (H3 : Sl i64c 1 w u3 n3 v3 x.G) (hb : n1 ≤ 1000 ∧ n2 ≤ 1000 ∧ n3 ≤ 1000) : Ret Tryz.prog 118 [.agg #[.slice u1 n1 v1, .slice u2 n2 v2, .slice u3 n3 v3]] w (fun v w' => Ext w w' ∧ ∃ (q1 : Option Addr) (m1 d1 : Nat) (q2 : Option Addr) (m2 d2 : Nat) (q3 : Option Addr) (m3 d3 : Nat) (k1 k2 : Nat), v = .agg #[.slice q1 m1 d1, .slice q2 m2 d2, .slice q3 m3 d3] ∧ (w.heap.size ≤ k1 ∧ k1 ≤ k2 ∧ k2 ≤ w'.heap.size) ∧ Ow i64c 1 2 w' w.heap.size k1 q1 m1 d1 x.S ∧ Ow i64c 1 2 w' k1 k2 q2 m2 d2 x.W ∧ Ow i64c 1 2 w' k2 w'.heap.size q3 m3 d3 x.G) := by
 refine ret_of_run (N := 13) Tryz.func118 rfl rfl rfl ?_
 have hn1 := H1.len
 have hn2 := H2.len
 have hn3 := H3.len
 have E : Ext w w := Ext.refl w
 refine sr_ ?_
 refine obox rfl rfl rfl ?_
 intro b1 w1 e1 hb1 hz1 O1
 have E := E.trans e1
 replace O1 : Own w1 b1 [.slice u1 n1 v1, .slice u2 n2 v2, .slice u3 n3 v3] 79 := O1
 refine oalloc Tryz.zeroValue79 rfl rfl ?_
 intro b2 w2 e2 hb2 hz2 O2
 have E := E.trans e2
 replace O1 := O1.ext e2
 replace O2 : Own w2 b2 [.slice none 0 0, .slice none 0 0, .slice none 0 0] 79 := O2
 refine ops_nil ?_
 refine run_seq ?_
 have hcut1 := cut_size (w := w2) (k := b2) (by omega)
 have RE := ext_to_cut E (k := b2) (by omega) (by omega)
 have RO1 := O1.cut (k := b2) (by omega) (by omega)
 refine run_heldC (ext_cut (w := w2) (k := b2) (by omega)) (by kernel_rfl) ?_
 intro wh1 F
 have zh1 := F.size
 have E := E.trans F
 replace O2 := O2.ext F
 replace F := (ext_cut (w := w2) (k := b2) (by omega)).trans F
 refine h_take 0 rfl (by kernel_rfl) (by kernel_rfl) (by kernel_rfl) (fun w' x_ => xfieldAddr fo79f0 rfl) rfl rfl rfl F ?_
 refine h_take 1 (v := .slice u1 n1 v1) rfl (by kernel_rfl) (by kernel_rfl) (by kernel_rfl) (fun w' x_ => xload1 Tryz.isAgg24 rfl ((RO1.cells).ext x_) rfl) rfl rfl rfl F ?_
 refine h_take 3 rfl (by kernel_rfl) (by kernel_rfl) (by kernel_rfl) (fun w' x_ => xfieldAddr fo79f1 rfl) rfl rfl rfl F ?_
 refine h_take 4 (v := .slice u2 n2 v2) rfl (by kernel_rfl) (by kernel_rfl) (by kernel_rfl) (fun w' x_ => xload1 Tryz.isAgg24 rfl ((RO1.cells).ext x_) rfl) rfl rfl rfl F ?_
 refine h_take 6 rfl (by kernel_rfl) (by kernel_rfl) (by kernel_rfl) (fun w' x_ => xfieldAddr fo79f2 rfl) rfl rfl rfl F ?_
 refine h_take 7 (v := .slice u3 n3 v3) rfl (by kernel_rfl) (by kernel_rfl) (by kernel_rfl) (fun w' x_ => xload1 Tryz.isAgg24 rfl ((RO1.cells).ext x_) rfl) rfl rfl rfl F ?_
 refine h_ready (rs := [2]) (by kernel_rfl) (by decide) ⟨?_, trivial⟩
 refine hs_call rfl (xcall Tryz.call97 rfl) rfl rfl rfl (cloneInt64_ok _ _ _ _ _ (H1.ext E) (H1.ext E).nil (by omega)) ?_
 rintro _ w3 ⟨e3, q5, cc5, rfl, Q5⟩
 have z3 := e3.size
 have E := E.trans e3
 replace O2 := O2.ext e3
 have F := F.trans e3
 refine ⟨F, ?_⟩
 refine h_ready (rs := [5]) (by kernel_rfl) (by decide) ⟨?_, trivial⟩
 refine hs_call rfl (xcall Tryz.call97 rfl) rfl rfl rfl (cloneInt64_ok _ _ _ _ _ (H2.ext E) (H2.ext E).nil (by omega)) ?_
 rintro _ w4 ⟨e4, q8, cc8, rfl, Q8⟩
 have z4 := e4.size
 have E := E.trans e4
 replace Q5 := Q5.ext e4
 replace O2 := O2.ext e4
 have F := F.trans e4
 refine ⟨F, ?_⟩
 refine h_ready (rs := [8]) (by kernel_rfl) (by decide) ⟨?_, trivial⟩
 refine hs_call rfl (xcall Tryz.call97 rfl) rfl rfl rfl (cloneInt64_ok _ _ _ _ _ (H3.ext E) (H3.ext E).nil (by omega)) ?_
 rintro _ w5 ⟨e5, q11, cc11, rfl, Q11⟩
 have z5 := e5.size
 have E := E.trans e5
 replace Q5 := Q5.ext e5
 replace Q8 := Q8.ext e5
 replace O2 := O2.ext e5
 have F := F.trans e5
 refine ⟨F, ?_⟩
 refine h_take 9 rfl (by kernel_rfl) (by kernel_rfl) (by kernel_rfl) (fun w' x_ => xbuild (vs := [.slice q5 n1 cc5, .slice q8 n2 cc8, .slice q11 n3 cc11]) (cells := #[.slice q5 n1 cc5, .slice q8 n2 cc8, .slice q11 n3 cc11]) rfl (by kernel_rfl)) rfl rfl rfl F ?_
 refine h_ready (rs := [10]) (by kernel_rfl) (by decide) ⟨?_, trivial⟩
 refine hs_storeN (vs := [.slice q5 n1 cc5, .slice q8 n2 cc8, .slice q11 n3 cc11]) Tryz.sizeOf79 rfl rfl O2 rfl (by simp) (by simp [Value.oneCell']) F (by omega) rfl rfl ?_
 intro w6 on6 O6
 have hz6 := on6.size
 have E := on6.ext E (by omega)
 replace Q5 := Q5.only on6 (by omega)
 replace Q8 := Q8.only on6 (by omega)
 replace Q11 := Q11.only on6 (by omega)
 have F := on6.ext F (by omega)
 replace O6 : Own w6 b2 [.slice q5 n1 cc5, .slice q8 n2 cc8, .slice q11 n3 cc11] 79 := O6
 refine h_doneC (by kernel_rfl) ?_
 refine run_ret Tryz.func118 (resc1 rfl rfl (run_loadVar_cells Tryz.isAgg79 Tryz.sizeOf79 O6.cells rfl)) ?_
 exact ⟨_, rfl, E, _, _, _, _, _, _, _, _, _, w3.heap.size, w4.heap.size, rfl, ⟨by omega, by omega, by omega⟩, Q5.wide (by omega) (by omega), Q8.wide (by omega) (by omega), Q11.wide (by omega) (by omega)⟩
set_option maxHeartbeats 400000 in
theorem l14Own_ok (u1 : Option Addr) (n1 v1 : Nat) (u2 : Option Addr) (n2 v2 : Nat) (u3 : Option Addr) (n3 v3 : Nat) (x : Pan) (w : World) (H1 : Sl i64c 1 w u1 n1 v1 x.S) (H2 : Sl i64c 1 w u2 n2 v2 x.W) (H3 : Sl i64c 1 w u3 n3 v3 x.G) (hb : n1 ≤ 1000 ∧ n2 ≤ 1000 ∧ n3 ≤ 1000) : Ret Tryz.prog 101 [.agg #[.slice u1 n1 v1, .slice u2 n2 v2, .slice u3 n3 v3]] w (fun v w' => Ext w w' ∧ ∃ (q1 : Option Addr) (m1 d1 : Nat) (q2 : Option Addr) (m2 d2 : Nat) (q3 : Option Addr) (m3 d3 : Nat) (k1 k2 : Nat), v = .agg #[.slice q1 m1 d1, .slice q2 m2 d2, .slice q3 m3 d3] ∧ (w.heap.size ≤ k1 ∧ k1 ≤ k2 ∧ k2 ≤ w'.heap.size) ∧ Ow i64c 1 2 w' w.heap.size k1 q1 m1 d1 x.S ∧ Ow i64c 1 2 w' k1 k2 q2 m2 d2 x.W ∧ Ow i64c 1 2 w' k2 w'.heap.size q3 m3 d3 x.G) := by
 refine ret_of_run (N := 13) Tryz.func101 rfl rfl rfl ?_
 have hn1 := H1.len
 have hn2 := H2.len
 have hn3 := H3.len
 have E : Ext w w := Ext.refl w
 refine sr_ ?_
 refine obox rfl rfl rfl ?_
 intro b1 w1 e1 hb1 hz1 O1
 have E := E.trans e1
 replace O1 : Own w1 b1 [.slice u1 n1 v1, .slice u2 n2 v2, .slice u3 n3 v3] 79 := O1
 refine oalloc Tryz.zeroValue79 rfl rfl ?_
 intro b2 w2 e2 hb2 hz2 O2
 have E := E.trans e2
 replace O1 := O1.ext e2
 replace O2 : Own w2 b2 [.slice none 0 0, .slice none 0 0, .slice none 0 0] 79 := O2
 refine ops_nil ?_
 refine run_seq ?_
 have hcut1 := cut_size (w := w2) (k := b2) (by omega)
 have RE := ext_to_cut E (k := b2) (by omega) (by omega)
 have RO1 := O1.cut (k := b2) (by omega) (by omega)
 refine run_heldC (ext_cut (w := w2) (k := b2) (by omega)) (by kernel_rfl) ?_
 intro wh1 F
 have zh1 := F.size
 have E := E.trans F
 replace O2 := O2.ext F
 replace F := (ext_cut (w := w2) (k := b2) (by omega)).trans F
 refine h_take 0 rfl (by kernel_rfl) (by kernel_rfl) (by kernel_rfl) (fun w' x_ => xfieldAddr fo79f0 rfl) rfl rfl rfl F ?_
 refine h_take 1 (v := .slice u1 n1 v1) rfl (by kernel_rfl) (by kernel_rfl) (by kernel_rfl) (fun w' x_ => xload1 Tryz.isAgg24 rfl ((RO1.cells).ext x_) rfl) rfl rfl rfl F ?_
 refine h_take 3 rfl (by kernel_rfl) (by kernel_rfl) (by kernel_rfl) (fun w' x_ => xfieldAddr fo79f1 rfl) rfl rfl rfl F ?_
 refine h_take 4 (v := .slice u2 n2 v2) rfl (by kernel_rfl) (by kernel_rfl) (by kernel_rfl) (fun w' x_ => xload1 Tryz.isAgg24 rfl ((RO1.cells).ext x_) rfl) rfl rfl rfl F ?_
 refine h_take 6 rfl (by kernel_rfl) (by kernel_rfl) (by kernel_rfl) (fun w' x_ => xfieldAddr fo79f2 rfl) rfl rfl rfl F ?_
 refine h_take 7 (v := .slice u3 n3 v3) rfl (by kernel_rfl) (by kernel_rfl) (by kernel_rfl) (fun w' x_ => xload1 Tryz.isAgg24 rfl ((RO1.cells).ext x_) rfl) rfl rfl rfl F ?_
 refine h_ready (rs := [2]) (by kernel_rfl) (by decide) ⟨?_, trivial⟩
 refine hs_call rfl (xcall Tryz.call102 rfl) rfl rfl rfl (l01Own_ok _ _ _ _ _ (H1.ext E) (H1.ext E).nil (by omega)) ?_
 rintro _ w3 ⟨e3, q5, cc5, rfl, Q5⟩
 have z3 := e3.size
 have E := E.trans e3
 replace O2 := O2.ext e3
 have F := F.trans e3
 refine ⟨F, ?_⟩
 refine h_ready (rs := [5]) (by kernel_rfl) (by decide) ⟨?_, trivial⟩
 refine hs_call rfl (xcall Tryz.call102 rfl) rfl rfl rfl (l01Own_ok _ _ _ _ _ (H2.ext E) (H2.ext E).nil (by omega)) ?_
 rintro _ w4 ⟨e4, q8, cc8, rfl, Q8⟩
 have z4 := e4.size
 have E := E.trans e4
 replace Q5 := Q5.ext e4
 replace O2 := O2.ext e4
 have F := F.trans e4
 refine ⟨F, ?_⟩
 refine h_ready (rs := [8]) (by kernel_rfl) (by decide) ⟨?_, trivial⟩
 refine hs_call rfl (xcall Tryz.call102 rfl) rfl rfl rfl (l01Own_ok _ _ _ _ _ (H3.ext E) (H3.ext E).nil (by omega)) ?_
 rintro _ w5 ⟨e5, q11, cc11, rfl, Q11⟩
 have z5 := e5.size
 have E := E.trans e5
 replace Q5 := Q5.ext e5
 replace Q8 := Q8.ext e5
 replace O2 := O2.ext e5
 have F := F.trans e5
 refine ⟨F, ?_⟩
 refine h_take 9 rfl (by kernel_rfl) (by kernel_rfl) (by kernel_rfl) (fun w' x_ => xbuild (vs := [.slice q5 n1 cc5, .slice q8 n2 cc8, .slice q11 n3 cc11]) (cells := #[.slice q5 n1 cc5, .slice q8 n2 cc8, .slice q11 n3 cc11]) rfl (by kernel_rfl)) rfl rfl rfl F ?_
 refine h_ready (rs := [10]) (by kernel_rfl) (by decide) ⟨?_, trivial⟩
 refine hs_storeN (vs := [.slice q5 n1 cc5, .slice q8 n2 cc8, .slice q11 n3 cc11]) Tryz.sizeOf79 rfl rfl O2 rfl (by simp) (by simp [Value.oneCell']) F (by omega) rfl rfl ?_
 intro w6 on6 O6
 have hz6 := on6.size
 have E := on6.ext E (by omega)
 replace Q5 := Q5.only on6 (by omega)
 replace Q8 := Q8.only on6 (by omega)
 replace Q11 := Q11.only on6 (by omega)
 have F := on6.ext F (by omega)
 replace O6 : Own w6 b2 [.slice q5 n1 cc5, .slice q8 n2 cc8, .slice q11 n3 cc11] 79 := O6
 refine h_doneC (by kernel_rfl) ?_
 refine run_ret Tryz.func101 (resc1 rfl rfl (run_loadVar_cells Tryz.isAgg79 Tryz.sizeOf79 O6.cells rfl)) ?_
 exact ⟨_, rfl, E, _, _, _, _, _, _, _, _, _, w3.heap.size, w4.heap.size, rfl, ⟨by omega, by omega, by omega⟩, Q5.wide (by omega) (by omega), Q8.wide (by omega) (by omega), Q11.wide (by omega) (by omega)⟩
set_option maxHeartbeats 2000000 in
theorem empty_ok (u1 : Option Addr) (n1 v1 : Nat) (u2 : Option Addr) (n2 v2 : Nat) (u3 : Option Addr) (n3 v3 : Nat) (x : Pan) (k : Nat) (w : World) (H1 : Sl i64c 1 w u1 n1 v1 x.S) (H2 : Sl i64c 1 w u2 n2 v2 x.W) (H3 : Sl i64c 1 w u3 n3 v3 x.G) (hP : isPan x = true) (hk : k < x.S.length) : Ret Tryz.prog 132 [.agg #[.slice u1 n1 v1, .slice u2 n2 v2, .slice u3 n3 v3], .int .i64 (k : Int)] w (fun v w' => Ext w w' ∧ ∃ (q1 : Option Addr) (m1 d1 : Nat) (q2 : Option Addr) (m2 d2 : Nat) (q3 : Option Addr) (m3 d3 : Nat) , v = .agg #[.slice q1 m1 d1, .slice q2 m2 d2, .slice q3 m3 d3] ∧ SlF i64c 1 w' w.heap.size w'.heap.size q1 m1 d1 ((emptyP x k).S) ∧ SlF i64c 1 w' w.heap.size w'.heap.size q2 m2 d2 ((emptyP x k).W) ∧ SlF i64c 1 w' w.heap.size w'.heap.size q3 m3 d3 ((emptyP x k).G)) := by
 refine ret_of_run (N := 40) Tryz.func132 rfl rfl rfl ?_
 have hn1 := H1.len
 have hn2 := H2.len
 have hn3 := H3.len
 have hle := pan_le hP
 have E : Ext w w := Ext.refl w
 refine sr_ ?_
 refine obox rfl rfl rfl ?_
 intro b1 w1 e1 hb1 hz1 O1
 have E := E.trans e1
 replace O1 : Own w1 b1 [.slice u1 n1 v1, .slice u2 n2 v2, .slice u3 n3 v3] 79 := O1
 refine oalloc Tryz.zeroValue79 rfl rfl ?_
 intro b2 w2 e2 hb2 hz2 O2
 have E := E.trans e2
 replace O1 := O1.ext e2
 replace O2 : Own w2 b2 [.slice none 0 0, .slice none 0 0, .slice none 0 0] 79 := O2
 refine ops_nil ?_
 refine sr_ ?_
 refine oz_ (v := .agg #[.slice u1 n1 v1, .slice u2 n2 v2, .slice u3 n3 v3]) (xloadN Tryz.isAgg79 Tryz.sizeOf79 rfl (O1.cells) rfl) rfl rfl ?_
 refine oc (xcall Tryz.call118 rfl) rfl rfl rfl (copyPanel_ok _ _ _ _ _ _ _ _ _ x _ (H1.ext E) (H2.ext E) (H3.ext E) (by omega)) ?_
 rintro _ w3 ⟨e3, q7_1, m7_1, d7_1, q7_2, m7_2, d7_2, q7_3, m7_3, d7_3, k7_1, k7_2, rfl, ⟨hk7_1, hk7_2, hk7_3⟩, F7_1, F7_2, F7_3⟩
 have z3 := e3.size
 have E := E.trans e3
 replace O1 := O1.ext e3
 replace O2 := O2.ext e3
 have lF7_1 := F7_1.len
 have lF7_2 := F7_2.len
 have lF7_3 := F7_3.len
 refine oalloc Tryz.zeroValue79 rfl rfl ?_
 intro b4 w4 e4 hb4 hz4 O4
 have E := E.trans e4
 replace F7_1 := F7_1.ext e4
 replace F7_2 := F7_2.ext e4
 replace F7_3 := F7_3.ext e4
 replace O1 := O1.ext e4
 replace O2 := O2.ext e4
 replace O4 : Own w4 b4 [.slice none 0 0, .slice none 0 0, .slice none 0 0] 79 := O4
 refine ostoreN (vs := _) Tryz.sizeOf79 rfl rfl O4 rfl (by simp) (by simp [Value.oneCell']) rfl ?_
 intro w5 on5 O5
 have hz5 := on5.size
 have E := on5.ext E (by omega)
 replace F7_1 := F7_1.only on5 (by omega)
 replace F7_2 := F7_2.only on5 (by omega)
 replace F7_3 := F7_3.only on5 (by omega)
 replace O1 := on5.own O1 (by omega)
 replace O2 := on5.own O2 (by omega)
 replace O5 : Own w5 b4 [.slice q7_1 m7_1 d7_1, .slice q7_2 m7_2 d7_2, .slice q7_3 m7_3 d7_3] 79 := O5
 refine ops_nil ?_
 refine run_seq ?_
 have hcut2 := cut_size (w := w5) (k := b2) (by omega)
 have RE := ext_to_cut E (k := b2) (by omega) (by omega)
 have RO1 := O1.cut (k := b2) (by omega) (by omega)
 refine run_heldC (ext_cut (w := w5) (k := b2) (by omega)) (by kernel_rfl) ?_
 intro wh2 F
 have zh2 := F.size
 have E := E.trans F
 replace F7_1 := F7_1.ext F
 replace F7_2 := F7_2.ext F
 replace F7_3 := F7_3.ext F
 replace O1 := O1.ext F
 replace O2 := O2.ext F
 replace O5 := O5.ext F
 replace F := (ext_cut (w := w5) (k := b2) (by omega)).trans F
 refine h_take 0 rfl (by kernel_rfl) (by kernel_rfl) (by kernel_rfl) (fun w' x_ => xfieldAddr fo79f2 rfl) rfl rfl rfl F ?_
 refine h_take 2 rfl (by kernel_rfl) (by kernel_rfl) (by kernel_rfl) (fun w' x_ => xfieldAddr fo79f0 rfl) rfl rfl rfl F ?_
 refine h_take 3 (v := .slice u1 n1 v1) rfl (by kernel_rfl) (by kernel_rfl) (by kernel_rfl) (fun w' x_ => xload1 Tryz.isAgg24 rfl ((RO1.cells).ext x_) rfl) rfl rfl rfl F ?_
 refine h_take 4 rfl (by kernel_rfl) (by kernel_rfl) (by kernel_rfl) (fun w' x_ => xmove rfl) rfl rfl rfl F ?_
 have h13 := (H1.ext RE).at (i := k) (by omega)
 refine h_take 5 rfl (by kernel_rfl) (by kernel_rfl) (by kernel_rfl) (fun w' x_ => xindexN (i := k) Tryz.underlying24 Tryz.sizeOf2 rfl rfl rfl ((H1.ext RE).p (i := k) (by omega)) (by have := (H1.ext RE).len; omega)) rfl rfl rfl F ?_
 refine h_take 6 (v := .int .i64 x.S[k]) rfl (by kernel_rfl) (by kernel_rfl) (by kernel_rfl) (fun w' x_ => xloadz Tryz.isAgg2 rfl ((h13).ext x_) rfl) rfl rfl rfl F ?_
 refine h_ready (rs := [1, 7]) (by kernel_rfl) (by decide) ⟨?_, ?_, trivial⟩
 ·
  refine hs_val (v := .slice q7_3 m7_3 d7_3) rfl (xload1 Tryz.isAgg24 rfl (O5.cells) rfl) rfl rfl rfl F ?_
  refine h_ready (rs := [7]) (by kernel_rfl) (by decide) ⟨?_, trivial⟩
  refine hs_build (len := 1) (vs := [.int .i64 x.S[k]]) (cs := [.int .i64 x.S[k]]) (sz := 1) Tryz.underlying24 inf2 rfl rfl (by decide) (by rfl) (by rfl) (by simp [Value.cells]) rfl F rfl rfl rfl ?_
  intro b6 w6 e6 hb6 hz6 O6
  have E := E.trans e6
  replace F7_1 := F7_1.ext e6
  replace F7_2 := F7_2.ext e6
  replace F7_3 := F7_3.ext e6
  replace O1 := O1.ext e6
  replace O2 := O2.ext e6
  replace O5 := O5.ext e6
  have F := F.trans e6
  refine h_ready (rs := [8]) (by kernel_rfl) (by decide) ⟨?_, trivial⟩
  refine hs_appT (bytes := 8) (nm := (m7_3 + 1)) F7_3 (by rfl) (by rfl) elem2 (Own.sl1 (y := x.S[k]) O6) (by intro h; cases h) (by intro y hy; rfl) (by intro y hy u hu; rw [List.mem_singleton] at hy; subst hy; revert u; simp [Value.oneCell', i64c]) (by omega) (by omega) (by omega) (by omega) F (by omega) rfl rfl rfl ?_
  intro p7 c7_ w7 m7 k7 G7
  have hz7 := m7.size
  have E := m7.toExt E (by omega)
  have F := m7.toExt F (by omega)
  replace F7_1 := F7_1.off m7 (by omega)
  replace F7_2 := F7_2.off m7 (by omega)
  replace O1 := k7 _ _ _ (by decide) O1
  replace O2 := k7 _ _ _ (by decide) O2
  replace O5 := k7 _ _ _ (by decide) O5
  refine h_take 9 rfl (by kernel_rfl) (by kernel_rfl) (by kernel_rfl) (fun w' x_ => xfieldAddr fo79f2 rfl) rfl rfl rfl F ?_
  refine h_ready (rs := [10]) (by kernel_rfl) (by decide) ⟨?_, trivial⟩
  refine hs_store1 Tryz.sizeOf24 rfl rfl O5 (by simp) rfl F (by omega) rfl rfl ?_
  intro w8 on8 O8
  have hz8 := on8.size
  have E := on8.ext E (by omega)
  replace F7_1 := F7_1.only on8 (by omega)
  replace F7_2 := F7_2.only on8 (by omega)
  replace G7 := G7.onlyT O5 (by decide) on8
  replace O1 := on8.own O1 (by omega)
  replace O2 := on8.own O2 (by omega)
  have F := on8.ext F (by omega)
  replace O8 : Own w8 b4 [.slice q7_1 m7_1 d7_1, .slice q7_2 m7_2 d7_2, .slice p7 (m7_3 + 1) c7_] 79 := O8
  refine h_doneC (by kernel_rfl) ?_
  refine sr_ ?_
  refine oz_ (xfieldAddr fo79f0 rfl) rfl rfl ?_
  refine oz_ (v := .slice q7_1 m7_1 d7_1) (xload1 Tryz.isAgg24 rfl (O8.cells) rfl) rfl rfl ?_
  refine vm_ rfl rfl rfl ?_
  have h21 := (F7_1.sl).at (i := k) (by omega)
  refine oz_ (xindexN (i := k) Tryz.underlying24 Tryz.sizeOf2 rfl rfl rfl ((F7_1.sl).p (i := k) (by omega)) (by have := (F7_1.sl).len; omega)) rfl rfl ?_
  refine ostoreOw1 (i := k) (y := (0)) Tryz.sizeOf2 F7_1 (by omega) rfl rfl rfl rfl rfl ?_
  intro w9 m9 g9
  have z9 := m9.size
  have E := m9.toExt E (by omega)
  replace F7_2 := F7_2.off m9 (by omega)
  replace G7 := G7.off m9 (by omega)
  try replace O1 := m9.own O1 (by omega)
  try replace O2 := m9.own O2 (by omega)
  try replace O8 := m9.own O8 (by omega)
  replace F7_1 := g9
  refine ops_nil ?_
  refine run_seq ?_
  refine sr_ ?_
  refine oz_ (xfieldAddr fo79f1 rfl) rfl rfl ?_
  refine oz_ (v := .slice u2 n2 v2) (xload1 Tryz.isAgg24 rfl (O1.cells) rfl) rfl rfl ?_
  refine oz_ (xlen Tryz.underlying24 rfl) rfl rfl ?_
  refine oz_ (xgtr rfl rfl _ rfl) rfl rfl ?_
  refine ods (fun c25 => ?_) (fun c25 => ?_)
  rotate_left
  ·
   refine cf_ rfl ?_
   refine sr_ ?_
   refine oz_ (v := .agg #[.slice q7_1 m7_1 d7_1, .slice q7_2 m7_2 d7_2, .slice p7 (m7_3 + 1) c7_]) (xloadN Tryz.isAgg79 Tryz.sizeOf79 rfl (O8.cells) rfl) rfl rfl ?_
   refine ostoreN (vs := _) Tryz.sizeOf79 rfl rfl O2 rfl (by simp) (by simp [Value.oneCell']) rfl ?_
   intro w10 on10 O10
   have hz10 := on10.size
   have E := on10.ext E (by omega)
   replace F7_1 := F7_1.only on10 (by omega)
   replace F7_2 := F7_2.only on10 (by omega)
   replace G7 := G7.onlyT O2 (by decide) on10
   replace O10 : Own w10 b2 [.slice q7_1 m7_1 d7_1, .slice q7_2 m7_2 d7_2, .slice p7 (m7_3 + 1) c7_] 79 := O10
   refine ops_nil ?_
   refine run_ret Tryz.func132 (resc1 rfl rfl (run_loadVar_cells Tryz.isAgg79 Tryz.sizeOf79 O10.cells rfl)) ?_
   have he := emp_n hk (by omega)
   exact ⟨_, rfl, E, _, _, _, _, _, _, _, _, _, rfl, by rw [he]; exact (F7_1.slF (by omega) (by omega)), by rw [he]; exact (F7_2.slF (by omega) (by omega)), by rw [he]; exact (G7.slF (by omega) (by omega))⟩
  refine ct_ rfl ?_
  have hcut5 := cut_size (w := w9) (k := b2) (by omega)
  have RE := ext_to_cut E (k := b2) (by omega) (by omega)
  have RO1 := O1.cut (k := b2) (by omega) (by omega)
  refine run_heldC (ext_cut (w := w9) (k := b2) (by omega)) (by kernel_rfl) ?_
  intro wh5 F
  have zh5 := F.size
  have E := E.trans F
  replace F7_1 := F7_1.ext F
  replace G7 := G7.ext F
  replace O2 := O2.ext F
  replace O8 := O8.ext F
  replace F := (ext_cut (w := w9) (k := b2) (by omega)).trans F
  refine h_take 0 rfl (by kernel_rfl) (by kernel_rfl) (by kernel_rfl) (fun w' x_ => xfieldAddr fo79f0 rfl) rfl rfl rfl F ?_
  refine h_take 2 rfl (by kernel_rfl) (by kernel_rfl) (by kernel_rfl) (fun w' x_ => xmove rfl) rfl rfl rfl F ?_
  refine h_take 3 rfl (by kernel_rfl) (by kernel_rfl) (by kernel_rfl) (fun w' x_ => xfieldAddr fo79f1 rfl) rfl rfl rfl F ?_
  refine h_take 4 (v := .slice u2 n2 v2) rfl (by kernel_rfl) (by kernel_rfl) (by kernel_rfl) (fun w' x_ => xload1 Tryz.isAgg24 rfl ((RO1.cells).ext x_) rfl) rfl rfl rfl F ?_
  have h31 := (H2.ext RE).at (i := 0) (by omega)
  refine h_take 5 rfl (by kernel_rfl) (by kernel_rfl) (by kernel_rfl) (fun w' x_ => xindexN (i := 0) Tryz.underlying24 Tryz.sizeOf2 rfl rfl rfl ((H2.ext RE).p (i := 0) (by omega)) (by have := (H2.ext RE).len; omega)) rfl rfl rfl F ?_
  refine h_take 6 (v := .int .i64 x.W[0]) rfl (by kernel_rfl) (by kernel_rfl) (by kernel_rfl) (fun w' x_ => xloadz Tryz.isAgg2 rfl ((h31).ext x_) rfl) rfl rfl rfl F ?_
  refine h_take 7 rfl (by kernel_rfl) (by kernel_rfl) (by kernel_rfl) (fun w' x_ => xfieldAddr fo79f1 rfl) rfl rfl rfl F ?_
  refine h_take 8 (v := .slice u2 n2 v2) rfl (by kernel_rfl) (by kernel_rfl) (by kernel_rfl) (fun w' x_ => xload1 Tryz.isAgg24 rfl ((RO1.cells).ext x_) rfl) rfl rfl rfl F ?_
  refine h_take 9 rfl (by kernel_rfl) (by kernel_rfl) (by kernel_rfl) (fun w' x_ => xslice_l (k := 1) Tryz.underlying24 Tryz.sizeOf2 rfl rfl (by omega) (by omega)) rfl rfl rfl F ?_
  refine h_ready (rs := [1, 10]) (by kernel_rfl) (by decide) ⟨?_, ?_, trivial⟩
  ·
   refine hs_val (v := .slice q7_1 m7_1 d7_1) rfl (xload1 Tryz.isAgg24 rfl (O8.cells) rfl) rfl rfl rfl F ?_
   refine h_ready (rs := [10]) (by kernel_rfl) (by decide) ⟨?_, trivial⟩
   refine hs_call rfl (xcall Tryz.call97 rfl) rfl rfl rfl (cloneInt64_ok _ _ _ _ _ ((H2.ext E).drop (k := 1) (by omega)) ((H2.ext E).drop (k := 1) (by omega)).nil (by omega)) ?_
   rintro _ w10 ⟨e10, q36, cc36, rfl, Q36⟩
   have z10 := e10.size
   have E := E.trans e10
   replace F7_1 := F7_1.ext e10
   replace G7 := G7.ext e10
   replace O2 := O2.ext e10
   replace O8 := O8.ext e10
   have F := F.trans e10
   refine ⟨F, ?_⟩
   have lS37 := F7_1.len
   have h37 := (F7_1.sl).at (i := k) (by omega)
   refine h_take 11 rfl (by kernel_rfl) (by kernel_rfl) (by kernel_rfl) (fun w' x_ => xindexN (i := k) Tryz.underlying24 Tryz.sizeOf2 rfl rfl rfl ((F7_1.sl).p (i := k) (by omega)) (by have := (F7_1.sl).len; omega)) rfl rfl rfl F ?_
   refine h_ready (rs := [12]) (by kernel_rfl) (by decide) ⟨?_, trivial⟩
   refine hs_storeOw1 (j := k) (y := (x.W[0])) Tryz.sizeOf2 F7_1 (by omega) rfl rfl rfl rfl F (by omega) rfl rfl ?_
   intro w11 m11 g11
   have hz11 := m11.size
   have E := m11.toExt E (by omega)
   have F := m11.toExt F (by omega)
   replace G7 := G7.off m11 (by omega)
   replace Q36 := Q36.off m11 (by omega)
   replace O2 := m11.own O2 (by omega)
   replace O8 := m11.own O8 (by omega)
   replace F7_1 := g11
   refine h_take 13 rfl (by kernel_rfl) (by kernel_rfl) (by kernel_rfl) (fun w' x_ => xfieldAddr fo79f1 rfl) rfl rfl rfl F ?_
   refine h_ready (rs := [14]) (by kernel_rfl) (by decide) ⟨?_, trivial⟩
   refine hs_store1 Tryz.sizeOf24 rfl rfl O8 (by simp) rfl F (by omega) rfl rfl ?_
   intro w12 on12 O12
   have hz12 := on12.size
   have E := on12.ext E (by omega)
   replace F7_1 := F7_1.only on12 (by omega)
   replace G7 := G7.onlyT O8 (by decide) on12
   replace Q36 := Q36.onlyT O8 (by decide) on12
   replace O2 := on12.own O2 (by omega)
   have F := on12.ext F (by omega)
   replace O12 : Own w12 b4 [.slice q7_1 m7_1 d7_1, .slice q36 (n2 - 1) cc36, .slice p7 (m7_3 + 1) c7_] 79 := O12
   refine h_doneC (by kernel_rfl) ?_
   refine sr_ ?_
   refine oz_ (v := .agg #[.slice q7_1 m7_1 d7_1, .slice q36 (n2 - 1) cc36, .slice p7 (m7_3 + 1) c7_]) (xloadN Tryz.isAgg79 Tryz.sizeOf79 rfl (O12.cells) rfl) rfl rfl ?_
   refine ostoreN (vs := _) Tryz.sizeOf79 rfl rfl O2 rfl (by simp) (by simp [Value.oneCell']) rfl ?_
   intro w13 on13 O13
   have hz13 := on13.size
   have E := on13.ext E (by omega)
   replace F7_1 := F7_1.only on13 (by omega)
   replace G7 := G7.onlyT O2 (by decide) on13
   replace Q36 := Q36.onlyT O2 (by decide) on13
   replace O13 : Own w13 b2 [.slice q7_1 m7_1 d7_1, .slice q36 (n2 - 1) cc36, .slice p7 (m7_3 + 1) c7_] 79 := O13
   refine ops_nil ?_
   refine run_ret Tryz.func132 (resc1 rfl rfl (run_loadVar_cells Tryz.isAgg79 Tryz.sizeOf79 O13.cells rfl)) ?_
   have he := emp_s hk (by omega)
   exact ⟨_, rfl, E, _, _, _, _, _, _, _, _, _, rfl, by rw [he]; exact (F7_1.slF (by omega) (by omega)), by rw [he]; exact (Q36.slF (by omega) (by omega)), by rw [he]; exact (G7.slF (by omega) (by omega))⟩
  refine hs_call rfl (xcall Tryz.call97 rfl) rfl rfl rfl (cloneInt64_ok _ _ _ _ _ ((H2.ext E).drop (k := 1) (by omega)) ((H2.ext E).drop (k := 1) (by omega)).nil (by omega)) ?_
  rintro _ w10 ⟨e10, q36, cc36, rfl, Q36⟩
  have z10 := e10.size
  have E := E.trans e10
  replace F7_1 := F7_1.ext e10
  replace G7 := G7.ext e10
  replace O2 := O2.ext e10
  replace O8 := O8.ext e10
  have F := F.trans e10
  refine ⟨F, ?_⟩
  refine h_ready (rs := [1]) (by kernel_rfl) (by decide) ⟨?_, trivial⟩
  refine hs_val (v := .slice q7_1 m7_1 d7_1) rfl (xload1 Tryz.isAgg24 rfl (O8.cells) rfl) rfl rfl rfl F ?_
  have lS37 := F7_1.len
  have h37 := (F7_1.sl).at (i := k) (by omega)
  refine h_take 11 rfl (by kernel_rfl) (by kernel_rfl) (by kernel_rfl) (fun w' x_ => xindexN (i := k) Tryz.underlying24 Tryz.sizeOf2 rfl rfl rfl ((F7_1.sl).p (i := k) (by omega)) (by have := (F7_1.sl).len; omega)) rfl rfl rfl F ?_
  refine h_ready (rs := [12]) (by kernel_rfl) (by decide) ⟨?_, trivial⟩
  refine hs_storeOw1 (j := k) (y := (x.W[0])) Tryz.sizeOf2 F7_1 (by omega) rfl rfl rfl rfl F (by omega) rfl rfl ?_
  intro w11 m11 g11
  have hz11 := m11.size
  have E := m11.toExt E (by omega)
  have F := m11.toExt F (by omega)
  replace G7 := G7.off m11 (by omega)
  replace Q36 := Q36.off m11 (by omega)
  replace O2 := m11.own O2 (by omega)
  replace O8 := m11.own O8 (by omega)
  replace F7_1 := g11
  refine h_take 13 rfl (by kernel_rfl) (by kernel_rfl) (by kernel_rfl) (fun w' x_ => xfieldAddr fo79f1 rfl) rfl rfl rfl F ?_
  refine h_ready (rs := [14]) (by kernel_rfl) (by decide) ⟨?_, trivial⟩
  refine hs_store1 Tryz.sizeOf24 rfl rfl O8 (by simp) rfl F (by omega) rfl rfl ?_
  intro w12 on12 O12
  have hz12 := on12.size
  have E := on12.ext E (by omega)
  replace F7_1 := F7_1.only on12 (by omega)
  replace G7 := G7.onlyT O8 (by decide) on12
  replace Q36 := Q36.onlyT O8 (by decide) on12
  replace O2 := on12.own O2 (by omega)
  have F := on12.ext F (by omega)
  replace O12 : Own w12 b4 [.slice q7_1 m7_1 d7_1, .slice q36 (n2 - 1) cc36, .slice p7 (m7_3 + 1) c7_] 79 := O12
  refine h_doneC (by kernel_rfl) ?_
  refine sr_ ?_
  refine oz_ (v := .agg #[.slice q7_1 m7_1 d7_1, .slice q36 (n2 - 1) cc36, .slice p7 (m7_3 + 1) c7_]) (xloadN Tryz.isAgg79 Tryz.sizeOf79 rfl (O12.cells) rfl) rfl rfl ?_
  refine ostoreN (vs := _) Tryz.sizeOf79 rfl rfl O2 rfl (by simp) (by simp [Value.oneCell']) rfl ?_
  intro w13 on13 O13
  have hz13 := on13.size
  have E := on13.ext E (by omega)
  replace F7_1 := F7_1.only on13 (by omega)
  replace G7 := G7.onlyT O2 (by decide) on13
  replace Q36 := Q36.onlyT O2 (by decide) on13
  replace O13 : Own w13 b2 [.slice q7_1 m7_1 d7_1, .slice q36 (n2 - 1) cc36, .slice p7 (m7_3 + 1) c7_] 79 := O13
  refine ops_nil ?_
  refine run_ret Tryz.func132 (resc1 rfl rfl (run_loadVar_cells Tryz.isAgg79 Tryz.sizeOf79 O13.cells rfl)) ?_
  have he := emp_s hk (by omega)
  exact ⟨_, rfl, E, _, _, _, _, _, _, _, _, _, rfl, by rw [he]; exact (F7_1.slF (by omega) (by omega)), by rw [he]; exact (Q36.slF (by omega) (by omega)), by rw [he]; exact (G7.slF (by omega) (by omega))⟩
 refine hs_build (len := 1) (vs := [.int .i64 x.S[k]]) (cs := [.int .i64 x.S[k]]) (sz := 1) Tryz.underlying24 inf2 rfl rfl (by decide) (by rfl) (by rfl) (by simp [Value.cells]) rfl F rfl rfl rfl ?_
 intro b6 w6 e6 hb6 hz6 O6
 have E := E.trans e6
 replace F7_1 := F7_1.ext e6
 replace F7_2 := F7_2.ext e6
 replace F7_3 := F7_3.ext e6
 replace O1 := O1.ext e6
 replace O2 := O2.ext e6
 replace O5 := O5.ext e6
 have F := F.trans e6
 refine h_ready (rs := [1]) (by kernel_rfl) (by decide) ⟨?_, trivial⟩
 refine hs_val (v := .slice q7_3 m7_3 d7_3) rfl (xload1 Tryz.isAgg24 rfl (O5.cells) rfl) rfl rfl rfl F ?_
 refine h_ready (rs := [8]) (by kernel_rfl) (by decide) ⟨?_, trivial⟩
 refine hs_appT (bytes := 8) (nm := (m7_3 + 1)) F7_3 (by rfl) (by rfl) elem2 (Own.sl1 (y := x.S[k]) O6) (by intro h; cases h) (by intro y hy; rfl) (by intro y hy u hu; rw [List.mem_singleton] at hy; subst hy; revert u; simp [Value.oneCell', i64c]) (by omega) (by omega) (by omega) (by omega) F (by omega) rfl rfl rfl ?_
 intro p7 c7_ w7 m7 k7 G7
 have hz7 := m7.size
 have E := m7.toExt E (by omega)
 have F := m7.toExt F (by omega)
 replace F7_1 := F7_1.off m7 (by omega)
 replace F7_2 := F7_2.off m7 (by omega)
 replace O1 := k7 _ _ _ (by decide) O1
 replace O2 := k7 _ _ _ (by decide) O2
 replace O5 := k7 _ _ _ (by decide) O5
 refine h_take 9 rfl (by kernel_rfl) (by kernel_rfl) (by kernel_rfl) (fun w' x_ => xfieldAddr fo79f2 rfl) rfl rfl rfl F ?_
 refine h_ready (rs := [10]) (by kernel_rfl) (by decide) ⟨?_, trivial⟩
 refine hs_store1 Tryz.sizeOf24 rfl rfl O5 (by simp) rfl F (by omega) rfl rfl ?_
 intro w8 on8 O8
 have hz8 := on8.size
 have E := on8.ext E (by omega)
 replace F7_1 := F7_1.only on8 (by omega)
 replace F7_2 := F7_2.only on8 (by omega)
 replace G7 := G7.onlyT O5 (by decide) on8
 replace O1 := on8.own O1 (by omega)
 replace O2 := on8.own O2 (by omega)
 have F := on8.ext F (by omega)
 replace O8 : Own w8 b4 [.slice q7_1 m7_1 d7_1, .slice q7_2 m7_2 d7_2, .slice p7 (m7_3 + 1) c7_] 79 := O8
 refine h_doneC (by kernel_rfl) ?_
 refine sr_ ?_
 refine oz_ (xfieldAddr fo79f0 rfl) rfl rfl ?_
 refine oz_ (v := .slice q7_1 m7_1 d7_1) (xload1 Tryz.isAgg24 rfl (O8.cells) rfl) rfl rfl ?_
 refine vm_ rfl rfl rfl ?_
 have h21 := (F7_1.sl).at (i := k) (by omega)
 refine oz_ (xindexN (i := k) Tryz.underlying24 Tryz.sizeOf2 rfl rfl rfl ((F7_1.sl).p (i := k) (by omega)) (by have := (F7_1.sl).len; omega)) rfl rfl ?_
 refine ostoreOw1 (i := k) (y := (0)) Tryz.sizeOf2 F7_1 (by omega) rfl rfl rfl rfl rfl ?_
 intro w9 m9 g9
 have z9 := m9.size
 have E := m9.toExt E (by omega)
 replace F7_2 := F7_2.off m9 (by omega)
 replace G7 := G7.off m9 (by omega)
 try replace O1 := m9.own O1 (by omega)
 try replace O2 := m9.own O2 (by omega)
 try replace O8 := m9.own O8 (by omega)
 replace F7_1 := g9
 refine ops_nil ?_
 refine run_seq ?_
 refine sr_ ?_
 refine oz_ (xfieldAddr fo79f1 rfl) rfl rfl ?_
 refine oz_ (v := .slice u2 n2 v2) (xload1 Tryz.isAgg24 rfl (O1.cells) rfl) rfl rfl ?_
 refine oz_ (xlen Tryz.underlying24 rfl) rfl rfl ?_
 refine oz_ (xgtr rfl rfl _ rfl) rfl rfl ?_
 refine ods (fun c25 => ?_) (fun c25 => ?_)
 rotate_left
 ·
  refine cf_ rfl ?_
  refine sr_ ?_
  refine oz_ (v := .agg #[.slice q7_1 m7_1 d7_1, .slice q7_2 m7_2 d7_2, .slice p7 (m7_3 + 1) c7_]) (xloadN Tryz.isAgg79 Tryz.sizeOf79 rfl (O8.cells) rfl) rfl rfl ?_
  refine ostoreN (vs := _) Tryz.sizeOf79 rfl rfl O2 rfl (by simp) (by simp [Value.oneCell']) rfl ?_
  intro w10 on10 O10
  have hz10 := on10.size
  have E := on10.ext E (by omega)
  replace F7_1 := F7_1.only on10 (by omega)
  replace F7_2 := F7_2.only on10 (by omega)
  replace G7 := G7.onlyT O2 (by decide) on10
  replace O10 : Own w10 b2 [.slice q7_1 m7_1 d7_1, .slice q7_2 m7_2 d7_2, .slice p7 (m7_3 + 1) c7_] 79 := O10
  refine ops_nil ?_
  refine run_ret Tryz.func132 (resc1 rfl rfl (run_loadVar_cells Tryz.isAgg79 Tryz.sizeOf79 O10.cells rfl)) ?_
  have he := emp_n hk (by omega)
  exact ⟨_, rfl, E, _, _, _, _, _, _, _, _, _, rfl, by rw [he]; exact (F7_1.slF (by omega) (by omega)), by rw [he]; exact (F7_2.slF (by omega) (by omega)), by rw [he]; exact (G7.slF (by omega) (by omega))⟩
 refine ct_ rfl ?_
 have hcut5 := cut_size (w := w9) (k := b2) (by omega)
 have RE := ext_to_cut E (k := b2) (by omega) (by omega)
 have RO1 := O1.cut (k := b2) (by omega) (by omega)
 refine run_heldC (ext_cut (w := w9) (k := b2) (by omega)) (by kernel_rfl) ?_
 intro wh5 F
 have zh5 := F.size
 have E := E.trans F
 replace F7_1 := F7_1.ext F
 replace G7 := G7.ext F
 replace O2 := O2.ext F
 replace O8 := O8.ext F
 replace F := (ext_cut (w := w9) (k := b2) (by omega)).trans F
 refine h_take 0 rfl (by kernel_rfl) (by kernel_rfl) (by kernel_rfl) (fun w' x_ => xfieldAddr fo79f0 rfl) rfl rfl rfl F ?_
 refine h_take 2 rfl (by kernel_rfl) (by kernel_rfl) (by kernel_rfl) (fun w' x_ => xmove rfl) rfl rfl rfl F ?_
 refine h_take 3 rfl (by kernel_rfl) (by kernel_rfl) (by kernel_rfl) (fun w' x_ => xfieldAddr fo79f1 rfl) rfl rfl rfl F ?_
 refine h_take 4 (v := .slice u2 n2 v2) rfl (by kernel_rfl) (by kernel_rfl) (by kernel_rfl) (fun w' x_ => xload1 Tryz.isAgg24 rfl ((RO1.cells).ext x_) rfl) rfl rfl rfl F ?_
 have h31 := (H2.ext RE).at (i := 0) (by omega)
 refine h_take 5 rfl (by kernel_rfl) (by kernel_rfl) (by kernel_rfl) (fun w' x_ => xindexN (i := 0) Tryz.underlying24 Tryz.sizeOf2 rfl rfl rfl ((H2.ext RE).p (i := 0) (by omega)) (by have := (H2.ext RE).len; omega)) rfl rfl rfl F ?_
 refine h_take 6 (v := .int .i64 x.W[0]) rfl (by kernel_rfl) (by kernel_rfl) (by kernel_rfl) (fun w' x_ => xloadz Tryz.isAgg2 rfl ((h31).ext x_) rfl) rfl rfl rfl F ?_
 refine h_take 7 rfl (by kernel_rfl) (by kernel_rfl) (by kernel_rfl) (fun w' x_ => xfieldAddr fo79f1 rfl) rfl rfl rfl F ?_
 refine h_take 8 (v := .slice u2 n2 v2) rfl (by kernel_rfl) (by kernel_rfl) (by kernel_rfl) (fun w' x_ => xload1 Tryz.isAgg24 rfl ((RO1.cells).ext x_) rfl) rfl rfl rfl F ?_
 refine h_take 9 rfl (by kernel_rfl) (by kernel_rfl) (by kernel_rfl) (fun w' x_ => xslice_l (k := 1) Tryz.underlying24 Tryz.sizeOf2 rfl rfl (by omega) (by omega)) rfl rfl rfl F ?_
 refine h_ready (rs := [1, 10]) (by kernel_rfl) (by decide) ⟨?_, ?_, trivial⟩
 ·
  refine hs_val (v := .slice q7_1 m7_1 d7_1) rfl (xload1 Tryz.isAgg24 rfl (O8.cells) rfl) rfl rfl rfl F ?_
  refine h_ready (rs := [10]) (by kernel_rfl) (by decide) ⟨?_, trivial⟩
  refine hs_call rfl (xcall Tryz.call97 rfl) rfl rfl rfl (cloneInt64_ok _ _ _ _ _ ((H2.ext E).drop (k := 1) (by omega)) ((H2.ext E).drop (k := 1) (by omega)).nil (by omega)) ?_
  rintro _ w10 ⟨e10, q36, cc36, rfl, Q36⟩
  have z10 := e10.size
  have E := E.trans e10
  replace F7_1 := F7_1.ext e10
  replace G7 := G7.ext e10
  replace O2 := O2.ext e10
  replace O8 := O8.ext e10
  have F := F.trans e10
  refine ⟨F, ?_⟩
  have lS37 := F7_1.len
  have h37 := (F7_1.sl).at (i := k) (by omega)
  refine h_take 11 rfl (by kernel_rfl) (by kernel_rfl) (by kernel_rfl) (fun w' x_ => xindexN (i := k) Tryz.underlying24 Tryz.sizeOf2 rfl rfl rfl ((F7_1.sl).p (i := k) (by omega)) (by have := (F7_1.sl).len; omega)) rfl rfl rfl F ?_
  refine h_ready (rs := [12]) (by kernel_rfl) (by decide) ⟨?_, trivial⟩
  refine hs_storeOw1 (j := k) (y := (x.W[0])) Tryz.sizeOf2 F7_1 (by omega) rfl rfl rfl rfl F (by omega) rfl rfl ?_
  intro w11 m11 g11
  have hz11 := m11.size
  have E := m11.toExt E (by omega)
  have F := m11.toExt F (by omega)
  replace G7 := G7.off m11 (by omega)
  replace Q36 := Q36.off m11 (by omega)
  replace O2 := m11.own O2 (by omega)
  replace O8 := m11.own O8 (by omega)
  replace F7_1 := g11
  refine h_take 13 rfl (by kernel_rfl) (by kernel_rfl) (by kernel_rfl) (fun w' x_ => xfieldAddr fo79f1 rfl) rfl rfl rfl F ?_
  refine h_ready (rs := [14]) (by kernel_rfl) (by decide) ⟨?_, trivial⟩
  refine hs_store1 Tryz.sizeOf24 rfl rfl O8 (by simp) rfl F (by omega) rfl rfl ?_
  intro w12 on12 O12
  have hz12 := on12.size
  have E := on12.ext E (by omega)
  replace F7_1 := F7_1.only on12 (by omega)
  replace G7 := G7.onlyT O8 (by decide) on12
  replace Q36 := Q36.onlyT O8 (by decide) on12
  replace O2 := on12.own O2 (by omega)
  have F := on12.ext F (by omega)
  replace O12 : Own w12 b4 [.slice q7_1 m7_1 d7_1, .slice q36 (n2 - 1) cc36, .slice p7 (m7_3 + 1) c7_] 79 := O12
  refine h_doneC (by kernel_rfl) ?_
  refine sr_ ?_
  refine oz_ (v := .agg #[.slice q7_1 m7_1 d7_1, .slice q36 (n2 - 1) cc36, .slice p7 (m7_3 + 1) c7_]) (xloadN Tryz.isAgg79 Tryz.sizeOf79 rfl (O12.cells) rfl) rfl rfl ?_
  refine ostoreN (vs := _) Tryz.sizeOf79 rfl rfl O2 rfl (by simp) (by simp [Value.oneCell']) rfl ?_
  intro w13 on13 O13
  have hz13 := on13.size
  have E := on13.ext E (by omega)
  replace F7_1 := F7_1.only on13 (by omega)
  replace G7 := G7.onlyT O2 (by decide) on13
  replace Q36 := Q36.onlyT O2 (by decide) on13
  replace O13 : Own w13 b2 [.slice q7_1 m7_1 d7_1, .slice q36 (n2 - 1) cc36, .slice p7 (m7_3 + 1) c7_] 79 := O13
  refine ops_nil ?_
  refine run_ret Tryz.func132 (resc1 rfl rfl (run_loadVar_cells Tryz.isAgg79 Tryz.sizeOf79 O13.cells rfl)) ?_
  have he := emp_s hk (by omega)
  exact ⟨_, rfl, E, _, _, _, _, _, _, _, _, _, rfl, by rw [he]; exact (F7_1.slF (by omega) (by omega)), by rw [he]; exact (Q36.slF (by omega) (by omega)), by rw [he]; exact (G7.slF (by omega) (by omega))⟩
 refine hs_call rfl (xcall Tryz.call97 rfl) rfl rfl rfl (cloneInt64_ok _ _ _ _ _ ((H2.ext E).drop (k := 1) (by omega)) ((H2.ext E).drop (k := 1) (by omega)).nil (by omega)) ?_
 rintro _ w10 ⟨e10, q36, cc36, rfl, Q36⟩
 have z10 := e10.size
 have E := E.trans e10
 replace F7_1 := F7_1.ext e10
 replace G7 := G7.ext e10
 replace O2 := O2.ext e10
 replace O8 := O8.ext e10
 have F := F.trans e10
 refine ⟨F, ?_⟩
 refine h_ready (rs := [1]) (by kernel_rfl) (by decide) ⟨?_, trivial⟩
 refine hs_val (v := .slice q7_1 m7_1 d7_1) rfl (xload1 Tryz.isAgg24 rfl (O8.cells) rfl) rfl rfl rfl F ?_
 have lS37 := F7_1.len
 have h37 := (F7_1.sl).at (i := k) (by omega)
 refine h_take 11 rfl (by kernel_rfl) (by kernel_rfl) (by kernel_rfl) (fun w' x_ => xindexN (i := k) Tryz.underlying24 Tryz.sizeOf2 rfl rfl rfl ((F7_1.sl).p (i := k) (by omega)) (by have := (F7_1.sl).len; omega)) rfl rfl rfl F ?_
 refine h_ready (rs := [12]) (by kernel_rfl) (by decide) ⟨?_, trivial⟩
 refine hs_storeOw1 (j := k) (y := (x.W[0])) Tryz.sizeOf2 F7_1 (by omega) rfl rfl rfl rfl F (by omega) rfl rfl ?_
 intro w11 m11 g11
 have hz11 := m11.size
 have E := m11.toExt E (by omega)
 have F := m11.toExt F (by omega)
 replace G7 := G7.off m11 (by omega)
 replace Q36 := Q36.off m11 (by omega)
 replace O2 := m11.own O2 (by omega)
 replace O8 := m11.own O8 (by omega)
 replace F7_1 := g11
 refine h_take 13 rfl (by kernel_rfl) (by kernel_rfl) (by kernel_rfl) (fun w' x_ => xfieldAddr fo79f1 rfl) rfl rfl rfl F ?_
 refine h_ready (rs := [14]) (by kernel_rfl) (by decide) ⟨?_, trivial⟩
 refine hs_store1 Tryz.sizeOf24 rfl rfl O8 (by simp) rfl F (by omega) rfl rfl ?_
 intro w12 on12 O12
 have hz12 := on12.size
 have E := on12.ext E (by omega)
 replace F7_1 := F7_1.only on12 (by omega)
 replace G7 := G7.onlyT O8 (by decide) on12
 replace Q36 := Q36.onlyT O8 (by decide) on12
 replace O2 := on12.own O2 (by omega)
 have F := on12.ext F (by omega)
 replace O12 : Own w12 b4 [.slice q7_1 m7_1 d7_1, .slice q36 (n2 - 1) cc36, .slice p7 (m7_3 + 1) c7_] 79 := O12
 refine h_doneC (by kernel_rfl) ?_
 refine sr_ ?_
 refine oz_ (v := .agg #[.slice q7_1 m7_1 d7_1, .slice q36 (n2 - 1) cc36, .slice p7 (m7_3 + 1) c7_]) (xloadN Tryz.isAgg79 Tryz.sizeOf79 rfl (O12.cells) rfl) rfl rfl ?_
 refine ostoreN (vs := _) Tryz.sizeOf79 rfl rfl O2 rfl (by simp) (by simp [Value.oneCell']) rfl ?_
 intro w13 on13 O13
 have hz13 := on13.size
 have E := on13.ext E (by omega)
 replace F7_1 := F7_1.only on13 (by omega)
 replace G7 := G7.onlyT O2 (by decide) on13
 replace Q36 := Q36.onlyT O2 (by decide) on13
 replace O13 : Own w13 b2 [.slice q7_1 m7_1 d7_1, .slice q36 (n2 - 1) cc36, .slice p7 (m7_3 + 1) c7_] 79 := O13
 refine ops_nil ?_
 refine run_ret Tryz.func132 (resc1 rfl rfl (run_loadVar_cells Tryz.isAgg79 Tryz.sizeOf79 O13.cells rfl)) ?_
 have he := emp_s hk (by omega)
 exact ⟨_, rfl, E, _, _, _, _, _, _, _, _, _, rfl, by rw [he]; exact (F7_1.slF (by omega) (by omega)), by rw [he]; exact (Q36.slF (by omega) (by omega)), by rw [he]; exact (G7.slF (by omega) (by omega))⟩
set_option maxHeartbeats 2000000 in
theorem MakePanel_ok (p : Option Addr) (n c : Nat) (xs : List Int) (s : Nat) (w : World) (H : Sl i64c 1 w p n c xs) (h0 : hasI xs 0 = false) (hP : isPan (mkPan xs s) = true) (hs1 : 1 ≤ s) (hs2 : s ≤ 12) (hl : xs.length ≤ 60) : Ret Tryz.prog 116 [.slice p n c, .int .i64 (s : Int)] w (fun v w' => Ext w w' ∧ ∃ (q1 : Option Addr) (m1 d1 : Nat) (q2 : Option Addr) (m2 d2 : Nat) (q3 : Option Addr) (m3 d3 : Nat) , v = .tuple #[.agg #[.slice q1 m1 d1, .slice q2 m2 d2, .slice q3 m3 d3], .int .i64 0] ∧ SlF i64c 1 w' w.heap.size w'.heap.size q1 m1 d1 ((mkPan xs s).S) ∧ SlF i64c 1 w' w.heap.size w'.heap.size q2 m2 d2 ((mkPan xs s).W) ∧ SlF i64c 1 w' w.heap.size w'.heap.size q3 m3 d3 ((mkPan xs s).G)) := by
 refine ret_of_run (N := 31) Tryz.func116 rfl rfl rfl ?_
 have hn := H.len
 have hmk := mkPan_cp (s := s) hn
 have E : Ext w w := Ext.refl w
 refine sr_ ?_
 refine oalloc Tryz.zeroValue79 rfl rfl ?_
 intro b1 w1 e1 hb1 hz1 O1
 have E := E.trans e1
 replace O1 : Own w1 b1 [.slice none 0 0, .slice none 0 0, .slice none 0 0] 79 := O1
 refine vn_ rfl rfl rfl ?_
 refine run_seq ?_
 refine sr_ ?_
 refine vm_ rfl rfl rfl ?_
 refine oc (xcall Tryz.call42 rfl) rfl rfl rfl (isSeats_ok ((s : Int)) _) ?_
 rintro _ w_ ⟨rfl, hw_⟩
 replace hw_ := hw_.symm
 subst hw_
 refine obs (fun c8 => ?_) (fun c8 => ?_)
 rotate_left
 ·
  exfalso; rw [inR_iff.2 (by omega)] at c8; cases c8
 refine oz_ (xnot rfl) rfl rfl ?_
 refine cf_ rfl ?_
 refine sr_ ?_
 refine vm_ rfl rfl rfl ?_
 refine omake (n := s) Tryz.underlying24 inf2 rfl rfl (by decide) rfl rfl rfl rfl (by simp only [Tryz.t2]; omega) (by omega) rfl rfl ?_
 intro b2 w2 e2 hb2 hz2 O2
 have E := E.trans e2
 replace O1 := O1.ext e2
 replace O2 : Own w2 b2 (List.replicate (s) ([.int .i64 0] : List Value)).flatten 2 := O2
 have G2 : Ow i64c 1 2 w2 b2 (b2 + 1) (some ⟨b2, 0, none⟩) s s (List.replicate (s) (0 : Int)) := Own.ow (by simpa [i64c] using O2) (by simp) (by omega) (Nat.le_refl _) (by omega) (by intro x hx; rfl)
 refine oz_ (xbuild (vs := [.slice (some ⟨b2, 0, none⟩) s s]) (cells := #[.slice (some ⟨b2, 0, none⟩) s s, .slice none 0 0, .slice none 0 0]) rfl (by kernel_rfl)) rfl rfl ?_
 refine oalloc Tryz.zeroValue79 rfl rfl ?_
 intro b3 w3 e3 hb3 hz3 O3
 have E := E.trans e3
 replace G2 := G2.ext e3
 replace O1 := O1.ext e3
 replace O3 : Own w3 b3 [.slice none 0 0, .slice none 0 0, .slice none 0 0] 79 := O3
 refine ostoreN (vs := _) Tryz.sizeOf79 rfl rfl O3 rfl (by simp) (by simp [Value.oneCell']) rfl ?_
 intro w4 on4 O4
 have hz4 := on4.size
 have E := on4.ext E (by omega)
 replace G2 := G2.only on4 (by omega)
 replace O1 := on4.own O1 (by omega)
 replace O4 : Own w4 b3 [.slice (some ⟨b2, 0, none⟩) s s, .slice none 0 0, .slice none 0 0] 79 := O4
 refine ops_nil ?_
 refine sr_ ?_
 refine vm_ rfl rfl rfl ?_
 refine oz_ (xfieldAddr fo79f0 rfl) rfl rfl ?_
 refine oz_ (v := .slice (some ⟨b2, 0, none⟩) s s) (xload1 Tryz.isAgg24 rfl (O4.cells) rfl) rfl rfl ?_
 refine vm_ rfl rfl rfl ?_
 refine ocopyI G2 (H.ext E) Tryz.underlying24 rfl rfl rfl rfl rfl ?_
 intro w5 m5 g5
 have z5 := m5.size
 have E := m5.toExt E (by omega)
 replace O1 := m5.own O1 (by omega)
 replace O4 := m5.own O4 (by omega)
 replace G2 := g5
 refine oz_ (xslice_l (k := (min n s)) Tryz.underlying24 Tryz.sizeOf2 rfl rfl rfl (by omega)) rfl rfl ?_
 refine oc (xcall Tryz.call97 rfl) rfl rfl rfl (cloneInt64_ok _ _ _ _ _ ((H.ext E).drop (k := (min n s)) (by omega)) ((H.ext E).drop (k := (min n s)) (by omega)).nil (by omega)) ?_
 rintro _ w6 ⟨e6, q20, cc20, rfl, Q20⟩
 have z6 := e6.size
 have E := E.trans e6
 replace G2 := G2.ext e6
 replace O1 := O1.ext e6
 replace O4 := O4.ext e6
 refine oz_ (xfieldAddr fo79f1 rfl) rfl rfl ?_
 refine ostore1 Tryz.sizeOf24 rfl rfl O4 (by simp) rfl rfl ?_
 intro w7 on7 O7
 have hz7 := on7.size
 have E := on7.ext E (by omega)
 replace G2 := G2.only on7 (by omega)
 replace Q20 := Q20.only on7 (by omega)
 replace O1 := on7.own O1 (by omega)
 replace O7 : Own w7 b3 [.slice (some ⟨b2, 0, none⟩) s s, .slice q20 (n - (min n s)) cc20, .slice none 0 0] 79 := O7
 refine ops_nil ?_
 refine run_seq ?_
 refine sr_ ?_
 refine vm_ rfl rfl rfl ?_
 refine oc (xcall Tryz.call41 rfl) rfl rfl rfl (hasI_ok _ _ _ _ (0) _ (H.ext E)) ?_
 rintro _ w8 ⟨rfl, e8⟩
 have z8 := e8.size
 have E := E.trans e8
 replace G2 := G2.ext e8
 replace Q20 := Q20.ext e8
 replace O1 := O1.ext e8
 replace O7 := O7.ext e8
 refine obs (fun c23 => ?_) (fun c23 => ?_)
 ·
  exfalso; rw [h0] at c23; cases c23
 refine vm_ rfl rfl rfl ?_
 refine oz_ (v := .agg #[.slice (some ⟨b2, 0, none⟩) s s, .slice q20 (n - (min n s)) cc20, .slice none 0 0]) (xloadN Tryz.isAgg79 Tryz.sizeOf79 rfl (O7.cells) rfl) rfl rfl ?_
 refine oc (xcall Tryz.call96 rfl) rfl rfl rfl (IsPanel_ok _ _ _ _ _ _ _ _ _ (⟨xs.take s ++ (List.replicate s (0 : Int)).drop n, xs.drop (min n s), []⟩ : Pan) _ (G2.sl) (Q20.sl) ((SlF.nil0 _ 0 0).sl) (by omega)) ?_
 rintro _ w9 ⟨rfl, e9⟩
 have z9 := e9.size
 have E := E.trans e9
 replace G2 := G2.ext e9
 replace Q20 := Q20.ext e9
 replace O1 := O1.ext e9
 replace O7 := O7.ext e9
 refine obs (fun c26 => ?_) (fun c26 => ?_)
 rotate_left
 ·
  exfalso; rw [hmk, hP] at c26; cases c26
 refine oz_ (xnot rfl) rfl rfl ?_
 refine oz_ (xpick_f rfl rfl) rfl rfl ?_
 refine cf_ rfl ?_
 refine sr_ ?_
 refine oz_ (v := .agg #[.slice (some ⟨b2, 0, none⟩) s s, .slice q20 (n - (min n s)) cc20, .slice none 0 0]) (xloadN Tryz.isAgg79 Tryz.sizeOf79 rfl (O7.cells) rfl) rfl rfl ?_
 refine ostoreN (vs := _) Tryz.sizeOf79 rfl rfl O1 rfl (by simp) (by simp [Value.oneCell']) rfl ?_
 intro w10 on10 O10
 have hz10 := on10.size
 have E := on10.ext E (by omega)
 replace G2 := G2.only on10 (by omega)
 replace Q20 := Q20.only on10 (by omega)
 replace O10 : Own w10 b1 [.slice (some ⟨b2, 0, none⟩) s s, .slice q20 (n - (min n s)) cc20, .slice none 0 0] 79 := O10
 refine vn_ rfl rfl rfl ?_
 refine run_ret Tryz.func116 (resc2 rfl rfl (run_loadVar_cells Tryz.isAgg79 Tryz.sizeOf79 O10.cells rfl) rfl) ?_
 exact ⟨_, rfl, E, _, _, _, _, _, _, _, _, _, rfl, by rw [← hmk]; exact (G2.slF (by omega) (by omega)), by rw [← hmk]; exact (Q20.slF (by omega) (by omega)), by rw [← hmk]; exact (SlF.nil0 _ _ _)⟩
set_option maxHeartbeats 4000000 in
theorem sMakePanel_ok (p : Option Addr) (n c : Nat) (xs : List Int) (s : Nat) (w : World) (H : Sl i64c 1 w p n c xs) (h0 : hasI xs 0 = false) (hP : isPan (mkPan xs s) = true) (hs1 : 1 ≤ s) (hs2 : s ≤ 12) (hl : xs.length ≤ 60) : Ret Tryz.prog 124 [.slice p n c, .int .i64 (s : Int)] w (fun v w' => Ext w w' ∧ ∃ (q1 : Option Addr) (m1 d1 : Nat) (q2 : Option Addr) (m2 d2 : Nat) (q3 : Option Addr) (m3 d3 : Nat) , v = .tuple #[.agg #[.slice q1 m1 d1, .slice q2 m2 d2, .slice q3 m3 d3], .int .i64 0] ∧ SlF i64c 1 w' w.heap.size w'.heap.size q1 m1 d1 ((mkPan xs s).S) ∧ SlF i64c 1 w' w.heap.size w'.heap.size q2 m2 d2 ((mkPan xs s).W) ∧ SlF i64c 1 w' w.heap.size w'.heap.size q3 m3 d3 ((mkPan xs s).G)) := by
 refine ret_of_run (N := 52) Tryz.func124 rfl rfl rfl ?_
 have hn := H.len
 have hmk := mkPan_as (s := s) hn
 have E : Ext w w := Ext.refl w
 refine sr_ ?_
 refine oalloc Tryz.zeroValue79 rfl rfl ?_
 intro b1 w1 e1 hb1 hz1 O1
 have E := E.trans e1
 replace O1 : Own w1 b1 [.slice none 0 0, .slice none 0 0, .slice none 0 0] 79 := O1
 refine vn_ rfl rfl rfl ?_
 refine run_seq ?_
 refine sr_ ?_
 refine vm_ rfl rfl rfl ?_
 refine oc (xcall Tryz.call68 rfl) rfl rfl rfl (l01In_ok ((s : Int)) (1) (12) _) ?_
 rintro _ w_ ⟨rfl, hw_⟩
 replace hw_ := hw_.symm
 subst hw_
 refine obs (fun c9 => ?_) (fun c9 => ?_)
 rotate_left
 ·
  exfalso; rw [inR_iff.2 (by omega)] at c9; cases c9
 refine oz_ (xnot rfl) rfl rfl ?_
 refine cf_ rfl ?_
 refine sr_ ?_
 refine vm_ rfl rfl rfl ?_
 refine omake (n := s) Tryz.underlying24 inf2 rfl rfl (by decide) rfl rfl rfl rfl (by simp only [Tryz.t2]; omega) (by omega) rfl rfl ?_
 intro b2 w2 e2 hb2 hz2 O2
 have E := E.trans e2
 replace O1 := O1.ext e2
 replace O2 : Own w2 b2 (List.replicate (s) ([.int .i64 0] : List Value)).flatten 2 := O2
 have G2 : Ow i64c 1 2 w2 b2 (b2 + 1) (some ⟨b2, 0, none⟩) s s (List.replicate (s) (0 : Int)) := Own.ow (by simpa [i64c] using O2) (by simp) (by omega) (Nat.le_refl _) (by omega) (by intro x hx; rfl)
 refine obuild (cs := []) (sz := 1) Tryz.underlying24 inf2 rfl rfl (by decide) rfl rfl (by simp [Value.cells]) rfl rfl rfl ?_
 intro b3 w3 e3 hb3 hz3 O3
 have E := E.trans e3
 replace G2 := G2.ext e3
 replace O1 := O1.ext e3
 have G3 : Ow i64c 1 2 w3 b3 (b3 + 1) (some ⟨b3, 0, none⟩) 0 0 ([] : List Int) := Own.ow (by simpa [i64c] using O3) rfl (by omega) (Nat.le_refl _) (by omega) (by intro x hx; rfl)
 refine obuild (cs := []) (sz := 1) Tryz.underlying24 inf2 rfl rfl (by decide) rfl rfl (by simp [Value.cells]) rfl rfl rfl ?_
 intro b4 w4 e4 hb4 hz4 O4
 have E := E.trans e4
 replace G2 := G2.ext e4
 replace G3 := G3.ext e4
 replace O1 := O1.ext e4
 have G4 : Ow i64c 1 2 w4 b4 (b4 + 1) (some ⟨b4, 0, none⟩) 0 0 ([] : List Int) := Own.ow (by simpa [i64c] using O4) rfl (by omega) (Nat.le_refl _) (by omega) (by intro x hx; rfl)
 refine oz_ (xbuild (vs := [.slice (some ⟨b2, 0, none⟩) s s, .slice (some ⟨b3, 0, none⟩) 0 0, .slice (some ⟨b4, 0, none⟩) 0 0]) (cells := #[.slice (some ⟨b2, 0, none⟩) s s, .slice (some ⟨b3, 0, none⟩) 0 0, .slice (some ⟨b4, 0, none⟩) 0 0]) rfl (by kernel_rfl)) rfl rfl ?_
 refine oalloc Tryz.zeroValue79 rfl rfl ?_
 intro b5 w5 e5 hb5 hz5 O5
 have E := E.trans e5
 replace G2 := G2.ext e5
 replace G3 := G3.ext e5
 replace O1 := O1.ext e5
 replace O5 : Own w5 b5 [.slice none 0 0, .slice none 0 0, .slice none 0 0] 79 := O5
 refine ostoreN (vs := _) Tryz.sizeOf79 rfl rfl O5 rfl (by simp) (by simp [Value.oneCell']) rfl ?_
 intro w6 on6 O6
 have hz6 := on6.size
 have E := on6.ext E (by omega)
 replace G2 := G2.onlyT O5 (by decide) on6
 replace G3 := G3.onlyT O5 (by decide) on6
 replace O1 := on6.own O1 (by omega)
 replace O6 : Own w6 b5 [.slice (some ⟨b2, 0, none⟩) s s, .slice (some ⟨b3, 0, none⟩) 0 0, .slice (some ⟨b4, 0, none⟩) 0 0] 79 := O6
 refine ops_nil ?_
 refine run_seq ?_
 refine sr_ ?_
 refine vn_ rfl rfl rfl ?_
 refine run_block ?_
 refine run_loop (ι := Nat × List Int × Option Addr × Nat × Nat × List Int × World) (fun x_ => match x_ with | (k, zs, q, m, d, ws, wr) => (Ext w wr) ∧ (Own wr b1 ([.slice none 0 0, .slice none 0 0, .slice none 0 0]) 79) ∧ (Own wr b5 ([.slice (some ⟨b2, 0, none⟩) s s, .slice q m d, .slice (some ⟨b4, 0, none⟩) 0 0]) 79) ∧ (Ow i64c 1 2 wr b2 (b2 + 1) (some ⟨b2, 0, none⟩) s s zs) ∧ (Ow i64c 1 2 wr b3 wr.heap.size q m d ws) ∧ (w6.heap.size ≤ wr.heap.size) ∧ (k ≤ n) ∧ (m ≤ k) ∧ (zs = seatTo xs s k) ∧ (ws = (xs.take k).drop s)) (fun x_ => match x_ with | (k, zs, q, m, d, ws, wr) => [(0, .slice p n c), (1, .int .i64 (s : Int)), (4, .pointer (some ⟨b1, 0, none⟩)), (6, .pointer (some ⟨b5, 0, none⟩)), (7, .int .i64 (k : Int))]) (fun x_ => match x_ with | (k, zs, q, m, d, ws, wr) => wr) (fun x_ => match x_ with | (k, zs, q, m, d, ws, wr) => n - k) ?_ (0, (List.replicate s 0), (some ⟨b3, 0, none⟩), 0, 0, [], w6) (⟨E, O1, O6, G2, G3.wide (by omega) (by omega), Nat.le_refl _, by omega, Nat.le_refl _, by simp [seatTo], by simp⟩) ⟨rfl, rfl, rfl, rfl, rfl, trivial⟩ rfl
 intro i_ hI_ hback5
 obtain ⟨k, zs, q, m, d, ws, wr⟩ := i_
 obtain ⟨E, O_b1, O_b5, G2, GW, lz_wr, hk, hmk2, hz, hw⟩ := hI_
 try dsimp only
 have zr := E.size
 have lt_b1 := O_b1.lt
 have lt_b5 := O_b5.lt
 refine run_seq ?_
 refine sr_ ?_
 refine vm_ rfl rfl rfl ?_
 refine vm_ rfl rfl rfl ?_
 refine oz_ (xlen Tryz.underlying24 rfl) rfl rfl ?_
 refine oz_ (xlss rfl rfl _ rfl) rfl rfl ?_
 refine ods (fun c20 => ?_) (fun c20 => ?_)
 rotate_left
 ·
  have hkn : k = n := by omega
  rw [hkn] at hz hw
  subst hz; subst hw
  have lw := GW.len
  simp only [List.length_drop, List.length_take] at lw
  refine cg_ rfl ?_
  refine run_exit rfl ?_
  refine run_seq ?_
  refine sr_ ?_
  refine oz_ (v := .agg #[.slice (some ⟨b2, 0, none⟩) s s, .slice q m d, .slice (some ⟨b4, 0, none⟩) 0 0]) (xloadN Tryz.isAgg79 Tryz.sizeOf79 rfl (O_b5.cells) rfl) rfl rfl ?_
  refine oc (xcall Tryz.call105 rfl) rfl rfl rfl (sIsPanel_ok _ _ _ _ _ _ _ _ _ (⟨seatTo xs s n, (xs.take n).drop s, []⟩ : Pan) _ (G2.sl) (GW.sl) ((SlF.e0 _ 0 0 b4).sl) (by omega)) ?_
  rintro _ w7 ⟨rfl, e7⟩
  have z7 := e7.size
  have E := E.trans e7
  replace G2 := G2.ext e7
  replace GW := GW.ext e7
  replace O_b1 := O_b1.ext e7
  replace O_b5 := O_b5.ext e7
  refine obs (fun c44 => ?_) (fun c44 => ?_)
  rotate_left
  ·
   exfalso; rw [hmk, hP] at c44; cases c44
  refine oz_ (xnot rfl) rfl rfl ?_
  refine vm_ rfl rfl rfl ?_
  refine vm_ rfl rfl rfl ?_
  refine oc (xcall Tryz.call126 rfl) rfl rfl rfl (l01Has_ok _ _ _ _ (0) _ (H.ext E)) ?_
  rintro _ w8 ⟨rfl, e8⟩
  have z8 := e8.size
  have E := E.trans e8
  replace G2 := G2.ext e8
  replace GW := GW.ext e8
  replace O_b1 := O_b1.ext e8
  replace O_b5 := O_b5.ext e8
  refine obs (fun c48 => ?_) (fun c48 => ?_)
  ·
   exfalso; rw [h0] at c48; cases c48
  refine oz_ (xpick_f rfl rfl) rfl rfl ?_
  refine cf_ rfl ?_
  refine sr_ ?_
  refine oz_ (v := .agg #[.slice (some ⟨b2, 0, none⟩) s s, .slice q m d, .slice (some ⟨b4, 0, none⟩) 0 0]) (xloadN Tryz.isAgg79 Tryz.sizeOf79 rfl (O_b5.cells) rfl) rfl rfl ?_
  refine ostoreN (vs := _) Tryz.sizeOf79 rfl rfl O_b1 rfl (by simp) (by simp [Value.oneCell']) rfl ?_
  intro w9 on9 O9
  have hz9 := on9.size
  have E := on9.ext E (by omega)
  replace G2 := G2.onlyT O_b1 (by decide) on9
  replace GW := GW.onlyT O_b1 (by decide) on9
  replace O9 : Own w9 b1 [.slice (some ⟨b2, 0, none⟩) s s, .slice q m d, .slice (some ⟨b4, 0, none⟩) 0 0] 79 := O9
  refine vn_ rfl rfl rfl ?_
  refine run_ret Tryz.func124 (resc2 rfl rfl (run_loadVar_cells Tryz.isAgg79 Tryz.sizeOf79 O9.cells rfl) rfl) ?_
  exact ⟨_, rfl, E, _, _, _, _, _, _, _, _, _, rfl, by rw [← hmk]; exact (G2.slF (by omega) (by omega)), by rw [← hmk]; exact (GW.slF (by omega) (by omega)), by rw [← hmk]; exact (SlF.e0 _ _ _ b4)⟩
 refine ct_ rfl ?_
 refine run_skip ?_
 refine run_seq ?_
 refine run_block ?_
 refine sr_ ?_
 refine vm_ rfl rfl rfl ?_
 refine vm_ rfl rfl rfl ?_
 refine oz_ (xlss rfl rfl _ rfl) rfl rfl ?_
 refine ods (fun c25 => ?_) (fun c25 => ?_)
 ·
  refine ct_ rfl ?_
  refine run_tail 8 (by kernel_rfl) (by kernel_rfl) ?_
  intro w7 e7
  have z7 := e7.size
  have E := E.trans e7
  replace G2 := G2.ext e7
  replace GW := GW.ext e7
  replace O_b1 := O_b1.ext e7
  replace O_b5 := O_b5.ext e7
  refine stv (xfieldAddr fo79f0 rfl) rfl rfl rfl ?_
  have lS27 := G2.len
  refine stv (v := .slice (some ⟨b2, 0, none⟩) s s) (xload1 Tryz.isAgg24 rfl (O_b5.cells) rfl) rfl rfl rfl ?_
  refine stv (xmove rfl) rfl rfl rfl ?_
  refine stv (xmove rfl) rfl rfl rfl ?_
  refine stv (xmove rfl) rfl rfl rfl ?_
  have h31 := (H.ext E).at (i := k) (by omega)
  refine stv (xindexN (i := k) Tryz.underlying24 Tryz.sizeOf2 rfl rfl rfl ((H.ext E).p (i := k) (by omega)) (by have := (H.ext E).len; omega)) rfl rfl rfl ?_
  refine stv (v := .int .i64 xs[k]) (xloadz Tryz.isAgg2 rfl (h31) rfl) rfl rfl rfl ?_
  have lS33 := G2.len
  have h33 := (G2.sl).at (i := k) (by omega)
  refine stv (xindexN (i := k) Tryz.underlying24 Tryz.sizeOf2 rfl rfl rfl ((G2.sl).p (i := k) (by omega)) (by have := (G2.sl).len; omega)) rfl rfl rfl ?_
  refine st_storeOw1 (i := k) (y := (xs[k])) Tryz.sizeOf2 G2 (by omega) rfl rfl rfl rfl rfl ?_
  intro w8 m8 g8
  have z8 := m8.size
  have E := m8.toExt E (by omega)
  replace GW := GW.off m8 (by omega)
  try replace O_b1 := m8.own O_b1 (by omega)
  try replace O_b5 := m8.own O_b5 (by omega)
  replace G2 := g8
  refine run_inBlock ?_
  refine run_region ?_
  refine vm_ rfl rfl rfl ?_
  refine oz_ (xadd rfl rfl (by unfold I64; omega)) rfl rfl ?_
  refine vn_ rfl rfl rfl ?_
  refine run_sub ?_ (hback5 (k + 1, (zs.set k xs[k]), q, m, d, ws, w8) (⟨E, O_b1, O_b5, G2, GW.wide (by omega) (by omega), by omega, by omega, by omega, by rw [hz]; exact seatTo_set (by omega) (by omega), by rw [hw]; exact (waitTo_f (by omega)).symm⟩) (by first | omega | (dsimp only; omega)))
  exact ⟨rfl, rfl, rfl, rfl, rfl, trivial⟩
 refine cg_ rfl ?_
 have hcut9 := cut_size (w := wr) (k := b3) (by omega)
 have RE := ext_to_cut E (k := b3) (by omega) (by omega)
 have RO_b1 := O_b1.cut (k := b3) (by omega) (by omega)
 refine run_heldC (ext_cut (w := wr) (k := b3) (by omega)) (by kernel_rfl) ?_
 intro wh9 F
 have zh9 := F.size
 have E := E.trans F
 replace G2 := G2.ext F
 replace GW := GW.ext F
 replace O_b1 := O_b1.ext F
 replace O_b5 := O_b5.ext F
 replace F := (ext_cut (w := wr) (k := b3) (by omega)).trans F
 refine h_take 0 rfl (by kernel_rfl) (by kernel_rfl) (by kernel_rfl) (fun w' x_ => xfieldAddr fo79f1 rfl) rfl rfl rfl F ?_
 refine h_take 2 rfl (by kernel_rfl) (by kernel_rfl) (by kernel_rfl) (fun w' x_ => xmove rfl) rfl rfl rfl F ?_
 refine h_take 3 rfl (by kernel_rfl) (by kernel_rfl) (by kernel_rfl) (fun w' x_ => xmove rfl) rfl rfl rfl F ?_
 have h38 := (H.ext RE).at (i := k) (by omega)
 refine h_take 4 rfl (by kernel_rfl) (by kernel_rfl) (by kernel_rfl) (fun w' x_ => xindexN (i := k) Tryz.underlying24 Tryz.sizeOf2 rfl rfl rfl ((H.ext RE).p (i := k) (by omega)) (by have := (H.ext RE).len; omega)) rfl rfl rfl F ?_
 refine h_take 5 (v := .int .i64 xs[k]) rfl (by kernel_rfl) (by kernel_rfl) (by kernel_rfl) (fun w' x_ => xloadz Tryz.isAgg2 rfl ((h38).ext x_) rfl) rfl rfl rfl F ?_
 refine h_ready (rs := [1, 6]) (by kernel_rfl) (by decide) ⟨?_, ?_, trivial⟩
 ·
  refine hs_val (v := .slice q m d) rfl (xload1 Tryz.isAgg24 rfl (O_b5.cells) rfl) rfl rfl rfl F ?_
  refine h_ready (rs := [6]) (by kernel_rfl) (by decide) ⟨?_, trivial⟩
  refine hs_build (len := 1) (vs := [.int .i64 xs[k]]) (cs := [.int .i64 xs[k]]) (sz := 1) Tryz.underlying24 inf2 rfl rfl (by decide) (by rfl) (by rfl) (by simp [Value.cells]) rfl F rfl rfl rfl ?_
  intro b7 w7 e7 hb7 hz7 O7
  have E := E.trans e7
  replace G2 := G2.ext e7
  replace GW := GW.ext e7
  replace O_b1 := O_b1.ext e7
  replace O_b5 := O_b5.ext e7
  have F := F.trans e7
  refine h_ready (rs := [7]) (by kernel_rfl) (by decide) ⟨?_, trivial⟩
  refine hs_appT (bytes := 8) (nm := (m + 1)) GW (by rfl) (by rfl) elem2 (Own.sl1 (y := xs[k]) O7) (by intro h; cases h) (by intro y hy; rfl) (by intro y hy u hu; rw [List.mem_singleton] at hy; subst hy; revert u; simp [Value.oneCell', i64c]) (by omega) (by omega) (by omega) (by omega) F (by omega) rfl rfl rfl ?_
  intro p8 c8_ w8 m8 k8 G8
  have hz8 := m8.size
  have E := m8.toExt E (by omega)
  have F := m8.toExt F (by omega)
  replace G2 := G2.off m8 (by omega)
  replace O_b1 := k8 _ _ _ (by decide) O_b1
  replace O_b5 := k8 _ _ _ (by decide) O_b5
  refine h_take 8 rfl (by kernel_rfl) (by kernel_rfl) (by kernel_rfl) (fun w' x_ => xfieldAddr fo79f1 rfl) rfl rfl rfl F ?_
  refine h_ready (rs := [9]) (by kernel_rfl) (by decide) ⟨?_, trivial⟩
  refine hs_store1 Tryz.sizeOf24 rfl rfl O_b5 (by simp) rfl F (by omega) rfl rfl ?_
  intro w9 on9 O9
  have hz9 := on9.size
  have E := on9.ext E (by omega)
  replace G2 := G2.onlyT O_b5 (by decide) on9
  replace G8 := G8.onlyT O_b5 (by decide) on9
  replace O_b1 := on9.own O_b1 (by omega)
  have F := on9.ext F (by omega)
  replace O9 : Own w9 b5 [.slice (some ⟨b2, 0, none⟩) s s, .slice p8 (m + 1) c8_, .slice (some ⟨b4, 0, none⟩) 0 0] 79 := O9
  refine h_doneC (by kernel_rfl) ?_
  refine run_inBlock ?_
  refine run_region ?_
  refine vm_ rfl rfl rfl ?_
  refine oz_ (xadd rfl rfl (by unfold I64; omega)) rfl rfl ?_
  refine vn_ rfl rfl rfl ?_
  refine run_sub ?_ (hback5 (k + 1, zs, p8, (m + 1), c8_, (ws ++ [xs[k]]), w9) (⟨E, O_b1, O9, G2, G8.wide (by omega) (by omega), by omega, by omega, by omega, by rw [hz]; exact (seatTo_keep (by omega)).symm, by rw [hw]; exact (waitTo_t (by omega) (by omega)).symm⟩) (by first | omega | (dsimp only; omega)))
  exact ⟨rfl, rfl, rfl, rfl, rfl, trivial⟩
 refine hs_build (len := 1) (vs := [.int .i64 xs[k]]) (cs := [.int .i64 xs[k]]) (sz := 1) Tryz.underlying24 inf2 rfl rfl (by decide) (by rfl) (by rfl) (by simp [Value.cells]) rfl F rfl rfl rfl ?_
 intro b7 w7 e7 hb7 hz7 O7
 have E := E.trans e7
 replace G2 := G2.ext e7
 replace GW := GW.ext e7
 replace O_b1 := O_b1.ext e7
 replace O_b5 := O_b5.ext e7
 have F := F.trans e7
 refine h_ready (rs := [1]) (by kernel_rfl) (by decide) ⟨?_, trivial⟩
 refine hs_val (v := .slice q m d) rfl (xload1 Tryz.isAgg24 rfl (O_b5.cells) rfl) rfl rfl rfl F ?_
 refine h_ready (rs := [7]) (by kernel_rfl) (by decide) ⟨?_, trivial⟩
 refine hs_appT (bytes := 8) (nm := (m + 1)) GW (by rfl) (by rfl) elem2 (Own.sl1 (y := xs[k]) O7) (by intro h; cases h) (by intro y hy; rfl) (by intro y hy u hu; rw [List.mem_singleton] at hy; subst hy; revert u; simp [Value.oneCell', i64c]) (by omega) (by omega) (by omega) (by omega) F (by omega) rfl rfl rfl ?_
 intro p8 c8_ w8 m8 k8 G8
 have hz8 := m8.size
 have E := m8.toExt E (by omega)
 have F := m8.toExt F (by omega)
 replace G2 := G2.off m8 (by omega)
 replace O_b1 := k8 _ _ _ (by decide) O_b1
 replace O_b5 := k8 _ _ _ (by decide) O_b5
 refine h_take 8 rfl (by kernel_rfl) (by kernel_rfl) (by kernel_rfl) (fun w' x_ => xfieldAddr fo79f1 rfl) rfl rfl rfl F ?_
 refine h_ready (rs := [9]) (by kernel_rfl) (by decide) ⟨?_, trivial⟩
 refine hs_store1 Tryz.sizeOf24 rfl rfl O_b5 (by simp) rfl F (by omega) rfl rfl ?_
 intro w9 on9 O9
 have hz9 := on9.size
 have E := on9.ext E (by omega)
 replace G2 := G2.onlyT O_b5 (by decide) on9
 replace G8 := G8.onlyT O_b5 (by decide) on9
 replace O_b1 := on9.own O_b1 (by omega)
 have F := on9.ext F (by omega)
 replace O9 : Own w9 b5 [.slice (some ⟨b2, 0, none⟩) s s, .slice p8 (m + 1) c8_, .slice (some ⟨b4, 0, none⟩) 0 0] 79 := O9
 refine h_doneC (by kernel_rfl) ?_
 refine run_inBlock ?_
 refine run_region ?_
 refine vm_ rfl rfl rfl ?_
 refine oz_ (xadd rfl rfl (by unfold I64; omega)) rfl rfl ?_
 refine vn_ rfl rfl rfl ?_
 refine run_sub ?_ (hback5 (k + 1, zs, p8, (m + 1), c8_, (ws ++ [xs[k]]), w9) (⟨E, O_b1, O9, G2, G8.wide (by omega) (by omega), by omega, by omega, by omega, by rw [hz]; exact (seatTo_keep (by omega)).symm, by rw [hw]; exact (waitTo_t (by omega) (by omega)).symm⟩) (by first | omega | (dsimp only; omega)))
 exact ⟨rfl, rfl, rfl, rfl, rfl, trivial⟩
end Go.Proofs.YtchblgaklknkcaaGreat
