/-
  Panels that are emptied, by the other text: the walk. No condition beyond those written in the theorem.
-/
import Derived.Test.YtchblgaklknkcaaGreatPan12b
namespace Go.Proofs.YtchblgaklknkcaaGreat
open Go.RowKit
set_option linter.unusedVariables false
set_option linter.unusedSimpArgs false
set_option linter.unusedSectionVars false
set_option maxRecDepth 4000
set_option maxHeartbeats 4000000 in
theorem l12Empty_ok (u1 : Option Addr) (n1 v1 : Nat) (u2 : Option Addr) (n2 v2 : Nat) (u3 : Option Addr) (n3 v3 : Nat) (x : Pan) (k : Nat) (w : World) (H1 : Sl i64c 1 w u1 n1 v1 x.S) (H2 : Sl i64c 1 w u2 n2 v2 x.W) (H3 : Sl i64c 1 w u3 n3 v3 x.G) (hP : isPan x = true) (hk : k < x.S.length) : Ret Tryz.prog 135 [.agg #[.slice u1 n1 v1, .slice u2 n2 v2, .slice u3 n3 v3], .int .i64 (k : Int)] w (fun v w' => Ext w w' ∧ ∃ (q1 : Option Addr) (m1 d1 : Nat) (q2 : Option Addr) (m2 d2 : Nat) (q3 : Option Addr) (m3 d3 : Nat) , v = .agg #[.slice q1 m1 d1, .slice q2 m2 d2, .slice q3 m3 d3] ∧ SlF i64c 1 w' w.heap.size w'.heap.size q1 m1 d1 ((emptyP x k).S) ∧ SlF i64c 1 w' w.heap.size w'.heap.size q2 m2 d2 ((emptyP x k).W) ∧ SlF i64c 1 w' w.heap.size w'.heap.size q3 m3 d3 ((emptyP x k).G)) := by
 refine ret_of_run (N := 45) Tryz.func135 rfl rfl rfl ?_
 have hn1 := H1.len
 have hn2 := H2.len
 have hn3 := H3.len
 have hle := pan_le hP
 have E : Ext w w := Ext.refl w
 refine sr_ ?_
 refine obox rfl rfl rfl ?_
 intro b1 w1 e1 hb1 hz1 O1
 have E := E.trans e1
 replace O1 : Own w1 b1 [.slice u1 n1 v1, .slice u2 n2 v2, .slice u3 n3 v3] 79 := O1
 refine oalloc Tryz.zeroValue79 rfl rfl ?_
 intro b2 w2 e2 hb2 hz2 O2
 have E := E.trans e2
 replace O1 := O1.ext e2
 replace O2 : Own w2 b2 [.slice none 0 0, .slice none 0 0, .slice none 0 0] 79 := O2
 refine ops_nil ?_
 refine run_seq ?_
 have RE := E
 have RO1 := O1
 have RO2 := O2
 refine run_held (ι := Option Addr × Nat × Option Addr × Nat × Option Addr × Nat × Nat × Nat × Nat × Nat × Nat × Nat) (fun x_ w' => match x_ with | (q8, cc8, q11, cc11, q21, c21, a1, k1, a2, k2, a3, bx) => Ext w2 w' ∧ Ow i64c 1 2 w' a1 k1 q8 n1 cc8 x.S ∧ Ow i64c 1 2 w' a2 k2 q11 n2 cc11 x.W ∧ Ow i64c 1 2 w' a3 w'.heap.size q21 (n3 + 1) c21 (x.G ++ [x.S[k]]) ∧ Own w' bx [.slice q8 n1 cc8, .slice q11 n2 cc11, .slice q21 (n3 + 1) c21] 79 ∧ (w2.heap.size ≤ a1 ∧ k1 ≤ a2 ∧ k1 ≤ a3 ∧ k2 ≤ a3 ∧ k1 ≤ w'.heap.size ∧ k2 ≤ w'.heap.size ∧ w2.heap.size ≤ a2 ∧ w2.heap.size ≤ a3 ∧ w2.heap.size ≤ bx ∧ (bx < a1 ∨ k1 ≤ bx) ∧ (bx < a2 ∨ k2 ≤ bx))) (fun x_ => match x_ with | (q8, cc8, q11, cc11, q21, c21, a1, k1, a2, k2, a3, bx) => [(1, .int .i64 (k : Int)), (2, .pointer (some ⟨b1, 0, none⟩)), (4, .pointer (some ⟨b2, 0, none⟩)), (5, .pointer (some ⟨bx, 0, none⟩))]) (by kernel_rfl) ?_ ?_
 ·
  intro w0_ F
  have z0_ := F.size
  have E := E.trans F
  refine h_take 0 rfl (by kernel_rfl) (by kernel_rfl) (by kernel_rfl) (fun w' x_ => xfieldAddr fo79f0 rfl) rfl rfl rfl F ?_
  refine h_take 1 (v := .slice u1 n1 v1) rfl (by kernel_rfl) (by kernel_rfl) (by kernel_rfl) (fun w' x_ => xload1 Tryz.isAgg24 rfl ((RO1.cells).ext x_) rfl) rfl rfl rfl F ?_
  refine h_take 3 rfl (by kernel_rfl) (by kernel_rfl) (by kernel_rfl) (fun w' x_ => xfieldAddr fo79f1 rfl) rfl rfl rfl F ?_
  refine h_take 4 (v := .slice u2 n2 v2) rfl (by kernel_rfl) (by kernel_rfl) (by kernel_rfl) (fun w' x_ => xload1 Tryz.isAgg24 rfl ((RO1.cells).ext x_) rfl) rfl rfl rfl F ?_
  refine h_take 6 rfl (by kernel_rfl) (by kernel_rfl) (by kernel_rfl) (fun w' x_ => xfieldAddr fo79f2 rfl) rfl rfl rfl F ?_
  refine h_take 7 (v := .slice u3 n3 v3) rfl (by kernel_rfl) (by kernel_rfl) (by kernel_rfl) (fun w' x_ => xload1 Tryz.isAgg24 rfl ((RO1.cells).ext x_) rfl) rfl rfl rfl F ?_
  refine h_take 9 rfl (by kernel_rfl) (by kernel_rfl) (by kernel_rfl) (fun w' x_ => xfieldAddr fo79f0 rfl) rfl rfl rfl F ?_
  refine h_take 10 (v := .slice u1 n1 v1) rfl (by kernel_rfl) (by kernel_rfl) (by kernel_rfl) (fun w' x_ => xload1 Tryz.isAgg24 rfl ((RO1.cells).ext x_) rfl) rfl rfl rfl F ?_
  refine h_take 11 rfl (by kernel_rfl) (by kernel_rfl) (by kernel_rfl) (fun w' x_ => xmove rfl) rfl rfl rfl F ?_
  have h18 := (H1.ext RE).at (i := k) (by omega)
  refine h_take 12 rfl (by kernel_rfl) (by kernel_rfl) (by kernel_rfl) (fun w' x_ => xindexN (i := k) Tryz.underlying24 Tryz.sizeOf2 rfl rfl rfl ((H1.ext RE).p (i := k) (by omega)) (by have := (H1.ext RE).len; omega)) rfl rfl rfl F ?_
  refine h_take 13 (v := .int .i64 x.S[k]) rfl (by kernel_rfl) (by kernel_rfl) (by kernel_rfl) (fun w' x_ => xloadz Tryz.isAgg2 rfl ((h18).ext x_) rfl) rfl rfl rfl F ?_
  refine h_ready (rs := [2, 14, 17]) (by kernel_rfl) (by decide) ⟨?_, ?_, ?_, trivial⟩
  rotate_left
  ·
   refine hs_build (len := 1) (vs := [.int .i64 x.S[k]]) (cs := [.int .i64 x.S[k]]) (sz := 1) Tryz.underlying24 inf2 rfl rfl (by decide) (by rfl) (by rfl) (by simp [Value.cells]) rfl F rfl rfl rfl ?_
   intro b3 w3 e3 hb3 hz3 O3
   have E := E.trans e3
   have F := F.trans e3
   refine h_ready (rs := [2, 17]) (by kernel_rfl) (by decide) ⟨?_, ?_, trivial⟩
   rotate_left
   ·
    refine hs_alloc Tryz.zeroValue79 F rfl rfl rfl ?_
    intro b4 w4 e4 hb4 hz4 O4
    have E := E.trans e4
    replace O3 := O3.ext e4
    have F := F.trans e4
    replace O4 : Own w4 b4 [.slice none 0 0, .slice none 0 0, .slice none 0 0] 79 := O4
    refine h_ready (rs := [2]) (by kernel_rfl) (by decide) ⟨?_, trivial⟩
    refine hs_call rfl (xcall Tryz.call102 rfl) rfl rfl rfl (l01Own_ok _ _ _ _ _ (H1.ext E) (H1.ext E).nil (by omega)) ?_
    rintro _ w5 ⟨e5, q8, cc8, rfl, Q8⟩
    have z5 := e5.size
    have E := E.trans e5
    replace O3 := O3.ext e5
    replace O4 := O4.ext e5
    have F := F.trans e5
    refine ⟨F, ?_⟩
    refine h_ready (rs := [5]) (by kernel_rfl) (by decide) ⟨?_, trivial⟩
    refine hs_call rfl (xcall Tryz.call102 rfl) rfl rfl rfl (l01Own_ok _ _ _ _ _ (H2.ext E) (H2.ext E).nil (by omega)) ?_
    rintro _ w6 ⟨e6, q11, cc11, rfl, Q11⟩
    have z6 := e6.size
    have E := E.trans e6
    replace Q8 := Q8.ext e6
    replace O3 := O3.ext e6
    replace O4 := O4.ext e6
    have F := F.trans e6
    refine ⟨F, ?_⟩
    refine h_ready (rs := [8]) (by kernel_rfl) (by decide) ⟨?_, trivial⟩
    refine hs_call rfl (xcall Tryz.call102 rfl) rfl rfl rfl (l01Own_ok _ _ _ _ _ (H3.ext E) (H3.ext E).nil (by omega)) ?_
    rintro _ w7 ⟨e7, q14, cc14, rfl, Q14⟩
    have z7 := e7.size
    have E := E.trans e7
    replace Q8 := Q8.ext e7
    replace Q11 := Q11.ext e7
    replace O3 := O3.ext e7
    replace O4 := O4.ext e7
    have F := F.trans e7
    refine ⟨F, ?_⟩
    refine h_ready (rs := [15]) (by kernel_rfl) (by decide) ⟨?_, trivial⟩
    refine hs_appT (bytes := 8) (nm := (n3 + 1)) Q14 (by rfl) (by rfl) elem2 (Own.sl1 (y := x.S[k]) O3) (by intro h; cases h) (by intro y hy; rfl) (by intro y hy u hu; rw [List.mem_singleton] at hy; subst hy; revert u; simp [Value.oneCell', i64c]) (by omega) (by omega) (by omega) (by omega) F (by omega) rfl rfl rfl ?_
    intro p8 c8_ w8 m8 k8 G8
    have hz8 := m8.size
    have E := m8.toExt E (by omega)
    have F := m8.toExt F (by omega)
    replace Q8 := Q8.off m8 (by omega)
    replace Q11 := Q11.off m8 (by omega)
    replace O4 := k8 _ _ _ (by decide) O4
    refine h_take 16 rfl (by kernel_rfl) (by kernel_rfl) (by kernel_rfl) (fun w' x_ => xbuild (vs := [.slice q8 n1 cc8, .slice q11 n2 cc11, .slice p8 (n3 + 1) c8_]) (cells := #[.slice q8 n1 cc8, .slice q11 n2 cc11, .slice p8 (n3 + 1) c8_]) rfl (by kernel_rfl)) rfl rfl rfl F ?_
    refine h_ready (rs := [18]) (by kernel_rfl) (by decide) ⟨?_, trivial⟩
    refine hs_storeN (vs := [.slice q8 n1 cc8, .slice q11 n2 cc11, .slice p8 (n3 + 1) c8_]) Tryz.sizeOf79 rfl rfl O4 rfl (by simp) (by simp [Value.oneCell']) F (by omega) rfl rfl ?_
    intro w9 on9 O9
    have hz9 := on9.size
    have E := on9.ext E (by omega)
    replace Q8 := Q8.onlyT O4 (by decide) on9
    replace Q11 := Q11.onlyT O4 (by decide) on9
    replace G8 := G8.onlyT O4 (by decide) on9
    have F := on9.ext F (by omega)
    replace O9 : Own w9 b4 [.slice q8 n1 cc8, .slice q11 n2 cc11, .slice p8 (n3 + 1) c8_] 79 := O9
    refine h_done (by kernel_rfl) ?_
    intro a_ ha_
    exact ⟨(q8, cc8, q11, cc11, p8, c8_, w4.heap.size, w5.heap.size, w5.heap.size, w6.heap.size, w6.heap.size, b4), ⟨F, ⟨Q8, Q11, G8.wide (by omega) (by omega), O9, by omega⟩⟩, ha_.sub ⟨rfl, rfl, rfl, rfl, trivial⟩⟩
   refine hs_call rfl (xcall Tryz.call102 rfl) rfl rfl rfl (l01Own_ok _ _ _ _ _ (H1.ext E) (H1.ext E).nil (by omega)) ?_
   rintro _ w4 ⟨e4, q8, cc8, rfl, Q8⟩
   have z4 := e4.size
   have E := E.trans e4
   replace O3 := O3.ext e4
   have F := F.trans e4
   refine ⟨F, ?_⟩
   refine h_ready (rs := [5, 17]) (by kernel_rfl) (by decide) ⟨?_, ?_, trivial⟩
   rotate_left
   ·
    refine hs_alloc Tryz.zeroValue79 F rfl rfl rfl ?_
    intro b5 w5 e5 hb5 hz5 O5
    have E := E.trans e5
    replace Q8 := Q8.ext e5
    replace O3 := O3.ext e5
    have F := F.trans e5
    replace O5 : Own w5 b5 [.slice none 0 0, .slice none 0 0, .slice none 0 0] 79 := O5
    refine h_ready (rs := [5]) (by kernel_rfl) (by decide) ⟨?_, trivial⟩
    refine hs_call rfl (xcall Tryz.call102 rfl) rfl rfl rfl (l01Own_ok _ _ _ _ _ (H2.ext E) (H2.ext E).nil (by omega)) ?_
    rintro _ w6 ⟨e6, q11, cc11, rfl, Q11⟩
    have z6 := e6.size
    have E := E.trans e6
    replace Q8 := Q8.ext e6
    replace O3 := O3.ext e6
    replace O5 := O5.ext e6
    have F := F.trans e6
    refine ⟨F, ?_⟩
    refine h_ready (rs := [8]) (by kernel_rfl) (by decide) ⟨?_, trivial⟩
    refine hs_call rfl (xcall Tryz.call102 rfl) rfl rfl rfl (l01Own_ok _ _ _ _ _ (H3.ext E) (H3.ext E).nil (by omega)) ?_
    rintro _ w7 ⟨e7, q14, cc14, rfl, Q14⟩
    have z7 := e7.size
    have E := E.trans e7
    replace Q8 := Q8.ext e7
    replace Q11 := Q11.ext e7
    replace O3 := O3.ext e7
    replace O5 := O5.ext e7
    have F := F.trans e7
    refine ⟨F, ?_⟩
    refine h_ready (rs := [15]) (by kernel_rfl) (by decide) ⟨?_, trivial⟩
    refine hs_appT (bytes := 8) (nm := (n3 + 1)) Q14 (by rfl) (by rfl) elem2 (Own.sl1 (y := x.S[k]) O3) (by intro h; cases h) (by intro y hy; rfl) (by intro y hy u hu; rw [List.mem_singleton] at hy; subst hy; revert u; simp [Value.oneCell', i64c]) (by omega) (by omega) (by omega) (by omega) F (by omega) rfl rfl rfl ?_
    intro p8 c8_ w8 m8 k8 G8
    have hz8 := m8.size
    have E := m8.toExt E (by omega)
    have F := m8.toExt F (by omega)
    replace Q8 := Q8.off m8 (by omega)
    replace Q11 := Q11.off m8 (by omega)
    replace O5 := k8 _ _ _ (by decide) O5
    refine h_take 16 rfl (by kernel_rfl) (by kernel_rfl) (by kernel_rfl) (fun w' x_ => xbuild (vs := [.slice q8 n1 cc8, .slice q11 n2 cc11, .slice p8 (n3 + 1) c8_]) (cells := #[.slice q8 n1 cc8, .slice q11 n2 cc11, .slice p8 (n3 + 1) c8_]) rfl (by kernel_rfl)) rfl rfl rfl F ?_
    refine h_ready (rs := [18]) (by kernel_rfl) (by decide) ⟨?_, trivial⟩
    refine hs_storeN (vs := [.slice q8 n1 cc8, .slice q11 n2 cc11, .slice p8 (n3 + 1) c8_]) Tryz.sizeOf79 rfl rfl O5 rfl (by simp) (by simp [Value.oneCell']) F (by omega) rfl rfl ?_
    intro w9 on9 O9
    have hz9 := on9.size
    have E := on9.ext E (by omega)
    replace Q8 := Q8.onlyT O5 (by decide) on9
    replace Q11 := Q11.onlyT O5 (by decide) on9
    replace G8 := G8.onlyT O5 (by decide) on9
    have F := on9.ext F (by omega)
    replace O9 : Own w9 b5 [.slice q8 n1 cc8, .slice q11 n2 cc11, .slice p8 (n3 + 1) c8_] 79 := O9
    refine h_done (by kernel_rfl) ?_
    intro a_ ha_
    exact ⟨(q8, cc8, q11, cc11, p8, c8_, w3.heap.size, w4.heap.size, w5.heap.size, w6.heap.size, w6.heap.size, b5), ⟨F, ⟨Q8, Q11, G8.wide (by omega) (by omega), O9, by omega⟩⟩, ha_.sub ⟨rfl, rfl, rfl, rfl, trivial⟩⟩
   refine hs_call rfl (xcall Tryz.call102 rfl) rfl rfl rfl (l01Own_ok _ _ _ _ _ (H2.ext E) (H2.ext E).nil (by omega)) ?_
   rintro _ w5 ⟨e5, q11, cc11, rfl, Q11⟩
   have z5 := e5.size
   have E := E.trans e5
   replace Q8 := Q8.ext e5
   replace O3 := O3.ext e5
   have F := F.trans e5
   refine ⟨F, ?_⟩
   refine h_ready (rs := [8, 17]) (by kernel_rfl) (by decide) ⟨?_, ?_, trivial⟩
   rotate_left
   ·
    refine hs_alloc Tryz.zeroValue79 F rfl rfl rfl ?_
    intro b6 w6 e6 hb6 hz6 O6
    have E := E.trans e6
    replace Q8 := Q8.ext e6
    replace Q11 := Q11.ext e6
    replace O3 := O3.ext e6
    have F := F.trans e6
    replace O6 : Own w6 b6 [.slice none 0 0, .slice none 0 0, .slice none 0 0] 79 := O6
    refine h_ready (rs := [8]) (by kernel_rfl) (by decide) ⟨?_, trivial⟩
    refine hs_call rfl (xcall Tryz.call102 rfl) rfl rfl rfl (l01Own_ok _ _ _ _ _ (H3.ext E) (H3.ext E).nil (by omega)) ?_
    rintro _ w7 ⟨e7, q14, cc14, rfl, Q14⟩
    have z7 := e7.size
    have E := E.trans e7
    replace Q8 := Q8.ext e7
    replace Q11 := Q11.ext e7
    replace O3 := O3.ext e7
    replace O6 := O6.ext e7
    have F := F.trans e7
    refine ⟨F, ?_⟩
    refine h_ready (rs := [15]) (by kernel_rfl) (by decide) ⟨?_, trivial⟩
    refine hs_appT (bytes := 8) (nm := (n3 + 1)) Q14 (by rfl) (by rfl) elem2 (Own.sl1 (y := x.S[k]) O3) (by intro h; cases h) (by intro y hy; rfl) (by intro y hy u hu; rw [List.mem_singleton] at hy; subst hy; revert u; simp [Value.oneCell', i64c]) (by omega) (by omega) (by omega) (by omega) F (by omega) rfl rfl rfl ?_
    intro p8 c8_ w8 m8 k8 G8
    have hz8 := m8.size
    have E := m8.toExt E (by omega)
    have F := m8.toExt F (by omega)
    replace Q8 := Q8.off m8 (by omega)
    replace Q11 := Q11.off m8 (by omega)
    replace O6 := k8 _ _ _ (by decide) O6
    refine h_take 16 rfl (by kernel_rfl) (by kernel_rfl) (by kernel_rfl) (fun w' x_ => xbuild (vs := [.slice q8 n1 cc8, .slice q11 n2 cc11, .slice p8 (n3 + 1) c8_]) (cells := #[.slice q8 n1 cc8, .slice q11 n2 cc11, .slice p8 (n3 + 1) c8_]) rfl (by kernel_rfl)) rfl rfl rfl F ?_
    refine h_ready (rs := [18]) (by kernel_rfl) (by decide) ⟨?_, trivial⟩
    refine hs_storeN (vs := [.slice q8 n1 cc8, .slice q11 n2 cc11, .slice p8 (n3 + 1) c8_]) Tryz.sizeOf79 rfl rfl O6 rfl (by simp) (by simp [Value.oneCell']) F (by omega) rfl rfl ?_
    intro w9 on9 O9
    have hz9 := on9.size
    have E := on9.ext E (by omega)
    replace Q8 := Q8.onlyT O6 (by decide) on9
    replace Q11 := Q11.onlyT O6 (by decide) on9
    replace G8 := G8.onlyT O6 (by decide) on9
    have F := on9.ext F (by omega)
    replace O9 : Own w9 b6 [.slice q8 n1 cc8, .slice q11 n2 cc11, .slice p8 (n3 + 1) c8_] 79 := O9
    refine h_done (by kernel_rfl) ?_
    intro a_ ha_
    exact ⟨(q8, cc8, q11, cc11, p8, c8_, w3.heap.size, w4.heap.size, w4.heap.size, w5.heap.size, w6.heap.size, b6), ⟨F, ⟨Q8, Q11, G8.wide (by omega) (by omega), O9, by omega⟩⟩, ha_.sub ⟨rfl, rfl, rfl, rfl, trivial⟩⟩
   refine hs_call rfl (xcall Tryz.call102 rfl) rfl rfl rfl (l01Own_ok _ _ _ _ _ (H3.ext E) (H3.ext E).nil (by omega)) ?_
   rintro _ w6 ⟨e6, q14, cc14, rfl, Q14⟩
   have z6 := e6.size
   have E := E.trans e6
   replace Q8 := Q8.ext e6
   replace Q11 := Q11.ext e6
   replace O3 := O3.ext e6
   have F := F.trans e6
   refine ⟨F, ?_⟩
   refine h_ready (rs := [15, 17]) (by kernel_rfl) (by decide) ⟨?_, ?_, trivial⟩
   ·
    refine hs_appT (bytes := 8) (nm := (n3 + 1)) Q14 (by rfl) (by rfl) elem2 (Own.sl1 (y := x.S[k]) O3) (by intro h; cases h) (by intro y hy; rfl) (by intro y hy u hu; rw [List.mem_singleton] at hy; subst hy; revert u; simp [Value.oneCell', i64c]) (by omega) (by omega) (by omega) (by omega) F (by omega) rfl rfl rfl ?_
    intro p7 c7_ w7 m7 k7 G7
    have hz7 := m7.size
    have E := m7.toExt E (by omega)
    have F := m7.toExt F (by omega)
    replace Q8 := Q8.off m7 (by omega)
    replace Q11 := Q11.off m7 (by omega)
    refine h_take 16 rfl (by kernel_rfl) (by kernel_rfl) (by kernel_rfl) (fun w' x_ => xbuild (vs := [.slice q8 n1 cc8, .slice q11 n2 cc11, .slice p7 (n3 + 1) c7_]) (cells := #[.slice q8 n1 cc8, .slice q11 n2 cc11, .slice p7 (n3 + 1) c7_]) rfl (by kernel_rfl)) rfl rfl rfl F ?_
    refine h_ready (rs := [17]) (by kernel_rfl) (by decide) ⟨?_, trivial⟩
    refine hs_alloc Tryz.zeroValue79 F rfl rfl rfl ?_
    intro b8 w8 e8 hb8 hz8 O8
    have E := E.trans e8
    replace Q8 := Q8.ext e8
    replace Q11 := Q11.ext e8
    replace G7 := G7.ext e8
    have F := F.trans e8
    replace O8 : Own w8 b8 [.slice none 0 0, .slice none 0 0, .slice none 0 0] 79 := O8
    refine h_ready (rs := [18]) (by kernel_rfl) (by decide) ⟨?_, trivial⟩
    refine hs_storeN (vs := [.slice q8 n1 cc8, .slice q11 n2 cc11, .slice p7 (n3 + 1) c7_]) Tryz.sizeOf79 rfl rfl O8 rfl (by simp) (by simp [Value.oneCell']) F (by omega) rfl rfl ?_
    intro w9 on9 O9
    have hz9 := on9.size
    have E := on9.ext E (by omega)
    replace Q8 := Q8.onlyT O8 (by decide) on9
    replace Q11 := Q11.onlyT O8 (by decide) on9
    replace G7 := G7.onlyT O8 (by decide) on9
    have F := on9.ext F (by omega)
    replace O9 : Own w9 b8 [.slice q8 n1 cc8, .slice q11 n2 cc11, .slice p7 (n3 + 1) c7_] 79 := O9
    refine h_done (by kernel_rfl) ?_
    intro a_ ha_
    exact ⟨(q8, cc8, q11, cc11, p7, c7_, w3.heap.size, w4.heap.size, w4.heap.size, w5.heap.size, w5.heap.size, b8), ⟨F, ⟨Q8, Q11, G7.wide (by omega) (by omega), O9, by omega⟩⟩, ha_.sub ⟨rfl, rfl, rfl, rfl, trivial⟩⟩
   refine hs_alloc Tryz.zeroValue79 F rfl rfl rfl ?_
   intro b7 w7 e7 hb7 hz7 O7
   have E := E.trans e7
   replace Q8 := Q8.ext e7
   replace Q11 := Q11.ext e7
   replace Q14 := Q14.ext e7
   replace O3 := O3.ext e7
   have F := F.trans e7
   replace O7 : Own w7 b7 [.slice none 0 0, .slice none 0 0, .slice none 0 0] 79 := O7
   refine h_ready (rs := [15]) (by kernel_rfl) (by decide) ⟨?_, trivial⟩
   refine hs_appT (bytes := 8) (nm := (n3 + 1)) Q14 (by rfl) (by rfl) elem2 (Own.sl1 (y := x.S[k]) O3) (by intro h; cases h) (by intro y hy; rfl) (by intro y hy u hu; rw [List.mem_singleton] at hy; subst hy; revert u; simp [Value.oneCell', i64c]) (by omega) (by omega) (by omega) (by omega) F (by omega) rfl rfl rfl ?_
   intro p8 c8_ w8 m8 k8 G8
   have hz8 := m8.size
   have E := m8.toExt E (by omega)
   have F := m8.toExt F (by omega)
   replace Q8 := Q8.off m8 (by omega)
   replace Q11 := Q11.off m8 (by omega)
   replace O7 := k8 _ _ _ (by decide) O7
   refine h_take 16 rfl (by kernel_rfl) (by kernel_rfl) (by kernel_rfl) (fun w' x_ => xbuild (vs := [.slice q8 n1 cc8, .slice q11 n2 cc11, .slice p8 (n3 + 1) c8_]) (cells := #[.slice q8 n1 cc8, .slice q11 n2 cc11, .slice p8 (n3 + 1) c8_]) rfl (by kernel_rfl)) rfl rfl rfl F ?_
   refine h_ready (rs := [18]) (by kernel_rfl) (by decide) ⟨?_, trivial⟩
   refine hs_storeN (vs := [.slice q8 n1 cc8, .slice q11 n2 cc11, .slice p8 (n3 + 1) c8_]) Tryz.sizeOf79 rfl rfl O7 rfl (by simp) (by simp [Value.oneCell']) F (by omega) rfl rfl ?_
   intro w9 on9 O9
   have hz9 := on9.size
   have E := on9.ext E (by omega)
   replace Q8 := Q8.onlyT O7 (by decide) on9
   replace Q11 := Q11.onlyT O7 (by decide) on9
   replace G8 := G8.onlyT O7 (by decide) on9
   have F := on9.ext F (by omega)
   replace O9 : Own w9 b7 [.slice q8 n1 cc8, .slice q11 n2 cc11, .slice p8 (n3 + 1) c8_] 79 := O9
   refine h_done (by kernel_rfl) ?_
   intro a_ ha_
   exact ⟨(q8, cc8, q11, cc11, p8, c8_, w3.heap.size, w4.heap.size, w4.heap.size, w5.heap.size, w5.heap.size, b7), ⟨F, ⟨Q8, Q11, G8.wide (by omega) (by omega), O9, by omega⟩⟩, ha_.sub ⟨rfl, rfl, rfl, rfl, trivial⟩⟩
  ·
   refine hs_alloc Tryz.zeroValue79 F rfl rfl rfl ?_
   intro b3 w3 e3 hb3 hz3 O3
   have E := E.trans e3
   have F := F.trans e3
   replace O3 : Own w3 b3 [.slice none 0 0, .slice none 0 0, .slice none 0 0] 79 := O3
   refine h_ready (rs := [2, 14]) (by kernel_rfl) (by decide) ⟨?_, ?_, trivial⟩
   rotate_left
   ·
    refine hs_build (len := 1) (vs := [.int .i64 x.S[k]]) (cs := [.int .i64 x.S[k]]) (sz := 1) Tryz.underlying24 inf2 rfl rfl (by decide) (by rfl) (by rfl) (by simp [Value.cells]) rfl F rfl rfl rfl ?_
    intro b4 w4 e4 hb4 hz4 O4
    have E := E.trans e4
    replace O3 := O3.ext e4
    have F := F.trans e4
    refine h_ready (rs := [2]) (by kernel_rfl) (by decide) ⟨?_, trivial⟩
    refine hs_call rfl (xcall Tryz.call102 rfl) rfl rfl rfl (l01Own_ok _ _ _ _ _ (H1.ext E) (H1.ext E).nil (by omega)) ?_
    rintro _ w5 ⟨e5, q8, cc8, rfl, Q8⟩
    have z5 := e5.size
    have E := E.trans e5
    replace O3 := O3.ext e5
    replace O4 := O4.ext e5
    have F := F.trans e5
    refine ⟨F, ?_⟩
    refine h_ready (rs := [5]) (by kernel_rfl) (by decide) ⟨?_, trivial⟩
    refine hs_call rfl (xcall Tryz.call102 rfl) rfl rfl rfl (l01Own_ok _ _ _ _ _ (H2.ext E) (H2.ext E).nil (by omega)) ?_
    rintro _ w6 ⟨e6, q11, cc11, rfl, Q11⟩
    have z6 := e6.size
    have E := E.trans e6
    replace Q8 := Q8.ext e6
    replace O3 := O3.ext e6
    replace O4 := O4.ext e6
    have F := F.trans e6
    refine ⟨F, ?_⟩
    refine h_ready (rs := [8]) (by kernel_rfl) (by decide) ⟨?_, trivial⟩
    refine hs_call rfl (xcall Tryz.call102 rfl) rfl rfl rfl (l01Own_ok _ _ _ _ _ (H3.ext E) (H3.ext E).nil (by omega)) ?_
    rintro _ w7 ⟨e7, q14, cc14, rfl, Q14⟩
    have z7 := e7.size
    have E := E.trans e7
    replace Q8 := Q8.ext e7
    replace Q11 := Q11.ext e7
    replace O3 := O3.ext e7
    replace O4 := O4.ext e7
    have F := F.trans e7
    refine ⟨F, ?_⟩
    refine h_ready (rs := [15]) (by kernel_rfl) (by decide) ⟨?_, trivial⟩
    refine hs_appT (bytes := 8) (nm := (n3 + 1)) Q14 (by rfl) (by rfl) elem2 (Own.sl1 (y := x.S[k]) O4) (by intro h; cases h) (by intro y hy; rfl) (by intro y hy u hu; rw [List.mem_singleton] at hy; subst hy; revert u; simp [Value.oneCell', i64c]) (by omega) (by omega) (by omega) (by omega) F (by omega) rfl rfl rfl ?_
    intro p8 c8_ w8 m8 k8 G8
    have hz8 := m8.size
    have E := m8.toExt E (by omega)
    have F := m8.toExt F (by omega)
    replace Q8 := Q8.off m8 (by omega)
    replace Q11 := Q11.off m8 (by omega)
    replace O3 := k8 _ _ _ (by decide) O3
    refine h_take 16 rfl (by kernel_rfl) (by kernel_rfl) (by kernel_rfl) (fun w' x_ => xbuild (vs := [.slice q8 n1 cc8, .slice q11 n2 cc11, .slice p8 (n3 + 1) c8_]) (cells := #[.slice q8 n1 cc8, .slice q11 n2 cc11, .slice p8 (n3 + 1) c8_]) rfl (by kernel_rfl)) rfl rfl rfl F ?_
    refine h_ready (rs := [18]) (by kernel_rfl) (by decide) ⟨?_, trivial⟩
    refine hs_storeN (vs := [.slice q8 n1 cc8, .slice q11 n2 cc11, .slice p8 (n3 + 1) c8_]) Tryz.sizeOf79 rfl rfl O3 rfl (by simp) (by simp [Value.oneCell']) F (by omega) rfl rfl ?_
    intro w9 on9 O9
    have hz9 := on9.size
    have E := on9.ext E (by omega)
    replace Q8 := Q8.onlyT O3 (by decide) on9
    replace Q11 := Q11.onlyT O3 (by decide) on9
    replace G8 := G8.onlyT O3 (by decide) on9
    have F := on9.ext F (by omega)
    replace O9 : Own w9 b3 [.slice q8 n1 cc8, .slice q11 n2 cc11, .slice p8 (n3 + 1) c8_] 79 := O9
    refine h_done (by kernel_rfl) ?_
    intro a_ ha_
    exact ⟨(q8, cc8, q11, cc11, p8, c8_, w4.heap.size, w5.heap.size, w5.heap.size, w6.heap.size, w6.heap.size, b3), ⟨F, ⟨Q8, Q11, G8.wide (by omega) (by omega), O9, by omega⟩⟩, ha_.sub ⟨rfl, rfl, rfl, rfl, trivial⟩⟩
   refine hs_call rfl (xcall Tryz.call102 rfl) rfl rfl rfl (l01Own_ok _ _ _ _ _ (H1.ext E) (H1.ext E).nil (by omega)) ?_
   rintro _ w4 ⟨e4, q8, cc8, rfl, Q8⟩
   have z4 := e4.size
   have E := E.trans e4
   replace O3 := O3.ext e4
   have F := F.trans e4
   refine ⟨F, ?_⟩
   refine h_ready (rs := [5, 14]) (by kernel_rfl) (by decide) ⟨?_, ?_, trivial⟩
   rotate_left
   ·
    refine hs_build (len := 1) (vs := [.int .i64 x.S[k]]) (cs := [.int .i64 x.S[k]]) (sz := 1) Tryz.underlying24 inf2 rfl rfl (by decide) (by rfl) (by rfl) (by simp [Value.cells]) rfl F rfl rfl rfl ?_
    intro b5 w5 e5 hb5 hz5 O5
    have E := E.trans e5
    replace Q8 := Q8.ext e5
    replace O3 := O3.ext e5
    have F := F.trans e5
    refine h_ready (rs := [5]) (by kernel_rfl) (by decide) ⟨?_, trivial⟩
    refine hs_call rfl (xcall Tryz.call102 rfl) rfl rfl rfl (l01Own_ok _ _ _ _ _ (H2.ext E) (H2.ext E).nil (by omega)) ?_
    rintro _ w6 ⟨e6, q11, cc11, rfl, Q11⟩
    have z6 := e6.size
    have E := E.trans e6
    replace Q8 := Q8.ext e6
    replace O3 := O3.ext e6
    replace O5 := O5.ext e6
    have F := F.trans e6
    refine ⟨F, ?_⟩
    refine h_ready (rs := [8]) (by kernel_rfl) (by decide) ⟨?_, trivial⟩
    refine hs_call rfl (xcall Tryz.call102 rfl) rfl rfl rfl (l01Own_ok _ _ _ _ _ (H3.ext E) (H3.ext E).nil (by omega)) ?_
    rintro _ w7 ⟨e7, q14, cc14, rfl, Q14⟩
    have z7 := e7.size
    have E := E.trans e7
    replace Q8 := Q8.ext e7
    replace Q11 := Q11.ext e7
    replace O3 := O3.ext e7
    replace O5 := O5.ext e7
    have F := F.trans e7
    refine ⟨F, ?_⟩
    refine h_ready (rs := [15]) (by kernel_rfl) (by decide) ⟨?_, trivial⟩
    refine hs_appT (bytes := 8) (nm := (n3 + 1)) Q14 (by rfl) (by rfl) elem2 (Own.sl1 (y := x.S[k]) O5) (by intro h; cases h) (by intro y hy; rfl) (by intro y hy u hu; rw [List.mem_singleton] at hy; subst hy; revert u; simp [Value.oneCell', i64c]) (by omega) (by omega) (by omega) (by omega) F (by omega) rfl rfl rfl ?_
    intro p8 c8_ w8 m8 k8 G8
    have hz8 := m8.size
    have E := m8.toExt E (by omega)
    have F := m8.toExt F (by omega)
    replace Q8 := Q8.off m8 (by omega)
    replace Q11 := Q11.off m8 (by omega)
    replace O3 := k8 _ _ _ (by decide) O3
    refine h_take 16 rfl (by kernel_rfl) (by kernel_rfl) (by kernel_rfl) (fun w' x_ => xbuild (vs := [.slice q8 n1 cc8, .slice q11 n2 cc11, .slice p8 (n3 + 1) c8_]) (cells := #[.slice q8 n1 cc8, .slice q11 n2 cc11, .slice p8 (n3 + 1) c8_]) rfl (by kernel_rfl)) rfl rfl rfl F ?_
    refine h_ready (rs := [18]) (by kernel_rfl) (by decide) ⟨?_, trivial⟩
    refine hs_storeN (vs := [.slice q8 n1 cc8, .slice q11 n2 cc11, .slice p8 (n3 + 1) c8_]) Tryz.sizeOf79 rfl rfl O3 rfl (by simp) (by simp [Value.oneCell']) F (by omega) rfl rfl ?_
    intro w9 on9 O9
    have hz9 := on9.size
    have E := on9.ext E (by omega)
    replace Q8 := Q8.onlyT O3 (by decide) on9
    replace Q11 := Q11.onlyT O3 (by decide) on9
    replace G8 := G8.onlyT O3 (by decide) on9
    have F := on9.ext F (by omega)
    replace O9 : Own w9 b3 [.slice q8 n1 cc8, .slice q11 n2 cc11, .slice p8 (n3 + 1) c8_] 79 := O9
    refine h_done (by kernel_rfl) ?_
    intro a_ ha_
    exact ⟨(q8, cc8, q11, cc11, p8, c8_, w3.heap.size, w4.heap.size, w5.heap.size, w6.heap.size, w6.heap.size, b3), ⟨F, ⟨Q8, Q11, G8.wide (by omega) (by omega), O9, by omega⟩⟩, ha_.sub ⟨rfl, rfl, rfl, rfl, trivial⟩⟩
   refine hs_call rfl (xcall Tryz.call102 rfl) rfl rfl rfl (l01Own_ok _ _ _ _ _ (H2.ext E) (H2.ext E).nil (by omega)) ?_
   rintro _ w5 ⟨e5, q11, cc11, rfl, Q11⟩
   have z5 := e5.size
   have E := E.trans e5
   replace Q8 := Q8.ext e5
   replace O3 := O3.ext e5
   have F := F.trans e5
   refine ⟨F, ?_⟩
   refine h_ready (rs := [8, 14]) (by kernel_rfl) (by decide) ⟨?_, ?_, trivial⟩
   ·
    refine hs_call rfl (xcall Tryz.call102 rfl) rfl rfl rfl (l01Own_ok _ _ _ _ _ (H3.ext E) (H3.ext E).nil (by omega)) ?_
    rintro _ w6 ⟨e6, q14, cc14, rfl, Q14⟩
    have z6 := e6.size
    have E := E.trans e6
    replace Q8 := Q8.ext e6
    replace Q11 := Q11.ext e6
    replace O3 := O3.ext e6
    have F := F.trans e6
    refine ⟨F, ?_⟩
    refine h_ready (rs := [14]) (by kernel_rfl) (by decide) ⟨?_, trivial⟩
    refine hs_build (len := 1) (vs := [.int .i64 x.S[k]]) (cs := [.int .i64 x.S[k]]) (sz := 1) Tryz.underlying24 inf2 rfl rfl (by decide) (by rfl) (by rfl) (by simp [Value.cells]) rfl F rfl rfl rfl ?_
    intro b7 w7 e7 hb7 hz7 O7
    have E := E.trans e7
    replace Q8 := Q8.ext e7
    replace Q11 := Q11.ext e7
    replace Q14 := Q14.ext e7
    replace O3 := O3.ext e7
    have F := F.trans e7
    refine h_ready (rs := [15]) (by kernel_rfl) (by decide) ⟨?_, trivial⟩
    refine hs_appT (bytes := 8) (nm := (n3 + 1)) Q14 (by rfl) (by rfl) elem2 (Own.sl1 (y := x.S[k]) O7) (by intro h; cases h) (by intro y hy; rfl) (by intro y hy u hu; rw [List.mem_singleton] at hy; subst hy; revert u; simp [Value.oneCell', i64c]) (by omega) (by omega) (by omega) (by omega) F (by omega) rfl rfl rfl ?_
    intro p8 c8_ w8 m8 k8 G8
    have hz8 := m8.size
    have E := m8.toExt E (by omega)
    have F := m8.toExt F (by omega)
    replace Q8 := Q8.off m8 (by omega)
    replace Q11 := Q11.off m8 (by omega)
    replace O3 := k8 _ _ _ (by decide) O3
    refine h_take 16 rfl (by kernel_rfl) (by kernel_rfl) (by kernel_rfl) (fun w' x_ => xbuild (vs := [.slice q8 n1 cc8, .slice q11 n2 cc11, .slice p8 (n3 + 1) c8_]) (cells := #[.slice q8 n1 cc8, .slice q11 n2 cc11, .slice p8 (n3 + 1) c8_]) rfl (by kernel_rfl)) rfl rfl rfl F ?_
    refine h_ready (rs := [18]) (by kernel_rfl) (by decide) ⟨?_, trivial⟩
    refine hs_storeN (vs := [.slice q8 n1 cc8, .slice q11 n2 cc11, .slice p8 (n3 + 1) c8_]) Tryz.sizeOf79 rfl rfl O3 rfl (by simp) (by simp [Value.oneCell']) F (by omega) rfl rfl ?_
    intro w9 on9 O9
    have hz9 := on9.size
    have E := on9.ext E (by omega)
    replace Q8 := Q8.onlyT O3 (by decide) on9
    replace Q11 := Q11.onlyT O3 (by decide) on9
    replace G8 := G8.onlyT O3 (by decide) on9
    have F := on9.ext F (by omega)
    replace O9 : Own w9 b3 [.slice q8 n1 cc8, .slice q11 n2 cc11, .slice p8 (n3 + 1) c8_] 79 := O9
    refine h_done (by kernel_rfl) ?_
    intro a_ ha_
    exact ⟨(q8, cc8, q11, cc11, p8, c8_, w3.heap.size, w4.heap.size, w4.heap.size, w5.heap.size, w5.heap.size, b3), ⟨F, ⟨Q8, Q11, G8.wide (by omega) (by omega), O9, by omega⟩⟩, ha_.sub ⟨rfl, rfl, rfl, rfl, trivial⟩⟩
   refine hs_build (len := 1) (vs := [.int .i64 x.S[k]]) (cs := [.int .i64 x.S[k]]) (sz := 1) Tryz.underlying24 inf2 rfl rfl (by decide) (by rfl) (by rfl) (by simp [Value.cells]) rfl F rfl rfl rfl ?_
   intro b6 w6 e6 hb6 hz6 O6
   have E := E.trans e6
   replace Q8 := Q8.ext e6
   replace Q11 := Q11.ext e6
   replace O3 := O3.ext e6
   have F := F.trans e6
   refine h_ready (rs := [8]) (by kernel_rfl) (by decide) ⟨?_, trivial⟩
   refine hs_call rfl (xcall Tryz.call102 rfl) rfl rfl rfl (l01Own_ok _ _ _ _ _ (H3.ext E) (H3.ext E).nil (by omega)) ?_
   rintro _ w7 ⟨e7, q14, cc14, rfl, Q14⟩
   have z7 := e7.size
   have E := E.trans e7
   replace Q8 := Q8.ext e7
   replace Q11 := Q11.ext e7
   replace O3 := O3.ext e7
   replace O6 := O6.ext e7
   have F := F.trans e7
   refine ⟨F, ?_⟩
   refine h_ready (rs := [15]) (by kernel_rfl) (by decide) ⟨?_, trivial⟩
   refine hs_appT (bytes := 8) (nm := (n3 + 1)) Q14 (by rfl) (by rfl) elem2 (Own.sl1 (y := x.S[k]) O6) (by intro h; cases h) (by intro y hy; rfl) (by intro y hy u hu; rw [List.mem_singleton] at hy; subst hy; revert u; simp [Value.oneCell', i64c]) (by omega) (by omega) (by omega) (by omega) F (by omega) rfl rfl rfl ?_
   intro p8 c8_ w8 m8 k8 G8
   have hz8 := m8.size
   have E := m8.toExt E (by omega)
   have F := m8.toExt F (by omega)
   replace Q8 := Q8.off m8 (by omega)
   replace Q11 := Q11.off m8 (by omega)
   replace O3 := k8 _ _ _ (by decide) O3
   refine h_take 16 rfl (by kernel_rfl) (by kernel_rfl) (by kernel_rfl) (fun w' x_ => xbuild (vs := [.slice q8 n1 cc8, .slice q11 n2 cc11, .slice p8 (n3 + 1) c8_]) (cells := #[.slice q8 n1 cc8, .slice q11 n2 cc11, .slice p8 (n3 + 1) c8_]) rfl (by kernel_rfl)) rfl rfl rfl F ?_
   refine h_ready (rs := [18]) (by kernel_rfl) (by decide) ⟨?_, trivial⟩
   refine hs_storeN (vs := [.slice q8 n1 cc8, .slice q11 n2 cc11, .slice p8 (n3 + 1) c8_]) Tryz.sizeOf79 rfl rfl O3 rfl (by simp) (by simp [Value.oneCell']) F (by omega) rfl rfl ?_
   intro w9 on9 O9
   have hz9 := on9.size
   have E := on9.ext E (by omega)
   replace Q8 := Q8.onlyT O3 (by decide) on9
   replace Q11 := Q11.onlyT O3 (by decide) on9
   replace G8 := G8.onlyT O3 (by decide) on9
   have F := on9.ext F (by omega)
   replace O9 : Own w9 b3 [.slice q8 n1 cc8, .slice q11 n2 cc11, .slice p8 (n3 + 1) c8_] 79 := O9
   refine h_done (by kernel_rfl) ?_
   intro a_ ha_
   exact ⟨(q8, cc8, q11, cc11, p8, c8_, w3.heap.size, w4.heap.size, w4.heap.size, w5.heap.size, w6.heap.size, b3), ⟨F, ⟨Q8, Q11, G8.wide (by omega) (by omega), O9, by omega⟩⟩, ha_.sub ⟨rfl, rfl, rfl, rfl, trivial⟩⟩
  refine hs_call rfl (xcall Tryz.call102 rfl) rfl rfl rfl (l01Own_ok _ _ _ _ _ (H1.ext E) (H1.ext E).nil (by omega)) ?_
  rintro _ w3 ⟨e3, q8, cc8, rfl, Q8⟩
  have z3 := e3.size
  have E := E.trans e3
  have F := F.trans e3
  refine ⟨F, ?_⟩
  refine h_ready (rs := [5, 14, 17]) (by kernel_rfl) (by decide) ⟨?_, ?_, ?_, trivial⟩
  rotate_left
  ·
   refine hs_build (len := 1) (vs := [.int .i64 x.S[k]]) (cs := [.int .i64 x.S[k]]) (sz := 1) Tryz.underlying24 inf2 rfl rfl (by decide) (by rfl) (by rfl) (by simp [Value.cells]) rfl F rfl rfl rfl ?_
   intro b4 w4 e4 hb4 hz4 O4
   have E := E.trans e4
   replace Q8 := Q8.ext e4
   have F := F.trans e4
   refine h_ready (rs := [5, 17]) (by kernel_rfl) (by decide) ⟨?_, ?_, trivial⟩
   rotate_left
   ·
    refine hs_alloc Tryz.zeroValue79 F rfl rfl rfl ?_
    intro b5 w5 e5 hb5 hz5 O5
    have E := E.trans e5
    replace Q8 := Q8.ext e5
    replace O4 := O4.ext e5
    have F := F.trans e5
    replace O5 : Own w5 b5 [.slice none 0 0, .slice none 0 0, .slice none 0 0] 79 := O5
    refine h_ready (rs := [5]) (by kernel_rfl) (by decide) ⟨?_, trivial⟩
    refine hs_call rfl (xcall Tryz.call102 rfl) rfl rfl rfl (l01Own_ok _ _ _ _ _ (H2.ext E) (H2.ext E).nil (by omega)) ?_
    rintro _ w6 ⟨e6, q11, cc11, rfl, Q11⟩
    have z6 := e6.size
    have E := E.trans e6
    replace Q8 := Q8.ext e6
    replace O4 := O4.ext e6
    replace O5 := O5.ext e6
    have F := F.trans e6
    refine ⟨F, ?_⟩
    refine h_ready (rs := [8]) (by kernel_rfl) (by decide) ⟨?_, trivial⟩
    refine hs_call rfl (xcall Tryz.call102 rfl) rfl rfl rfl (l01Own_ok _ _ _ _ _ (H3.ext E) (H3.ext E).nil (by omega)) ?_
    rintro _ w7 ⟨e7, q14, cc14, rfl, Q14⟩
    have z7 := e7.size
    have E := E.trans e7
    replace Q8 := Q8.ext e7
    replace Q11 := Q11.ext e7
    replace O4 := O4.ext e7
    replace O5 := O5.ext e7
    have F := F.trans e7
    refine ⟨F, ?_⟩
    refine h_ready (rs := [15]) (by kernel_rfl) (by decide) ⟨?_, trivial⟩
    refine hs_appT (bytes := 8) (nm := (n3 + 1)) Q14 (by rfl) (by rfl) elem2 (Own.sl1 (y := x.S[k]) O4) (by intro h; cases h) (by intro y hy; rfl) (by intro y hy u hu; rw [List.mem_singleton] at hy; subst hy; revert u; simp [Value.oneCell', i64c]) (by omega) (by omega) (by omega) (by omega) F (by omega) rfl rfl rfl ?_
    intro p8 c8_ w8 m8 k8 G8
    have hz8 := m8.size
    have E := m8.toExt E (by omega)
    have F := m8.toExt F (by omega)
    replace Q8 := Q8.off m8 (by omega)
    replace Q11 := Q11.off m8 (by omega)
    replace O5 := k8 _ _ _ (by decide) O5
    refine h_take 16 rfl (by kernel_rfl) (by kernel_rfl) (by kernel_rfl) (fun w' x_ => xbuild (vs := [.slice q8 n1 cc8, .slice q11 n2 cc11, .slice p8 (n3 + 1) c8_]) (cells := #[.slice q8 n1 cc8, .slice q11 n2 cc11, .slice p8 (n3 + 1) c8_]) rfl (by kernel_rfl)) rfl rfl rfl F ?_
    refine h_ready (rs := [18]) (by kernel_rfl) (by decide) ⟨?_, trivial⟩
    refine hs_storeN (vs := [.slice q8 n1 cc8, .slice q11 n2 cc11, .slice p8 (n3 + 1) c8_]) Tryz.sizeOf79 rfl rfl O5 rfl (by simp) (by simp [Value.oneCell']) F (by omega) rfl rfl ?_
    intro w9 on9 O9
    have hz9 := on9.size
    have E := on9.ext E (by omega)
    replace Q8 := Q8.onlyT O5 (by decide) on9
    replace Q11 := Q11.onlyT O5 (by decide) on9
    replace G8 := G8.onlyT O5 (by decide) on9
    have F := on9.ext F (by omega)
    replace O9 : Own w9 b5 [.slice q8 n1 cc8, .slice q11 n2 cc11, .slice p8 (n3 + 1) c8_] 79 := O9
    refine h_done (by kernel_rfl) ?_
    intro a_ ha_
    exact ⟨(q8, cc8, q11, cc11, p8, c8_, w0_.heap.size, w3.heap.size, w5.heap.size, w6.heap.size, w6.heap.size, b5), ⟨F, ⟨Q8, Q11, G8.wide (by omega) (by omega), O9, by omega⟩⟩, ha_.sub ⟨rfl, rfl, rfl, rfl, trivial⟩⟩
   refine hs_call rfl (xcall Tryz.call102 rfl) rfl rfl rfl (l01Own_ok _ _ _ _ _ (H2.ext E) (H2.ext E).nil (by omega)) ?_
   rintro _ w5 ⟨e5, q11, cc11, rfl, Q11⟩
   have z5 := e5.size
   have E := E.trans e5
   replace Q8 := Q8.ext e5
   replace O4 := O4.ext e5
   have F := F.trans e5
   refine ⟨F, ?_⟩
   refine h_ready (rs := [8, 17]) (by kernel_rfl) (by decide) ⟨?_, ?_, trivial⟩
   rotate_left
   ·
    refine hs_alloc Tryz.zeroValue79 F rfl rfl rfl ?_
    intro b6 w6 e6 hb6 hz6 O6
    have E := E.trans e6
    replace Q8 := Q8.ext e6
    replace Q11 := Q11.ext e6
    replace O4 := O4.ext e6
    have F := F.trans e6
    replace O6 : Own w6 b6 [.slice none 0 0, .slice none 0 0, .slice none 0 0] 79 := O6
    refine h_ready (rs := [8]) (by kernel_rfl) (by decide) ⟨?_, trivial⟩
    refine hs_call rfl (xcall Tryz.call102 rfl) rfl rfl rfl (l01Own_ok _ _ _ _ _ (H3.ext E) (H3.ext E).nil (by omega)) ?_
    rintro _ w7 ⟨e7, q14, cc14, rfl, Q14⟩
    have z7 := e7.size
    have E := E.trans e7
    replace Q8 := Q8.ext e7
    replace Q11 := Q11.ext e7
    replace O4 := O4.ext e7
    replace O6 := O6.ext e7
    have F := F.trans e7
    refine ⟨F, ?_⟩
    refine h_ready (rs := [15]) (by kernel_rfl) (by decide) ⟨?_, trivial⟩
    refine hs_appT (bytes := 8) (nm := (n3 + 1)) Q14 (by rfl) (by rfl) elem2 (Own.sl1 (y := x.S[k]) O4) (by intro h; cases h) (by intro y hy; rfl) (by intro y hy u hu; rw [List.mem_singleton] at hy; subst hy; revert u; simp [Value.oneCell', i64c]) (by omega) (by omega) (by omega) (by omega) F (by omega) rfl rfl rfl ?_
    intro p8 c8_ w8 m8 k8 G8
    have hz8 := m8.size
    have E := m8.toExt E (by omega)
    have F := m8.toExt F (by omega)
    replace Q8 := Q8.off m8 (by omega)
    replace Q11 := Q11.off m8 (by omega)
    replace O6 := k8 _ _ _ (by decide) O6
    refine h_take 16 rfl (by kernel_rfl) (by kernel_rfl) (by kernel_rfl) (fun w' x_ => xbuild (vs := [.slice q8 n1 cc8, .slice q11 n2 cc11, .slice p8 (n3 + 1) c8_]) (cells := #[.slice q8 n1 cc8, .slice q11 n2 cc11, .slice p8 (n3 + 1) c8_]) rfl (by kernel_rfl)) rfl rfl rfl F ?_
    refine h_ready (rs := [18]) (by kernel_rfl) (by decide) ⟨?_, trivial⟩
    refine hs_storeN (vs := [.slice q8 n1 cc8, .slice q11 n2 cc11, .slice p8 (n3 + 1) c8_]) Tryz.sizeOf79 rfl rfl O6 rfl (by simp) (by simp [Value.oneCell']) F (by omega) rfl rfl ?_
    intro w9 on9 O9
    have hz9 := on9.size
    have E := on9.ext E (by omega)
    replace Q8 := Q8.onlyT O6 (by decide) on9
    replace Q11 := Q11.onlyT O6 (by decide) on9
    replace G8 := G8.onlyT O6 (by decide) on9
    have F := on9.ext F (by omega)
    replace O9 : Own w9 b6 [.slice q8 n1 cc8, .slice q11 n2 cc11, .slice p8 (n3 + 1) c8_] 79 := O9
    refine h_done (by kernel_rfl) ?_
    intro a_ ha_
    exact ⟨(q8, cc8, q11, cc11, p8, c8_, w0_.heap.size, w3.heap.size, w4.heap.size, w5.heap.size, w6.heap.size, b6), ⟨F, ⟨Q8, Q11, G8.wide (by omega) (by omega), O9, by omega⟩⟩, ha_.sub ⟨rfl, rfl, rfl, rfl, trivial⟩⟩
   refine hs_call rfl (xcall Tryz.call102 rfl) rfl rfl rfl (l01Own_ok _ _ _ _ _ (H3.ext E) (H3.ext E).nil (by omega)) ?_
   rintro _ w6 ⟨e6, q14, cc14, rfl, Q14⟩
   have z6 := e6.size
   have E := E.trans e6
   replace Q8 := Q8.ext e6
   replace Q11 := Q11.ext e6
   replace O4 := O4.ext e6
   have F := F.trans e6
   refine ⟨F, ?_⟩
   refine h_ready (rs := [15, 17]) (by kernel_rfl) (by decide) ⟨?_, ?_, trivial⟩
   ·
    refine hs_appT (bytes := 8) (nm := (n3 + 1)) Q14 (by rfl) (by rfl) elem2 (Own.sl1 (y := x.S[k]) O4) (by intro h; cases h) (by intro y hy; rfl) (by intro y hy u hu; rw [List.mem_singleton] at hy; subst hy; revert u; simp [Value.oneCell', i64c]) (by omega) (by omega) (by omega) (by omega) F (by omega) rfl rfl rfl ?_
    intro p7 c7_ w7 m7 k7 G7
    have hz7 := m7.size
    have E := m7.toExt E (by omega)
    have F := m7.toExt F (by omega)
    replace Q8 := Q8.off m7 (by omega)
    replace Q11 := Q11.off m7 (by omega)
    refine h_take 16 rfl (by kernel_rfl) (by kernel_rfl) (by kernel_rfl) (fun w' x_ => xbuild (vs := [.slice q8 n1 cc8, .slice q11 n2 cc11, .slice p7 (n3 + 1) c7_]) (cells := #[.slice q8 n1 cc8, .slice q11 n2 cc11, .slice p7 (n3 + 1) c7_]) rfl (by kernel_rfl)) rfl rfl rfl F ?_
    refine h_ready (rs := [17]) (by kernel_rfl) (by decide) ⟨?_, trivial⟩
    refine hs_alloc Tryz.zeroValue79 F rfl rfl rfl ?_
    intro b8 w8 e8 hb8 hz8 O8
    have E := E.trans e8
    replace Q8 := Q8.ext e8
    replace Q11 := Q11.ext e8
    replace G7 := G7.ext e8
    have F := F.trans e8
    replace O8 : Own w8 b8 [.slice none 0 0, .slice none 0 0, .slice none 0 0] 79 := O8
    refine h_ready (rs := [18]) (by kernel_rfl) (by decide) ⟨?_, trivial⟩
    refine hs_storeN (vs := [.slice q8 n1 cc8, .slice q11 n2 cc11, .slice p7 (n3 + 1) c7_]) Tryz.sizeOf79 rfl rfl O8 rfl (by simp) (by simp [Value.oneCell']) F (by omega) rfl rfl ?_
    intro w9 on9 O9
    have hz9 := on9.size
    have E := on9.ext E (by omega)
    replace Q8 := Q8.onlyT O8 (by decide) on9
    replace Q11 := Q11.onlyT O8 (by decide) on9
    replace G7 := G7.onlyT O8 (by decide) on9
    have F := on9.ext F (by omega)
    replace O9 : Own w9 b8 [.slice q8 n1 cc8, .slice q11 n2 cc11, .slice p7 (n3 + 1) c7_] 79 := O9
    refine h_done (by kernel_rfl) ?_
    intro a_ ha_
    exact ⟨(q8, cc8, q11, cc11, p7, c7_, w0_.heap.size, w3.heap.size, w4.heap.size, w5.heap.size, w5.heap.size, b8), ⟨F, ⟨Q8, Q11, G7.wide (by omega) (by omega), O9, by omega⟩⟩, ha_.sub ⟨rfl, rfl, rfl, rfl, trivial⟩⟩
   refine hs_alloc Tryz.zeroValue79 F rfl rfl rfl ?_
   intro b7 w7 e7 hb7 hz7 O7
   have E := E.trans e7
   replace Q8 := Q8.ext e7
   replace Q11 := Q11.ext e7
   replace Q14 := Q14.ext e7
   replace O4 := O4.ext e7
   have F := F.trans e7
   replace O7 : Own w7 b7 [.slice none 0 0, .slice none 0 0, .slice none 0 0] 79 := O7
   refine h_ready (rs := [15]) (by kernel_rfl) (by decide) ⟨?_, trivial⟩
   refine hs_appT (bytes := 8) (nm := (n3 + 1)) Q14 (by rfl) (by rfl) elem2 (Own.sl1 (y := x.S[k]) O4) (by intro h; cases h) (by intro y hy; rfl) (by intro y hy u hu; rw [List.mem_singleton] at hy; subst hy; revert u; simp [Value.oneCell', i64c]) (by omega) (by omega) (by omega) (by omega) F (by omega) rfl rfl rfl ?_
   intro p8 c8_ w8 m8 k8 G8
   have hz8 := m8.size
   have E := m8.toExt E (by omega)
   have F := m8.toExt F (by omega)
   replace Q8 := Q8.off m8 (by omega)
   replace Q11 := Q11.off m8 (by omega)
   replace O7 := k8 _ _ _ (by decide) O7
   refine h_take 16 rfl (by kernel_rfl) (by kernel_rfl) (by kernel_rfl) (fun w' x_ => xbuild (vs := [.slice q8 n1 cc8, .slice q11 n2 cc11, .slice p8 (n3 + 1) c8_]) (cells := #[.slice q8 n1 cc8, .slice q11 n2 cc11, .slice p8 (n3 + 1) c8_]) rfl (by kernel_rfl)) rfl rfl rfl F ?_
   refine h_ready (rs := [18]) (by kernel_rfl) (by decide) ⟨?_, trivial⟩
   refine hs_storeN (vs := [.slice q8 n1 cc8, .slice q11 n2 cc11, .slice p8 (n3 + 1) c8_]) Tryz.sizeOf79 rfl rfl O7 rfl (by simp) (by simp [Value.oneCell']) F (by omega) rfl rfl ?_
   intro w9 on9 O9
   have hz9 := on9.size
   have E := on9.ext E (by omega)
   replace Q8 := Q8.onlyT O7 (by decide) on9
   replace Q11 := Q11.onlyT O7 (by decide) on9
   replace G8 := G8.onlyT O7 (by decide) on9
   have F := on9.ext F (by omega)
   replace O9 : Own w9 b7 [.slice q8 n1 cc8, .slice q11 n2 cc11, .slice p8 (n3 + 1) c8_] 79 := O9
   refine h_done (by kernel_rfl) ?_
   intro a_ ha_
   exact ⟨(q8, cc8, q11, cc11, p8, c8_, w0_.heap.size, w3.heap.size, w4.heap.size, w5.heap.size, w5.heap.size, b7), ⟨F, ⟨Q8, Q11, G8.wide (by omega) (by omega), O9, by omega⟩⟩, ha_.sub ⟨rfl, rfl, rfl, rfl, trivial⟩⟩
  ·
   refine hs_alloc Tryz.zeroValue79 F rfl rfl rfl ?_
   intro b4 w4 e4 hb4 hz4 O4
   have E := E.trans e4
   replace Q8 := Q8.ext e4
   have F := F.trans e4
   replace O4 : Own w4 b4 [.slice none 0 0, .slice none 0 0, .slice none 0 0] 79 := O4
   refine h_ready (rs := [5, 14]) (by kernel_rfl) (by decide) ⟨?_, ?_, trivial⟩
   rotate_left
   ·
    refine hs_build (len := 1) (vs := [.int .i64 x.S[k]]) (cs := [.int .i64 x.S[k]]) (sz := 1) Tryz.underlying24 inf2 rfl rfl (by decide) (by rfl) (by rfl) (by simp [Value.cells]) rfl F rfl rfl rfl ?_
    intro b5 w5 e5 hb5 hz5 O5
    have E := E.trans e5
    replace Q8 := Q8.ext e5
    replace O4 := O4.ext e5
    have F := F.trans e5
    refine h_ready (rs := [5]) (by kernel_rfl) (by decide) ⟨?_, trivial⟩
    refine hs_call rfl (xcall Tryz.call102 rfl) rfl rfl rfl (l01Own_ok _ _ _ _ _ (H2.ext E) (H2.ext E).nil (by omega)) ?_
    rintro _ w6 ⟨e6, q11, cc11, rfl, Q11⟩
    have z6 := e6.size
    have E := E.trans e6
    replace Q8 := Q8.ext e6
    replace O4 := O4.ext e6
    replace O5 := O5.ext e6
    have F := F.trans e6
    refine ⟨F, ?_⟩
    refine h_ready (rs := [8]) (by kernel_rfl) (by decide) ⟨?_, trivial⟩
    refine hs_call rfl (xcall Tryz.call102 rfl) rfl rfl rfl (l01Own_ok _ _ _ _ _ (H3.ext E) (H3.ext E).nil (by omega)) ?_
    rintro _ w7 ⟨e7, q14, cc14, rfl, Q14⟩
    have z7 := e7.size
    have E := E.trans e7
    replace Q8 := Q8.ext e7
    replace Q11 := Q11.ext e7
    replace O4 := O4.ext e7
    replace O5 := O5.ext e7
    have F := F.trans e7
    refine ⟨F, ?_⟩
    refine h_ready (rs := [15]) (by kernel_rfl) (by decide) ⟨?_, trivial⟩
    refine hs_appT (bytes := 8) (nm := (n3 + 1)) Q14 (by rfl) (by rfl) elem2 (Own.sl1 (y := x.S[k]) O5) (by intro h; cases h) (by intro y hy; rfl) (by intro y hy u hu; rw [List.mem_singleton] at hy; subst hy; revert u; simp [Value.oneCell', i64c]) (by omega) (by omega) (by omega) (by omega) F (by omega) rfl rfl rfl ?_
    intro p8 c8_ w8 m8 k8 G8
    have hz8 := m8.size
    have E := m8.toExt E (by omega)
    have F := m8.toExt F (by omega)
    replace Q8 := Q8.off m8 (by omega)
    replace Q11 := Q11.off m8 (by omega)
    replace O4 := k8 _ _ _ (by decide) O4
    refine h_take 16 rfl (by kernel_rfl) (by kernel_rfl) (by kernel_rfl) (fun w' x_ => xbuild (vs := [.slice q8 n1 cc8, .slice q11 n2 cc11, .slice p8 (n3 + 1) c8_]) (cells := #[.slice q8 n1 cc8, .slice q11 n2 cc11, .slice p8 (n3 + 1) c8_]) rfl (by kernel_rfl)) rfl rfl rfl F ?_
    refine h_ready (rs := [18]) (by kernel_rfl) (by decide) ⟨?_, trivial⟩
    refine hs_storeN (vs := [.slice q8 n1 cc8, .slice q11 n2 cc11, .slice p8 (n3 + 1) c8_]) Tryz.sizeOf79 rfl rfl O4 rfl (by simp) (by simp [Value.oneCell']) F (by omega) rfl rfl ?_
    intro w9 on9 O9
    have hz9 := on9.size
    have E := on9.ext E (by omega)
    replace Q8 := Q8.onlyT O4 (by decide) on9
    replace Q11 := Q11.onlyT O4 (by decide) on9
    replace G8 := G8.onlyT O4 (by decide) on9
    have F := on9.ext F (by omega)
    replace O9 : Own w9 b4 [.slice q8 n1 cc8, .slice q11 n2 cc11, .slice p8 (n3 + 1) c8_] 79 := O9
    refine h_done (by kernel_rfl) ?_
    intro a_ ha_
    exact ⟨(q8, cc8, q11, cc11, p8, c8_, w0_.heap.size, w3.heap.size, w5.heap.size, w6.heap.size, w6.heap.size, b4), ⟨F, ⟨Q8, Q11, G8.wide (by omega) (by omega), O9, by omega⟩⟩, ha_.sub ⟨rfl, rfl, rfl, rfl, trivial⟩⟩
   refine hs_call rfl (xcall Tryz.call102 rfl) rfl rfl rfl (l01Own_ok _ _ _ _ _ (H2.ext E) (H2.ext E).nil (by omega)) ?_
   rintro _ w5 ⟨e5, q11, cc11, rfl, Q11⟩
   have z5 := e5.size
   have E := E.trans e5
   replace Q8 := Q8.ext e5
   replace O4 := O4.ext e5
   have F := F.trans e5
   refine ⟨F, ?_⟩
   refine h_ready (rs := [8, 14]) (by kernel_rfl) (by decide) ⟨?_, ?_, trivial⟩
   ·
    refine hs_call rfl (xcall Tryz.call102 rfl) rfl rfl rfl (l01Own_ok _ _ _ _ _ (H3.ext E) (H3.ext E).nil (by omega)) ?_
    rintro _ w6 ⟨e6, q14, cc14, rfl, Q14⟩
    have z6 := e6.size
    have E := E.trans e6
    replace Q8 := Q8.ext e6
    replace Q11 := Q11.ext e6
    replace O4 := O4.ext e6
    have F := F.trans e6
    refine ⟨F, ?_⟩
    refine h_ready (rs := [14]) (by kernel_rfl) (by decide) ⟨?_, trivial⟩
    refine hs_build (len := 1) (vs := [.int .i64 x.S[k]]) (cs := [.int .i64 x.S[k]]) (sz := 1) Tryz.underlying24 inf2 rfl rfl (by decide) (by rfl) (by rfl) (by simp [Value.cells]) rfl F rfl rfl rfl ?_
    intro b7 w7 e7 hb7 hz7 O7
    have E := E.trans e7
    replace Q8 := Q8.ext e7
    replace Q11 := Q11.ext e7
    replace Q14 := Q14.ext e7
    replace O4 := O4.ext e7
    have F := F.trans e7
    refine h_ready (rs := [15]) (by kernel_rfl) (by decide) ⟨?_, trivial⟩
    refine hs_appT (bytes := 8) (nm := (n3 + 1)) Q14 (by rfl) (by rfl) elem2 (Own.sl1 (y := x.S[k]) O7) (by intro h; cases h) (by intro y hy; rfl) (by intro y hy u hu; rw [List.mem_singleton] at hy; subst hy; revert u; simp [Value.oneCell', i64c]) (by omega) (by omega) (by omega) (by omega) F (by omega) rfl rfl rfl ?_
    intro p8 c8_ w8 m8 k8 G8
    have hz8 := m8.size
    have E := m8.toExt E (by omega)
    have F := m8.toExt F (by omega)
    replace Q8 := Q8.off m8 (by omega)
    replace Q11 := Q11.off m8 (by omega)
    replace O4 := k8 _ _ _ (by decide) O4
    refine h_take 16 rfl (by kernel_rfl) (by kernel_rfl) (by kernel_rfl) (fun w' x_ => xbuild (vs := [.slice q8 n1 cc8, .slice q11 n2 cc11, .slice p8 (n3 + 1) c8_]) (cells := #[.slice q8 n1 cc8, .slice q11 n2 cc11, .slice p8 (n3 + 1) c8_]) rfl (by kernel_rfl)) rfl rfl rfl F ?_
    refine h_ready (rs := [18]) (by kernel_rfl) (by decide) ⟨?_, trivial⟩
    refine hs_storeN (vs := [.slice q8 n1 cc8, .slice q11 n2 cc11, .slice p8 (n3 + 1) c8_]) Tryz.sizeOf79 rfl rfl O4 rfl (by simp) (by simp [Value.oneCell']) F (by omega) rfl rfl ?_
    intro w9 on9 O9
    have hz9 := on9.size
    have E := on9.ext E (by omega)
    replace Q8 := Q8.onlyT O4 (by decide) on9
    replace Q11 := Q11.onlyT O4 (by decide) on9
    replace G8 := G8.onlyT O4 (by decide) on9
    have F := on9.ext F (by omega)
    replace O9 : Own w9 b4 [.slice q8 n1 cc8, .slice q11 n2 cc11, .slice p8 (n3 + 1) c8_] 79 := O9
    refine h_done (by kernel_rfl) ?_
    intro a_ ha_
    exact ⟨(q8, cc8, q11, cc11, p8, c8_, w0_.heap.size, w3.heap.size, w4.heap.size, w5.heap.size, w5.heap.size, b4), ⟨F, ⟨Q8, Q11, G8.wide (by omega) (by omega), O9, by omega⟩⟩, ha_.sub ⟨rfl, rfl, rfl, rfl, trivial⟩⟩
   refine hs_build (len := 1) (vs := [.int .i64 x.S[k]]) (cs := [.int .i64 x.S[k]]) (sz := 1) Tryz.underlying24 inf2 rfl rfl (by decide) (by rfl) (by rfl) (by simp [Value.cells]) rfl F rfl rfl rfl ?_
   intro b6 w6 e6 hb6 hz6 O6
   have E := E.trans e6
   replace Q8 := Q8.ext e6
   replace Q11 := Q11.ext e6
   replace O4 := O4.ext e6
   have F := F.trans e6
   refine h_ready (rs := [8]) (by kernel_rfl) (by decide) ⟨?_, trivial⟩
   refine hs_call rfl (xcall Tryz.call102 rfl) rfl rfl rfl (l01Own_ok _ _ _ _ _ (H3.ext E) (H3.ext E).nil (by omega)) ?_
   rintro _ w7 ⟨e7, q14, cc14, rfl, Q14⟩
   have z7 := e7.size
   have E := E.trans e7
   replace Q8 := Q8.ext e7
   replace Q11 := Q11.ext e7
   replace O4 := O4.ext e7
   replace O6 := O6.ext e7
   have F := F.trans e7
   refine ⟨F, ?_⟩
   refine h_ready (rs := [15]) (by kernel_rfl) (by decide) ⟨?_, trivial⟩
   refine hs_appT (bytes := 8) (nm := (n3 + 1)) Q14 (by rfl) (by rfl) elem2 (Own.sl1 (y := x.S[k]) O6) (by intro h; cases h) (by intro y hy; rfl) (by intro y hy u hu; rw [List.mem_singleton] at hy; subst hy; revert u; simp [Value.oneCell', i64c]) (by omega) (by omega) (by omega) (by omega) F (by omega) rfl rfl rfl ?_
   intro p8 c8_ w8 m8 k8 G8
   have hz8 := m8.size
   have E := m8.toExt E (by omega)
   have F := m8.toExt F (by omega)
   replace Q8 := Q8.off m8 (by omega)
   replace Q11 := Q11.off m8 (by omega)
   replace O4 := k8 _ _ _ (by decide) O4
   refine h_take 16 rfl (by kernel_rfl) (by kernel_rfl) (by kernel_rfl) (fun w' x_ => xbuild (vs := [.slice q8 n1 cc8, .slice q11 n2 cc11, .slice p8 (n3 + 1) c8_]) (cells := #[.slice q8 n1 cc8, .slice q11 n2 cc11, .slice p8 (n3 + 1) c8_]) rfl (by kernel_rfl)) rfl rfl rfl F ?_
   refine h_ready (rs := [18]) (by kernel_rfl) (by decide) ⟨?_, trivial⟩
   refine hs_storeN (vs := [.slice q8 n1 cc8, .slice q11 n2 cc11, .slice p8 (n3 + 1) c8_]) Tryz.sizeOf79 rfl rfl O4 rfl (by simp) (by simp [Value.oneCell']) F (by omega) rfl rfl ?_
   intro w9 on9 O9
   have hz9 := on9.size
   have E := on9.ext E (by omega)
   replace Q8 := Q8.onlyT O4 (by decide) on9
   replace Q11 := Q11.onlyT O4 (by decide) on9
   replace G8 := G8.onlyT O4 (by decide) on9
   have F := on9.ext F (by omega)
   replace O9 : Own w9 b4 [.slice q8 n1 cc8, .slice q11 n2 cc11, .slice p8 (n3 + 1) c8_] 79 := O9
   refine h_done (by kernel_rfl) ?_
   intro a_ ha_
   exact ⟨(q8, cc8, q11, cc11, p8, c8_, w0_.heap.size, w3.heap.size, w4.heap.size, w5.heap.size, w6.heap.size, b4), ⟨F, ⟨Q8, Q11, G8.wide (by omega) (by omega), O9, by omega⟩⟩, ha_.sub ⟨rfl, rfl, rfl, rfl, trivial⟩⟩
  refine hs_call rfl (xcall Tryz.call102 rfl) rfl rfl rfl (l01Own_ok _ _ _ _ _ (H2.ext E) (H2.ext E).nil (by omega)) ?_
  rintro _ w4 ⟨e4, q11, cc11, rfl, Q11⟩
  have z4 := e4.size
  have E := E.trans e4
  replace Q8 := Q8.ext e4
  have F := F.trans e4
  refine ⟨F, ?_⟩
  refine h_ready (rs := [8, 14, 17]) (by kernel_rfl) (by decide) ⟨?_, ?_, ?_, trivial⟩
  rotate_left 2
  ·
   refine hs_alloc Tryz.zeroValue79 F rfl rfl rfl ?_
   intro b5 w5 e5 hb5 hz5 O5
   have E := E.trans e5
   replace Q8 := Q8.ext e5
   replace Q11 := Q11.ext e5
   have F := F.trans e5
   replace O5 : Own w5 b5 [.slice none 0 0, .slice none 0 0, .slice none 0 0] 79 := O5
   refine h_ready (rs := [8, 14]) (by kernel_rfl) (by decide) ⟨?_, ?_, trivial⟩
   ·
    refine hs_call rfl (xcall Tryz.call102 rfl) rfl rfl rfl (l01Own_ok _ _ _ _ _ (H3.ext E) (H3.ext E).nil (by omega)) ?_
    rintro _ w6 ⟨e6, q14, cc14, rfl, Q14⟩
    have z6 := e6.size
    have E := E.trans e6
    replace Q8 := Q8.ext e6
    replace Q11 := Q11.ext e6
    replace O5 := O5.ext e6
    have F := F.trans e6
    refine ⟨F, ?_⟩
    refine h_ready (rs := [14]) (by kernel_rfl) (by decide) ⟨?_, trivial⟩
    refine hs_build (len := 1) (vs := [.int .i64 x.S[k]]) (cs := [.int .i64 x.S[k]]) (sz := 1) Tryz.underlying24 inf2 rfl rfl (by decide) (by rfl) (by rfl) (by simp [Value.cells]) rfl F rfl rfl rfl ?_
    intro b7 w7 e7 hb7 hz7 O7
    have E := E.trans e7
    replace Q8 := Q8.ext e7
    replace Q11 := Q11.ext e7
    replace Q14 := Q14.ext e7
    replace O5 := O5.ext e7
    have F := F.trans e7
    refine h_ready (rs := [15]) (by kernel_rfl) (by decide) ⟨?_, trivial⟩
    refine hs_appT (bytes := 8) (nm := (n3 + 1)) Q14 (by rfl) (by rfl) elem2 (Own.sl1 (y := x.S[k]) O7) (by intro h; cases h) (by intro y hy; rfl) (by intro y hy u hu; rw [List.mem_singleton] at hy; subst hy; revert u; simp [Value.oneCell', i64c]) (by omega) (by omega) (by omega) (by omega) F (by omega) rfl rfl rfl ?_
    intro p8 c8_ w8 m8 k8 G8
    have hz8 := m8.size
    have E := m8.toExt E (by omega)
    have F := m8.toExt F (by omega)
    replace Q8 := Q8.off m8 (by omega)
    replace Q11 := Q11.off m8 (by omega)
    replace O5 := k8 _ _ _ (by decide) O5
    refine h_take 16 rfl (by kernel_rfl) (by kernel_rfl) (by kernel_rfl) (fun w' x_ => xbuild (vs := [.slice q8 n1 cc8, .slice q11 n2 cc11, .slice p8 (n3 + 1) c8_]) (cells := #[.slice q8 n1 cc8, .slice q11 n2 cc11, .slice p8 (n3 + 1) c8_]) rfl (by kernel_rfl)) rfl rfl rfl F ?_
    refine h_ready (rs := [18]) (by kernel_rfl) (by decide) ⟨?_, trivial⟩
    refine hs_storeN (vs := [.slice q8 n1 cc8, .slice q11 n2 cc11, .slice p8 (n3 + 1) c8_]) Tryz.sizeOf79 rfl rfl O5 rfl (by simp) (by simp [Value.oneCell']) F (by omega) rfl rfl ?_
    intro w9 on9 O9
    have hz9 := on9.size
    have E := on9.ext E (by omega)
    replace Q8 := Q8.onlyT O5 (by decide) on9
    replace Q11 := Q11.onlyT O5 (by decide) on9
    replace G8 := G8.onlyT O5 (by decide) on9
    have F := on9.ext F (by omega)
    replace O9 : Own w9 b5 [.slice q8 n1 cc8, .slice q11 n2 cc11, .slice p8 (n3 + 1) c8_] 79 := O9
    refine h_done (by kernel_rfl) ?_
    intro a_ ha_
    exact ⟨(q8, cc8, q11, cc11, p8, c8_, w0_.heap.size, w3.heap.size, w3.heap.size, w4.heap.size, w5.heap.size, b5), ⟨F, ⟨Q8, Q11, G8.wide (by omega) (by omega), O9, by omega⟩⟩, ha_.sub ⟨rfl, rfl, rfl, rfl, trivial⟩⟩
   refine hs_build (len := 1) (vs := [.int .i64 x.S[k]]) (cs := [.int .i64 x.S[k]]) (sz := 1) Tryz.underlying24 inf2 rfl rfl (by decide) (by rfl) (by rfl) (by simp [Value.cells]) rfl F rfl rfl rfl ?_
   intro b6 w6 e6 hb6 hz6 O6
   have E := E.trans e6
   replace Q8 := Q8.ext e6
   replace Q11 := Q11.ext e6
   replace O5 := O5.ext e6
   have F := F.trans e6
   refine h_ready (rs := [8]) (by kernel_rfl) (by decide) ⟨?_, trivial⟩
   refine hs_call rfl (xcall Tryz.call102 rfl) rfl rfl rfl (l01Own_ok _ _ _ _ _ (H3.ext E) (H3.ext E).nil (by omega)) ?_
   rintro _ w7 ⟨e7, q14, cc14, rfl, Q14⟩
   have z7 := e7.size
   have E := E.trans e7
   replace Q8 := Q8.ext e7
   replace Q11 := Q11.ext e7
   replace O5 := O5.ext e7
   replace O6 := O6.ext e7
   have F := F.trans e7
   refine ⟨F, ?_⟩
   refine h_ready (rs := [15]) (by kernel_rfl) (by decide) ⟨?_, trivial⟩
   refine hs_appT (bytes := 8) (nm := (n3 + 1)) Q14 (by rfl) (by rfl) elem2 (Own.sl1 (y := x.S[k]) O6) (by intro h; cases h) (by intro y hy; rfl) (by intro y hy u hu; rw [List.mem_singleton] at hy; subst hy; revert u; simp [Value.oneCell', i64c]) (by omega) (by omega) (by omega) (by omega) F (by omega) rfl rfl rfl ?_
   intro p8 c8_ w8 m8 k8 G8
   have hz8 := m8.size
   have E := m8.toExt E (by omega)
   have F := m8.toExt F (by omega)
   replace Q8 := Q8.off m8 (by omega)
   replace Q11 := Q11.off m8 (by omega)
   replace O5 := k8 _ _ _ (by decide) O5
   refine h_take 16 rfl (by kernel_rfl) (by kernel_rfl) (by kernel_rfl) (fun w' x_ => xbuild (vs := [.slice q8 n1 cc8, .slice q11 n2 cc11, .slice p8 (n3 + 1) c8_]) (cells := #[.slice q8 n1 cc8, .slice q11 n2 cc11, .slice p8 (n3 + 1) c8_]) rfl (by kernel_rfl)) rfl rfl rfl F ?_
   refine h_ready (rs := [18]) (by kernel_rfl) (by decide) ⟨?_, trivial⟩
   refine hs_storeN (vs := [.slice q8 n1 cc8, .slice q11 n2 cc11, .slice p8 (n3 + 1) c8_]) Tryz.sizeOf79 rfl rfl O5 rfl (by simp) (by simp [Value.oneCell']) F (by omega) rfl rfl ?_
   intro w9 on9 O9
   have hz9 := on9.size
   have E := on9.ext E (by omega)
   replace Q8 := Q8.onlyT O5 (by decide) on9
   replace Q11 := Q11.onlyT O5 (by decide) on9
   replace G8 := G8.onlyT O5 (by decide) on9
   have F := on9.ext F (by omega)
   replace O9 : Own w9 b5 [.slice q8 n1 cc8, .slice q11 n2 cc11, .slice p8 (n3 + 1) c8_] 79 := O9
   refine h_done (by kernel_rfl) ?_
   intro a_ ha_
   exact ⟨(q8, cc8, q11, cc11, p8, c8_, w0_.heap.size, w3.heap.size, w3.heap.size, w4.heap.size, w6.heap.size, b5), ⟨F, ⟨Q8, Q11, G8.wide (by omega) (by omega), O9, by omega⟩⟩, ha_.sub ⟨rfl, rfl, rfl, rfl, trivial⟩⟩
  ·
   refine hs_call rfl (xcall Tryz.call102 rfl) rfl rfl rfl (l01Own_ok _ _ _ _ _ (H3.ext E) (H3.ext E).nil (by omega)) ?_
   rintro _ w5 ⟨e5, q14, cc14, rfl, Q14⟩
   have z5 := e5.size
   have E := E.trans e5
   replace Q8 := Q8.ext e5
   replace Q11 := Q11.ext e5
   have F := F.trans e5
   refine ⟨F, ?_⟩
   refine h_ready (rs := [14, 17]) (by kernel_rfl) (by decide) ⟨?_, ?_, trivial⟩
   rotate_left
   ·
    refine hs_alloc Tryz.zeroValue79 F rfl rfl rfl ?_
    intro b6 w6 e6 hb6 hz6 O6
    have E := E.trans e6
    replace Q8 := Q8.ext e6
    replace Q11 := Q11.ext e6
    replace Q14 := Q14.ext e6
    have F := F.trans e6
    replace O6 : Own w6 b6 [.slice none 0 0, .slice none 0 0, .slice none 0 0] 79 := O6
    refine h_ready (rs := [14]) (by kernel_rfl) (by decide) ⟨?_, trivial⟩
    refine hs_build (len := 1) (vs := [.int .i64 x.S[k]]) (cs := [.int .i64 x.S[k]]) (sz := 1) Tryz.underlying24 inf2 rfl rfl (by decide) (by rfl) (by rfl) (by simp [Value.cells]) rfl F rfl rfl rfl ?_
    intro b7 w7 e7 hb7 hz7 O7
    have E := E.trans e7
    replace Q8 := Q8.ext e7
    replace Q11 := Q11.ext e7
    replace Q14 := Q14.ext e7
    replace O6 := O6.ext e7
    have F := F.trans e7
    refine h_ready (rs := [15]) (by kernel_rfl) (by decide) ⟨?_, trivial⟩
    refine hs_appT (bytes := 8) (nm := (n3 + 1)) Q14 (by rfl) (by rfl) elem2 (Own.sl1 (y := x.S[k]) O7) (by intro h; cases h) (by intro y hy; rfl) (by intro y hy u hu; rw [List.mem_singleton] at hy; subst hy; revert u; simp [Value.oneCell', i64c]) (by omega) (by omega) (by omega) (by omega) F (by omega) rfl rfl rfl ?_
    intro p8 c8_ w8 m8 k8 G8
    have hz8 := m8.size
    have E := m8.toExt E (by omega)
    have F := m8.toExt F (by omega)
    replace Q8 := Q8.off m8 (by omega)
    replace Q11 := Q11.off m8 (by omega)
    replace O6 := k8 _ _ _ (by decide) O6
    refine h_take 16 rfl (by kernel_rfl) (by kernel_rfl) (by kernel_rfl) (fun w' x_ => xbuild (vs := [.slice q8 n1 cc8, .slice q11 n2 cc11, .slice p8 (n3 + 1) c8_]) (cells := #[.slice q8 n1 cc8, .slice q11 n2 cc11, .slice p8 (n3 + 1) c8_]) rfl (by kernel_rfl)) rfl rfl rfl F ?_
    refine h_ready (rs := [18]) (by kernel_rfl) (by decide) ⟨?_, trivial⟩
    refine hs_storeN (vs := [.slice q8 n1 cc8, .slice q11 n2 cc11, .slice p8 (n3 + 1) c8_]) Tryz.sizeOf79 rfl rfl O6 rfl (by simp) (by simp [Value.oneCell']) F (by omega) rfl rfl ?_
    intro w9 on9 O9
    have hz9 := on9.size
    have E := on9.ext E (by omega)
    replace Q8 := Q8.onlyT O6 (by decide) on9
    replace Q11 := Q11.onlyT O6 (by decide) on9
    replace G8 := G8.onlyT O6 (by decide) on9
    have F := on9.ext F (by omega)
    replace O9 : Own w9 b6 [.slice q8 n1 cc8, .slice q11 n2 cc11, .slice p8 (n3 + 1) c8_] 79 := O9
    refine h_done (by kernel_rfl) ?_
    intro a_ ha_
    exact ⟨(q8, cc8, q11, cc11, p8, c8_, w0_.heap.size, w3.heap.size, w3.heap.size, w4.heap.size, w4.heap.size, b6), ⟨F, ⟨Q8, Q11, G8.wide (by omega) (by omega), O9, by omega⟩⟩, ha_.sub ⟨rfl, rfl, rfl, rfl, trivial⟩⟩
   refine hs_build (len := 1) (vs := [.int .i64 x.S[k]]) (cs := [.int .i64 x.S[k]]) (sz := 1) Tryz.underlying24 inf2 rfl rfl (by decide) (by rfl) (by rfl) (by simp [Value.cells]) rfl F rfl rfl rfl ?_
   intro b6 w6 e6 hb6 hz6 O6
   have E := E.trans e6
   replace Q8 := Q8.ext e6
   replace Q11 := Q11.ext e6
   replace Q14 := Q14.ext e6
   have F := F.trans e6
   refine h_ready (rs := [15, 17]) (by kernel_rfl) (by decide) ⟨?_, ?_, trivial⟩
   ·
    refine hs_appT (bytes := 8) (nm := (n3 + 1)) Q14 (by rfl) (by rfl) elem2 (Own.sl1 (y := x.S[k]) O6) (by intro h; cases h) (by intro y hy; rfl) (by intro y hy u hu; rw [List.mem_singleton] at hy; subst hy; revert u; simp [Value.oneCell', i64c]) (by omega) (by omega) (by omega) (by omega) F (by omega) rfl rfl rfl ?_
    intro p7 c7_ w7 m7 k7 G7
    have hz7 := m7.size
    have E := m7.toExt E (by omega)
    have F := m7.toExt F (by omega)
    replace Q8 := Q8.off m7 (by omega)
    replace Q11 := Q11.off m7 (by omega)
    refine h_take 16 rfl (by kernel_rfl) (by kernel_rfl) (by kernel_rfl) (fun w' x_ => xbuild (vs := [.slice q8 n1 cc8, .slice q11 n2 cc11, .slice p7 (n3 + 1) c7_]) (cells := #[.slice q8 n1 cc8, .slice q11 n2 cc11, .slice p7 (n3 + 1) c7_]) rfl (by kernel_rfl)) rfl rfl rfl F ?_
    refine h_ready (rs := [17]) (by kernel_rfl) (by decide) ⟨?_, trivial⟩
    refine hs_alloc Tryz.zeroValue79 F rfl rfl rfl ?_
    intro b8 w8 e8 hb8 hz8 O8
    have E := E.trans e8
    replace Q8 := Q8.ext e8
    replace Q11 := Q11.ext e8
    replace G7 := G7.ext e8
    have F := F.trans e8
    replace O8 : Own w8 b8 [.slice none 0 0, .slice none 0 0, .slice none 0 0] 79 := O8
    refine h_ready (rs := [18]) (by kernel_rfl) (by decide) ⟨?_, trivial⟩
    refine hs_storeN (vs := [.slice q8 n1 cc8, .slice q11 n2 cc11, .slice p7 (n3 + 1) c7_]) Tryz.sizeOf79 rfl rfl O8 rfl (by simp) (by simp [Value.oneCell']) F (by omega) rfl rfl ?_
    intro w9 on9 O9
    have hz9 := on9.size
    have E := on9.ext E (by omega)
    replace Q8 := Q8.onlyT O8 (by decide) on9
    replace Q11 := Q11.onlyT O8 (by decide) on9
    replace G7 := G7.onlyT O8 (by decide) on9
    have F := on9.ext F (by omega)
    replace O9 : Own w9 b8 [.slice q8 n1 cc8, .slice q11 n2 cc11, .slice p7 (n3 + 1) c7_] 79 := O9
    refine h_done (by kernel_rfl) ?_
    intro a_ ha_
    exact ⟨(q8, cc8, q11, cc11, p7, c7_, w0_.heap.size, w3.heap.size, w3.heap.size, w4.heap.size, w4.heap.size, b8), ⟨F, ⟨Q8, Q11, G7.wide (by omega) (by omega), O9, by omega⟩⟩, ha_.sub ⟨rfl, rfl, rfl, rfl, trivial⟩⟩
   refine hs_alloc Tryz.zeroValue79 F rfl rfl rfl ?_
   intro b7 w7 e7 hb7 hz7 O7
   have E := E.trans e7
   replace Q8 := Q8.ext e7
   replace Q11 := Q11.ext e7
   replace Q14 := Q14.ext e7
   replace O6 := O6.ext e7
   have F := F.trans e7
   replace O7 : Own w7 b7 [.slice none 0 0, .slice none 0 0, .slice none 0 0] 79 := O7
   refine h_ready (rs := [15]) (by kernel_rfl) (by decide) ⟨?_, trivial⟩
   refine hs_appT (bytes := 8) (nm := (n3 + 1)) Q14 (by rfl) (by rfl) elem2 (Own.sl1 (y := x.S[k]) O6) (by intro h; cases h) (by intro y hy; rfl) (by intro y hy u hu; rw [List.mem_singleton] at hy; subst hy; revert u; simp [Value.oneCell', i64c]) (by omega) (by omega) (by omega) (by omega) F (by omega) rfl rfl rfl ?_
   intro p8 c8_ w8 m8 k8 G8
   have hz8 := m8.size
   have E := m8.toExt E (by omega)
   have F := m8.toExt F (by omega)
   replace Q8 := Q8.off m8 (by omega)
   replace Q11 := Q11.off m8 (by omega)
   replace O7 := k8 _ _ _ (by decide) O7
   refine h_take 16 rfl (by kernel_rfl) (by kernel_rfl) (by kernel_rfl) (fun w' x_ => xbuild (vs := [.slice q8 n1 cc8, .slice q11 n2 cc11, .slice p8 (n3 + 1) c8_]) (cells := #[.slice q8 n1 cc8, .slice q11 n2 cc11, .slice p8 (n3 + 1) c8_]) rfl (by kernel_rfl)) rfl rfl rfl F ?_
   refine h_ready (rs := [18]) (by kernel_rfl) (by decide) ⟨?_, trivial⟩
   refine hs_storeN (vs := [.slice q8 n1 cc8, .slice q11 n2 cc11, .slice p8 (n3 + 1) c8_]) Tryz.sizeOf79 rfl rfl O7 rfl (by simp) (by simp [Value.oneCell']) F (by omega) rfl rfl ?_
   intro w9 on9 O9
   have hz9 := on9.size
   have E := on9.ext E (by omega)
   replace Q8 := Q8.onlyT O7 (by decide) on9
   replace Q11 := Q11.onlyT O7 (by decide) on9
   replace G8 := G8.onlyT O7 (by decide) on9
   have F := on9.ext F (by omega)
   replace O9 : Own w9 b7 [.slice q8 n1 cc8, .slice q11 n2 cc11, .slice p8 (n3 + 1) c8_] 79 := O9
   refine h_done (by kernel_rfl) ?_
   intro a_ ha_
   exact ⟨(q8, cc8, q11, cc11, p8, c8_, w0_.heap.size, w3.heap.size, w3.heap.size, w4.heap.size, w4.heap.size, b7), ⟨F, ⟨Q8, Q11, G8.wide (by omega) (by omega), O9, by omega⟩⟩, ha_.sub ⟨rfl, rfl, rfl, rfl, trivial⟩⟩
  refine hs_build (len := 1) (vs := [.int .i64 x.S[k]]) (cs := [.int .i64 x.S[k]]) (sz := 1) Tryz.underlying24 inf2 rfl rfl (by decide) (by rfl) (by rfl) (by simp [Value.cells]) rfl F rfl rfl rfl ?_
  intro b5 w5 e5 hb5 hz5 O5
  have E := E.trans e5
  replace Q8 := Q8.ext e5
  replace Q11 := Q11.ext e5
  have F := F.trans e5
  refine h_ready (rs := [8, 17]) (by kernel_rfl) (by decide) ⟨?_, ?_, trivial⟩
  rotate_left
  ·
   refine hs_alloc Tryz.zeroValue79 F rfl rfl rfl ?_
   intro b6 w6 e6 hb6 hz6 O6
   have E := E.trans e6
   replace Q8 := Q8.ext e6
   replace Q11 := Q11.ext e6
   replace O5 := O5.ext e6
   have F := F.trans e6
   replace O6 : Own w6 b6 [.slice none 0 0, .slice none 0 0, .slice none 0 0] 79 := O6
   refine h_ready (rs := [8]) (by kernel_rfl) (by decide) ⟨?_, trivial⟩
   refine hs_call rfl (xcall Tryz.call102 rfl) rfl rfl rfl (l01Own_ok _ _ _ _ _ (H3.ext E) (H3.ext E).nil (by omega)) ?_
   rintro _ w7 ⟨e7, q14, cc14, rfl, Q14⟩
   have z7 := e7.size
   have E := E.trans e7
   replace Q8 := Q8.ext e7
   replace Q11 := Q11.ext e7
   replace O5 := O5.ext e7
   replace O6 := O6.ext e7
   have F := F.trans e7
   refine ⟨F, ?_⟩
   refine h_ready (rs := [15]) (by kernel_rfl) (by decide) ⟨?_, trivial⟩
   refine hs_appT (bytes := 8) (nm := (n3 + 1)) Q14 (by rfl) (by rfl) elem2 (Own.sl1 (y := x.S[k]) O5) (by intro h; cases h) (by intro y hy; rfl) (by intro y hy u hu; rw [List.mem_singleton] at hy; subst hy; revert u; simp [Value.oneCell', i64c]) (by omega) (by omega) (by omega) (by omega) F (by omega) rfl rfl rfl ?_
   intro p8 c8_ w8 m8 k8 G8
   have hz8 := m8.size
   have E := m8.toExt E (by omega)
   have F := m8.toExt F (by omega)
   replace Q8 := Q8.off m8 (by omega)
   replace Q11 := Q11.off m8 (by omega)
   replace O6 := k8 _ _ _ (by decide) O6
   refine h_take 16 rfl (by kernel_rfl) (by kernel_rfl) (by kernel_rfl) (fun w' x_ => xbuild (vs := [.slice q8 n1 cc8, .slice q11 n2 cc11, .slice p8 (n3 + 1) c8_]) (cells := #[.slice q8 n1 cc8, .slice q11 n2 cc11, .slice p8 (n3 + 1) c8_]) rfl (by kernel_rfl)) rfl rfl rfl F ?_
   refine h_ready (rs := [18]) (by kernel_rfl) (by decide) ⟨?_, trivial⟩
   refine hs_storeN (vs := [.slice q8 n1 cc8, .slice q11 n2 cc11, .slice p8 (n3 + 1) c8_]) Tryz.sizeOf79 rfl rfl O6 rfl (by simp) (by simp [Value.oneCell']) F (by omega) rfl rfl ?_
   intro w9 on9 O9
   have hz9 := on9.size
   have E := on9.ext E (by omega)
   replace Q8 := Q8.onlyT O6 (by decide) on9
   replace Q11 := Q11.onlyT O6 (by decide) on9
   replace G8 := G8.onlyT O6 (by decide) on9
   have F := on9.ext F (by omega)
   replace O9 : Own w9 b6 [.slice q8 n1 cc8, .slice q11 n2 cc11, .slice p8 (n3 + 1) c8_] 79 := O9
   refine h_done (by kernel_rfl) ?_
   intro a_ ha_
   exact ⟨(q8, cc8, q11, cc11, p8, c8_, w0_.heap.size, w3.heap.size, w3.heap.size, w4.heap.size, w6.heap.size, b6), ⟨F, ⟨Q8, Q11, G8.wide (by omega) (by omega), O9, by omega⟩⟩, ha_.sub ⟨rfl, rfl, rfl, rfl, trivial⟩⟩
  refine hs_call rfl (xcall Tryz.call102 rfl) rfl rfl rfl (l01Own_ok _ _ _ _ _ (H3.ext E) (H3.ext E).nil (by omega)) ?_
  rintro _ w6 ⟨e6, q14, cc14, rfl, Q14⟩
  have z6 := e6.size
  have E := E.trans e6
  replace Q8 := Q8.ext e6
  replace Q11 := Q11.ext e6
  replace O5 := O5.ext e6
  have F := F.trans e6
  refine ⟨F, ?_⟩
  refine h_ready (rs := [15, 17]) (by kernel_rfl) (by decide) ⟨?_, ?_, trivial⟩
  ·
   refine hs_appT (bytes := 8) (nm := (n3 + 1)) Q14 (by rfl) (by rfl) elem2 (Own.sl1 (y := x.S[k]) O5) (by intro h; cases h) (by intro y hy; rfl) (by intro y hy u hu; rw [List.mem_singleton] at hy; subst hy; revert u; simp [Value.oneCell', i64c]) (by omega) (by omega) (by omega) (by omega) F (by omega) rfl rfl rfl ?_
   intro p7 c7_ w7 m7 k7 G7
   have hz7 := m7.size
   have E := m7.toExt E (by omega)
   have F := m7.toExt F (by omega)
   replace Q8 := Q8.off m7 (by omega)
   replace Q11 := Q11.off m7 (by omega)
   refine h_take 16 rfl (by kernel_rfl) (by kernel_rfl) (by kernel_rfl) (fun w' x_ => xbuild (vs := [.slice q8 n1 cc8, .slice q11 n2 cc11, .slice p7 (n3 + 1) c7_]) (cells := #[.slice q8 n1 cc8, .slice q11 n2 cc11, .slice p7 (n3 + 1) c7_]) rfl (by kernel_rfl)) rfl rfl rfl F ?_
   refine h_ready (rs := [17]) (by kernel_rfl) (by decide) ⟨?_, trivial⟩
   refine hs_alloc Tryz.zeroValue79 F rfl rfl rfl ?_
   intro b8 w8 e8 hb8 hz8 O8
   have E := E.trans e8
   replace Q8 := Q8.ext e8
   replace Q11 := Q11.ext e8
   replace G7 := G7.ext e8
   have F := F.trans e8
   replace O8 : Own w8 b8 [.slice none 0 0, .slice none 0 0, .slice none 0 0] 79 := O8
   refine h_ready (rs := [18]) (by kernel_rfl) (by decide) ⟨?_, trivial⟩
   refine hs_storeN (vs := [.slice q8 n1 cc8, .slice q11 n2 cc11, .slice p7 (n3 + 1) c7_]) Tryz.sizeOf79 rfl rfl O8 rfl (by simp) (by simp [Value.oneCell']) F (by omega) rfl rfl ?_
   intro w9 on9 O9
   have hz9 := on9.size
   have E := on9.ext E (by omega)
   replace Q8 := Q8.onlyT O8 (by decide) on9
   replace Q11 := Q11.onlyT O8 (by decide) on9
   replace G7 := G7.onlyT O8 (by decide) on9
   have F := on9.ext F (by omega)
   replace O9 : Own w9 b8 [.slice q8 n1 cc8, .slice q11 n2 cc11, .slice p7 (n3 + 1) c7_] 79 := O9
   refine h_done (by kernel_rfl) ?_
   intro a_ ha_
   exact ⟨(q8, cc8, q11, cc11, p7, c7_, w0_.heap.size, w3.heap.size, w3.heap.size, w4.heap.size, w5.heap.size, b8), ⟨F, ⟨Q8, Q11, G7.wide (by omega) (by omega), O9, by omega⟩⟩, ha_.sub ⟨rfl, rfl, rfl, rfl, trivial⟩⟩
  refine hs_alloc Tryz.zeroValue79 F rfl rfl rfl ?_
  intro b7 w7 e7 hb7 hz7 O7
  have E := E.trans e7
  replace Q8 := Q8.ext e7
  replace Q11 := Q11.ext e7
  replace Q14 := Q14.ext e7
  replace O5 := O5.ext e7
  have F := F.trans e7
  replace O7 : Own w7 b7 [.slice none 0 0, .slice none 0 0, .slice none 0 0] 79 := O7
  refine h_ready (rs := [15]) (by kernel_rfl) (by decide) ⟨?_, trivial⟩
  refine hs_appT (bytes := 8) (nm := (n3 + 1)) Q14 (by rfl) (by rfl) elem2 (Own.sl1 (y := x.S[k]) O5) (by intro h; cases h) (by intro y hy; rfl) (by intro y hy u hu; rw [List.mem_singleton] at hy; subst hy; revert u; simp [Value.oneCell', i64c]) (by omega) (by omega) (by omega) (by omega) F (by omega) rfl rfl rfl ?_
  intro p8 c8_ w8 m8 k8 G8
  have hz8 := m8.size
  have E := m8.toExt E (by omega)
  have F := m8.toExt F (by omega)
  replace Q8 := Q8.off m8 (by omega)
  replace Q11 := Q11.off m8 (by omega)
  replace O7 := k8 _ _ _ (by decide) O7
  refine h_take 16 rfl (by kernel_rfl) (by kernel_rfl) (by kernel_rfl) (fun w' x_ => xbuild (vs := [.slice q8 n1 cc8, .slice q11 n2 cc11, .slice p8 (n3 + 1) c8_]) (cells := #[.slice q8 n1 cc8, .slice q11 n2 cc11, .slice p8 (n3 + 1) c8_]) rfl (by kernel_rfl)) rfl rfl rfl F ?_
  refine h_ready (rs := [18]) (by kernel_rfl) (by decide) ⟨?_, trivial⟩
  refine hs_storeN (vs := [.slice q8 n1 cc8, .slice q11 n2 cc11, .slice p8 (n3 + 1) c8_]) Tryz.sizeOf79 rfl rfl O7 rfl (by simp) (by simp [Value.oneCell']) F (by omega) rfl rfl ?_
  intro w9 on9 O9
  have hz9 := on9.size
  have E := on9.ext E (by omega)
  replace Q8 := Q8.onlyT O7 (by decide) on9
  replace Q11 := Q11.onlyT O7 (by decide) on9
  replace G8 := G8.onlyT O7 (by decide) on9
  have F := on9.ext F (by omega)
  replace O9 : Own w9 b7 [.slice q8 n1 cc8, .slice q11 n2 cc11, .slice p8 (n3 + 1) c8_] 79 := O9
  refine h_done (by kernel_rfl) ?_
  intro a_ ha_
  exact ⟨(q8, cc8, q11, cc11, p8, c8_, w0_.heap.size, w3.heap.size, w3.heap.size, w4.heap.size, w5.heap.size, b7), ⟨F, ⟨Q8, Q11, G8.wide (by omega) (by omega), O9, by omega⟩⟩, ha_.sub ⟨rfl, rfl, rfl, rfl, trivial⟩⟩
 intro x_
 obtain ⟨q8, cc8, q11, cc11, q21, c21, a1, k1, a2, k2, a3, bx⟩ := x_
 rintro w3 ⟨e3, Q8, Q11, G21, OX, hr⟩
 have z3 := e3.size
 have E := E.trans e3
 replace O1 := O1.ext e3
 replace O2 := O2.ext e3
 have lOX := OX.lt
 refine sr_ ?_
 refine oz_ (xfieldAddr fo79f0 rfl) rfl rfl ?_
 refine oz_ (v := .slice q8 n1 cc8) (xload1 Tryz.isAgg24 rfl (OX.cells) rfl) rfl rfl ?_
 refine vm_ rfl rfl rfl ?_
 have h26 := (Q8.sl).at (i := k) (by omega)
 refine oz_ (xindexN (i := k) Tryz.underlying24 Tryz.sizeOf2 rfl rfl rfl ((Q8.sl).p (i := k) (by omega)) (by have := (Q8.sl).len; omega)) rfl rfl ?_
 refine ostoreOw1 (i := k) (y := (0)) Tryz.sizeOf2 Q8 (by omega) rfl rfl rfl rfl rfl ?_
 intro w4 m4 g4
 have z4 := m4.size
 have E := m4.toExt E (by omega)
 replace Q11 := Q11.off m4 (by omega)
 replace G21 := G21.off m4 (by omega)
 try replace O1 := m4.own O1 (by omega)
 try replace O2 := m4.own O2 (by omega)
 try replace OX := m4.own OX (by omega)
 replace Q8 := g4
 refine ops_nil ?_
 refine run_seq ?_
 refine sr_ ?_
 refine oz_ (xfieldAddr fo79f1 rfl) rfl rfl ?_
 refine oz_ (v := .slice u2 n2 v2) (xload1 Tryz.isAgg24 rfl (O1.cells) rfl) rfl rfl ?_
 refine oz_ (xlen Tryz.underlying24 rfl) rfl rfl ?_
 refine oz_ (xgtr rfl rfl _ rfl) rfl rfl ?_
 refine ods (fun c30 => ?_) (fun c30 => ?_)
 rotate_left
 ·
  refine cf_ rfl ?_
  refine sr_ ?_
  refine oz_ (v := .agg #[.slice q8 n1 cc8, .slice q11 n2 cc11, .slice q21 (n3 + 1) c21]) (xloadN Tryz.isAgg79 Tryz.sizeOf79 rfl (OX.cells) rfl) rfl rfl ?_
  refine ostoreN (vs := _) Tryz.sizeOf79 rfl rfl O2 rfl (by simp) (by simp [Value.oneCell']) rfl ?_
  intro w5 on5 O5
  have hz5 := on5.size
  have E := on5.ext E (by omega)
  replace Q8 := Q8.onlyT O2 (by decide) on5
  replace Q11 := Q11.onlyT O2 (by decide) on5
  replace G21 := G21.onlyT O2 (by decide) on5
  replace O5 : Own w5 b2 [.slice q8 n1 cc8, .slice q11 n2 cc11, .slice q21 (n3 + 1) c21] 79 := O5
  refine ops_nil ?_
  refine run_ret Tryz.func135 (resc1 rfl rfl (run_loadVar_cells Tryz.isAgg79 Tryz.sizeOf79 O5.cells rfl)) ?_
  have he := emp_n hk (by omega)
  exact ⟨_, rfl, E, _, _, _, _, _, _, _, _, _, rfl, by rw [he]; exact (Q8.slF (by omega) (by omega)), by rw [he]; exact (Q11.slF (by omega) (by omega)), by rw [he]; exact (G21.slF (by omega) (by omega))⟩
 refine ct_ rfl ?_
 refine run_seq ?_
 refine run_tail 8 (by kernel_rfl) (by kernel_rfl) ?_
 intro w5 e5
 have z5 := e5.size
 have E := E.trans e5
 replace Q8 := Q8.ext e5
 replace G21 := G21.ext e5
 replace O1 := O1.ext e5
 replace O2 := O2.ext e5
 replace OX := OX.ext e5
 refine stv (xfieldAddr fo79f0 rfl) rfl rfl rfl ?_
 refine stv (v := .slice q8 n1 cc8) (xload1 Tryz.isAgg24 rfl (OX.cells) rfl) rfl rfl rfl ?_
 refine stv (xmove rfl) rfl rfl rfl ?_
 refine stv (xfieldAddr fo79f1 rfl) rfl rfl rfl ?_
 refine stv (v := .slice u2 n2 v2) (xload1 Tryz.isAgg24 rfl (O1.cells) rfl) rfl rfl rfl ?_
 have h36 := (H2.ext E).at (i := 0) (by omega)
 refine stv (xindexN (i := 0) Tryz.underlying24 Tryz.sizeOf2 rfl rfl rfl ((H2.ext E).p (i := 0) (by omega)) (by have := (H2.ext E).len; omega)) rfl rfl rfl ?_
 refine stv (v := .int .i64 x.W[0]) (xloadz Tryz.isAgg2 rfl (h36) rfl) rfl rfl rfl ?_
 have lS38 := Q8.len
 have h38 := (Q8.sl).at (i := k) (by omega)
 refine stv (xindexN (i := k) Tryz.underlying24 Tryz.sizeOf2 rfl rfl rfl ((Q8.sl).p (i := k) (by omega)) (by have := (Q8.sl).len; omega)) rfl rfl rfl ?_
 refine st_storeOw1 (i := k) (y := (x.W[0])) Tryz.sizeOf2 Q8 (by omega) rfl rfl rfl rfl rfl ?_
 intro w6 m6 g6
 have z6 := m6.size
 have E := m6.toExt E (by omega)
 replace G21 := G21.off m6 (by omega)
 try replace O1 := m6.own O1 (by omega)
 try replace O2 := m6.own O2 (by omega)
 try replace OX := m6.own OX (by omega)
 replace Q8 := g6
 refine run_region ?_
 refine oz_ (xfieldAddr fo79f1 rfl) rfl rfl ?_
 refine oz_ (v := .slice u2 n2 v2) (xload1 Tryz.isAgg24 rfl (O1.cells) rfl) rfl rfl ?_
 refine oz_ (xslice_l (k := 1) Tryz.underlying24 Tryz.sizeOf2 rfl rfl (by omega) (by omega)) rfl rfl ?_
 refine oc (xcall Tryz.call102 rfl) rfl rfl rfl (l01Own_ok _ _ _ _ _ ((H2.ext E).drop (k := 1) (by omega)) ((H2.ext E).drop (k := 1) (by omega)).nil (by omega)) ?_
 rintro _ w7 ⟨e7, q42, cc42, rfl, Q42⟩
 have z7 := e7.size
 have E := E.trans e7
 replace Q8 := Q8.ext e7
 replace G21 := G21.ext e7
 replace O2 := O2.ext e7
 replace OX := OX.ext e7
 refine oz_ (xfieldAddr fo79f1 rfl) rfl rfl ?_
 refine ostore1 Tryz.sizeOf24 rfl rfl OX (by simp) rfl rfl ?_
 intro w8 on8 O8
 have hz8 := on8.size
 have E := on8.ext E (by omega)
 replace Q8 := Q8.onlyT OX (by decide) on8
 replace G21 := G21.onlyT OX (by decide) on8
 replace Q42 := Q42.onlyT OX (by decide) on8
 replace O2 := on8.own O2 (by omega)
 replace O8 : Own w8 bx [.slice q8 n1 cc8, .slice q42 (n2 - 1) cc42, .slice q21 (n3 + 1) c21] 79 := O8
 refine ops_nil ?_
 refine sr_ ?_
 refine oz_ (v := .agg #[.slice q8 n1 cc8, .slice q42 (n2 - 1) cc42, .slice q21 (n3 + 1) c21]) (xloadN Tryz.isAgg79 Tryz.sizeOf79 rfl (O8.cells) rfl) rfl rfl ?_
 refine ostoreN (vs := _) Tryz.sizeOf79 rfl rfl O2 rfl (by simp) (by simp [Value.oneCell']) rfl ?_
 intro w9 on9 O9
 have hz9 := on9.size
 have E := on9.ext E (by omega)
 replace Q8 := Q8.onlyT O2 (by decide) on9
 replace G21 := G21.onlyT O2 (by decide) on9
 replace Q42 := Q42.onlyT O2 (by decide) on9
 replace O9 : Own w9 b2 [.slice q8 n1 cc8, .slice q42 (n2 - 1) cc42, .slice q21 (n3 + 1) c21] 79 := O9
 refine ops_nil ?_
 refine run_ret Tryz.func135 (resc1 rfl rfl (run_loadVar_cells Tryz.isAgg79 Tryz.sizeOf79 O9.cells rfl)) ?_
 have he := emp_s hk (by omega)
 exact ⟨_, rfl, E, _, _, _, _, _, _, _, _, _, rfl, by rw [he]; exact (Q8.slF (by omega) (by omega)), by rw [he]; exact (Q42.slF (by omega) (by omega)), by rw [he]; exact (G21.slF (by omega) (by omega))⟩
end Go.Proofs.YtchblgaklknkcaaGreat
