/-
  Juries of records: the walks. No condition beyond those written in each theorem.
-/
import Derived.Test.YtchblgaklknkcaaGreatRep12
namespace Go.Proofs.YtchblgaklknkcaaGreat
open Go.RowKit
set_option linter.unusedVariables false
set_option linter.unusedSimpArgs false
set_option linter.unusedSectionVars false
set_option maxRecDepth 4000
attribute [local irreducible] areTies causeB biasB clr clearP emptyP isPan meas bad overS passCode strCode playS isSel areStr moveCode moveS isRec areCase lstR mkPan swear juryR replayR trueR honR isHonR recOk recCode shF panR
set_option maxHeartbeats 1000000 in
theorem l16Begin_ok (u1 : Option Addr) (n1 v1 : Nat) (u2 : Option Addr) (n2 v2 : Nat) (u3 : Option Addr) (n3 v3 : Nat) (r : Rec) (u4 : Option Addr) (n4 v4 : Nat) (ts : List Tie) (u5 : Option Addr) (n5 v5 : Nat) (ps : List ByteArray) (w : World) (H1 : Sl i64c 1 w u1 n1 v1 r.N) (H2 : Sl i64c 1 w u2 n2 v2 r.Sk) (H3 : Sl i64c 1 w u3 n3 v3 r.Mv) (H4 : Sl Tie.cells 4 w u4 n4 v4 ts) (hx4 : ∀ t ∈ ts, t.Party.size ≤ 9223372036854775807) (H5 : Sl strc 1 w u5 n5 v5 ps) (hx5 : ∀ y ∈ ps, y.size ≤ 9223372036854775807) (hR : isRec r = true) (hC : areCase ts ps = true) : Ret Tryz.prog 56 [.agg #[.int .i64 r.C, .int .i64 r.St, .int .i64 r.Sa, .slice u1 n1 v1, .int .i64 r.Se, .slice u2 n2 v2, .slice u3 n3 v3, .int .i64 r.Me, .int .i64 r.Al], .slice u4 n4 v4, .slice u5 n5 v5] w (fun v w' => Ext w w' ∧ ∃ (q1 : Option Addr) (m1 d1 : Nat) (q2 : Option Addr) (m2 d2 : Nat) (q3 : Option Addr) (m3 d3 : Nat) (q6 : Option Addr) (m6 d6 : Nat), v = .agg #[.slice q1 m1 d1, .slice q2 m2 d2, .slice q3 m3 d3, .slice q6 m6 d6, .int .i64 (begR r ts ps).T, .int .i64 (begR r ts ps).Q] ∧ SlF i64c 1 w' w.heap.size w'.heap.size q1 m1 d1 ((begR r ts ps).P.S) ∧ SlF i64c 1 w' w.heap.size w'.heap.size q2 m2 d2 ((begR r ts ps).P.W) ∧ SlF i64c 1 w' w.heap.size w'.heap.size q3 m3 d3 ((begR r ts ps).P.G) ∧ SlF i64c 1 w' w.heap.size w'.heap.size q6 m6 d6 ((begR r ts ps).L)) := by
 refine ret_of_run (N := 15) Tryz.func56 rfl rfl rfl ?_
 have hn1 := H1.len
 have hn2 := H2.len
 have hn3 := H3.len
 have hn4 := H4.len
 have hn46 := H4.n64
 have hn5 := H5.len
 have hn56 := H5.n64
 obtain ⟨rv1, rv2, rv3, rv4, rv5, rv6, rv7, rv8, rv9⟩ := isRec_nums hR
 have hT := case_ties hC
 obtain ⟨lm1, lm2, lm3⟩ := lstR_make hR
 have lml := lst_len (r := r)
 have hs2 := (areStr_iff.1 rv5).1
 have E : Ext w w := Ext.refl w
 refine sr_ ?_
 refine obox rfl rfl rfl ?_
 intro b1 w1 e1 hb1 hz1 O1
 have E := E.trans e1
 replace O1 : Own w1 b1 [.int .i64 r.C, .int .i64 r.St, .int .i64 r.Sa, .slice u1 n1 v1, .int .i64 r.Se, .slice u2 n2 v2, .slice u3 n3 v3, .int .i64 r.Me, .int .i64 r.Al] 26 := O1
 refine oalloc Tryz.zeroValue81 rfl rfl ?_
 intro b2 w2 e2 hb2 hz2 O2
 have E := E.trans e2
 replace O1 := O1.ext e2
 replace O2 : Own w2 b2 [.slice none 0 0, .slice none 0 0, .slice none 0 0, .slice none 0 0, .int .i64 0, .int .i64 0] 81 := O2
 refine ops_nil ?_
 refine run_seq ?_
 have hcut1 := cut_size (w := w2) (k := b2) (by omega)
 have RE := ext_to_cut E (k := b2) (by omega) (by omega)
 have RO1 := O1.cut (k := b2) (by omega) (by omega)
 refine run_heldC (ext_cut (w := w2) (k := b2) (by omega)) (by kernel_rfl) ?_
 intro wh1 F
 have zh1 := F.size
 have E := E.trans F
 replace O2 := O2.ext F
 replace F := (ext_cut (w := w2) (k := b2) (by omega)).trans F
 refine h_take 0 (v := .agg #[.int .i64 r.C, .int .i64 r.St, .int .i64 r.Sa, .slice u1 n1 v1, .int .i64 r.Se, .slice u2 n2 v2, .slice u3 n3 v3, .int .i64 r.Me, .int .i64 r.Al]) rfl (by kernel_rfl) (by kernel_rfl) (by kernel_rfl) (fun w' x_ => xloadN Tryz.isAgg26 Tryz.sizeOf26 rfl ((RO1.cells).ext x_) rfl) rfl rfl rfl F ?_
 refine h_take 1 rfl (by kernel_rfl) (by kernel_rfl) (by kernel_rfl) (fun w' x_ => xmove rfl) rfl rfl rfl F ?_
 refine h_take 2 rfl (by kernel_rfl) (by kernel_rfl) (by kernel_rfl) (fun w' x_ => xmove rfl) rfl rfl rfl F ?_
 refine h_take 4 rfl (by kernel_rfl) (by kernel_rfl) (by kernel_rfl) (fun w' x_ => xfieldAddr fo26f5 rfl) rfl rfl rfl F ?_
 refine h_take 5 (v := .slice u2 n2 v2) rfl (by kernel_rfl) (by kernel_rfl) (by kernel_rfl) (fun w' x_ => xload1 Tryz.isAgg24 rfl ((RO1.cells).ext x_) rfl) rfl rfl rfl F ?_
 refine h_ready (rs := [3]) (by kernel_rfl) (by decide) ⟨?_, trivial⟩
 refine hs_call rfl (xcall Tryz.call104 rfl) rfl rfl rfl (l16Panel_ok _ _ _ _ _ _ _ _ _ r _ _ _ ts _ _ _ ps _ (H1.ext E) (H2.ext E) (H3.ext E) (H4.ext E) (by assumption) (H5.ext E) (by assumption) hR hC) ?_
 rintro _ w3 ⟨e3, q10_1, m10_1, d10_1, q10_2, m10_2, d10_2, q10_3, m10_3, d10_3, rfl, F10_1, F10_2, F10_3⟩
 have z3 := e3.size
 have E := E.trans e3
 replace O2 := O2.ext e3
 have F := F.trans e3
 have lF10_1 := F10_1.sl.len
 have lF10_2 := F10_2.sl.len
 have lF10_3 := F10_3.sl.len
 refine ⟨F, ?_⟩
 refine h_ready (rs := [6]) (by kernel_rfl) (by decide) ⟨?_, trivial⟩
 refine hs_call rfl (xcall Tryz.call102 rfl) rfl rfl rfl (l01Own_ok _ _ _ _ _ (H2.ext E) (H2.ext E).nil (by omega)) ?_
 rintro _ w4 ⟨e4, q13, cc13, rfl, Q13⟩
 have z4 := e4.size
 have E := E.trans e4
 replace F10_1 := F10_1.ext e4
 replace F10_2 := F10_2.ext e4
 replace F10_3 := F10_3.ext e4
 replace O2 := O2.ext e4
 have F := F.trans e4
 refine ⟨F, ?_⟩
 refine h_take 7 rfl (by kernel_rfl) (by kernel_rfl) (by kernel_rfl) (fun w' x_ => xbuild (vs := [.agg #[.slice q10_1 m10_1 d10_1, .slice q10_2 m10_2 d10_2, .slice q10_3 m10_3 d10_3], .slice q13 n2 cc13]) (cells := #[.slice q10_1 m10_1 d10_1, .slice q10_2 m10_2 d10_2, .slice q10_3 m10_3 d10_3, .slice q13 n2 cc13, .int .i64 0, .int .i64 0]) rfl (by kernel_rfl)) rfl rfl rfl F ?_
 refine h_ready (rs := [8]) (by kernel_rfl) (by decide) ⟨?_, trivial⟩
 refine hs_storeN (vs := [.slice q10_1 m10_1 d10_1, .slice q10_2 m10_2 d10_2, .slice q10_3 m10_3 d10_3, .slice q13 n2 cc13, .int .i64 0, .int .i64 0]) Tryz.sizeOf81 rfl rfl O2 rfl (by simp) (by simp [Value.oneCell']) F (by omega) rfl rfl ?_
 intro w5 on5 O5
 have hz5 := on5.size
 have E := on5.ext E (by omega)
 replace F10_1 := F10_1.only on5 (by omega)
 replace F10_2 := F10_2.only on5 (by omega)
 replace F10_3 := F10_3.only on5 (by omega)
 replace Q13 := Q13.only on5 (by omega)
 have F := on5.ext F (by omega)
 replace O5 : Own w5 b2 [.slice q10_1 m10_1 d10_1, .slice q10_2 m10_2 d10_2, .slice q10_3 m10_3 d10_3, .slice q13 n2 cc13, .int .i64 0, .int .i64 0] 81 := O5
 refine h_doneC (by kernel_rfl) ?_
 refine run_ret Tryz.func56 (resc1 rfl rfl (run_loadVar_cells Tryz.isAgg81 Tryz.sizeOf81 O5.cells rfl)) ?_
 exact ⟨_, rfl, E, _, _, _, _, _, _, _, _, _, _, _, _, rfl, (F10_1.wide (by omega) (by omega)), (F10_2.wide (by omega) (by omega)), (F10_3.wide (by omega) (by omega)), (Q13.slF (by omega) (by omega))⟩
set_option maxHeartbeats 1000000 in
theorem played_ok (u1 : Option Addr) (n1 v1 : Nat) (u2 : Option Addr) (n2 v2 : Nat) (u3 : Option Addr) (n3 v3 : Nat) (r : Rec) (u4 : Option Addr) (n4 v4 : Nat) (ts : List Tie) (u5 : Option Addr) (n5 v5 : Nat) (ps : List ByteArray) (w : World) (H1 : Sl i64c 1 w u1 n1 v1 r.N) (H2 : Sl i64c 1 w u2 n2 v2 r.Sk) (H3 : Sl i64c 1 w u3 n3 v3 r.Mv) (H4 : Sl Tie.cells 4 w u4 n4 v4 ts) (hx4 : ∀ t ∈ ts, t.Party.size ≤ 9223372036854775807) (H5 : Sl strc 1 w u5 n5 v5 ps) (hx5 : ∀ y ∈ ps, y.size ≤ 9223372036854775807) (hR : isRec r = true) (hC : areCase ts ps = true) : Ret Tryz.prog 51 [.agg #[.int .i64 r.C, .int .i64 r.St, .int .i64 r.Sa, .slice u1 n1 v1, .int .i64 r.Se, .slice u2 n2 v2, .slice u3 n3 v3, .int .i64 r.Me, .int .i64 r.Al], .slice u4 n4 v4, .slice u5 n5 v5] w (fun v w' => Ext w w' ∧ ∃ (q1 : Option Addr) (m1 d1 : Nat) (q2 : Option Addr) (m2 d2 : Nat) (q3 : Option Addr) (m3 d3 : Nat) (q6 : Option Addr) (m6 d6 : Nat) (nr : Int), v = .tuple #[.agg #[.slice q1 m1 d1, .slice q2 m2 d2, .slice q3 m3 d3, .slice q6 m6 d6, .int .i64 (playS r.Mv (begR r ts ps)).1.T, .int .i64 (playS r.Mv (begR r ts ps)).1.Q], .int .i64 nr, .int .i64 (playS r.Mv (begR r ts ps)).2] ∧ SlF i64c 1 w' w.heap.size w'.heap.size q1 m1 d1 ((playS r.Mv (begR r ts ps)).1.P.S) ∧ SlF i64c 1 w' w.heap.size w'.heap.size q2 m2 d2 ((playS r.Mv (begR r ts ps)).1.P.W) ∧ SlF i64c 1 w' w.heap.size w'.heap.size q3 m3 d3 ((playS r.Mv (begR r ts ps)).1.P.G) ∧ SlF i64c 1 w' w.heap.size w'.heap.size q6 m6 d6 ((playS r.Mv (begR r ts ps)).1.L)) := by
 refine ret_of_run (N := 22) Tryz.func51 rfl rfl rfl ?_
 have hn1 := H1.len
 have hn2 := H2.len
 have hn3 := H3.len
 have hn4 := H4.len
 have hn46 := H4.n64
 have hn5 := H5.len
 have hn56 := H5.n64
 obtain ⟨rv1, rv2, rv3, rv4, rv5, rv6, rv7, rv8, rv9⟩ := isRec_nums hR
 have hT := case_ties hC
 obtain ⟨lm1, lm2, lm3⟩ := lstR_make hR
 have lml := lst_len (r := r)
 have E : Ext w w := Ext.refl w
 refine sr_ ?_
 refine obox rfl rfl rfl ?_
 intro b1 w1 e1 hb1 hz1 O1
 have E := E.trans e1
 replace O1 : Own w1 b1 [.int .i64 r.C, .int .i64 r.St, .int .i64 r.Sa, .slice u1 n1 v1, .int .i64 r.Se, .slice u2 n2 v2, .slice u3 n3 v3, .int .i64 r.Me, .int .i64 r.Al] 26 := O1
 refine oalloc Tryz.zeroValue81 rfl rfl ?_
 intro b2 w2 e2 hb2 hz2 O2
 have E := E.trans e2
 replace O1 := O1.ext e2
 replace O2 : Own w2 b2 [.slice none 0 0, .slice none 0 0, .slice none 0 0, .slice none 0 0, .int .i64 0, .int .i64 0] 81 := O2
 refine va_ rfl rfl rfl ?_
 refine vn_ rfl rfl rfl ?_
 refine run_seq ?_
 have hcut1 := cut_size (w := w2) (k := b2) (by omega)
 have RE := ext_to_cut E (k := b2) (by omega) (by omega)
 have RO1 := O1.cut (k := b2) (by omega) (by omega)
 refine run_heldC (ext_cut (w := w2) (k := b2) (by omega)) (by kernel_rfl) ?_
 intro wh1 F
 have zh1 := F.size
 have E := E.trans F
 replace O2 := O2.ext F
 replace F := (ext_cut (w := w2) (k := b2) (by omega)).trans F
 refine h_take 0 (v := .agg #[.int .i64 r.C, .int .i64 r.St, .int .i64 r.Sa, .slice u1 n1 v1, .int .i64 r.Se, .slice u2 n2 v2, .slice u3 n3 v3, .int .i64 r.Me, .int .i64 r.Al]) rfl (by kernel_rfl) (by kernel_rfl) (by kernel_rfl) (fun w' x_ => xloadN Tryz.isAgg26 Tryz.sizeOf26 rfl ((RO1.cells).ext x_) rfl) rfl rfl rfl F ?_
 refine h_take 1 rfl (by kernel_rfl) (by kernel_rfl) (by kernel_rfl) (fun w' x_ => xmove rfl) rfl rfl rfl F ?_
 refine h_take 2 rfl (by kernel_rfl) (by kernel_rfl) (by kernel_rfl) (fun w' x_ => xmove rfl) rfl rfl rfl F ?_
 refine h_take 4 rfl (by kernel_rfl) (by kernel_rfl) (by kernel_rfl) (fun w' x_ => xfieldAddr fo26f5 rfl) rfl rfl rfl F ?_
 refine h_take 5 (v := .slice u2 n2 v2) rfl (by kernel_rfl) (by kernel_rfl) (by kernel_rfl) (fun w' x_ => xload1 Tryz.isAgg24 rfl ((RO1.cells).ext x_) rfl) rfl rfl rfl F ?_
 refine h_take 7 rfl (by kernel_rfl) (by kernel_rfl) (by kernel_rfl) (fun w' x_ => xfieldAddr fo26f6 rfl) rfl rfl rfl F ?_
 refine h_take 8 (v := .slice u3 n3 v3) rfl (by kernel_rfl) (by kernel_rfl) (by kernel_rfl) (fun w' x_ => xload1 Tryz.isAgg24 rfl ((RO1.cells).ext x_) rfl) rfl rfl rfl F ?_
 refine h_ready (rs := [3]) (by kernel_rfl) (by decide) ⟨?_, trivial⟩
 refine hs_call rfl (xcall Tryz.call94 rfl) rfl rfl rfl (panel_ok _ _ _ _ _ _ _ _ _ r _ _ _ ts _ _ _ ps _ (H1.ext E) (H2.ext E) (H3.ext E) (H4.ext E) (by assumption) (H5.ext E) (by assumption) hR hC) ?_
 rintro _ w3 ⟨e3, q12_1, m12_1, d12_1, q12_2, m12_2, d12_2, q12_3, m12_3, d12_3, rfl, F12_1, F12_2, F12_3⟩
 have z3 := e3.size
 have E := E.trans e3
 replace O2 := O2.ext e3
 have F := F.trans e3
 have lF12_1 := F12_1.sl.len
 have lF12_2 := F12_2.sl.len
 have lF12_3 := F12_3.sl.len
 refine ⟨F, ?_⟩
 refine h_take 6 rfl (by kernel_rfl) (by kernel_rfl) (by kernel_rfl) (fun w' x_ => xbuild (vs := [.agg #[.slice q12_1 m12_1 d12_1, .slice q12_2 m12_2 d12_2, .slice q12_3 m12_3 d12_3], .slice u2 n2 v2]) (cells := #[.slice q12_1 m12_1 d12_1, .slice q12_2 m12_2 d12_2, .slice q12_3 m12_3 d12_3, .slice u2 n2 v2, .int .i64 0, .int .i64 0]) rfl (by kernel_rfl)) rfl rfl rfl F ?_
 refine h_ready (rs := [9]) (by kernel_rfl) (by decide) ⟨?_, trivial⟩
 refine hs_call rfl (xcall Tryz.call95 rfl) rfl rfl rfl (play_ok _ _ _ _ _ _ _ _ _ _ _ _ (begR r ts ps) _ _ _ r.Mv _ (F12_1.sl) (F12_2.sl) (F12_3.sl) (H2.ext E) (H3.ext E) (begR_is hR)) ?_
 rintro _ w4 ⟨e4, q18_1, m18_1, d18_1, q18_2, m18_2, d18_2, q18_3, m18_3, d18_3, q18_6, m18_6, d18_6, nr18, rfl, F18_1, F18_2, F18_3, F18_6⟩
 have z4 := e4.size
 have E := E.trans e4
 replace O2 := O2.ext e4
 have F := F.trans e4
 have lF18_1 := F18_1.sl.len
 have lF18_2 := F18_2.sl.len
 have lF18_3 := F18_3.sl.len
 have lF18_6 := F18_6.sl.len
 refine ⟨F, ?_⟩
 refine h_take 10 rfl (by kernel_rfl) (by kernel_rfl) (by kernel_rfl) (fun w' x_ => xextract rfl rfl) rfl rfl rfl F ?_
 refine h_take 11 rfl (by kernel_rfl) (by kernel_rfl) (by kernel_rfl) (fun w' x_ => xextract rfl rfl) rfl rfl rfl F ?_
 refine h_take 12 rfl (by kernel_rfl) (by kernel_rfl) (by kernel_rfl) (fun w' x_ => xextract rfl rfl) rfl rfl rfl F ?_
 refine h_ready (rs := [13]) (by kernel_rfl) (by decide) ⟨?_, trivial⟩
 refine hs_storeN (vs := [.slice q18_1 m18_1 d18_1, .slice q18_2 m18_2 d18_2, .slice q18_3 m18_3 d18_3, .slice q18_6 m18_6 d18_6, .int .i64 (playS r.Mv (begR r ts ps)).1.T, .int .i64 (playS r.Mv (begR r ts ps)).1.Q]) Tryz.sizeOf81 rfl rfl O2 rfl (by simp) (by simp [Value.oneCell']) F (by omega) rfl rfl ?_
 intro w5 on5 O5
 have hz5 := on5.size
 have E := on5.ext E (by omega)
 replace F18_1 := F18_1.only on5 (by omega)
 replace F18_2 := F18_2.only on5 (by omega)
 replace F18_3 := F18_3.only on5 (by omega)
 replace F18_6 := F18_6.only on5 (by omega)
 have F := on5.ext F (by omega)
 replace O5 : Own w5 b2 [.slice q18_1 m18_1 d18_1, .slice q18_2 m18_2 d18_2, .slice q18_3 m18_3 d18_3, .slice q18_6 m18_6 d18_6, .int .i64 (playS r.Mv (begR r ts ps)).1.T, .int .i64 (playS r.Mv (begR r ts ps)).1.Q] 81 := O5
 refine h_take 14 rfl (by kernel_rfl) (by kernel_rfl) (by kernel_rfl) (fun w' x_ => xassign rfl) rfl rfl rfl F ?_
 refine h_take 15 rfl (by kernel_rfl) (by kernel_rfl) (by kernel_rfl) (fun w' x_ => xassign rfl) rfl rfl rfl F ?_
 refine h_doneC (by kernel_rfl) ?_
 refine run_ret Tryz.func51 (rescCTT rfl rfl (run_loadVar_cells Tryz.isAgg81 Tryz.sizeOf81 O5.cells rfl) rfl rfl) ?_
 exact ⟨_, rfl, E, _, _, _, _, _, _, _, _, _, _, _, _, _, rfl, (F18_1.wide (by omega) (by omega)), (F18_2.wide (by omega) (by omega)), (F18_3.wide (by omega) (by omega)), (F18_6.wide (by omega) (by omega))⟩
set_option maxHeartbeats 1000000 in
theorem jury_ok (u1 : Option Addr) (n1 v1 : Nat) (u2 : Option Addr) (n2 v2 : Nat) (u3 : Option Addr) (n3 v3 : Nat) (r : Rec) (u4 : Option Addr) (n4 v4 : Nat) (ts : List Tie) (u5 : Option Addr) (n5 v5 : Nat) (ps : List ByteArray) (w : World) (H1 : Sl i64c 1 w u1 n1 v1 r.N) (H2 : Sl i64c 1 w u2 n2 v2 r.Sk) (H3 : Sl i64c 1 w u3 n3 v3 r.Mv) (H4 : Sl Tie.cells 4 w u4 n4 v4 ts) (hx4 : ∀ t ∈ ts, t.Party.size ≤ 9223372036854775807) (H5 : Sl strc 1 w u5 n5 v5 ps) (hx5 : ∀ y ∈ ps, y.size ≤ 9223372036854775807) (hR : isRec r = true) (hC : areCase ts ps = true) : Ret Tryz.prog 21 [.agg #[.int .i64 r.C, .int .i64 r.St, .int .i64 r.Sa, .slice u1 n1 v1, .int .i64 r.Se, .slice u2 n2 v2, .slice u3 n3 v3, .int .i64 r.Me, .int .i64 r.Al], .slice u4 n4 v4, .slice u5 n5 v5] w (fun v w' => Ext w w' ∧ ∃ (q1 : Option Addr) (m1 d1 : Nat) (q2 : Option Addr) (m2 d2 : Nat) (q3 : Option Addr) (m3 d3 : Nat), v = .tuple #[.agg #[.slice q1 m1 d1, .slice q2 m2 d2, .slice q3 m3 d3], .int .i64 ((juryR r ts ps).2)] ∧ SlF i64c 1 w' w.heap.size w'.heap.size q1 m1 d1 ((juryR r ts ps).1.S) ∧ SlF i64c 1 w' w.heap.size w'.heap.size q2 m2 d2 ((juryR r ts ps).1.A) ∧ SlF i64c 1 w' w.heap.size w'.heap.size q3 m3 d3 ((juryR r ts ps).1.L)) := by
 refine ret_of_run (N := 37) Tryz.func21 rfl rfl rfl ?_
 have hn1 := H1.len
 have hn2 := H2.len
 have hn3 := H3.len
 have hn4 := H4.len
 have hn46 := H4.n64
 have hn5 := H5.len
 have hn56 := H5.n64
 obtain ⟨rv1, rv2, rv3, rv4, rv5, rv6, rv7, rv8, rv9⟩ := isRec_nums hR
 have hT := case_ties hC
 obtain ⟨lm1, lm2, lm3⟩ := lstR_make hR
 have lml := lst_len (r := r)
 have E : Ext w w := Ext.refl w
 refine sr_ ?_
 refine obox rfl rfl rfl ?_
 intro b1 w1 e1 hb1 hz1 O1
 have E := E.trans e1
 replace O1 : Own w1 b1 [.int .i64 r.C, .int .i64 r.St, .int .i64 r.Sa, .slice u1 n1 v1, .int .i64 r.Se, .slice u2 n2 v2, .slice u3 n3 v3, .int .i64 r.Me, .int .i64 r.Al] 26 := O1
 refine oalloc Tryz.zeroValue32 rfl rfl ?_
 intro b2 w2 e2 hb2 hz2 O2
 have E := E.trans e2
 replace O1 := O1.ext e2
 replace O2 : Own w2 b2 [.slice none 0 0, .slice none 0 0, .slice none 0 0] 32 := O2
 refine vn_ rfl rfl rfl ?_
 refine sr_ ?_
 refine oz_ (v := .agg #[.int .i64 r.C, .int .i64 r.St, .int .i64 r.Sa, .slice u1 n1 v1, .int .i64 r.Se, .slice u2 n2 v2, .slice u3 n3 v3, .int .i64 r.Me, .int .i64 r.Al]) (xloadN Tryz.isAgg26 Tryz.sizeOf26 rfl (O1.cells) rfl) rfl rfl ?_
 refine vm_ rfl rfl rfl ?_
 refine vm_ rfl rfl rfl ?_
 refine oc (xcall Tryz.call51 rfl) rfl rfl rfl (played_ok _ _ _ _ _ _ _ _ _ r _ _ _ ts _ _ _ ps _ (H1.ext E) (H2.ext E) (H3.ext E) (H4.ext E) (by assumption) (H5.ext E) (by assumption) hR hC) ?_
 rintro _ w3 ⟨e3, q16_1, m16_1, d16_1, q16_2, m16_2, d16_2, q16_3, m16_3, d16_3, q16_6, m16_6, d16_6, nr16, rfl, F16_1, F16_2, F16_3, F16_6⟩
 have z3 := e3.size
 have E := E.trans e3
 replace O1 := O1.ext e3
 replace O2 := O2.ext e3
 have lF16_1 := F16_1.sl.len
 have lF16_2 := F16_2.sl.len
 have lF16_3 := F16_3.sl.len
 have lF16_6 := F16_6.sl.len
 refine vm_ rfl rfl rfl ?_
 refine oz_ (xextract rfl rfl) rfl rfl ?_
 refine oz_ (xextract rfl rfl) rfl rfl ?_
 refine oz_ (xextract rfl rfl) rfl rfl ?_
 refine oalloc Tryz.zeroValue81 rfl rfl ?_
 intro b4 w4 e4 hb4 hz4 O4
 have E := E.trans e4
 replace F16_1 := F16_1.ext e4
 replace F16_2 := F16_2.ext e4
 replace F16_3 := F16_3.ext e4
 replace O1 := O1.ext e4
 replace O2 := O2.ext e4
 replace O4 : Own w4 b4 [.slice none 0 0, .slice none 0 0, .slice none 0 0, .slice none 0 0, .int .i64 0, .int .i64 0] 81 := O4
 refine ostoreN (vs := _) Tryz.sizeOf81 rfl rfl O4 rfl (by simp) (by simp [Value.oneCell']) rfl ?_
 intro w5 on5 O5
 have hz5 := on5.size
 have E := on5.ext E (by omega)
 replace F16_1 := F16_1.only on5 (by omega)
 replace F16_2 := F16_2.only on5 (by omega)
 replace F16_3 := F16_3.only on5 (by omega)
 replace O1 := on5.own O1 (by omega)
 replace O2 := on5.own O2 (by omega)
 replace O5 : Own w5 b4 [.slice q16_1 m16_1 d16_1, .slice q16_2 m16_2 d16_2, .slice q16_3 m16_3 d16_3, .slice q16_6 m16_6 d16_6, .int .i64 (playS r.Mv (begR r ts ps)).1.T, .int .i64 (playS r.Mv (begR r ts ps)).1.Q] 81 := O5
 refine va_ rfl rfl rfl ?_
 refine vn_ rfl rfl rfl ?_
 refine run_seq ?_
 refine sr_ ?_
 refine vm_ rfl rfl rfl ?_
 refine oz_ (xneq rfl rfl _ rfl) rfl rfl ?_
 refine ods (fun c21 => ?_) (fun c21 => ?_)
 ·
  refine ct_ rfl ?_
  refine sr_ ?_
  refine oz_ (xbuild (vs := []) (cells := #[.slice none 0 0, .slice none 0 0, .slice none 0 0]) rfl (by kernel_rfl)) rfl rfl ?_
  refine ostoreN (vs := _) Tryz.sizeOf32 rfl rfl O2 rfl (by simp) (by simp [Value.oneCell']) rfl ?_
  intro w6 on6 O6
  have hz6 := on6.size
  have E := on6.ext E (by omega)
  replace O6 : Own w6 b2 [.slice none 0 0, .slice none 0 0, .slice none 0 0] 32 := O6
  refine vn_ rfl rfl rfl ?_
  refine run_ret Tryz.func21 (resc2 rfl rfl (run_loadVar_cells Tryz.isAgg32 Tryz.sizeOf32 O6.cells rfl) rfl) ?_
  have he := jur_5 c21
  exact ⟨_, rfl, E, _, _, _, _, _, _, _, _, _, by rw [he], by rw [he]; exact (SlF.nil0 _ _ _), by rw [he]; exact (SlF.nil0 _ _ _), by rw [he]; exact (SlF.nil0 _ _ _)⟩
 refine cf_ rfl ?_
 refine sr_ ?_
 refine oz_ (xfieldAddr fo81f0 rfl) rfl rfl ?_
 refine oz_ (v := .agg #[.slice q16_1 m16_1 d16_1, .slice q16_2 m16_2 d16_2, .slice q16_3 m16_3 d16_3]) (xloadN Tryz.isAgg79 Tryz.sizeOf79 rfl ((Cells.mid (pre := []) (row := [.slice q16_1 m16_1 d16_1, .slice q16_2 m16_2 d16_2, .slice q16_3 m16_3 d16_3]) (post := [.slice q16_6 m16_6 d16_6, .int .i64 (playS r.Mv (begR r ts ps)).1.T, .int .i64 (playS r.Mv (begR r ts ps)).1.Q]) (O5.cells))) rfl) rfl rfl ?_
 refine oz_ (xfieldAddr fo26f7 rfl) rfl rfl ?_
 refine oz_ (v := .int .i64 r.Me) (xload1 Tryz.isAgg2 rfl (O1.cells) rfl) rfl rfl ?_
 refine oz_ (xfieldAddr fo26f8 rfl) rfl rfl ?_
 refine oz_ (v := .int .i64 r.Al) (xload1 Tryz.isAgg2 rfl (O1.cells) rfl) rfl rfl ?_
 refine oc (xcall Tryz.call52 rfl) rfl rfl rfl (SwearJury_ok _ _ _ _ _ _ _ _ _ (playS r.Mv (begR r ts ps)).1.P r.Me r.Al _ (F16_1.sl) (F16_2.sl) (F16_3.sl) (pan_end hR)) ?_
 rintro _ w6 ⟨e6, q30_1, m30_1, d30_1, q30_2, m30_2, d30_2, q30_3, m30_3, d30_3, rfl, F30_1, F30_2, F30_3⟩
 have z6 := e6.size
 have E := E.trans e6
 replace O2 := O2.ext e6
 have lF30_1 := F30_1.sl.len
 have lF30_2 := F30_2.sl.len
 have lF30_3 := F30_3.sl.len
 refine vm_ rfl rfl rfl ?_
 refine oz_ (xextract rfl rfl) rfl rfl ?_
 refine oz_ (xextract rfl rfl) rfl rfl ?_
 refine oalloc Tryz.zeroValue32 rfl rfl ?_
 intro b7 w7 e7 hb7 hz7 O7
 have E := E.trans e7
 replace F30_1 := F30_1.ext e7
 replace F30_2 := F30_2.ext e7
 replace F30_3 := F30_3.ext e7
 replace O2 := O2.ext e7
 replace O7 : Own w7 b7 [.slice none 0 0, .slice none 0 0, .slice none 0 0] 32 := O7
 refine ostoreN (vs := _) Tryz.sizeOf32 rfl rfl O7 rfl (by simp) (by simp [Value.oneCell']) rfl ?_
 intro w8 on8 O8
 have hz8 := on8.size
 have E := on8.ext E (by omega)
 replace F30_1 := F30_1.only on8 (by omega)
 replace F30_2 := F30_2.only on8 (by omega)
 replace F30_3 := F30_3.only on8 (by omega)
 replace O2 := on8.own O2 (by omega)
 replace O8 : Own w8 b7 [.slice q30_1 m30_1 d30_1, .slice q30_2 m30_2 d30_2, .slice q30_3 m30_3 d30_3] 32 := O8
 refine vn_ rfl rfl rfl ?_
 refine run_seq ?_
 refine sr_ ?_
 refine vm_ rfl rfl rfl ?_
 refine oz_ (xneq rfl rfl _ rfl) rfl rfl ?_
 refine ods (fun c34 => ?_) (fun c34 => ?_)
 ·
  refine ct_ rfl ?_
  refine sr_ ?_
  refine oz_ (xbuild (vs := []) (cells := #[.slice none 0 0, .slice none 0 0, .slice none 0 0]) rfl (by kernel_rfl)) rfl rfl ?_
  refine ostoreN (vs := _) Tryz.sizeOf32 rfl rfl O2 rfl (by simp) (by simp [Value.oneCell']) rfl ?_
  intro w9 on9 O9
  have hz9 := on9.size
  have E := on9.ext E (by omega)
  replace O9 : Own w9 b2 [.slice none 0 0, .slice none 0 0, .slice none 0 0] 32 := O9
  refine vn_ rfl rfl rfl ?_
  refine run_ret Tryz.func21 (resc2 rfl rfl (run_loadVar_cells Tryz.isAgg32 Tryz.sizeOf32 O9.cells rfl) rfl) ?_
  have he := jur_4 (r := r) (ts := ts) (ps := ps) (by omega) c34
  exact ⟨_, rfl, E, _, _, _, _, _, _, _, _, _, by rw [he], by rw [he]; exact (SlF.nil0 _ _ _), by rw [he]; exact (SlF.nil0 _ _ _), by rw [he]; exact (SlF.nil0 _ _ _)⟩
 refine cf_ rfl ?_
 refine sr_ ?_
 refine oz_ (v := .agg #[.slice q30_1 m30_1 d30_1, .slice q30_2 m30_2 d30_2, .slice q30_3 m30_3 d30_3]) (xloadN Tryz.isAgg32 Tryz.sizeOf32 rfl (O8.cells) rfl) rfl rfl ?_
 refine ostoreN (vs := _) Tryz.sizeOf32 rfl rfl O2 rfl (by simp) (by simp [Value.oneCell']) rfl ?_
 intro w9 on9 O9
 have hz9 := on9.size
 have E := on9.ext E (by omega)
 replace F30_1 := F30_1.only on9 (by omega)
 replace F30_2 := F30_2.only on9 (by omega)
 replace F30_3 := F30_3.only on9 (by omega)
 replace O9 : Own w9 b2 [.slice q30_1 m30_1 d30_1, .slice q30_2 m30_2 d30_2, .slice q30_3 m30_3 d30_3] 32 := O9
 refine vn_ rfl rfl rfl ?_
 refine run_ret Tryz.func21 (resc2 rfl rfl (run_loadVar_cells Tryz.isAgg32 Tryz.sizeOf32 O9.cells rfl) rfl) ?_
 have he := jur_0 (r := r) (ts := ts) (ps := ps) (by omega) (by omega)
 exact ⟨_, rfl, E, _, _, _, _, _, _, _, _, _, by rw [he], by rw [he]; exact (F30_1.wide (by omega) (by omega)), by rw [he]; exact (F30_2.wide (by omega) (by omega)), by rw [he]; exact (F30_3.wide (by omega) (by omega))⟩
set_option maxHeartbeats 2000000 in
theorem l16Replay_ok (u1 : Option Addr) (n1 v1 : Nat) (u2 : Option Addr) (n2 v2 : Nat) (u3 : Option Addr) (n3 v3 : Nat) (r : Rec) (u4 : Option Addr) (n4 v4 : Nat) (ts : List Tie) (u5 : Option Addr) (n5 v5 : Nat) (ps : List ByteArray) (w : World) (H1 : Sl i64c 1 w u1 n1 v1 r.N) (H2 : Sl i64c 1 w u2 n2 v2 r.Sk) (H3 : Sl i64c 1 w u3 n3 v3 r.Mv) (H4 : Sl Tie.cells 4 w u4 n4 v4 ts) (hx4 : ∀ t ∈ ts, t.Party.size ≤ 9223372036854775807) (H5 : Sl strc 1 w u5 n5 v5 ps) (hx5 : ∀ y ∈ ps, y.size ≤ 9223372036854775807) (hR : isRec r = true) (hC : areCase ts ps = true) : Ret Tryz.prog 23 [.agg #[.int .i64 r.C, .int .i64 r.St, .int .i64 r.Sa, .slice u1 n1 v1, .int .i64 r.Se, .slice u2 n2 v2, .slice u3 n3 v3, .int .i64 r.Me, .int .i64 r.Al], .slice u4 n4 v4, .slice u5 n5 v5] w (fun v w' => Ext w w' ∧ ∃ (q1 : Option Addr) (m1 d1 : Nat) (q2 : Option Addr) (m2 d2 : Nat) (q3 : Option Addr) (m3 d3 : Nat), v = .tuple #[.agg #[.slice q1 m1 d1, .slice q2 m2 d2, .slice q3 m3 d3], .int .i64 ((juryR r ts ps).2)] ∧ SlF i64c 1 w' w.heap.size w'.heap.size q1 m1 d1 ((juryR r ts ps).1.S) ∧ SlF i64c 1 w' w.heap.size w'.heap.size q2 m2 d2 ((juryR r ts ps).1.A) ∧ SlF i64c 1 w' w.heap.size w'.heap.size q3 m3 d3 ((juryR r ts ps).1.L)) := by
 refine ret_of_run (N := 41) Tryz.func23 rfl rfl rfl ?_
 have hn1 := H1.len
 have hn2 := H2.len
 have hn3 := H3.len
 have hn4 := H4.len
 have hn46 := H4.n64
 have hn5 := H5.len
 have hn56 := H5.n64
 obtain ⟨rv1, rv2, rv3, rv4, rv5, rv6, rv7, rv8, rv9⟩ := isRec_nums hR
 have hT := case_ties hC
 obtain ⟨lm1, lm2, lm3⟩ := lstR_make hR
 have lml := lst_len (r := r)
 have E : Ext w w := Ext.refl w
 refine sr_ ?_
 refine obox rfl rfl rfl ?_
 intro b1 w1 e1 hb1 hz1 O1
 have E := E.trans e1
 replace O1 : Own w1 b1 [.int .i64 r.C, .int .i64 r.St, .int .i64 r.Sa, .slice u1 n1 v1, .int .i64 r.Se, .slice u2 n2 v2, .slice u3 n3 v3, .int .i64 r.Me, .int .i64 r.Al] 26 := O1
 refine oalloc Tryz.zeroValue32 rfl rfl ?_
 intro b2 w2 e2 hb2 hz2 O2
 have E := E.trans e2
 replace O1 := O1.ext e2
 replace O2 : Own w2 b2 [.slice none 0 0, .slice none 0 0, .slice none 0 0] 32 := O2
 refine vn_ rfl rfl rfl ?_
 refine run_seq ?_
 have hcut1 := cut_size (w := w2) (k := b2) (by omega)
 have RE := ext_to_cut E (k := b2) (by omega) (by omega)
 have RO1 := O1.cut (k := b2) (by omega) (by omega)
 refine run_heldC (ext_cut (w := w2) (k := b2) (by omega)) (by kernel_rfl) ?_
 intro wh1 F
 have zh1 := F.size
 have E := E.trans F
 replace O1 := O1.ext F
 replace O2 := O2.ext F
 replace F := (ext_cut (w := w2) (k := b2) (by omega)).trans F
 refine h_take 0 (v := .agg #[.int .i64 r.C, .int .i64 r.St, .int .i64 r.Sa, .slice u1 n1 v1, .int .i64 r.Se, .slice u2 n2 v2, .slice u3 n3 v3, .int .i64 r.Me, .int .i64 r.Al]) rfl (by kernel_rfl) (by kernel_rfl) (by kernel_rfl) (fun w' x_ => xloadN Tryz.isAgg26 Tryz.sizeOf26 rfl ((RO1.cells).ext x_) rfl) rfl rfl rfl F ?_
 refine h_take 1 rfl (by kernel_rfl) (by kernel_rfl) (by kernel_rfl) (fun w' x_ => xmove rfl) rfl rfl rfl F ?_
 refine h_take 2 rfl (by kernel_rfl) (by kernel_rfl) (by kernel_rfl) (fun w' x_ => xmove rfl) rfl rfl rfl F ?_
 refine h_take 4 rfl (by kernel_rfl) (by kernel_rfl) (by kernel_rfl) (fun w' x_ => xfieldAddr fo26f6 rfl) rfl rfl rfl F ?_
 refine h_take 5 (v := .slice u3 n3 v3) rfl (by kernel_rfl) (by kernel_rfl) (by kernel_rfl) (fun w' x_ => xload1 Tryz.isAgg24 rfl ((RO1.cells).ext x_) rfl) rfl rfl rfl F ?_
 refine h_ready (rs := [3, 11]) (by kernel_rfl) (by decide) ⟨?_, ?_, trivial⟩
 rotate_left
 ·
  refine hs_alloc Tryz.zeroValue81 F rfl rfl rfl ?_
  intro b3 w3 e3 hb3 hz3 O3
  have E := E.trans e3
  replace O1 := O1.ext e3
  replace O2 := O2.ext e3
  have F := F.trans e3
  replace O3 : Own w3 b3 [.slice none 0 0, .slice none 0 0, .slice none 0 0, .slice none 0 0, .int .i64 0, .int .i64 0] 81 := O3
  refine h_ready (rs := [3]) (by kernel_rfl) (by decide) ⟨?_, trivial⟩
  refine hs_call rfl (xcall Tryz.call56 rfl) rfl rfl rfl (l16Begin_ok _ _ _ _ _ _ _ _ _ r _ _ _ ts _ _ _ ps _ (H1.ext E) (H2.ext E) (H3.ext E) (H4.ext E) (by assumption) (H5.ext E) (by assumption) hR hC) ?_
  rintro _ w4 ⟨e4, q17_1, m17_1, d17_1, q17_2, m17_2, d17_2, q17_3, m17_3, d17_3, q17_6, m17_6, d17_6, rfl, F17_1, F17_2, F17_3, F17_6⟩
  have z4 := e4.size
  have E := E.trans e4
  replace O1 := O1.ext e4
  replace O2 := O2.ext e4
  replace O3 := O3.ext e4
  have F := F.trans e4
  have lF17_1 := F17_1.sl.len
  have lF17_2 := F17_2.sl.len
  have lF17_3 := F17_3.sl.len
  have lF17_6 := F17_6.sl.len
  refine ⟨F, ?_⟩
  refine h_ready (rs := [6]) (by kernel_rfl) (by decide) ⟨?_, trivial⟩
  refine hs_call rfl (xcall Tryz.call55 rfl) rfl rfl rfl (PlayMoves_ok _ _ _ _ _ _ _ _ _ _ _ _ (begR r ts ps) _ _ _ r.Mv _ (F17_1.sl) (F17_2.sl) (F17_3.sl) (F17_6.sl) (H3.ext E) (begR_is hR) (by omega)) ?_
  rintro _ w5 ⟨e5, q20_1, m20_1, d20_1, q20_2, m20_2, d20_2, q20_3, m20_3, d20_3, q20_6, m20_6, d20_6, nr20, rfl, F20_1, F20_2, F20_3, F20_6⟩
  have z5 := e5.size
  have E := E.trans e5
  replace O1 := O1.ext e5
  replace O2 := O2.ext e5
  replace O3 := O3.ext e5
  have F := F.trans e5
  have lF20_1 := F20_1.sl.len
  have lF20_2 := F20_2.sl.len
  have lF20_3 := F20_3.sl.len
  have lF20_6 := F20_6.sl.len
  refine ⟨F, ?_⟩
  refine h_take 7 rfl (by kernel_rfl) (by kernel_rfl) (by kernel_rfl) (fun w' x_ => xmove rfl) rfl rfl rfl F ?_
  refine h_take 8 rfl (by kernel_rfl) (by kernel_rfl) (by kernel_rfl) (fun w' x_ => xextract rfl rfl) rfl rfl rfl F ?_
  refine h_take 9 rfl (by kernel_rfl) (by kernel_rfl) (by kernel_rfl) (fun w' x_ => xextract rfl rfl) rfl rfl rfl F ?_
  refine h_take 10 rfl (by kernel_rfl) (by kernel_rfl) (by kernel_rfl) (fun w' x_ => xextract rfl rfl) rfl rfl rfl F ?_
  refine h_ready (rs := [12]) (by kernel_rfl) (by decide) ⟨?_, trivial⟩
  refine hs_storeN (vs := [.slice q20_1 m20_1 d20_1, .slice q20_2 m20_2 d20_2, .slice q20_3 m20_3 d20_3, .slice q20_6 m20_6 d20_6, .int .i64 (playS r.Mv (begR r ts ps)).1.T, .int .i64 (playS r.Mv (begR r ts ps)).1.Q]) Tryz.sizeOf81 rfl rfl O3 rfl (by simp) (by simp [Value.oneCell']) F (by omega) rfl rfl ?_
  intro w6 on6 O6
  have hz6 := on6.size
  have E := on6.ext E (by omega)
  replace F20_1 := F20_1.only on6 (by omega)
  replace F20_2 := F20_2.only on6 (by omega)
  replace F20_3 := F20_3.only on6 (by omega)
  replace O1 := on6.own O1 (by omega)
  replace O2 := on6.own O2 (by omega)
  have F := on6.ext F (by omega)
  replace O6 : Own w6 b3 [.slice q20_1 m20_1 d20_1, .slice q20_2 m20_2 d20_2, .slice q20_3 m20_3 d20_3, .slice q20_6 m20_6 d20_6, .int .i64 (playS r.Mv (begR r ts ps)).1.T, .int .i64 (playS r.Mv (begR r ts ps)).1.Q] 81 := O6
  refine h_take 13 rfl (by kernel_rfl) (by kernel_rfl) (by kernel_rfl) (fun w' x_ => xassign rfl) rfl rfl rfl F ?_
  refine h_take 14 rfl (by kernel_rfl) (by kernel_rfl) (by kernel_rfl) (fun w' x_ => xassign rfl) rfl rfl rfl F ?_
  refine h_doneC (by kernel_rfl) ?_
  refine run_seq ?_
  refine sr_ ?_
  refine vm_ rfl rfl rfl ?_
  refine oz_ (xneq rfl rfl _ rfl) rfl rfl ?_
  refine ods (fun c25 => ?_) (fun c25 => ?_)
  ·
   refine ct_ rfl ?_
   refine sr_ ?_
   refine oz_ (xbuild (vs := []) (cells := #[.slice none 0 0, .slice none 0 0, .slice none 0 0]) rfl (by kernel_rfl)) rfl rfl ?_
   refine ostoreN (vs := _) Tryz.sizeOf32 rfl rfl O2 rfl (by simp) (by simp [Value.oneCell']) rfl ?_
   intro w7 on7 O7
   have hz7 := on7.size
   have E := on7.ext E (by omega)
   replace O7 : Own w7 b2 [.slice none 0 0, .slice none 0 0, .slice none 0 0] 32 := O7
   refine vn_ rfl rfl rfl ?_
   refine run_ret Tryz.func23 (resc2 rfl rfl (run_loadVar_cells Tryz.isAgg32 Tryz.sizeOf32 O7.cells rfl) rfl) ?_
   have he := jur_5 c25
   exact ⟨_, rfl, E, _, _, _, _, _, _, _, _, _, by rw [he], by rw [he]; exact (SlF.nil0 _ _ _), by rw [he]; exact (SlF.nil0 _ _ _), by rw [he]; exact (SlF.nil0 _ _ _)⟩
  refine cf_ rfl ?_
  refine sr_ ?_
  refine oz_ (xfieldAddr fo81f0 rfl) rfl rfl ?_
  refine oz_ (v := .agg #[.slice q20_1 m20_1 d20_1, .slice q20_2 m20_2 d20_2, .slice q20_3 m20_3 d20_3]) (xloadN Tryz.isAgg79 Tryz.sizeOf79 rfl ((Cells.mid (pre := []) (row := [.slice q20_1 m20_1 d20_1, .slice q20_2 m20_2 d20_2, .slice q20_3 m20_3 d20_3]) (post := [.slice q20_6 m20_6 d20_6, .int .i64 (playS r.Mv (begR r ts ps)).1.T, .int .i64 (playS r.Mv (begR r ts ps)).1.Q]) (O6.cells))) rfl) rfl rfl ?_
  refine oz_ (xfieldAddr fo26f7 rfl) rfl rfl ?_
  refine oz_ (v := .int .i64 r.Me) (xload1 Tryz.isAgg2 rfl (O1.cells) rfl) rfl rfl ?_
  refine oz_ (xfieldAddr fo26f8 rfl) rfl rfl ?_
  refine oz_ (v := .int .i64 r.Al) (xload1 Tryz.isAgg2 rfl (O1.cells) rfl) rfl rfl ?_
  refine oc (xcall Tryz.call57 rfl) rfl rfl rfl (sSwearJury_ok _ _ _ _ _ _ _ _ _ (playS r.Mv (begR r ts ps)).1.P r.Me r.Al _ (F20_1.sl) (F20_2.sl) (F20_3.sl) (pan_end hR)) ?_
  rintro _ w7 ⟨e7, q34_1, m34_1, d34_1, q34_2, m34_2, d34_2, q34_3, m34_3, d34_3, rfl, F34_1, F34_2, F34_3⟩
  have z7 := e7.size
  have E := E.trans e7
  replace O2 := O2.ext e7
  have lF34_1 := F34_1.sl.len
  have lF34_2 := F34_2.sl.len
  have lF34_3 := F34_3.sl.len
  refine vm_ rfl rfl rfl ?_
  refine oz_ (xextract rfl rfl) rfl rfl ?_
  refine oz_ (xextract rfl rfl) rfl rfl ?_
  refine oalloc Tryz.zeroValue32 rfl rfl ?_
  intro b8 w8 e8 hb8 hz8 O8
  have E := E.trans e8
  replace F34_1 := F34_1.ext e8
  replace F34_2 := F34_2.ext e8
  replace F34_3 := F34_3.ext e8
  replace O2 := O2.ext e8
  replace O8 : Own w8 b8 [.slice none 0 0, .slice none 0 0, .slice none 0 0] 32 := O8
  refine ostoreN (vs := _) Tryz.sizeOf32 rfl rfl O8 rfl (by simp) (by simp [Value.oneCell']) rfl ?_
  intro w9 on9 O9
  have hz9 := on9.size
  have E := on9.ext E (by omega)
  replace F34_1 := F34_1.only on9 (by omega)
  replace F34_2 := F34_2.only on9 (by omega)
  replace F34_3 := F34_3.only on9 (by omega)
  replace O2 := on9.own O2 (by omega)
  replace O9 : Own w9 b8 [.slice q34_1 m34_1 d34_1, .slice q34_2 m34_2 d34_2, .slice q34_3 m34_3 d34_3] 32 := O9
  refine vn_ rfl rfl rfl ?_
  refine run_seq ?_
  refine sr_ ?_
  refine vm_ rfl rfl rfl ?_
  refine oz_ (xneq rfl rfl _ rfl) rfl rfl ?_
  refine ods (fun c38 => ?_) (fun c38 => ?_)
  ·
   refine ct_ rfl ?_
   refine sr_ ?_
   refine oz_ (xbuild (vs := []) (cells := #[.slice none 0 0, .slice none 0 0, .slice none 0 0]) rfl (by kernel_rfl)) rfl rfl ?_
   refine ostoreN (vs := _) Tryz.sizeOf32 rfl rfl O2 rfl (by simp) (by simp [Value.oneCell']) rfl ?_
   intro w10 on10 O10
   have hz10 := on10.size
   have E := on10.ext E (by omega)
   replace O10 : Own w10 b2 [.slice none 0 0, .slice none 0 0, .slice none 0 0] 32 := O10
   refine vn_ rfl rfl rfl ?_
   refine run_ret Tryz.func23 (resc2 rfl rfl (run_loadVar_cells Tryz.isAgg32 Tryz.sizeOf32 O10.cells rfl) rfl) ?_
   have he := jur_4 (r := r) (ts := ts) (ps := ps) (by omega) c38
   exact ⟨_, rfl, E, _, _, _, _, _, _, _, _, _, by rw [he], by rw [he]; exact (SlF.nil0 _ _ _), by rw [he]; exact (SlF.nil0 _ _ _), by rw [he]; exact (SlF.nil0 _ _ _)⟩
  refine cf_ rfl ?_
  refine sr_ ?_
  refine oz_ (v := .agg #[.slice q34_1 m34_1 d34_1, .slice q34_2 m34_2 d34_2, .slice q34_3 m34_3 d34_3]) (xloadN Tryz.isAgg32 Tryz.sizeOf32 rfl (O9.cells) rfl) rfl rfl ?_
  refine ostoreN (vs := _) Tryz.sizeOf32 rfl rfl O2 rfl (by simp) (by simp [Value.oneCell']) rfl ?_
  intro w10 on10 O10
  have hz10 := on10.size
  have E := on10.ext E (by omega)
  replace F34_1 := F34_1.only on10 (by omega)
  replace F34_2 := F34_2.only on10 (by omega)
  replace F34_3 := F34_3.only on10 (by omega)
  replace O10 : Own w10 b2 [.slice q34_1 m34_1 d34_1, .slice q34_2 m34_2 d34_2, .slice q34_3 m34_3 d34_3] 32 := O10
  refine vn_ rfl rfl rfl ?_
  refine run_ret Tryz.func23 (resc2 rfl rfl (run_loadVar_cells Tryz.isAgg32 Tryz.sizeOf32 O10.cells rfl) rfl) ?_
  have he := jur_0 (r := r) (ts := ts) (ps := ps) (by omega) (by omega)
  exact ⟨_, rfl, E, _, _, _, _, _, _, _, _, _, by rw [he], by rw [he]; exact (F34_1.wide (by omega) (by omega)), by rw [he]; exact (F34_2.wide (by omega) (by omega)), by rw [he]; exact (F34_3.wide (by omega) (by omega))⟩
 refine hs_call rfl (xcall Tryz.call56 rfl) rfl rfl rfl (l16Begin_ok _ _ _ _ _ _ _ _ _ r _ _ _ ts _ _ _ ps _ (H1.ext E) (H2.ext E) (H3.ext E) (H4.ext E) (by assumption) (H5.ext E) (by assumption) hR hC) ?_
 rintro _ w3 ⟨e3, q17_1, m17_1, d17_1, q17_2, m17_2, d17_2, q17_3, m17_3, d17_3, q17_6, m17_6, d17_6, rfl, F17_1, F17_2, F17_3, F17_6⟩
 have z3 := e3.size
 have E := E.trans e3
 replace O1 := O1.ext e3
 replace O2 := O2.ext e3
 have F := F.trans e3
 have lF17_1 := F17_1.sl.len
 have lF17_2 := F17_2.sl.len
 have lF17_3 := F17_3.sl.len
 have lF17_6 := F17_6.sl.len
 refine ⟨F, ?_⟩
 refine h_ready (rs := [6, 11]) (by kernel_rfl) (by decide) ⟨?_, ?_, trivial⟩
 ·
  refine hs_call rfl (xcall Tryz.call55 rfl) rfl rfl rfl (PlayMoves_ok _ _ _ _ _ _ _ _ _ _ _ _ (begR r ts ps) _ _ _ r.Mv _ (F17_1.sl) (F17_2.sl) (F17_3.sl) (F17_6.sl) (H3.ext E) (begR_is hR) (by omega)) ?_
  rintro _ w4 ⟨e4, q20_1, m20_1, d20_1, q20_2, m20_2, d20_2, q20_3, m20_3, d20_3, q20_6, m20_6, d20_6, nr20, rfl, F20_1, F20_2, F20_3, F20_6⟩
  have z4 := e4.size
  have E := E.trans e4
  replace O1 := O1.ext e4
  replace O2 := O2.ext e4
  have F := F.trans e4
  have lF20_1 := F20_1.sl.len
  have lF20_2 := F20_2.sl.len
  have lF20_3 := F20_3.sl.len
  have lF20_6 := F20_6.sl.len
  refine ⟨F, ?_⟩
  refine h_take 7 rfl (by kernel_rfl) (by kernel_rfl) (by kernel_rfl) (fun w' x_ => xmove rfl) rfl rfl rfl F ?_
  refine h_take 8 rfl (by kernel_rfl) (by kernel_rfl) (by kernel_rfl) (fun w' x_ => xextract rfl rfl) rfl rfl rfl F ?_
  refine h_take 9 rfl (by kernel_rfl) (by kernel_rfl) (by kernel_rfl) (fun w' x_ => xextract rfl rfl) rfl rfl rfl F ?_
  refine h_take 10 rfl (by kernel_rfl) (by kernel_rfl) (by kernel_rfl) (fun w' x_ => xextract rfl rfl) rfl rfl rfl F ?_
  refine h_ready (rs := [11]) (by kernel_rfl) (by decide) ⟨?_, trivial⟩
  refine hs_alloc Tryz.zeroValue81 F rfl rfl rfl ?_
  intro b5 w5 e5 hb5 hz5 O5
  have E := E.trans e5
  replace F20_1 := F20_1.ext e5
  replace F20_2 := F20_2.ext e5
  replace F20_3 := F20_3.ext e5
  replace O1 := O1.ext e5
  replace O2 := O2.ext e5
  have F := F.trans e5
  replace O5 : Own w5 b5 [.slice none 0 0, .slice none 0 0, .slice none 0 0, .slice none 0 0, .int .i64 0, .int .i64 0] 81 := O5
  refine h_ready (rs := [12]) (by kernel_rfl) (by decide) ⟨?_, trivial⟩
  refine hs_storeN (vs := [.slice q20_1 m20_1 d20_1, .slice q20_2 m20_2 d20_2, .slice q20_3 m20_3 d20_3, .slice q20_6 m20_6 d20_6, .int .i64 (playS r.Mv (begR r ts ps)).1.T, .int .i64 (playS r.Mv (begR r ts ps)).1.Q]) Tryz.sizeOf81 rfl rfl O5 rfl (by simp) (by simp [Value.oneCell']) F (by omega) rfl rfl ?_
  intro w6 on6 O6
  have hz6 := on6.size
  have E := on6.ext E (by omega)
  replace F20_1 := F20_1.only on6 (by omega)
  replace F20_2 := F20_2.only on6 (by omega)
  replace F20_3 := F20_3.only on6 (by omega)
  replace O1 := on6.own O1 (by omega)
  replace O2 := on6.own O2 (by omega)
  have F := on6.ext F (by omega)
  replace O6 : Own w6 b5 [.slice q20_1 m20_1 d20_1, .slice q20_2 m20_2 d20_2, .slice q20_3 m20_3 d20_3, .slice q20_6 m20_6 d20_6, .int .i64 (playS r.Mv (begR r ts ps)).1.T, .int .i64 (playS r.Mv (begR r ts ps)).1.Q] 81 := O6
  refine h_take 13 rfl (by kernel_rfl) (by kernel_rfl) (by kernel_rfl) (fun w' x_ => xassign rfl) rfl rfl rfl F ?_
  refine h_take 14 rfl (by kernel_rfl) (by kernel_rfl) (by kernel_rfl) (fun w' x_ => xassign rfl) rfl rfl rfl F ?_
  refine h_doneC (by kernel_rfl) ?_
  refine run_seq ?_
  refine sr_ ?_
  refine vm_ rfl rfl rfl ?_
  refine oz_ (xneq rfl rfl _ rfl) rfl rfl ?_
  refine ods (fun c25 => ?_) (fun c25 => ?_)
  ·
   refine ct_ rfl ?_
   refine sr_ ?_
   refine oz_ (xbuild (vs := []) (cells := #[.slice none 0 0, .slice none 0 0, .slice none 0 0]) rfl (by kernel_rfl)) rfl rfl ?_
   refine ostoreN (vs := _) Tryz.sizeOf32 rfl rfl O2 rfl (by simp) (by simp [Value.oneCell']) rfl ?_
   intro w7 on7 O7
   have hz7 := on7.size
   have E := on7.ext E (by omega)
   replace O7 : Own w7 b2 [.slice none 0 0, .slice none 0 0, .slice none 0 0] 32 := O7
   refine vn_ rfl rfl rfl ?_
   refine run_ret Tryz.func23 (resc2 rfl rfl (run_loadVar_cells Tryz.isAgg32 Tryz.sizeOf32 O7.cells rfl) rfl) ?_
   have he := jur_5 c25
   exact ⟨_, rfl, E, _, _, _, _, _, _, _, _, _, by rw [he], by rw [he]; exact (SlF.nil0 _ _ _), by rw [he]; exact (SlF.nil0 _ _ _), by rw [he]; exact (SlF.nil0 _ _ _)⟩
  refine cf_ rfl ?_
  refine sr_ ?_
  refine oz_ (xfieldAddr fo81f0 rfl) rfl rfl ?_
  refine oz_ (v := .agg #[.slice q20_1 m20_1 d20_1, .slice q20_2 m20_2 d20_2, .slice q20_3 m20_3 d20_3]) (xloadN Tryz.isAgg79 Tryz.sizeOf79 rfl ((Cells.mid (pre := []) (row := [.slice q20_1 m20_1 d20_1, .slice q20_2 m20_2 d20_2, .slice q20_3 m20_3 d20_3]) (post := [.slice q20_6 m20_6 d20_6, .int .i64 (playS r.Mv (begR r ts ps)).1.T, .int .i64 (playS r.Mv (begR r ts ps)).1.Q]) (O6.cells))) rfl) rfl rfl ?_
  refine oz_ (xfieldAddr fo26f7 rfl) rfl rfl ?_
  refine oz_ (v := .int .i64 r.Me) (xload1 Tryz.isAgg2 rfl (O1.cells) rfl) rfl rfl ?_
  refine oz_ (xfieldAddr fo26f8 rfl) rfl rfl ?_
  refine oz_ (v := .int .i64 r.Al) (xload1 Tryz.isAgg2 rfl (O1.cells) rfl) rfl rfl ?_
  refine oc (xcall Tryz.call57 rfl) rfl rfl rfl (sSwearJury_ok _ _ _ _ _ _ _ _ _ (playS r.Mv (begR r ts ps)).1.P r.Me r.Al _ (F20_1.sl) (F20_2.sl) (F20_3.sl) (pan_end hR)) ?_
  rintro _ w7 ⟨e7, q34_1, m34_1, d34_1, q34_2, m34_2, d34_2, q34_3, m34_3, d34_3, rfl, F34_1, F34_2, F34_3⟩
  have z7 := e7.size
  have E := E.trans e7
  replace O2 := O2.ext e7
  have lF34_1 := F34_1.sl.len
  have lF34_2 := F34_2.sl.len
  have lF34_3 := F34_3.sl.len
  refine vm_ rfl rfl rfl ?_
  refine oz_ (xextract rfl rfl) rfl rfl ?_
  refine oz_ (xextract rfl rfl) rfl rfl ?_
  refine oalloc Tryz.zeroValue32 rfl rfl ?_
  intro b8 w8 e8 hb8 hz8 O8
  have E := E.trans e8
  replace F34_1 := F34_1.ext e8
  replace F34_2 := F34_2.ext e8
  replace F34_3 := F34_3.ext e8
  replace O2 := O2.ext e8
  replace O8 : Own w8 b8 [.slice none 0 0, .slice none 0 0, .slice none 0 0] 32 := O8
  refine ostoreN (vs := _) Tryz.sizeOf32 rfl rfl O8 rfl (by simp) (by simp [Value.oneCell']) rfl ?_
  intro w9 on9 O9
  have hz9 := on9.size
  have E := on9.ext E (by omega)
  replace F34_1 := F34_1.only on9 (by omega)
  replace F34_2 := F34_2.only on9 (by omega)
  replace F34_3 := F34_3.only on9 (by omega)
  replace O2 := on9.own O2 (by omega)
  replace O9 : Own w9 b8 [.slice q34_1 m34_1 d34_1, .slice q34_2 m34_2 d34_2, .slice q34_3 m34_3 d34_3] 32 := O9
  refine vn_ rfl rfl rfl ?_
  refine run_seq ?_
  refine sr_ ?_
  refine vm_ rfl rfl rfl ?_
  refine oz_ (xneq rfl rfl _ rfl) rfl rfl ?_
  refine ods (fun c38 => ?_) (fun c38 => ?_)
  ·
   refine ct_ rfl ?_
   refine sr_ ?_
   refine oz_ (xbuild (vs := []) (cells := #[.slice none 0 0, .slice none 0 0, .slice none 0 0]) rfl (by kernel_rfl)) rfl rfl ?_
   refine ostoreN (vs := _) Tryz.sizeOf32 rfl rfl O2 rfl (by simp) (by simp [Value.oneCell']) rfl ?_
   intro w10 on10 O10
   have hz10 := on10.size
   have E := on10.ext E (by omega)
   replace O10 : Own w10 b2 [.slice none 0 0, .slice none 0 0, .slice none 0 0] 32 := O10
   refine vn_ rfl rfl rfl ?_
   refine run_ret Tryz.func23 (resc2 rfl rfl (run_loadVar_cells Tryz.isAgg32 Tryz.sizeOf32 O10.cells rfl) rfl) ?_
   have he := jur_4 (r := r) (ts := ts) (ps := ps) (by omega) c38
   exact ⟨_, rfl, E, _, _, _, _, _, _, _, _, _, by rw [he], by rw [he]; exact (SlF.nil0 _ _ _), by rw [he]; exact (SlF.nil0 _ _ _), by rw [he]; exact (SlF.nil0 _ _ _)⟩
  refine cf_ rfl ?_
  refine sr_ ?_
  refine oz_ (v := .agg #[.slice q34_1 m34_1 d34_1, .slice q34_2 m34_2 d34_2, .slice q34_3 m34_3 d34_3]) (xloadN Tryz.isAgg32 Tryz.sizeOf32 rfl (O9.cells) rfl) rfl rfl ?_
  refine ostoreN (vs := _) Tryz.sizeOf32 rfl rfl O2 rfl (by simp) (by simp [Value.oneCell']) rfl ?_
  intro w10 on10 O10
  have hz10 := on10.size
  have E := on10.ext E (by omega)
  replace F34_1 := F34_1.only on10 (by omega)
  replace F34_2 := F34_2.only on10 (by omega)
  replace F34_3 := F34_3.only on10 (by omega)
  replace O10 : Own w10 b2 [.slice q34_1 m34_1 d34_1, .slice q34_2 m34_2 d34_2, .slice q34_3 m34_3 d34_3] 32 := O10
  refine vn_ rfl rfl rfl ?_
  refine run_ret Tryz.func23 (resc2 rfl rfl (run_loadVar_cells Tryz.isAgg32 Tryz.sizeOf32 O10.cells rfl) rfl) ?_
  have he := jur_0 (r := r) (ts := ts) (ps := ps) (by omega) (by omega)
  exact ⟨_, rfl, E, _, _, _, _, _, _, _, _, _, by rw [he], by rw [he]; exact (F34_1.wide (by omega) (by omega)), by rw [he]; exact (F34_2.wide (by omega) (by omega)), by rw [he]; exact (F34_3.wide (by omega) (by omega))⟩
 refine hs_alloc Tryz.zeroValue81 F rfl rfl rfl ?_
 intro b4 w4 e4 hb4 hz4 O4
 have E := E.trans e4
 replace F17_1 := F17_1.ext e4
 replace F17_2 := F17_2.ext e4
 replace F17_3 := F17_3.ext e4
 replace F17_6 := F17_6.ext e4
 replace O1 := O1.ext e4
 replace O2 := O2.ext e4
 have F := F.trans e4
 replace O4 : Own w4 b4 [.slice none 0 0, .slice none 0 0, .slice none 0 0, .slice none 0 0, .int .i64 0, .int .i64 0] 81 := O4
 refine h_ready (rs := [6]) (by kernel_rfl) (by decide) ⟨?_, trivial⟩
 refine hs_call rfl (xcall Tryz.call55 rfl) rfl rfl rfl (PlayMoves_ok _ _ _ _ _ _ _ _ _ _ _ _ (begR r ts ps) _ _ _ r.Mv _ (F17_1.sl) (F17_2.sl) (F17_3.sl) (F17_6.sl) (H3.ext E) (begR_is hR) (by omega)) ?_
 rintro _ w5 ⟨e5, q20_1, m20_1, d20_1, q20_2, m20_2, d20_2, q20_3, m20_3, d20_3, q20_6, m20_6, d20_6, nr20, rfl, F20_1, F20_2, F20_3, F20_6⟩
 have z5 := e5.size
 have E := E.trans e5
 replace O1 := O1.ext e5
 replace O2 := O2.ext e5
 replace O4 := O4.ext e5
 have F := F.trans e5
 have lF20_1 := F20_1.sl.len
 have lF20_2 := F20_2.sl.len
 have lF20_3 := F20_3.sl.len
 have lF20_6 := F20_6.sl.len
 refine ⟨F, ?_⟩
 refine h_take 7 rfl (by kernel_rfl) (by kernel_rfl) (by kernel_rfl) (fun w' x_ => xmove rfl) rfl rfl rfl F ?_
 refine h_take 8 rfl (by kernel_rfl) (by kernel_rfl) (by kernel_rfl) (fun w' x_ => xextract rfl rfl) rfl rfl rfl F ?_
 refine h_take 9 rfl (by kernel_rfl) (by kernel_rfl) (by kernel_rfl) (fun w' x_ => xextract rfl rfl) rfl rfl rfl F ?_
 refine h_take 10 rfl (by kernel_rfl) (by kernel_rfl) (by kernel_rfl) (fun w' x_ => xextract rfl rfl) rfl rfl rfl F ?_
 refine h_ready (rs := [12]) (by kernel_rfl) (by decide) ⟨?_, trivial⟩
 refine hs_storeN (vs := [.slice q20_1 m20_1 d20_1, .slice q20_2 m20_2 d20_2, .slice q20_3 m20_3 d20_3, .slice q20_6 m20_6 d20_6, .int .i64 (playS r.Mv (begR r ts ps)).1.T, .int .i64 (playS r.Mv (begR r ts ps)).1.Q]) Tryz.sizeOf81 rfl rfl O4 rfl (by simp) (by simp [Value.oneCell']) F (by omega) rfl rfl ?_
 intro w6 on6 O6
 have hz6 := on6.size
 have E := on6.ext E (by omega)
 replace F20_1 := F20_1.only on6 (by omega)
 replace F20_2 := F20_2.only on6 (by omega)
 replace F20_3 := F20_3.only on6 (by omega)
 replace O1 := on6.own O1 (by omega)
 replace O2 := on6.own O2 (by omega)
 have F := on6.ext F (by omega)
 replace O6 : Own w6 b4 [.slice q20_1 m20_1 d20_1, .slice q20_2 m20_2 d20_2, .slice q20_3 m20_3 d20_3, .slice q20_6 m20_6 d20_6, .int .i64 (playS r.Mv (begR r ts ps)).1.T, .int .i64 (playS r.Mv (begR r ts ps)).1.Q] 81 := O6
 refine h_take 13 rfl (by kernel_rfl) (by kernel_rfl) (by kernel_rfl) (fun w' x_ => xassign rfl) rfl rfl rfl F ?_
 refine h_take 14 rfl (by kernel_rfl) (by kernel_rfl) (by kernel_rfl) (fun w' x_ => xassign rfl) rfl rfl rfl F ?_
 refine h_doneC (by kernel_rfl) ?_
 refine run_seq ?_
 refine sr_ ?_
 refine vm_ rfl rfl rfl ?_
 refine oz_ (xneq rfl rfl _ rfl) rfl rfl ?_
 refine ods (fun c25 => ?_) (fun c25 => ?_)
 ·
  refine ct_ rfl ?_
  refine sr_ ?_
  refine oz_ (xbuild (vs := []) (cells := #[.slice none 0 0, .slice none 0 0, .slice none 0 0]) rfl (by kernel_rfl)) rfl rfl ?_
  refine ostoreN (vs := _) Tryz.sizeOf32 rfl rfl O2 rfl (by simp) (by simp [Value.oneCell']) rfl ?_
  intro w7 on7 O7
  have hz7 := on7.size
  have E := on7.ext E (by omega)
  replace O7 : Own w7 b2 [.slice none 0 0, .slice none 0 0, .slice none 0 0] 32 := O7
  refine vn_ rfl rfl rfl ?_
  refine run_ret Tryz.func23 (resc2 rfl rfl (run_loadVar_cells Tryz.isAgg32 Tryz.sizeOf32 O7.cells rfl) rfl) ?_
  have he := jur_5 c25
  exact ⟨_, rfl, E, _, _, _, _, _, _, _, _, _, by rw [he], by rw [he]; exact (SlF.nil0 _ _ _), by rw [he]; exact (SlF.nil0 _ _ _), by rw [he]; exact (SlF.nil0 _ _ _)⟩
 refine cf_ rfl ?_
 refine sr_ ?_
 refine oz_ (xfieldAddr fo81f0 rfl) rfl rfl ?_
 refine oz_ (v := .agg #[.slice q20_1 m20_1 d20_1, .slice q20_2 m20_2 d20_2, .slice q20_3 m20_3 d20_3]) (xloadN Tryz.isAgg79 Tryz.sizeOf79 rfl ((Cells.mid (pre := []) (row := [.slice q20_1 m20_1 d20_1, .slice q20_2 m20_2 d20_2, .slice q20_3 m20_3 d20_3]) (post := [.slice q20_6 m20_6 d20_6, .int .i64 (playS r.Mv (begR r ts ps)).1.T, .int .i64 (playS r.Mv (begR r ts ps)).1.Q]) (O6.cells))) rfl) rfl rfl ?_
 refine oz_ (xfieldAddr fo26f7 rfl) rfl rfl ?_
 refine oz_ (v := .int .i64 r.Me) (xload1 Tryz.isAgg2 rfl (O1.cells) rfl) rfl rfl ?_
 refine oz_ (xfieldAddr fo26f8 rfl) rfl rfl ?_
 refine oz_ (v := .int .i64 r.Al) (xload1 Tryz.isAgg2 rfl (O1.cells) rfl) rfl rfl ?_
 refine oc (xcall Tryz.call57 rfl) rfl rfl rfl (sSwearJury_ok _ _ _ _ _ _ _ _ _ (playS r.Mv (begR r ts ps)).1.P r.Me r.Al _ (F20_1.sl) (F20_2.sl) (F20_3.sl) (pan_end hR)) ?_
 rintro _ w7 ⟨e7, q34_1, m34_1, d34_1, q34_2, m34_2, d34_2, q34_3, m34_3, d34_3, rfl, F34_1, F34_2, F34_3⟩
 have z7 := e7.size
 have E := E.trans e7
 replace O2 := O2.ext e7
 have lF34_1 := F34_1.sl.len
 have lF34_2 := F34_2.sl.len
 have lF34_3 := F34_3.sl.len
 refine vm_ rfl rfl rfl ?_
 refine oz_ (xextract rfl rfl) rfl rfl ?_
 refine oz_ (xextract rfl rfl) rfl rfl ?_
 refine oalloc Tryz.zeroValue32 rfl rfl ?_
 intro b8 w8 e8 hb8 hz8 O8
 have E := E.trans e8
 replace F34_1 := F34_1.ext e8
 replace F34_2 := F34_2.ext e8
 replace F34_3 := F34_3.ext e8
 replace O2 := O2.ext e8
 replace O8 : Own w8 b8 [.slice none 0 0, .slice none 0 0, .slice none 0 0] 32 := O8
 refine ostoreN (vs := _) Tryz.sizeOf32 rfl rfl O8 rfl (by simp) (by simp [Value.oneCell']) rfl ?_
 intro w9 on9 O9
 have hz9 := on9.size
 have E := on9.ext E (by omega)
 replace F34_1 := F34_1.only on9 (by omega)
 replace F34_2 := F34_2.only on9 (by omega)
 replace F34_3 := F34_3.only on9 (by omega)
 replace O2 := on9.own O2 (by omega)
 replace O9 : Own w9 b8 [.slice q34_1 m34_1 d34_1, .slice q34_2 m34_2 d34_2, .slice q34_3 m34_3 d34_3] 32 := O9
 refine vn_ rfl rfl rfl ?_
 refine run_seq ?_
 refine sr_ ?_
 refine vm_ rfl rfl rfl ?_
 refine oz_ (xneq rfl rfl _ rfl) rfl rfl ?_
 refine ods (fun c38 => ?_) (fun c38 => ?_)
 ·
  refine ct_ rfl ?_
  refine sr_ ?_
  refine oz_ (xbuild (vs := []) (cells := #[.slice none 0 0, .slice none 0 0, .slice none 0 0]) rfl (by kernel_rfl)) rfl rfl ?_
  refine ostoreN (vs := _) Tryz.sizeOf32 rfl rfl O2 rfl (by simp) (by simp [Value.oneCell']) rfl ?_
  intro w10 on10 O10
  have hz10 := on10.size
  have E := on10.ext E (by omega)
  replace O10 : Own w10 b2 [.slice none 0 0, .slice none 0 0, .slice none 0 0] 32 := O10
  refine vn_ rfl rfl rfl ?_
  refine run_ret Tryz.func23 (resc2 rfl rfl (run_loadVar_cells Tryz.isAgg32 Tryz.sizeOf32 O10.cells rfl) rfl) ?_
  have he := jur_4 (r := r) (ts := ts) (ps := ps) (by omega) c38
  exact ⟨_, rfl, E, _, _, _, _, _, _, _, _, _, by rw [he], by rw [he]; exact (SlF.nil0 _ _ _), by rw [he]; exact (SlF.nil0 _ _ _), by rw [he]; exact (SlF.nil0 _ _ _)⟩
 refine cf_ rfl ?_
 refine sr_ ?_
 refine oz_ (v := .agg #[.slice q34_1 m34_1 d34_1, .slice q34_2 m34_2 d34_2, .slice q34_3 m34_3 d34_3]) (xloadN Tryz.isAgg32 Tryz.sizeOf32 rfl (O9.cells) rfl) rfl rfl ?_
 refine ostoreN (vs := _) Tryz.sizeOf32 rfl rfl O2 rfl (by simp) (by simp [Value.oneCell']) rfl ?_
 intro w10 on10 O10
 have hz10 := on10.size
 have E := on10.ext E (by omega)
 replace F34_1 := F34_1.only on10 (by omega)
 replace F34_2 := F34_2.only on10 (by omega)
 replace F34_3 := F34_3.only on10 (by omega)
 replace O10 : Own w10 b2 [.slice q34_1 m34_1 d34_1, .slice q34_2 m34_2 d34_2, .slice q34_3 m34_3 d34_3] 32 := O10
 refine vn_ rfl rfl rfl ?_
 refine run_ret Tryz.func23 (resc2 rfl rfl (run_loadVar_cells Tryz.isAgg32 Tryz.sizeOf32 O10.cells rfl) rfl) ?_
 have he := jur_0 (r := r) (ts := ts) (ps := ps) (by omega) (by omega)
 exact ⟨_, rfl, E, _, _, _, _, _, _, _, _, _, by rw [he], by rw [he]; exact (F34_1.wide (by omega) (by omega)), by rw [he]; exact (F34_2.wide (by omega) (by omega)), by rw [he]; exact (F34_3.wide (by omega) (by omega))⟩
set_option maxHeartbeats 1000000 in
theorem ReplayRecord_ok (u1 : Option Addr) (n1 v1 : Nat) (u2 : Option Addr) (n2 v2 : Nat) (u3 : Option Addr) (n3 v3 : Nat) (r : Rec) (u4 : Option Addr) (n4 v4 : Nat) (ts : List Tie) (u5 : Option Addr) (n5 v5 : Nat) (ps : List ByteArray) (w : World) (H1 : Sl i64c 1 w u1 n1 v1 r.N) (H2 : Sl i64c 1 w u2 n2 v2 r.Sk) (H3 : Sl i64c 1 w u3 n3 v3 r.Mv) (H4 : Sl Tie.cells 4 w u4 n4 v4 ts) (hx4 : ∀ t ∈ ts, t.Party.size ≤ 9223372036854775807) (H5 : Sl strc 1 w u5 n5 v5 ps) (hx5 : ∀ y ∈ ps, y.size ≤ 9223372036854775807) : Ret Tryz.prog 6 [.agg #[.int .i64 r.C, .int .i64 r.St, .int .i64 r.Sa, .slice u1 n1 v1, .int .i64 r.Se, .slice u2 n2 v2, .slice u3 n3 v3, .int .i64 r.Me, .int .i64 r.Al], .slice u4 n4 v4, .slice u5 n5 v5] w (fun v w' => Ext w w' ∧ ∃ (q1 : Option Addr) (m1 d1 : Nat) (q2 : Option Addr) (m2 d2 : Nat) (q3 : Option Addr) (m3 d3 : Nat), v = .tuple #[.agg #[.slice q1 m1 d1, .slice q2 m2 d2, .slice q3 m3 d3], .int .i64 ((replayR r ts ps).2)] ∧ SlF i64c 1 w' w.heap.size w'.heap.size q1 m1 d1 ((replayR r ts ps).1.S) ∧ SlF i64c 1 w' w.heap.size w'.heap.size q2 m2 d2 ((replayR r ts ps).1.A) ∧ SlF i64c 1 w' w.heap.size w'.heap.size q3 m3 d3 ((replayR r ts ps).1.L)) := by
 refine ret_of_run (N := 20) Tryz.func6 rfl rfl rfl ?_
 have hn1 := H1.len
 have hn2 := H2.len
 have hn3 := H3.len
 have hn4 := H4.len
 have hn46 := H4.n64
 have hn5 := H5.len
 have hn56 := H5.n64
 have E : Ext w w := Ext.refl w
 refine sr_ ?_
 refine obox rfl rfl rfl ?_
 intro b1 w1 e1 hb1 hz1 O1
 have E := E.trans e1
 replace O1 : Own w1 b1 [.int .i64 r.C, .int .i64 r.St, .int .i64 r.Sa, .slice u1 n1 v1, .int .i64 r.Se, .slice u2 n2 v2, .slice u3 n3 v3, .int .i64 r.Me, .int .i64 r.Al] 26 := O1
 refine oalloc Tryz.zeroValue32 rfl rfl ?_
 intro b2 w2 e2 hb2 hz2 O2
 have E := E.trans e2
 replace O1 := O1.ext e2
 replace O2 : Own w2 b2 [.slice none 0 0, .slice none 0 0, .slice none 0 0] 32 := O2
 refine vn_ rfl rfl rfl ?_
 refine run_seq ?_
 refine sr_ ?_
 refine oz_ (v := .agg #[.int .i64 r.C, .int .i64 r.St, .int .i64 r.Sa, .slice u1 n1 v1, .int .i64 r.Se, .slice u2 n2 v2, .slice u3 n3 v3, .int .i64 r.Me, .int .i64 r.Al]) (xloadN Tryz.isAgg26 Tryz.sizeOf26 rfl (O1.cells) rfl) rfl rfl ?_
 refine vm_ rfl rfl rfl ?_
 refine vm_ rfl rfl rfl ?_
 refine oc (xcall Tryz.call20 rfl) rfl rfl rfl (recordOk_ok _ _ _ _ _ _ _ _ _ r _ _ _ ts _ _ _ ps _ (H1.ext E) (H2.ext E) (H3.ext E) (H4.ext E) (by assumption) (H5.ext E) (by assumption)) ?_
 rintro _ w3 ⟨rfl, e3⟩
 have z3 := e3.size
 have E := E.trans e3
 replace O1 := O1.ext e3
 replace O2 := O2.ext e3
 refine obs (fun c11 => ?_) (fun c11 => ?_)
 rotate_left
 ·
  refine oz_ (xnot rfl) rfl rfl ?_
  refine ct_ rfl ?_
  refine sr_ ?_
  refine oz_ (xbuild (vs := []) (cells := #[.slice none 0 0, .slice none 0 0, .slice none 0 0]) rfl (by kernel_rfl)) rfl rfl ?_
  refine ostoreN (vs := _) Tryz.sizeOf32 rfl rfl O2 rfl (by simp) (by simp [Value.oneCell']) rfl ?_
  intro w4 on4 O4
  have hz4 := on4.size
  have E := on4.ext E (by omega)
  replace O4 : Own w4 b2 [.slice none 0 0, .slice none 0 0, .slice none 0 0] 32 := O4
  refine vn_ rfl rfl rfl ?_
  refine run_ret Tryz.func6 (resc2 rfl rfl (run_loadVar_cells Tryz.isAgg32 Tryz.sizeOf32 O4.cells rfl) rfl) ?_
  have he := rep_1 c11
  exact ⟨_, rfl, E, _, _, _, _, _, _, _, _, _, by rw [he], by rw [he]; exact (SlF.nil0 _ _ _), by rw [he]; exact (SlF.nil0 _ _ _), by rw [he]; exact (SlF.nil0 _ _ _)⟩
 obtain ⟨hR, hC⟩ := recOk_iff.1 c11
 refine oz_ (xnot rfl) rfl rfl ?_
 refine cf_ rfl ?_
 refine sr_ ?_
 refine oz_ (v := .agg #[.int .i64 r.C, .int .i64 r.St, .int .i64 r.Sa, .slice u1 n1 v1, .int .i64 r.Se, .slice u2 n2 v2, .slice u3 n3 v3, .int .i64 r.Me, .int .i64 r.Al]) (xloadN Tryz.isAgg26 Tryz.sizeOf26 rfl (O1.cells) rfl) rfl rfl ?_
 refine vm_ rfl rfl rfl ?_
 refine vm_ rfl rfl rfl ?_
 refine oc (xcall Tryz.call21 rfl) rfl rfl rfl (jury_ok _ _ _ _ _ _ _ _ _ r _ _ _ ts _ _ _ ps _ (H1.ext E) (H2.ext E) (H3.ext E) (H4.ext E) (by assumption) (H5.ext E) (by assumption) hR hC) ?_
 rintro _ w4 ⟨e4, q17_1, m17_1, d17_1, q17_2, m17_2, d17_2, q17_3, m17_3, d17_3, rfl, F17_1, F17_2, F17_3⟩
 have z4 := e4.size
 have E := E.trans e4
 replace O2 := O2.ext e4
 have lF17_1 := F17_1.sl.len
 have lF17_2 := F17_2.sl.len
 have lF17_3 := F17_3.sl.len
 refine oz_ (xextract rfl rfl) rfl rfl ?_
 refine oz_ (xextract rfl rfl) rfl rfl ?_
 refine ostoreN (vs := _) Tryz.sizeOf32 rfl rfl O2 rfl (by simp) (by simp [Value.oneCell']) rfl ?_
 intro w5 on5 O5
 have hz5 := on5.size
 have E := on5.ext E (by omega)
 replace F17_1 := F17_1.only on5 (by omega)
 replace F17_2 := F17_2.only on5 (by omega)
 replace F17_3 := F17_3.only on5 (by omega)
 replace O5 : Own w5 b2 [.slice q17_1 m17_1 d17_1, .slice q17_2 m17_2 d17_2, .slice q17_3 m17_3 d17_3] 32 := O5
 refine vn_ rfl rfl rfl ?_
 refine run_ret Tryz.func6 (resc2 rfl rfl (run_loadVar_cells Tryz.isAgg32 Tryz.sizeOf32 O5.cells rfl) rfl) ?_
 have he := rep_0 c11
 exact ⟨_, rfl, E, _, _, _, _, _, _, _, _, _, by rw [he], by rw [he]; exact (F17_1.wide (by omega) (by omega)), by rw [he]; exact (F17_2.wide (by omega) (by omega)), by rw [he]; exact (F17_3.wide (by omega) (by omega))⟩
set_option maxHeartbeats 1000000 in
theorem sReplayRecord_ok (u1 : Option Addr) (n1 v1 : Nat) (u2 : Option Addr) (n2 v2 : Nat) (u3 : Option Addr) (n3 v3 : Nat) (r : Rec) (u4 : Option Addr) (n4 v4 : Nat) (ts : List Tie) (u5 : Option Addr) (n5 v5 : Nat) (ps : List ByteArray) (w : World) (H1 : Sl i64c 1 w u1 n1 v1 r.N) (H2 : Sl i64c 1 w u2 n2 v2 r.Sk) (H3 : Sl i64c 1 w u3 n3 v3 r.Mv) (H4 : Sl Tie.cells 4 w u4 n4 v4 ts) (hx4 : ∀ t ∈ ts, t.Party.size ≤ 9223372036854775807) (H5 : Sl strc 1 w u5 n5 v5 ps) (hx5 : ∀ y ∈ ps, y.size ≤ 9223372036854775807) : Ret Tryz.prog 7 [.agg #[.int .i64 r.C, .int .i64 r.St, .int .i64 r.Sa, .slice u1 n1 v1, .int .i64 r.Se, .slice u2 n2 v2, .slice u3 n3 v3, .int .i64 r.Me, .int .i64 r.Al], .slice u4 n4 v4, .slice u5 n5 v5] w (fun v w' => Ext w w' ∧ ∃ (q1 : Option Addr) (m1 d1 : Nat) (q2 : Option Addr) (m2 d2 : Nat) (q3 : Option Addr) (m3 d3 : Nat), v = .tuple #[.agg #[.slice q1 m1 d1, .slice q2 m2 d2, .slice q3 m3 d3], .int .i64 ((replayR r ts ps).2)] ∧ SlF i64c 1 w' w.heap.size w'.heap.size q1 m1 d1 ((replayR r ts ps).1.S) ∧ SlF i64c 1 w' w.heap.size w'.heap.size q2 m2 d2 ((replayR r ts ps).1.A) ∧ SlF i64c 1 w' w.heap.size w'.heap.size q3 m3 d3 ((replayR r ts ps).1.L)) := by
 refine ret_of_run (N := 23) Tryz.func7 rfl rfl rfl ?_
 have hn1 := H1.len
 have hn2 := H2.len
 have hn3 := H3.len
 have hn4 := H4.len
 have hn46 := H4.n64
 have hn5 := H5.len
 have hn56 := H5.n64
 have E : Ext w w := Ext.refl w
 refine sr_ ?_
 refine obox rfl rfl rfl ?_
 intro b1 w1 e1 hb1 hz1 O1
 have E := E.trans e1
 replace O1 : Own w1 b1 [.int .i64 r.C, .int .i64 r.St, .int .i64 r.Sa, .slice u1 n1 v1, .int .i64 r.Se, .slice u2 n2 v2, .slice u3 n3 v3, .int .i64 r.Me, .int .i64 r.Al] 26 := O1
 refine oalloc Tryz.zeroValue32 rfl rfl ?_
 intro b2 w2 e2 hb2 hz2 O2
 have E := E.trans e2
 replace O1 := O1.ext e2
 replace O2 : Own w2 b2 [.slice none 0 0, .slice none 0 0, .slice none 0 0] 32 := O2
 refine vn_ rfl rfl rfl ?_
 refine sr_ ?_
 refine oz_ (v := .agg #[.int .i64 r.C, .int .i64 r.St, .int .i64 r.Sa, .slice u1 n1 v1, .int .i64 r.Se, .slice u2 n2 v2, .slice u3 n3 v3, .int .i64 r.Me, .int .i64 r.Al]) (xloadN Tryz.isAgg26 Tryz.sizeOf26 rfl (O1.cells) rfl) rfl rfl ?_
 refine vm_ rfl rfl rfl ?_
 refine vm_ rfl rfl rfl ?_
 refine oc (xcall Tryz.call22 rfl) rfl rfl rfl (l16Code_ok _ _ _ _ _ _ _ _ _ r _ _ _ ts _ _ _ ps _ (H1.ext E) (H2.ext E) (H3.ext E) (H4.ext E) (by assumption) (H5.ext E) (by assumption)) ?_
 rintro _ w3 ⟨rfl, e3⟩
 have z3 := e3.size
 have E := E.trans e3
 replace O1 := O1.ext e3
 replace O2 := O2.ext e3
 refine vn_ rfl rfl rfl ?_
 refine run_seq ?_
 refine sr_ ?_
 refine vm_ rfl rfl rfl ?_
 refine oz_ (xneq rfl rfl _ rfl) rfl rfl ?_
 refine ods (fun c14 => ?_) (fun c14 => ?_)
 ·
  have hno : recOk r ts ps = false := by
    rw [Bool.eq_false_iff]; intro h_; exact c14 (code_case.1.2 h_)
  have hrc := code_case.2 c14
  refine ct_ rfl ?_
  refine sr_ ?_
  refine oz_ (xbuild (vs := []) (cells := #[.slice none 0 0, .slice none 0 0, .slice none 0 0]) rfl (by kernel_rfl)) rfl rfl ?_
  refine vm_ rfl rfl rfl ?_
  refine ostoreN (vs := _) Tryz.sizeOf32 rfl rfl O2 rfl (by simp) (by simp [Value.oneCell']) rfl ?_
  intro w4 on4 O4
  have hz4 := on4.size
  have E := on4.ext E (by omega)
  replace O4 : Own w4 b2 [.slice none 0 0, .slice none 0 0, .slice none 0 0] 32 := O4
  refine vn_ rfl rfl rfl ?_
  refine run_ret Tryz.func7 (resc2 rfl rfl (run_loadVar_cells Tryz.isAgg32 Tryz.sizeOf32 O4.cells rfl) rfl) ?_
  have he := rep_1 hno
  exact ⟨_, rfl, E, _, _, _, _, _, _, _, _, _, by rw [he, hrc], by rw [he]; exact (SlF.nil0 _ _ _), by rw [he]; exact (SlF.nil0 _ _ _), by rw [he]; exact (SlF.nil0 _ _ _)⟩
 have hok := code_case.1.1 (by omega : recCode r ts ps = 0)
 obtain ⟨hR, hC⟩ := recOk_iff.1 hok
 refine cf_ rfl ?_
 refine sr_ ?_
 refine oz_ (v := .agg #[.int .i64 r.C, .int .i64 r.St, .int .i64 r.Sa, .slice u1 n1 v1, .int .i64 r.Se, .slice u2 n2 v2, .slice u3 n3 v3, .int .i64 r.Me, .int .i64 r.Al]) (xloadN Tryz.isAgg26 Tryz.sizeOf26 rfl (O1.cells) rfl) rfl rfl ?_
 refine vm_ rfl rfl rfl ?_
 refine vm_ rfl rfl rfl ?_
 refine oc (xcall Tryz.call23 rfl) rfl rfl rfl (l16Replay_ok _ _ _ _ _ _ _ _ _ r _ _ _ ts _ _ _ ps _ (H1.ext E) (H2.ext E) (H3.ext E) (H4.ext E) (by assumption) (H5.ext E) (by assumption) hR hC) ?_
 rintro _ w4 ⟨e4, q20_1, m20_1, d20_1, q20_2, m20_2, d20_2, q20_3, m20_3, d20_3, rfl, F20_1, F20_2, F20_3⟩
 have z4 := e4.size
 have E := E.trans e4
 replace O2 := O2.ext e4
 have lF20_1 := F20_1.sl.len
 have lF20_2 := F20_2.sl.len
 have lF20_3 := F20_3.sl.len
 refine oz_ (xextract rfl rfl) rfl rfl ?_
 refine oz_ (xextract rfl rfl) rfl rfl ?_
 refine ostoreN (vs := _) Tryz.sizeOf32 rfl rfl O2 rfl (by simp) (by simp [Value.oneCell']) rfl ?_
 intro w5 on5 O5
 have hz5 := on5.size
 have E := on5.ext E (by omega)
 replace F20_1 := F20_1.only on5 (by omega)
 replace F20_2 := F20_2.only on5 (by omega)
 replace F20_3 := F20_3.only on5 (by omega)
 replace O5 : Own w5 b2 [.slice q20_1 m20_1 d20_1, .slice q20_2 m20_2 d20_2, .slice q20_3 m20_3 d20_3] 32 := O5
 refine vn_ rfl rfl rfl ?_
 refine run_ret Tryz.func7 (resc2 rfl rfl (run_loadVar_cells Tryz.isAgg32 Tryz.sizeOf32 O5.cells rfl) rfl) ?_
 have he := rep_0 hok
 exact ⟨_, rfl, E, _, _, _, _, _, _, _, _, _, by rw [he], by rw [he]; exact (F20_1.wide (by omega) (by omega)), by rw [he]; exact (F20_2.wide (by omega) (by omega)), by rw [he]; exact (F20_3.wide (by omega) (by omega))⟩
theorem tru_f {r : Rec} {ts : List Tie} {ps : List ByteArray} {j : Jur} (h : recOk r ts ps = false) : trueR r ts ps j = (false, 1) := by unfold trueR; rw [if_pos h]
theorem tru_t {r : Rec} {ts : List Tie} {ps : List ByteArray} {j : Jur} (h : recOk r ts ps = true) : trueR r ts ps j = (honR r && (decide ((juryR r ts ps).2 = 0) && (eqL eqI j.S (juryR r ts ps).1.S && (eqL eqI j.A (juryR r ts ps).1.A && eqL eqI j.L (juryR r ts ps).1.L))), 0) := by unfold trueR; rw [if_neg (by simp [h])]
set_option maxHeartbeats 1000000 in
theorem IsTrueJury_ok (u1 : Option Addr) (n1 v1 : Nat) (u2 : Option Addr) (n2 v2 : Nat) (u3 : Option Addr) (n3 v3 : Nat) (r : Rec) (u4 : Option Addr) (n4 v4 : Nat) (ts : List Tie) (u5 : Option Addr) (n5 v5 : Nat) (ps : List ByteArray) (u8 : Option Addr) (n8 v8 : Nat) (u9 : Option Addr) (n9 v9 : Nat) (u10 : Option Addr) (n10 v10 : Nat) (j : Jur) (w : World) (H1 : Sl i64c 1 w u1 n1 v1 r.N) (H2 : Sl i64c 1 w u2 n2 v2 r.Sk) (H3 : Sl i64c 1 w u3 n3 v3 r.Mv) (H4 : Sl Tie.cells 4 w u4 n4 v4 ts) (hx4 : ∀ t ∈ ts, t.Party.size ≤ 9223372036854775807) (H5 : Sl strc 1 w u5 n5 v5 ps) (hx5 : ∀ y ∈ ps, y.size ≤ 9223372036854775807) (H8 : Sl i64c 1 w u8 n8 v8 j.S) (H9 : Sl i64c 1 w u9 n9 v9 j.A) (H10 : Sl i64c 1 w u10 n10 v10 j.L) : Ret Tryz.prog 17 [.agg #[.int .i64 r.C, .int .i64 r.St, .int .i64 r.Sa, .slice u1 n1 v1, .int .i64 r.Se, .slice u2 n2 v2, .slice u3 n3 v3, .int .i64 r.Me, .int .i64 r.Al], .slice u4 n4 v4, .slice u5 n5 v5, .agg #[.slice u8 n8 v8, .slice u9 n9 v9, .slice u10 n10 v10]] w (Pv w (.tuple #[.bool (trueR r ts ps j).1, .int .i64 (trueR r ts ps j).2])) := by
 refine ret_of_run (N := 51) Tryz.func17 rfl rfl rfl ?_
 have hn1 := H1.len
 have hn2 := H2.len
 have hn3 := H3.len
 have hn4 := H4.len
 have hn46 := H4.n64
 have hn5 := H5.len
 have hn56 := H5.n64
 have E : Ext w w := Ext.refl w
 refine sr_ ?_
 refine obox rfl rfl rfl ?_
 intro b1 w1 e1 hb1 hz1 O1
 have E := E.trans e1
 replace O1 : Own w1 b1 [.int .i64 r.C, .int .i64 r.St, .int .i64 r.Sa, .slice u1 n1 v1, .int .i64 r.Se, .slice u2 n2 v2, .slice u3 n3 v3, .int .i64 r.Me, .int .i64 r.Al] 26 := O1
 refine obox rfl rfl rfl ?_
 intro b2 w2 e2 hb2 hz2 O2
 have E := E.trans e2
 replace O1 := O1.ext e2
 replace O2 : Own w2 b2 [.slice u8 n8 v8, .slice u9 n9 v9, .slice u10 n10 v10] 32 := O2
 refine va_ rfl rfl rfl ?_
 refine vn_ rfl rfl rfl ?_
 refine run_seq ?_
 refine sr_ ?_
 refine oz_ (v := .agg #[.int .i64 r.C, .int .i64 r.St, .int .i64 r.Sa, .slice u1 n1 v1, .int .i64 r.Se, .slice u2 n2 v2, .slice u3 n3 v3, .int .i64 r.Me, .int .i64 r.Al]) (xloadN Tryz.isAgg26 Tryz.sizeOf26 rfl (O1.cells) rfl) rfl rfl ?_
 refine vm_ rfl rfl rfl ?_
 refine vm_ rfl rfl rfl ?_
 refine oc (xcall Tryz.call20 rfl) rfl rfl rfl (recordOk_ok _ _ _ _ _ _ _ _ _ r _ _ _ ts _ _ _ ps _ (H1.ext E) (H2.ext E) (H3.ext E) (H4.ext E) (by assumption) (H5.ext E) (by assumption)) ?_
 rintro _ w3 ⟨rfl, e3⟩
 have z3 := e3.size
 have E := E.trans e3
 replace O1 := O1.ext e3
 replace O2 := O2.ext e3
 refine obs (fun c15 => ?_) (fun c15 => ?_)
 rotate_left
 ·
  refine oz_ (xnot rfl) rfl rfl ?_
  refine ct_ rfl ?_
  refine sr_ ?_
  refine va_ rfl rfl rfl ?_
  refine vn_ rfl rfl rfl ?_
  refine run_ret Tryz.func17 (res2 rfl rfl rfl) ?_
  exact ⟨_, rfl, by rw [tru_f c15], E⟩
 obtain ⟨hR, hC⟩ := recOk_iff.1 c15
 refine oz_ (xnot rfl) rfl rfl ?_
 refine cf_ rfl ?_
 refine sr_ ?_
 refine oz_ (v := .agg #[.int .i64 r.C, .int .i64 r.St, .int .i64 r.Sa, .slice u1 n1 v1, .int .i64 r.Se, .slice u2 n2 v2, .slice u3 n3 v3, .int .i64 r.Me, .int .i64 r.Al]) (xloadN Tryz.isAgg26 Tryz.sizeOf26 rfl (O1.cells) rfl) rfl rfl ?_
 refine vm_ rfl rfl rfl ?_
 refine vm_ rfl rfl rfl ?_
 refine oc (xcall Tryz.call21 rfl) rfl rfl rfl (jury_ok _ _ _ _ _ _ _ _ _ r _ _ _ ts _ _ _ ps _ (H1.ext E) (H2.ext E) (H3.ext E) (H4.ext E) (by assumption) (H5.ext E) (by assumption) hR hC) ?_
 rintro _ w4 ⟨e4, q21_1, m21_1, d21_1, q21_2, m21_2, d21_2, q21_3, m21_3, d21_3, rfl, F21_1, F21_2, F21_3⟩
 have z4 := e4.size
 have E := E.trans e4
 replace O1 := O1.ext e4
 replace O2 := O2.ext e4
 have lF21_1 := F21_1.sl.len
 have lF21_2 := F21_2.sl.len
 have lF21_3 := F21_3.sl.len
 refine vm_ rfl rfl rfl ?_
 refine oz_ (xextract rfl rfl) rfl rfl ?_
 refine oz_ (xextract rfl rfl) rfl rfl ?_
 refine oalloc Tryz.zeroValue32 rfl rfl ?_
 intro b5 w5 e5 hb5 hz5 O5
 have E := E.trans e5
 replace F21_1 := F21_1.ext e5
 replace F21_2 := F21_2.ext e5
 replace F21_3 := F21_3.ext e5
 replace O1 := O1.ext e5
 replace O2 := O2.ext e5
 replace O5 : Own w5 b5 [.slice none 0 0, .slice none 0 0, .slice none 0 0] 32 := O5
 refine ostoreN (vs := _) Tryz.sizeOf32 rfl rfl O5 rfl (by simp) (by simp [Value.oneCell']) rfl ?_
 intro w6 on6 O6
 have hz6 := on6.size
 have E := on6.ext E (by omega)
 replace F21_1 := F21_1.only on6 (by omega)
 replace F21_2 := F21_2.only on6 (by omega)
 replace F21_3 := F21_3.only on6 (by omega)
 replace O1 := on6.own O1 (by omega)
 replace O2 := on6.own O2 (by omega)
 replace O6 : Own w6 b5 [.slice q21_1 m21_1 d21_1, .slice q21_2 m21_2 d21_2, .slice q21_3 m21_3 d21_3] 32 := O6
 refine vn_ rfl rfl rfl ?_
 refine sr_ ?_
 refine oz_ (v := .agg #[.int .i64 r.C, .int .i64 r.St, .int .i64 r.Sa, .slice u1 n1 v1, .int .i64 r.Se, .slice u2 n2 v2, .slice u3 n3 v3, .int .i64 r.Me, .int .i64 r.Al]) (xloadN Tryz.isAgg26 Tryz.sizeOf26 rfl (O1.cells) rfl) rfl rfl ?_
 refine oc (xcall Tryz.call39 rfl) rfl rfl rfl (honest_ok _ _ _ _ _ _ _ _ _ r _ (H1.ext E) (H2.ext E) (H3.ext E) hR) ?_
 rintro _ w7 ⟨rfl, e7⟩
 have z7 := e7.size
 have E := E.trans e7
 replace F21_1 := F21_1.ext e7
 replace F21_2 := F21_2.ext e7
 replace F21_3 := F21_3.ext e7
 replace O2 := O2.ext e7
 replace O6 := O6.ext e7
 refine obs (fun c25 => ?_) (fun c25 => ?_)
 rotate_left
 ·
  refine vm_ rfl rfl rfl ?_
  refine o2_ rfl rfl rfl rfl ?_
  refine oz_ (xpick_f rfl rfl) rfl rfl ?_
  refine vm_ rfl rfl rfl ?_
  refine o2_ rfl rfl rfl rfl ?_
  refine o2_ rfl rfl rfl rfl ?_
  refine og rfl rfl rfl ?_
  refine oz_ (xpick_f rfl rfl) rfl rfl ?_
  refine vm_ rfl rfl rfl ?_
  refine o2_ rfl rfl rfl rfl ?_
  refine o2_ rfl rfl rfl rfl ?_
  refine og rfl rfl rfl ?_
  refine oz_ (xpick_f rfl rfl) rfl rfl ?_
  refine vm_ rfl rfl rfl ?_
  refine o2_ rfl rfl rfl rfl ?_
  refine o2_ rfl rfl rfl rfl ?_
  refine og rfl rfl rfl ?_
  refine oz_ (xpick_f rfl rfl) rfl rfl ?_
  refine va_ rfl rfl rfl ?_
  refine vn_ rfl rfl rfl ?_
  refine run_ret Tryz.func17 (res2 rfl rfl rfl) ?_
  exact ⟨_, rfl, by rw [tru_t c15]; simp only [c25, Bool.true_and, Bool.false_and, Bool.and_false, Bool.and_true], E⟩
 refine vm_ rfl rfl rfl ?_
 refine vm_ rfl rfl rfl ?_
 refine oz_ (xeql rfl rfl _ rfl) rfl rfl ?_
 refine ods (fun c28 => ?_) (fun c28 => ?_)
 rotate_left
 ·
  refine oz_ (xpick_t rfl rfl) rfl rfl ?_
  refine vm_ rfl rfl rfl ?_
  refine o2_ rfl rfl rfl rfl ?_
  refine o2_ rfl rfl rfl rfl ?_
  refine og rfl rfl rfl ?_
  refine oz_ (xpick_f rfl rfl) rfl rfl ?_
  refine vm_ rfl rfl rfl ?_
  refine o2_ rfl rfl rfl rfl ?_
  refine o2_ rfl rfl rfl rfl ?_
  refine og rfl rfl rfl ?_
  refine oz_ (xpick_f rfl rfl) rfl rfl ?_
  refine vm_ rfl rfl rfl ?_
  refine o2_ rfl rfl rfl rfl ?_
  refine o2_ rfl rfl rfl rfl ?_
  refine og rfl rfl rfl ?_
  refine oz_ (xpick_f rfl rfl) rfl rfl ?_
  refine va_ rfl rfl rfl ?_
  refine vn_ rfl rfl rfl ?_
  refine run_ret Tryz.func17 (res2 rfl rfl rfl) ?_
  exact ⟨_, rfl, by rw [tru_t c15]; simp only [c25, decide_eq_false c28, Bool.true_and, Bool.false_and, Bool.and_false, Bool.and_true], E⟩
 refine oz_ (xpick_t rfl rfl) rfl rfl ?_
 refine vm_ rfl rfl rfl ?_
 refine oz_ (xfieldAddr fo32f0 rfl) rfl rfl ?_
 refine oz_ (v := .slice u8 n8 v8) (xload1 Tryz.isAgg24 rfl (O2.cells) rfl) rfl rfl ?_
 refine oz_ (xfieldAddr fo32f0 rfl) rfl rfl ?_
 refine oz_ (v := .slice q21_1 m21_1 d21_1) (xload1 Tryz.isAgg24 rfl (O6.cells) rfl) rfl rfl ?_
 refine oc (xcall Tryz.call40 rfl) rfl rfl rfl (sameI_ok _ _ _ _ _ _ _ _ _ (H8.ext E) (F21_1.sl)) ?_
 rintro _ w8 ⟨rfl, e8⟩
 have z8 := e8.size
 have E := E.trans e8
 replace F21_2 := F21_2.ext e8
 replace F21_3 := F21_3.ext e8
 replace O2 := O2.ext e8
 replace O6 := O6.ext e8
 refine obs (fun c35 => ?_) (fun c35 => ?_)
 rotate_left
 ·
  refine oz_ (xpick_t rfl rfl) rfl rfl ?_
  refine vm_ rfl rfl rfl ?_
  refine o2_ rfl rfl rfl rfl ?_
  refine o2_ rfl rfl rfl rfl ?_
  refine og rfl rfl rfl ?_
  refine oz_ (xpick_f rfl rfl) rfl rfl ?_
  refine vm_ rfl rfl rfl ?_
  refine o2_ rfl rfl rfl rfl ?_
  refine o2_ rfl rfl rfl rfl ?_
  refine og rfl rfl rfl ?_
  refine oz_ (xpick_f rfl rfl) rfl rfl ?_
  refine va_ rfl rfl rfl ?_
  refine vn_ rfl rfl rfl ?_
  refine run_ret Tryz.func17 (res2 rfl rfl rfl) ?_
  exact ⟨_, rfl, by rw [tru_t c15]; simp only [c25, decide_eq_true c28, c35, Bool.true_and, Bool.false_and, Bool.and_false, Bool.and_true], E⟩
 refine oz_ (xpick_t rfl rfl) rfl rfl ?_
 refine vm_ rfl rfl rfl ?_
 refine oz_ (xfieldAddr fo32f1 rfl) rfl rfl ?_
 refine oz_ (v := .slice u9 n9 v9) (xload1 Tryz.isAgg24 rfl (O2.cells) rfl) rfl rfl ?_
 refine oz_ (xfieldAddr fo32f1 rfl) rfl rfl ?_
 refine oz_ (v := .slice q21_2 m21_2 d21_2) (xload1 Tryz.isAgg24 rfl (O6.cells) rfl) rfl rfl ?_
 refine oc (xcall Tryz.call40 rfl) rfl rfl rfl (sameI_ok _ _ _ _ _ _ _ _ _ (H9.ext E) (F21_2.sl)) ?_
 rintro _ w9 ⟨rfl, e9⟩
 have z9 := e9.size
 have E := E.trans e9
 replace F21_3 := F21_3.ext e9
 replace O2 := O2.ext e9
 replace O6 := O6.ext e9
 refine obs (fun c42 => ?_) (fun c42 => ?_)
 ·
  refine oz_ (xpick_t rfl rfl) rfl rfl ?_
  refine vm_ rfl rfl rfl ?_
  refine oz_ (xfieldAddr fo32f2 rfl) rfl rfl ?_
  refine oz_ (v := .slice u10 n10 v10) (xload1 Tryz.isAgg24 rfl (O2.cells) rfl) rfl rfl ?_
  refine oz_ (xfieldAddr fo32f2 rfl) rfl rfl ?_
  refine oz_ (v := .slice q21_3 m21_3 d21_3) (xload1 Tryz.isAgg24 rfl (O6.cells) rfl) rfl rfl ?_
  refine oc (xcall Tryz.call40 rfl) rfl rfl rfl (sameI_ok _ _ _ _ _ _ _ _ _ (H10.ext E) (F21_3.sl)) ?_
  rintro _ w10 ⟨rfl, e10⟩
  have z10 := e10.size
  have E := E.trans e10
  refine oz_ (xpick_t rfl rfl) rfl rfl ?_
  refine va_ rfl rfl rfl ?_
  refine vn_ rfl rfl rfl ?_
  refine run_ret Tryz.func17 (res2 rfl rfl rfl) ?_
  exact ⟨_, rfl, by rw [tru_t c15]; simp only [c25, decide_eq_true c28, c35, c42, Bool.true_and, Bool.false_and, Bool.and_false, Bool.and_true], E⟩
 refine oz_ (xpick_t rfl rfl) rfl rfl ?_
 refine vm_ rfl rfl rfl ?_
 refine o2_ rfl rfl rfl rfl ?_
 refine o2_ rfl rfl rfl rfl ?_
 refine og rfl rfl rfl ?_
 refine oz_ (xpick_f rfl rfl) rfl rfl ?_
 refine va_ rfl rfl rfl ?_
 refine vn_ rfl rfl rfl ?_
 refine run_ret Tryz.func17 (res2 rfl rfl rfl) ?_
 exact ⟨_, rfl, by rw [tru_t c15]; simp only [c25, decide_eq_true c28, c35, c42, Bool.true_and, Bool.false_and, Bool.and_false, Bool.and_true], E⟩
end Go.Proofs.YtchblgaklknkcaaGreat
