/-
  Records that are replayed: the walks. No condition beyond those written in each theorem.
-/
import Derived.Test.YtchblgaklknkcaaGreatRec12
namespace Go.Proofs.YtchblgaklknkcaaGreat
open Go.RowKit
set_option linter.unusedVariables false
set_option linter.unusedSimpArgs false
set_option linter.unusedSectionVars false
set_option maxRecDepth 4000
def recCode (r : Rec) (ts : List Tie) (ps : List ByteArray) : Int := if isRec r = false then 1 else caseCode ts ps
theorem MakePanelI_ok (p : Option Addr) (n c : Nat) (xs : List Int) (se : Int) (s : Nat) (w : World) (hse : se = (s : Int)) (H : Sl i64c 1 w p n c xs) (h0 : hasI xs 0 = false) (hP : isPan (mkPan xs s) = true) (hs1 : 1 ≤ s) (hs2 : s ≤ 12) (hl : xs.length ≤ 60) :
    Ret Tryz.prog 116 [.slice p n c, .int .i64 se] w (fun v w' => Ext w w' ∧ ∃ (q1 : Option Addr) (m1 d1 : Nat) (q2 : Option Addr) (m2 d2 : Nat) (q3 : Option Addr) (m3 d3 : Nat) , v = .tuple #[.agg #[.slice q1 m1 d1, .slice q2 m2 d2, .slice q3 m3 d3], .int .i64 0] ∧ SlF i64c 1 w' w.heap.size w'.heap.size q1 m1 d1 ((mkPan xs s).S) ∧ SlF i64c 1 w' w.heap.size w'.heap.size q2 m2 d2 ((mkPan xs s).W) ∧ SlF i64c 1 w' w.heap.size w'.heap.size q3 m3 d3 ((mkPan xs s).G)) := by
  subst hse; exact MakePanel_ok p n c xs s w H h0 hP hs1 hs2 hl
theorem sMakePanelI_ok (p : Option Addr) (n c : Nat) (xs : List Int) (se : Int) (s : Nat) (w : World) (hse : se = (s : Int)) (H : Sl i64c 1 w p n c xs) (h0 : hasI xs 0 = false) (hP : isPan (mkPan xs s) = true) (hs1 : 1 ≤ s) (hs2 : s ≤ 12) (hl : xs.length ≤ 60) :
    Ret Tryz.prog 124 [.slice p n c, .int .i64 se] w (fun v w' => Ext w w' ∧ ∃ (q1 : Option Addr) (m1 d1 : Nat) (q2 : Option Addr) (m2 d2 : Nat) (q3 : Option Addr) (m3 d3 : Nat) , v = .tuple #[.agg #[.slice q1 m1 d1, .slice q2 m2 d2, .slice q3 m3 d3], .int .i64 0] ∧ SlF i64c 1 w' w.heap.size w'.heap.size q1 m1 d1 ((mkPan xs s).S) ∧ SlF i64c 1 w' w.heap.size w'.heap.size q2 m2 d2 ((mkPan xs s).W) ∧ SlF i64c 1 w' w.heap.size w'.heap.size q3 m3 d3 ((mkPan xs s).G)) := by
  subst hse; exact sMakePanel_ok p n c xs s w H h0 hP hs1 hs2 hl
theorem isHon_f {r : Rec} (h : isRec r = false) : isHonR r = (false, 1) := by rw [isHonR, if_pos h]
theorem isHon_t {r : Rec} (h : isRec r = true) : isHonR r = (honR r, 0) := by rw [isHonR, if_neg (by simp [h])]
theorem rec_hon {r : Rec} (h : isRec r = true) : 0 ≤ r.St ∧ r.St ≤ 2147483647 ∧ 0 ≤ r.Sa ∧ r.Sa ≤ 2147483647 := by
 obtain ⟨_, _, _, h1, _, _, _, _, h2⟩ := isRec_nums h; omega
theorem lst_len {r : Rec} : (lstR r).length = r.N.length := (pickL_perm r.N r.St).length_eq
theorem recOk_iff {r : Rec} {ts : List Tie} {ps : List ByteArray} : recOk r ts ps = true ↔ isRec r = true ∧ areCase ts ps = true := by rw [recOk, Bool.and_eq_true]
theorem rep_1 {r : Rec} {ts : List Tie} {ps : List ByteArray} (h : recOk r ts ps = false) : replayR r ts ps = (noJur, 1) := by rw [replayR, if_pos h]
theorem rep_0 {r : Rec} {ts : List Tie} {ps : List ByteArray} (h : recOk r ts ps = true) : replayR r ts ps = juryR r ts ps := by rw [replayR, if_neg (by simp [h])]
theorem jur_5 {r : Rec} {ts : List Tie} {ps : List ByteArray} (h : (playS r.Mv (begR r ts ps)).2 ≠ 0) : juryR r ts ps = (noJur, 5) := by rw [juryR, if_pos h]
theorem jur_4 {r : Rec} {ts : List Tie} {ps : List ByteArray} (h : (playS r.Mv (begR r ts ps)).2 = 0) (h2 : (swear (playS r.Mv (begR r ts ps)).1.P r.Me r.Al).2 ≠ 0) : juryR r ts ps = (noJur, 4) := by
 rw [juryR, if_neg (by simp [h]), if_pos h2]
theorem jur_0 {r : Rec} {ts : List Tie} {ps : List ByteArray} (h : (playS r.Mv (begR r ts ps)).2 = 0) (h2 : (swear (playS r.Mv (begR r ts ps)).1.P r.Me r.Al).2 = 0) : juryR r ts ps = ((swear (playS r.Mv (begR r ts ps)).1.P r.Me r.Al).1, 0) := by
 rw [juryR, if_neg (by simp [h]), if_neg (by simp [h2])]
theorem pan_end {r : Rec} {ts : List Tie} {ps : List ByteArray} (h : isRec r = true) : isPan (playS r.Mv (begR r ts ps)).1.P = true := (isSel_iff.1 (playS_is r.Mv (begR_is h)).1).1
theorem code_case {r : Rec} {ts : List Tie} {ps : List ByteArray} : (recCode r ts ps = 0 ↔ recOk r ts ps = true) ∧ (recCode r ts ps ≠ 0 → recCode r ts ps = 1) := by
 unfold recCode caseCode recOk
 cases isRec r <;> cases areCase ts ps <;> simp
attribute [local irreducible] areTies causeB biasB clr clearP emptyP isPan meas bad overS passCode strCode playS isSel areStr moveCode moveS isRec areCase lstR mkPan swear juryR replayR trueR honR isHonR recOk recCode shF
set_option maxHeartbeats 400000 in
theorem l16Code_ok (u1 : Option Addr) (n1 v1 : Nat) (u2 : Option Addr) (n2 v2 : Nat) (u3 : Option Addr) (n3 v3 : Nat) (r : Rec) (u4 : Option Addr) (n4 v4 : Nat) (ts : List Tie) (u5 : Option Addr) (n5 v5 : Nat) (ps : List ByteArray) (w : World) (H1 : Sl i64c 1 w u1 n1 v1 r.N) (H2 : Sl i64c 1 w u2 n2 v2 r.Sk) (H3 : Sl i64c 1 w u3 n3 v3 r.Mv) (H4 : Sl Tie.cells 4 w u4 n4 v4 ts) (hx4 : ∀ t ∈ ts, t.Party.size ≤ 9223372036854775807) (H5 : Sl strc 1 w u5 n5 v5 ps) (hx5 : ∀ y ∈ ps, y.size ≤ 9223372036854775807) : Ret Tryz.prog 22 [.agg #[.int .i64 r.C, .int .i64 r.St, .int .i64 r.Sa, .slice u1 n1 v1, .int .i64 r.Se, .slice u2 n2 v2, .slice u3 n3 v3, .int .i64 r.Me, .int .i64 r.Al], .slice u4 n4 v4, .slice u5 n5 v5] w (Pv w (.int .i64 (recCode r ts ps))) := by
 refine ret_of_run (N := 13) Tryz.func22 rfl rfl rfl ?_
 have hn1 := H1.len
 have hn2 := H2.len
 have hn3 := H3.len
 have hn4 := H4.len
 have hn46 := H4.n64
 have hn5 := H5.len
 have hn56 := H5.n64
 have E : Ext w w := Ext.refl w
 refine sr_ ?_
 refine obox rfl rfl rfl ?_
 intro b1 w1 e1 hb1 hz1 O1
 have E := E.trans e1
 replace O1 : Own w1 b1 [.int .i64 r.C, .int .i64 r.St, .int .i64 r.Sa, .slice u1 n1 v1, .int .i64 r.Se, .slice u2 n2 v2, .slice u3 n3 v3, .int .i64 r.Me, .int .i64 r.Al] 26 := O1
 refine vn_ rfl rfl rfl ?_
 refine run_seq ?_
 refine sr_ ?_
 refine oz_ (v := .agg #[.int .i64 r.C, .int .i64 r.St, .int .i64 r.Sa, .slice u1 n1 v1, .int .i64 r.Se, .slice u2 n2 v2, .slice u3 n3 v3, .int .i64 r.Me, .int .i64 r.Al]) (xloadN Tryz.isAgg26 Tryz.sizeOf26 rfl (O1.cells) rfl) rfl rfl ?_
 refine oc (xcall Tryz.call53 rfl) rfl rfl rfl (sIsRecord_ok _ _ _ _ _ _ _ _ _ r _ (H1.ext E) (H2.ext E) (H3.ext E)) ?_
 rintro _ w2 ⟨rfl, e2⟩
 have z2 := e2.size
 have E := E.trans e2
 refine obs (fun c8 => ?_) (fun c8 => ?_)
 rotate_left
 ·
  refine oz_ (xnot rfl) rfl rfl ?_
  refine ct_ rfl ?_
  refine sr_ ?_
  refine vn_ rfl rfl rfl ?_
  refine run_ret Tryz.func22 (res1 rfl rfl) ?_
  exact ⟨_, rfl, by rw [recCode, if_pos c8], E⟩
 refine oz_ (xnot rfl) rfl rfl ?_
 refine cf_ rfl ?_
 refine sr_ ?_
 refine vm_ rfl rfl rfl ?_
 refine vm_ rfl rfl rfl ?_
 refine oc (xcall Tryz.call54 rfl) rfl rfl rfl (l13Code_ok _ _ _ ts _ _ _ ps _ (H4.ext E) (by assumption) (H5.ext E) (by assumption)) ?_
 rintro _ w3 ⟨rfl, e3⟩
 have z3 := e3.size
 have E := E.trans e3
 refine vn_ rfl rfl rfl ?_
 refine run_ret Tryz.func22 (res1 rfl rfl) ?_
 exact ⟨_, rfl, by rw [recCode, if_neg (by simp [c8])], E⟩
set_option maxHeartbeats 400000 in
theorem recordOk_ok (u1 : Option Addr) (n1 v1 : Nat) (u2 : Option Addr) (n2 v2 : Nat) (u3 : Option Addr) (n3 v3 : Nat) (r : Rec) (u4 : Option Addr) (n4 v4 : Nat) (ts : List Tie) (u5 : Option Addr) (n5 v5 : Nat) (ps : List ByteArray) (w : World) (H1 : Sl i64c 1 w u1 n1 v1 r.N) (H2 : Sl i64c 1 w u2 n2 v2 r.Sk) (H3 : Sl i64c 1 w u3 n3 v3 r.Mv) (H4 : Sl Tie.cells 4 w u4 n4 v4 ts) (hx4 : ∀ t ∈ ts, t.Party.size ≤ 9223372036854775807) (H5 : Sl strc 1 w u5 n5 v5 ps) (hx5 : ∀ y ∈ ps, y.size ≤ 9223372036854775807) : Ret Tryz.prog 20 [.agg #[.int .i64 r.C, .int .i64 r.St, .int .i64 r.Sa, .slice u1 n1 v1, .int .i64 r.Se, .slice u2 n2 v2, .slice u3 n3 v3, .int .i64 r.Me, .int .i64 r.Al], .slice u4 n4 v4, .slice u5 n5 v5] w (Pv w (.bool (recOk r ts ps))) := by
 refine ret_of_run (N := 14) Tryz.func20 rfl rfl rfl ?_
 have hn1 := H1.len
 have hn2 := H2.len
 have hn3 := H3.len
 have hn4 := H4.len
 have hn46 := H4.n64
 have hn5 := H5.len
 have hn56 := H5.n64
 have E : Ext w w := Ext.refl w
 refine sr_ ?_
 refine obox rfl rfl rfl ?_
 intro b1 w1 e1 hb1 hz1 O1
 have E := E.trans e1
 replace O1 : Own w1 b1 [.int .i64 r.C, .int .i64 r.St, .int .i64 r.Sa, .slice u1 n1 v1, .int .i64 r.Se, .slice u2 n2 v2, .slice u3 n3 v3, .int .i64 r.Me, .int .i64 r.Al] 26 := O1
 refine vn_ rfl rfl rfl ?_
 refine sr_ ?_
 refine oz_ (v := .agg #[.int .i64 r.C, .int .i64 r.St, .int .i64 r.Sa, .slice u1 n1 v1, .int .i64 r.Se, .slice u2 n2 v2, .slice u3 n3 v3, .int .i64 r.Me, .int .i64 r.Al]) (xloadN Tryz.isAgg26 Tryz.sizeOf26 rfl (O1.cells) rfl) rfl rfl ?_
 refine oc (xcall Tryz.call38 rfl) rfl rfl rfl (IsRecord_ok _ _ _ _ _ _ _ _ _ r _ (H1.ext E) (H2.ext E) (H3.ext E)) ?_
 rintro _ w2 ⟨rfl, e2⟩
 have z2 := e2.size
 have E := E.trans e2
 refine obs (fun c8 => ?_) (fun c8 => ?_)
 ·
  refine vm_ rfl rfl rfl ?_
  refine vm_ rfl rfl rfl ?_
  refine vm_ rfl rfl rfl ?_
  refine oc (xcall Tryz.call50 rfl) rfl rfl rfl (areCase_ok _ _ _ ts _ _ _ ps _ (H4.ext E) (by assumption) (H5.ext E) (by assumption)) ?_
  rintro _ w3 ⟨rfl, e3⟩
  have z3 := e3.size
  have E := E.trans e3
  refine oz_ (xpick_t rfl rfl) rfl rfl ?_
  refine vn_ rfl rfl rfl ?_
  refine run_ret Tryz.func20 (res1 rfl rfl) ?_
  exact ⟨_, rfl, by rw [recOk, c8]; rfl, E⟩
 refine vm_ rfl rfl rfl ?_
 refine o2_ rfl rfl rfl rfl ?_
 refine og rfl rfl rfl ?_
 refine oz_ (xpick_f rfl rfl) rfl rfl ?_
 refine vn_ rfl rfl rfl ?_
 refine run_ret Tryz.func20 (res1 rfl rfl) ?_
 exact ⟨_, rfl, by rw [recOk, c8]; rfl, E⟩
set_option maxHeartbeats 400000 in
theorem honest_ok (u1 : Option Addr) (n1 v1 : Nat) (u2 : Option Addr) (n2 v2 : Nat) (u3 : Option Addr) (n3 v3 : Nat) (r : Rec) (w : World) (H1 : Sl i64c 1 w u1 n1 v1 r.N) (H2 : Sl i64c 1 w u2 n2 v2 r.Sk) (H3 : Sl i64c 1 w u3 n3 v3 r.Mv) (hR : isRec r = true) : Ret Tryz.prog 39 [.agg #[.int .i64 r.C, .int .i64 r.St, .int .i64 r.Sa, .slice u1 n1 v1, .int .i64 r.Se, .slice u2 n2 v2, .slice u3 n3 v3, .int .i64 r.Me, .int .i64 r.Al]] w (Pv w (.bool (honR r))) := by
 refine ret_of_run (N := 11) Tryz.func39 rfl rfl rfl ?_
 obtain ⟨rh1, rh2, rh3, rh4⟩ := rec_hon hR
 have E : Ext w w := Ext.refl w
 refine sr_ ?_
 refine obox rfl rfl rfl ?_
 intro b1 w1 e1 hb1 hz1 O1
 have E := E.trans e1
 replace O1 : Own w1 b1 [.int .i64 r.C, .int .i64 r.St, .int .i64 r.Sa, .slice u1 n1 v1, .int .i64 r.Se, .slice u2 n2 v2, .slice u3 n3 v3, .int .i64 r.Me, .int .i64 r.Al] 26 := O1
 refine vn_ rfl rfl rfl ?_
 refine run_seq ?_
 refine run_draw (by kernel_rfl) (by kernel_rfl) ?_
 refine qv (fun w' x_ => xfieldAddr fo26f1 rfl) rfl rfl rfl ?_
 refine qv (v := .int .i64 r.St) (fun w' x_ => xload1 Tryz.isAgg2 rfl ((O1.cells).ext x_) rfl) rfl rfl rfl ?_
 refine qv (fun w' x_ => xfieldAddr fo26f2 rfl) rfl rfl rfl ?_
 refine qv (v := .int .i64 r.Sa) (fun w' x_ => xload1 Tryz.isAgg2 rfl ((O1.cells).ext x_) rfl) rfl rfl rfl ?_
 have t7 := fun (w' : World) (x_ : Ext w1 w') => Ret.toq (w := w') (commitment_ok (r.St) (r.Sa) _ (by omega) (by omega) (by omega) (by omega))
 refine qc (fun w' => xcall Tryz.call85 rfl) rfl rfl rfl t7 ?_
 clear t7
 refine qv (fun w' x_ => xfieldAddr fo26f0 rfl) rfl rfl rfl ?_
 refine qv (v := .int .i64 r.C) (fun w' x_ => xload1 Tryz.isAgg2 rfl ((O1.cells).ext x_) rfl) rfl rfl rfl ?_
 refine qv (fun w' x_ => xeql rfl rfl _ rfl) rfl rfl rfl ?_
 refine qv (fun w' x_ => xassign rfl) rfl rfl rfl ?_
 refine q_nil ?_
 intro w2 e2
 have z2 := e2.size
 have E := E.trans e2
 refine run_ret Tryz.func39 (res1 rfl rfl) ?_
 exact ⟨_, rfl, by unfold honR; rfl, E⟩
set_option maxHeartbeats 400000 in
theorem IsHonest_ok (u1 : Option Addr) (n1 v1 : Nat) (u2 : Option Addr) (n2 v2 : Nat) (u3 : Option Addr) (n3 v3 : Nat) (r : Rec) (w : World) (H1 : Sl i64c 1 w u1 n1 v1 r.N) (H2 : Sl i64c 1 w u2 n2 v2 r.Sk) (H3 : Sl i64c 1 w u3 n3 v3 r.Mv) : Ret Tryz.prog 16 [.agg #[.int .i64 r.C, .int .i64 r.St, .int .i64 r.Sa, .slice u1 n1 v1, .int .i64 r.Se, .slice u2 n2 v2, .slice u3 n3 v3, .int .i64 r.Me, .int .i64 r.Al]] w (Pv w (.tuple #[.bool (isHonR r).1, .int .i64 (isHonR r).2])) := by
 refine ret_of_run (N := 9) Tryz.func16 rfl rfl rfl ?_
 have E : Ext w w := Ext.refl w
 refine sr_ ?_
 refine obox rfl rfl rfl ?_
 intro b1 w1 e1 hb1 hz1 O1
 have E := E.trans e1
 replace O1 : Own w1 b1 [.int .i64 r.C, .int .i64 r.St, .int .i64 r.Sa, .slice u1 n1 v1, .int .i64 r.Se, .slice u2 n2 v2, .slice u3 n3 v3, .int .i64 r.Me, .int .i64 r.Al] 26 := O1
 refine va_ rfl rfl rfl ?_
 refine vn_ rfl rfl rfl ?_
 refine run_seq ?_
 refine sr_ ?_
 refine oz_ (v := .agg #[.int .i64 r.C, .int .i64 r.St, .int .i64 r.Sa, .slice u1 n1 v1, .int .i64 r.Se, .slice u2 n2 v2, .slice u3 n3 v3, .int .i64 r.Me, .int .i64 r.Al]) (xloadN Tryz.isAgg26 Tryz.sizeOf26 rfl (O1.cells) rfl) rfl rfl ?_
 refine oc (xcall Tryz.call38 rfl) rfl rfl rfl (IsRecord_ok _ _ _ _ _ _ _ _ _ r _ (H1.ext E) (H2.ext E) (H3.ext E)) ?_
 rintro _ w2 ⟨rfl, e2⟩
 have z2 := e2.size
 have E := E.trans e2
 replace O1 := O1.ext e2
 refine obs (fun c5 => ?_) (fun c5 => ?_)
 rotate_left
 ·
  refine oz_ (xnot rfl) rfl rfl ?_
  refine ct_ rfl ?_
  refine sr_ ?_
  refine va_ rfl rfl rfl ?_
  refine vn_ rfl rfl rfl ?_
  refine run_ret Tryz.func16 (res2 rfl rfl rfl) ?_
  exact ⟨_, rfl, by rw [isHon_f c5], E⟩
 refine oz_ (xnot rfl) rfl rfl ?_
 refine cf_ rfl ?_
 refine sr_ ?_
 refine oz_ (v := .agg #[.int .i64 r.C, .int .i64 r.St, .int .i64 r.Sa, .slice u1 n1 v1, .int .i64 r.Se, .slice u2 n2 v2, .slice u3 n3 v3, .int .i64 r.Me, .int .i64 r.Al]) (xloadN Tryz.isAgg26 Tryz.sizeOf26 rfl (O1.cells) rfl) rfl rfl ?_
 refine oc (xcall Tryz.call39 rfl) rfl rfl rfl (honest_ok _ _ _ _ _ _ _ _ _ r _ (H1.ext E) (H2.ext E) (H3.ext E) c5) ?_
 rintro _ w3 ⟨rfl, e3⟩
 have z3 := e3.size
 have E := E.trans e3
 refine va_ rfl rfl rfl ?_
 refine vn_ rfl rfl rfl ?_
 refine run_ret Tryz.func16 (res2 rfl rfl rfl) ?_
 exact ⟨_, rfl, by rw [isHon_t c5], E⟩
set_option maxHeartbeats 2000000 in
theorem panel_ok (u1 : Option Addr) (n1 v1 : Nat) (u2 : Option Addr) (n2 v2 : Nat) (u3 : Option Addr) (n3 v3 : Nat) (r : Rec) (u4 : Option Addr) (n4 v4 : Nat) (ts : List Tie) (u5 : Option Addr) (n5 v5 : Nat) (ps : List ByteArray) (w : World) (H1 : Sl i64c 1 w u1 n1 v1 r.N) (H2 : Sl i64c 1 w u2 n2 v2 r.Sk) (H3 : Sl i64c 1 w u3 n3 v3 r.Mv) (H4 : Sl Tie.cells 4 w u4 n4 v4 ts) (hx4 : ∀ t ∈ ts, t.Party.size ≤ 9223372036854775807) (H5 : Sl strc 1 w u5 n5 v5 ps) (hx5 : ∀ y ∈ ps, y.size ≤ 9223372036854775807) (hR : isRec r = true) (hC : areCase ts ps = true) : Ret Tryz.prog 94 [.agg #[.int .i64 r.C, .int .i64 r.St, .int .i64 r.Sa, .slice u1 n1 v1, .int .i64 r.Se, .slice u2 n2 v2, .slice u3 n3 v3, .int .i64 r.Me, .int .i64 r.Al], .slice u4 n4 v4, .slice u5 n5 v5] w (fun v w' => Ext w w' ∧ ∃ (q1 : Option Addr) (m1 d1 : Nat) (q2 : Option Addr) (m2 d2 : Nat) (q3 : Option Addr) (m3 d3 : Nat) , v = .agg #[.slice q1 m1 d1, .slice q2 m2 d2, .slice q3 m3 d3] ∧ SlF i64c 1 w' w.heap.size w'.heap.size q1 m1 d1 ((panR r ts ps).S) ∧ SlF i64c 1 w' w.heap.size w'.heap.size q2 m2 d2 ((panR r ts ps).W) ∧ SlF i64c 1 w' w.heap.size w'.heap.size q3 m3 d3 ((panR r ts ps).G)) := by
 refine ret_of_run (N := 50) Tryz.func94 rfl rfl rfl ?_
 have hn1 := H1.len
 have hn2 := H2.len
 have hn3 := H3.len
 have hn4 := H4.len
 have hn46 := H4.n64
 have hn5 := H5.len
 have hn56 := H5.n64
 obtain ⟨rv1, rv2, rv3, rv4, rv5, rv6, rv7, rv8, rv9⟩ := isRec_nums hR
 have hT := case_ties hC
 obtain ⟨lm1, lm2, lm3⟩ := lstR_make hR
 have lml := lst_len (r := r)
 have E : Ext w w := Ext.refl w
 refine sr_ ?_
 refine obox rfl rfl rfl ?_
 intro b1 w1 e1 hb1 hz1 O1
 have E := E.trans e1
 replace O1 : Own w1 b1 [.int .i64 r.C, .int .i64 r.St, .int .i64 r.Sa, .slice u1 n1 v1, .int .i64 r.Se, .slice u2 n2 v2, .slice u3 n3 v3, .int .i64 r.Me, .int .i64 r.Al] 26 := O1
 refine oalloc Tryz.zeroValue79 rfl rfl ?_
 intro b2 w2 e2 hb2 hz2 O2
 have E := E.trans e2
 replace O1 := O1.ext e2
 replace O2 : Own w2 b2 [.slice none 0 0, .slice none 0 0, .slice none 0 0] 79 := O2
 refine ops_nil ?_
 refine sr_ ?_
 refine oz_ (xfieldAddr fo26f1 rfl) rfl rfl ?_
 refine oz_ (v := .int .i64 r.St) (xload1 Tryz.isAgg2 rfl (O1.cells) rfl) rfl rfl ?_
 refine oz_ (xfieldAddr fo26f3 rfl) rfl rfl ?_
 refine oz_ (v := .slice u1 n1 v1) (xload1 Tryz.isAgg24 rfl (O1.cells) rfl) rfl rfl ?_
 refine oz_ (xlen Tryz.underlying24 rfl) rfl rfl ?_
 refine oc (xcall Tryz.call115 rfl) rfl rfl rfl (shuffled_ok r.St n1 _ (by omega) (by omega) (by omega)) ?_
 rintro _ w3 ⟨e3, q20, d20, st20, rfl, G20⟩
 have z3 := e3.size
 have E := E.trans e3
 replace O1 := O1.ext e3
 replace O2 := O2.ext e3
 have lG20 := G20.len
 refine vm_ rfl rfl rfl ?_
 refine oz_ (xextract rfl rfl) rfl rfl ?_
 refine oz_ (xextract rfl rfl) rfl rfl ?_
 refine va_ rfl rfl rfl ?_
 refine vn_ rfl rfl rfl ?_
 refine sr_ ?_
 refine obuild (cs := []) (sz := 1) Tryz.underlying24 inf2 rfl rfl (by decide) rfl rfl (by simp [Value.cells]) rfl rfl rfl ?_
 intro b4 w4 e4 hb4 hz4 O4
 have E := E.trans e4
 replace G20 := G20.ext e4
 replace O1 := O1.ext e4
 replace O2 := O2.ext e4
 have G4 : Ow i64c 1 2 w4 b4 (b4 + 1) (some ⟨b4, 0, none⟩) 0 0 ([] : List Int) := Own.ow (by simpa [i64c] using O4) rfl (by omega) (Nat.le_refl _) (by omega) (by intro x hx; rfl)
 refine vn_ rfl rfl rfl ?_
 refine run_seq ?_
 refine sr_ ?_
 refine vm_ rfl rfl rfl ?_
 refine oz_ (xlen Tryz.underlying24 rfl) rfl rfl ?_
 refine vm_ rfl rfl rfl ?_
 refine ops_nil ?_
 refine run_block ?_
 refine run_loop (ι := Nat × Option Addr × Nat × Nat × List Int × World) (fun x_ => match x_ with | (k, q_9, m_9, c_9, ys_9, wr) => (Ext w wr) ∧ (Own wr b1 ([.int .i64 r.C, .int .i64 r.St, .int .i64 r.Sa, .slice u1 n1 v1, .int .i64 r.Se, .slice u2 n2 v2, .slice u3 n3 v3, .int .i64 r.Me, .int .i64 r.Al]) 26) ∧ (Own wr b2 ([.slice none 0 0, .slice none 0 0, .slice none 0 0]) 79) ∧ (Ow i64c 1 2 wr w2.heap.size w3.heap.size q20 n1 d20 (shF r.St n1).1) ∧ (Ow i64c 1 2 wr b4 wr.heap.size q_9 m_9 c_9 ys_9) ∧ (b4 ≤ wr.heap.size) ∧ (w4.heap.size ≤ wr.heap.size) ∧ (k ≤ n1) ∧ (m_9 = k) ∧ (ys_9 = pickL r.N ((shF r.St n1).1.take k))) (fun x_ => match x_ with | (k, q_9, m_9, c_9, ys_9, wr) => [(1, .slice u4 n4 v4), (2, .slice u5 n5 v5), (3, .pointer (some ⟨b1, 0, none⟩)), (6, .pointer (some ⟨b2, 0, none⟩)), (9, .slice q_9 m_9 c_9), (24, .slice q20 n1 d20), (25, .int .i64 (n1 : Int)), (26, .int .i64 (k : Int))]) (fun x_ => match x_ with | (k, q_9, m_9, c_9, ys_9, wr) => wr) (fun x_ => match x_ with | (k, q_9, m_9, c_9, ys_9, wr) => n1 - k) ?_ (0, (some ⟨b4, 0, none⟩), 0, 0, [], w4) (⟨E, O1, O2, G20, G4.wide (by omega) (by omega), by omega, Nat.le_refl _, by omega, rfl, rfl⟩) ⟨rfl, rfl, rfl, rfl, rfl, rfl, rfl, rfl, trivial⟩ rfl
 intro i_ hI_ hback4
 obtain ⟨k, q_9, m_9, c_9, ys_9, wr⟩ := i_
 obtain ⟨E, O_b1, O_b2, G20, G_9, lo_9, lz_wr, hk, hml, hy⟩ := hI_
 try dsimp only
 have zr := E.size
 have lt_b1 := O_b1.lt
 have lt_b2 := O_b2.lt
 have lg_9 := G_9.len
 refine sr_ ?_
 refine oz_ (xlss rfl rfl _ rfl) rfl rfl ?_
 refine ods (fun c27 => ?_) (fun c27 => ?_)
 ·
  have hkp : k < (shF r.St n1).1.length := by omega
  have hpm := shF_mem (List.getElem_mem hkp)
  have hpn : ((shF r.St n1).1[k]).toNat < r.N.length := by omega
  refine ops_nil ?_
  refine run_seq ?_
  refine run_cond_t rfl ?_
  refine run_skip ?_
  refine run_seq ?_
  refine run_block ?_
  refine sr_ ?_
  have h28 := (G20.sl).at (i := k) (by omega)
  refine oz_ (xindexN (i := k) Tryz.underlying24 Tryz.sizeOf2 rfl rfl rfl ((G20.sl).p (i := k) (by omega)) (by have := (G20.sl).len; omega)) rfl rfl ?_
  refine oz_ (v := .int .i64 (shF r.St n1).1[k]) (xloadz Tryz.isAgg2 rfl (h28) rfl) rfl rfl ?_
  refine vn_ rfl rfl rfl ?_
  refine run_region ?_
  refine vm_ rfl rfl rfl ?_
  refine oz_ (xfieldAddr fo26f3 rfl) rfl rfl ?_
  refine oz_ (v := .slice u1 n1 v1) (xload1 Tryz.isAgg24 rfl (O_b1.cells) rfl) rfl rfl ?_
  refine vm_ rfl rfl rfl ?_
  have h34 := (H1.ext E).at (i := ((shF r.St n1).1[k]).toNat) (by omega)
  refine oz_ (xindexN (i := ((shF r.St n1).1[k]).toNat) Tryz.underlying24 Tryz.sizeOf2 rfl rfl (by omega) ((H1.ext E).p (i := ((shF r.St n1).1[k]).toNat) (by omega)) (by have := (H1.ext E).len; omega)) rfl rfl ?_
  refine oz_ (v := .int .i64 r.N[((shF r.St n1).1[k]).toNat]) (xloadz Tryz.isAgg2 rfl (h34) rfl) rfl rfl ?_
  refine obuild (cs := [.int .i64 r.N[((shF r.St n1).1[k]).toNat]]) (sz := 1) Tryz.underlying24 inf2 rfl rfl (by decide) rfl rfl (by simp [Value.cells]) rfl rfl rfl ?_
  intro b5 w5 e5 hb5 hz5 O5
  have E := E.trans e5
  replace G_9 := G_9.ext e5
  replace G20 := G20.ext e5
  replace O_b1 := O_b1.ext e5
  replace O_b2 := O_b2.ext e5
  refine oapp (bytes := 8) (nm := (m_9 + 1)) G_9 rfl rfl elem2 (Own.sl1 (y := r.N[((shF r.St n1).1[k]).toNat]) O5) (by intro h; cases h) (by intro y hy; rfl) (by intro y hy u hu; rw [List.mem_singleton] at hy; subst hy; revert u; simp [Value.oneCell', i64c]) (by omega) (by omega) (by omega) (by omega) rfl rfl ?_
  intro p6 c6_ w6 m6 G6
  have hz6 := m6.size
  have E := m6.toExt E (by omega)
  replace G20 := G20.off m6 (by omega)
  try replace O_b1 := m6.own O_b1 (by omega)
  try replace O_b2 := m6.own O_b2 (by omega)
  refine vn_ rfl rfl rfl ?_
  refine run_inBlock ?_
  refine run_region ?_
  refine oz_ (xadd rfl rfl (by unfold I64; omega)) rfl rfl ?_
  refine vm_ rfl rfl rfl ?_
  refine ops_nil ?_
  refine run_sub ?_ (hback4 (k + 1, p6, (m_9 + 1), c6_, (ys_9 ++ [r.N[((shF r.St n1).1[k]).toNat]]), w6) (⟨E, O_b1, O_b2, G20, G6.wide (by omega) (by omega), by omega, by omega, by omega, by omega, by rw [pickL_step hkp, hy, atI_of hpn]⟩) (by first | omega | (dsimp only; omega)))
  exact ⟨rfl, rfl, rfl, rfl, rfl, rfl, rfl, rfl, trivial⟩
 have hkn : k = n1 := by omega
 have hys : ys_9 = lstR r := by rw [hy, hkn, List.take_of_length_le (by omega), hn1]; unfold lstR; rfl
 subst hys
 refine ops_nil ?_
 refine run_seq ?_
 refine run_cond_f rfl ?_
 refine run_exit rfl ?_
 refine sr_ ?_
 refine vm_ rfl rfl rfl ?_
 refine oz_ (xfieldAddr fo26f4 rfl) rfl rfl ?_
 refine oz_ (v := .int .i64 r.Se) (xload1 Tryz.isAgg2 rfl (O_b1.cells) rfl) rfl rfl ?_
 refine oc (xcall Tryz.call116 rfl) rfl rfl rfl (MakePanelI_ok _ _ _ _ r.Se r.Se.toNat _ (by omega) (G_9.sl) lm1 lm2 (by omega) (by omega) (by omega)) ?_
 rintro _ w5 ⟨e5, q43_1, m43_1, d43_1, q43_2, m43_2, d43_2, q43_3, m43_3, d43_3, rfl, F43_1, F43_2, F43_3⟩
 have z5 := e5.size
 have E := E.trans e5
 replace O_b2 := O_b2.ext e5
 have lF43_1 := F43_1.sl.len
 have lF43_2 := F43_2.sl.len
 have lF43_3 := F43_3.sl.len
 refine vm_ rfl rfl rfl ?_
 refine oz_ (xextract rfl rfl) rfl rfl ?_
 refine oz_ (xextract rfl rfl) rfl rfl ?_
 refine oalloc Tryz.zeroValue79 rfl rfl ?_
 intro b6 w6 e6 hb6 hz6 O6
 have E := E.trans e6
 replace F43_1 := F43_1.ext e6
 replace F43_2 := F43_2.ext e6
 replace F43_3 := F43_3.ext e6
 replace O_b2 := O_b2.ext e6
 replace O6 : Own w6 b6 [.slice none 0 0, .slice none 0 0, .slice none 0 0] 79 := O6
 refine ostoreN (vs := _) Tryz.sizeOf79 rfl rfl O6 rfl (by simp) (by simp [Value.oneCell']) rfl ?_
 intro w7 on7 O7
 have hz7 := on7.size
 have E := on7.ext E (by omega)
 replace F43_1 := F43_1.only on7 (by omega)
 replace F43_2 := F43_2.only on7 (by omega)
 replace F43_3 := F43_3.only on7 (by omega)
 replace O_b2 := on7.own O_b2 (by omega)
 replace O7 : Own w7 b6 [.slice q43_1 m43_1 d43_1, .slice q43_2 m43_2 d43_2, .slice q43_3 m43_3 d43_3] 79 := O7
 refine vn_ rfl rfl rfl ?_
 refine sr_ ?_
 refine vm_ rfl rfl rfl ?_
 refine vm_ rfl rfl rfl ?_
 refine oz_ (v := .agg #[.slice q43_1 m43_1 d43_1, .slice q43_2 m43_2 d43_2, .slice q43_3 m43_3 d43_3]) (xloadN Tryz.isAgg79 Tryz.sizeOf79 rfl (O7.cells) rfl) rfl rfl ?_
 refine oc (xcall Tryz.call117 rfl) rfl rfl rfl (clearPanel_ok _ _ _ ts _ _ _ ps _ _ _ _ _ _ _ _ _ (mkPan (lstR r) r.Se.toNat) _ (H4.ext E) (by assumption) (H5.ext E) (by assumption) (F43_1.sl) (F43_2.sl) (F43_3.sl) lm2 hT) ?_
 rintro _ w8 ⟨e8, q49_1, m49_1, d49_1, q49_2, m49_2, d49_2, q49_3, m49_3, d49_3, rfl, F49_1, F49_2, F49_3⟩
 have z8 := e8.size
 have E := E.trans e8
 replace O_b2 := O_b2.ext e8
 have lF49_1 := F49_1.sl.len
 have lF49_2 := F49_2.sl.len
 have lF49_3 := F49_3.sl.len
 refine ostoreN (vs := _) Tryz.sizeOf79 rfl rfl O_b2 rfl (by simp) (by simp [Value.oneCell']) rfl ?_
 intro w9 on9 O9
 have hz9 := on9.size
 have E := on9.ext E (by omega)
 replace F49_1 := F49_1.only on9 (by omega)
 replace F49_2 := F49_2.only on9 (by omega)
 replace F49_3 := F49_3.only on9 (by omega)
 replace O9 : Own w9 b2 [.slice q49_1 m49_1 d49_1, .slice q49_2 m49_2 d49_2, .slice q49_3 m49_3 d49_3] 79 := O9
 refine ops_nil ?_
 refine run_ret Tryz.func94 (resc1 rfl rfl (run_loadVar_cells Tryz.isAgg79 Tryz.sizeOf79 O9.cells rfl)) ?_
 exact ⟨_, rfl, E, _, _, _, _, _, _, _, _, _, rfl, (F49_1.wide (by omega) (by omega)), (F49_2.wide (by omega) (by omega)), (F49_3.wide (by omega) (by omega))⟩
set_option maxHeartbeats 2000000 in
theorem l16Panel_ok (u1 : Option Addr) (n1 v1 : Nat) (u2 : Option Addr) (n2 v2 : Nat) (u3 : Option Addr) (n3 v3 : Nat) (r : Rec) (u4 : Option Addr) (n4 v4 : Nat) (ts : List Tie) (u5 : Option Addr) (n5 v5 : Nat) (ps : List ByteArray) (w : World) (H1 : Sl i64c 1 w u1 n1 v1 r.N) (H2 : Sl i64c 1 w u2 n2 v2 r.Sk) (H3 : Sl i64c 1 w u3 n3 v3 r.Mv) (H4 : Sl Tie.cells 4 w u4 n4 v4 ts) (hx4 : ∀ t ∈ ts, t.Party.size ≤ 9223372036854775807) (H5 : Sl strc 1 w u5 n5 v5 ps) (hx5 : ∀ y ∈ ps, y.size ≤ 9223372036854775807) (hR : isRec r = true) (hC : areCase ts ps = true) : Ret Tryz.prog 104 [.agg #[.int .i64 r.C, .int .i64 r.St, .int .i64 r.Sa, .slice u1 n1 v1, .int .i64 r.Se, .slice u2 n2 v2, .slice u3 n3 v3, .int .i64 r.Me, .int .i64 r.Al], .slice u4 n4 v4, .slice u5 n5 v5] w (fun v w' => Ext w w' ∧ ∃ (q1 : Option Addr) (m1 d1 : Nat) (q2 : Option Addr) (m2 d2 : Nat) (q3 : Option Addr) (m3 d3 : Nat) , v = .agg #[.slice q1 m1 d1, .slice q2 m2 d2, .slice q3 m3 d3] ∧ SlF i64c 1 w' w.heap.size w'.heap.size q1 m1 d1 ((panR r ts ps).S) ∧ SlF i64c 1 w' w.heap.size w'.heap.size q2 m2 d2 ((panR r ts ps).W) ∧ SlF i64c 1 w' w.heap.size w'.heap.size q3 m3 d3 ((panR r ts ps).G)) := by
 refine ret_of_run (N := 53) Tryz.func104 rfl rfl rfl ?_
 have hn1 := H1.len
 have hn2 := H2.len
 have hn3 := H3.len
 have hn4 := H4.len
 have hn46 := H4.n64
 have hn5 := H5.len
 have hn56 := H5.n64
 obtain ⟨rv1, rv2, rv3, rv4, rv5, rv6, rv7, rv8, rv9⟩ := isRec_nums hR
 have hT := case_ties hC
 obtain ⟨lm1, lm2, lm3⟩ := lstR_make hR
 have lml := lst_len (r := r)
 have E : Ext w w := Ext.refl w
 refine sr_ ?_
 refine obox rfl rfl rfl ?_
 intro b1 w1 e1 hb1 hz1 O1
 have E := E.trans e1
 replace O1 : Own w1 b1 [.int .i64 r.C, .int .i64 r.St, .int .i64 r.Sa, .slice u1 n1 v1, .int .i64 r.Se, .slice u2 n2 v2, .slice u3 n3 v3, .int .i64 r.Me, .int .i64 r.Al] 26 := O1
 refine oalloc Tryz.zeroValue79 rfl rfl ?_
 intro b2 w2 e2 hb2 hz2 O2
 have E := E.trans e2
 replace O1 := O1.ext e2
 replace O2 : Own w2 b2 [.slice none 0 0, .slice none 0 0, .slice none 0 0] 79 := O2
 refine ops_nil ?_
 refine sr_ ?_
 refine oz_ (xfieldAddr fo26f1 rfl) rfl rfl ?_
 refine oz_ (v := .int .i64 r.St) (xload1 Tryz.isAgg2 rfl (O1.cells) rfl) rfl rfl ?_
 refine oz_ (xfieldAddr fo26f3 rfl) rfl rfl ?_
 refine oz_ (v := .slice u1 n1 v1) (xload1 Tryz.isAgg24 rfl (O1.cells) rfl) rfl rfl ?_
 refine oz_ (xlen Tryz.underlying24 rfl) rfl rfl ?_
 refine oc (xcall Tryz.call123 rfl) rfl rfl rfl (l03Shuffle_ok r.St n1 _ (by omega) (by omega) (by omega)) ?_
 rintro _ w3 ⟨e3, q19, d19, rfl, G19⟩
 have z3 := e3.size
 have E := E.trans e3
 replace O1 := O1.ext e3
 replace O2 := O2.ext e3
 have lG19 := G19.len
 refine vn_ rfl rfl rfl ?_
 refine sr_ ?_
 refine obuild (cs := []) (sz := 1) Tryz.underlying24 inf2 rfl rfl (by decide) rfl rfl (by simp [Value.cells]) rfl rfl rfl ?_
 intro b4 w4 e4 hb4 hz4 O4
 have E := E.trans e4
 replace G19 := G19.ext e4
 replace O1 := O1.ext e4
 replace O2 := O2.ext e4
 have G4 : Ow i64c 1 2 w4 b4 (b4 + 1) (some ⟨b4, 0, none⟩) 0 0 ([] : List Int) := Own.ow (by simpa [i64c] using O4) rfl (by omega) (Nat.le_refl _) (by omega) (by intro x hx; rfl)
 refine vn_ rfl rfl rfl ?_
 refine run_seq ?_
 refine sr_ ?_
 refine vn_ rfl rfl rfl ?_
 refine run_block ?_
 refine run_loop (ι := Nat × Option Addr × Nat × Nat × List Int × World) (fun x_ => match x_ with | (k, q_8, m_8, c_8, ys_8, wr) => (Ext w wr) ∧ (Own wr b1 ([.int .i64 r.C, .int .i64 r.St, .int .i64 r.Sa, .slice u1 n1 v1, .int .i64 r.Se, .slice u2 n2 v2, .slice u3 n3 v3, .int .i64 r.Me, .int .i64 r.Al]) 26) ∧ (Own wr b2 ([.slice none 0 0, .slice none 0 0, .slice none 0 0]) 79) ∧ (Ow i64c 1 2 wr w2.heap.size w3.heap.size q19 n1 d19 (shF r.St n1).1) ∧ (Ow i64c 1 2 wr b4 wr.heap.size q_8 m_8 c_8 ys_8) ∧ (b4 ≤ wr.heap.size) ∧ (w4.heap.size ≤ wr.heap.size) ∧ (k ≤ n1) ∧ (m_8 = k) ∧ (ys_8 = pickL r.N ((shF r.St n1).1.take k))) (fun x_ => match x_ with | (k, q_8, m_8, c_8, ys_8, wr) => [(1, .slice u4 n4 v4), (2, .slice u5 n5 v5), (3, .pointer (some ⟨b1, 0, none⟩)), (6, .pointer (some ⟨b2, 0, none⟩)), (7, .slice q19 n1 d19), (8, .slice q_8 m_8 c_8), (9, .int .i64 (k : Int))]) (fun x_ => match x_ with | (k, q_8, m_8, c_8, ys_8, wr) => wr) (fun x_ => match x_ with | (k, q_8, m_8, c_8, ys_8, wr) => n1 - k) ?_ (0, (some ⟨b4, 0, none⟩), 0, 0, [], w4) (⟨E, O1, O2, G19, G4.wide (by omega) (by omega), by omega, Nat.le_refl _, by omega, rfl, rfl⟩) ⟨rfl, rfl, rfl, rfl, rfl, rfl, rfl, trivial⟩ rfl
 intro i_ hI_ hback4
 obtain ⟨k, q_8, m_8, c_8, ys_8, wr⟩ := i_
 obtain ⟨E, O_b1, O_b2, G19, G_8, lo_8, lz_wr, hk, hml, hy⟩ := hI_
 try dsimp only
 have zr := E.size
 have lt_b1 := O_b1.lt
 have lt_b2 := O_b2.lt
 have lg_8 := G_8.len
 refine run_seq ?_
 refine sr_ ?_
 refine vm_ rfl rfl rfl ?_
 refine vm_ rfl rfl rfl ?_
 refine oz_ (xlen Tryz.underlying24 rfl) rfl rfl ?_
 refine oz_ (xlss rfl rfl _ rfl) rfl rfl ?_
 refine ods (fun c24 => ?_) (fun c24 => ?_)
 ·
  have hkp : k < (shF r.St n1).1.length := by omega
  have hpm := shF_mem (List.getElem_mem hkp)
  have hpn : ((shF r.St n1).1[k]).toNat < r.N.length := by omega
  refine ct_ rfl ?_
  refine run_skip ?_
  refine run_seq ?_
  refine run_block ?_
  have hcut6 := cut_size (w := wr) (k := b4) (by omega)
  have RE := ext_to_cut E (k := b4) (by omega) (by omega)
  have RO_b1 := O_b1.cut (k := b4) (by omega) (by omega)
  have RO_b2 := O_b2.cut (k := b4) (by omega) (by omega)
  refine run_heldC (ext_cut (w := wr) (k := b4) (by omega)) (by kernel_rfl) ?_
  intro wh6 F
  have zh6 := F.size
  have E := E.trans F
  replace G_8 := G_8.ext F
  replace G19 := G19.ext F
  replace O_b1 := O_b1.ext F
  replace O_b2 := O_b2.ext F
  replace F := (ext_cut (w := wr) (k := b4) (by omega)).trans F
  refine h_take 0 rfl (by kernel_rfl) (by kernel_rfl) (by kernel_rfl) (fun w' x_ => xmove rfl) rfl rfl rfl F ?_
  refine h_take 1 rfl (by kernel_rfl) (by kernel_rfl) (by kernel_rfl) (fun w' x_ => xfieldAddr fo26f3 rfl) rfl rfl rfl F ?_
  refine h_take 2 (v := .slice u1 n1 v1) rfl (by kernel_rfl) (by kernel_rfl) (by kernel_rfl) (fun w' x_ => xload1 Tryz.isAgg24 rfl ((RO_b1.cells).ext x_) rfl) rfl rfl rfl F ?_
  refine h_take 3 rfl (by kernel_rfl) (by kernel_rfl) (by kernel_rfl) (fun w' x_ => xmove rfl) rfl rfl rfl F ?_
  refine h_take 4 rfl (by kernel_rfl) (by kernel_rfl) (by kernel_rfl) (fun w' x_ => xmove rfl) rfl rfl rfl F ?_
  have h32 := (G19.sl).at (i := k) (by omega)
  refine h_take 5 rfl (by kernel_rfl) (by kernel_rfl) (by kernel_rfl) (fun w' x_ => xindexN (i := k) Tryz.underlying24 Tryz.sizeOf2 rfl rfl rfl ((G19.sl).p (i := k) (by omega)) (by have := (G19.sl).len; omega)) rfl rfl rfl F ?_
  refine h_ready (rs := [6]) (by kernel_rfl) (by decide) ⟨?_, trivial⟩
  refine hs_val (v := .int .i64 (shF r.St n1).1[k]) rfl (xloadz Tryz.isAgg2 rfl (h32) rfl) rfl rfl rfl F ?_
  have h34 := (H1.ext RE).at (i := ((shF r.St n1).1[k]).toNat) (by omega)
  refine h_take 7 rfl (by kernel_rfl) (by kernel_rfl) (by kernel_rfl) (fun w' x_ => xindexN (i := ((shF r.St n1).1[k]).toNat) (m := (shF r.St n1).1[k]) (n := n1) Tryz.underlying24 Tryz.sizeOf2 rfl rfl (by omega) ((H1.ext RE).p (i := ((shF r.St n1).1[k]).toNat) (by omega)) (by have := (H1.ext RE).len; omega)) rfl rfl rfl F ?_
  refine h_take 8 (v := .int .i64 r.N[((shF r.St n1).1[k]).toNat]) rfl (by kernel_rfl) (by kernel_rfl) (by kernel_rfl) (fun w' x_ => xloadz Tryz.isAgg2 rfl ((h34).ext x_) rfl) rfl rfl rfl F ?_
  refine h_ready (rs := [9]) (by kernel_rfl) (by decide) ⟨?_, trivial⟩
  refine hs_build (len := 1) (vs := [.int .i64 r.N[((shF r.St n1).1[k]).toNat]]) (cs := [.int .i64 r.N[((shF r.St n1).1[k]).toNat]]) (sz := 1) Tryz.underlying24 inf2 rfl rfl (by decide) (by rfl) (by rfl) (by simp [Value.cells]) rfl F rfl rfl rfl ?_
  intro b5 w5 e5 hb5 hz5 O5
  have E := E.trans e5
  replace G_8 := G_8.ext e5
  replace G19 := G19.ext e5
  replace O_b1 := O_b1.ext e5
  replace O_b2 := O_b2.ext e5
  have F := F.trans e5
  refine h_ready (rs := [10]) (by kernel_rfl) (by decide) ⟨?_, trivial⟩
  refine hs_app (bytes := 8) (nm := (m_8 + 1)) G_8 (by rfl) (by rfl) elem2 (Own.sl1 (y := r.N[((shF r.St n1).1[k]).toNat]) O5) (by intro h; cases h) (by intro y hy; rfl) (by intro y hy u hu; rw [List.mem_singleton] at hy; subst hy; revert u; simp [Value.oneCell', i64c]) (by omega) (by omega) (by omega) (by omega) F (by omega) rfl rfl rfl ?_
  intro p6 c6_ w6 m6 G6
  have hz6 := m6.size
  have E := m6.toExt E (by omega)
  have F := m6.toExt F (by omega)
  replace G19 := G19.off m6 (by omega)
  try replace O_b1 := m6.own O_b1 (by omega)
  try replace O_b2 := m6.own O_b2 (by omega)
  refine h_take 11 rfl (by kernel_rfl) (by kernel_rfl) (by kernel_rfl) (fun w' x_ => xassign rfl) rfl rfl rfl F ?_
  refine h_doneC (by kernel_rfl) ?_
  refine run_inBlock ?_
  refine run_region ?_
  refine vm_ rfl rfl rfl ?_
  refine oz_ (xadd rfl rfl (by unfold I64; omega)) rfl rfl ?_
  refine vn_ rfl rfl rfl ?_
  refine run_sub ?_ (hback4 (k + 1, p6, (m_8 + 1), c6_, (ys_8 ++ [r.N[((shF r.St n1).1[k]).toNat]]), w6) (⟨E, O_b1, O_b2, G19, G6.wide (by omega) (by omega), by omega, by omega, by omega, by omega, by rw [pickL_step hkp, hy, atI_of hpn]⟩) (by first | omega | (dsimp only; omega)))
  exact ⟨rfl, rfl, rfl, rfl, rfl, rfl, rfl, trivial⟩
 have hkn : k = n1 := by omega
 have hys : ys_8 = lstR r := by rw [hy, hkn, List.take_of_length_le (by omega), hn1]; unfold lstR; rfl
 subst hys
 refine cg_ rfl ?_
 refine run_exit rfl ?_
 refine sr_ ?_
 refine vm_ rfl rfl rfl ?_
 refine oz_ (xfieldAddr fo26f4 rfl) rfl rfl ?_
 refine oz_ (v := .int .i64 r.Se) (xload1 Tryz.isAgg2 rfl (O_b1.cells) rfl) rfl rfl ?_
 refine oc (xcall Tryz.call124 rfl) rfl rfl rfl (sMakePanelI_ok _ _ _ _ r.Se r.Se.toNat _ (by omega) (G_8.sl) lm1 lm2 (by omega) (by omega) (by omega)) ?_
 rintro _ w5 ⟨e5, q42_1, m42_1, d42_1, q42_2, m42_2, d42_2, q42_3, m42_3, d42_3, rfl, F42_1, F42_2, F42_3⟩
 have z5 := e5.size
 have E := E.trans e5
 replace O_b2 := O_b2.ext e5
 have lF42_1 := F42_1.sl.len
 have lF42_2 := F42_2.sl.len
 have lF42_3 := F42_3.sl.len
 refine vm_ rfl rfl rfl ?_
 refine oz_ (xextract rfl rfl) rfl rfl ?_
 refine oz_ (xextract rfl rfl) rfl rfl ?_
 refine oalloc Tryz.zeroValue79 rfl rfl ?_
 intro b6 w6 e6 hb6 hz6 O6
 have E := E.trans e6
 replace F42_1 := F42_1.ext e6
 replace F42_2 := F42_2.ext e6
 replace F42_3 := F42_3.ext e6
 replace O_b2 := O_b2.ext e6
 replace O6 : Own w6 b6 [.slice none 0 0, .slice none 0 0, .slice none 0 0] 79 := O6
 refine ostoreN (vs := _) Tryz.sizeOf79 rfl rfl O6 rfl (by simp) (by simp [Value.oneCell']) rfl ?_
 intro w7 on7 O7
 have hz7 := on7.size
 have E := on7.ext E (by omega)
 replace F42_1 := F42_1.only on7 (by omega)
 replace F42_2 := F42_2.only on7 (by omega)
 replace F42_3 := F42_3.only on7 (by omega)
 replace O_b2 := on7.own O_b2 (by omega)
 replace O7 : Own w7 b6 [.slice q42_1 m42_1 d42_1, .slice q42_2 m42_2 d42_2, .slice q42_3 m42_3 d42_3] 79 := O7
 refine vn_ rfl rfl rfl ?_
 refine sr_ ?_
 refine vm_ rfl rfl rfl ?_
 refine vm_ rfl rfl rfl ?_
 refine oz_ (v := .agg #[.slice q42_1 m42_1 d42_1, .slice q42_2 m42_2 d42_2, .slice q42_3 m42_3 d42_3]) (xloadN Tryz.isAgg79 Tryz.sizeOf79 rfl (O7.cells) rfl) rfl rfl ?_
 refine oc (xcall Tryz.call125 rfl) rfl rfl rfl (ClearPanel_ok _ _ _ ts _ _ _ ps _ _ _ _ _ _ _ _ _ (mkPan (lstR r) r.Se.toNat) _ (H4.ext E) (by assumption) (H5.ext E) (by assumption) (F42_1.sl) (F42_2.sl) (F42_3.sl) lm2 hC) ?_
 rintro _ w8 ⟨e8, q49_1, m49_1, d49_1, q49_2, m49_2, d49_2, q49_3, m49_3, d49_3, rfl, F49_1, F49_2, F49_3⟩
 have z8 := e8.size
 have E := E.trans e8
 replace O_b2 := O_b2.ext e8
 have lF49_1 := F49_1.sl.len
 have lF49_2 := F49_2.sl.len
 have lF49_3 := F49_3.sl.len
 refine vm_ rfl rfl rfl ?_
 refine oz_ (xextract rfl rfl) rfl rfl ?_
 refine oz_ (xextract rfl rfl) rfl rfl ?_
 refine oalloc Tryz.zeroValue79 rfl rfl ?_
 intro b9 w9 e9 hb9 hz9 O9
 have E := E.trans e9
 replace F49_1 := F49_1.ext e9
 replace F49_2 := F49_2.ext e9
 replace F49_3 := F49_3.ext e9
 replace O_b2 := O_b2.ext e9
 replace O9 : Own w9 b9 [.slice none 0 0, .slice none 0 0, .slice none 0 0] 79 := O9
 refine ostoreN (vs := _) Tryz.sizeOf79 rfl rfl O9 rfl (by simp) (by simp [Value.oneCell']) rfl ?_
 intro w10 on10 O10
 have hz10 := on10.size
 have E := on10.ext E (by omega)
 replace F49_1 := F49_1.only on10 (by omega)
 replace F49_2 := F49_2.only on10 (by omega)
 replace F49_3 := F49_3.only on10 (by omega)
 replace O_b2 := on10.own O_b2 (by omega)
 replace O10 : Own w10 b9 [.slice q49_1 m49_1 d49_1, .slice q49_2 m49_2 d49_2, .slice q49_3 m49_3 d49_3] 79 := O10
 refine vn_ rfl rfl rfl ?_
 refine sr_ ?_
 refine oz_ (v := .agg #[.slice q49_1 m49_1 d49_1, .slice q49_2 m49_2 d49_2, .slice q49_3 m49_3 d49_3]) (xloadN Tryz.isAgg79 Tryz.sizeOf79 rfl (O10.cells) rfl) rfl rfl ?_
 refine ostoreN (vs := _) Tryz.sizeOf79 rfl rfl O_b2 rfl (by simp) (by simp [Value.oneCell']) rfl ?_
 intro w11 on11 O11
 have hz11 := on11.size
 have E := on11.ext E (by omega)
 replace F49_1 := F49_1.only on11 (by omega)
 replace F49_2 := F49_2.only on11 (by omega)
 replace F49_3 := F49_3.only on11 (by omega)
 replace O11 : Own w11 b2 [.slice q49_1 m49_1 d49_1, .slice q49_2 m49_2 d49_2, .slice q49_3 m49_3 d49_3] 79 := O11
 refine ops_nil ?_
 refine run_ret Tryz.func104 (resc1 rfl rfl (run_loadVar_cells Tryz.isAgg79 Tryz.sizeOf79 O11.cells rfl)) ?_
 exact ⟨_, rfl, E, _, _, _, _, _, _, _, _, _, rfl, (F49_1.wide (by omega) (by omega)), (F49_2.wide (by omega) (by omega)), (F49_3.wide (by omega) (by omega))⟩
end Go.Proofs.YtchblgaklknkcaaGreat
