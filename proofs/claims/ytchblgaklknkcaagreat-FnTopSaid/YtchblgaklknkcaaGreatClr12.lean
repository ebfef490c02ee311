/-
  Panels that are cleared: the walks. No condition beyond those written in each theorem.
-/
import Derived.Test.YtchblgaklknkcaaGreatTie12
namespace Go.Proofs.YtchblgaklknkcaaGreat
open Go.RowKit
set_option linter.unusedVariables false
set_option linter.unusedSimpArgs false
set_option linter.unusedSectionVars false
set_option maxRecDepth 4000
theorem par_slF {w W : World} {p : Option Addr} {n c : Nat} {xs : List Int} (H : Sl i64c 1 w p n c xs) (E : Ext w W) : SlF i64c 1 W 0 w.heap.size p n c xs :=
  ⟨H.ext E, (H.blk (fun x => by simp [i64c])).imp id fun h => ⟨Nat.zero_le _, h⟩⟩
theorem ties_len {ts : List Tie} (h : areTies ts = true) : ts.length ≤ 20 := by
 simp only [areTies, Bool.and_eq_true, decide_eq_true_eq] at h; exact h.2
theorem case_ties {ts : List Tie} {ps : List ByteArray} (h : areCase ts ps = true) : areTies ts = true := by
 simp only [areCase, Bool.and_eq_true] at h; exact h.1
theorem clr_next {b : Int → Bool} {g k : Nat} {x y : Pan} (hk : k < y.S.length) (hb : bad b y.S[k] = true) (h : ∀ j (hj : j < y.S.length), j < k → bad b y.S[j] = false) (hP : isPan y = true) (hg : meas y ≤ g) (hc : clearP b x = clr b g y) :
    clearP b x = clr b (g - 1) (emptyP y k) ∧ meas (emptyP y k) ≤ g - 1 ∧ meas (emptyP y k) < meas y ∧ isPan (emptyP y k) = true ∧ (emptyP y k).S.length = y.S.length ∧ ∀ j (hj : j < (emptyP y k).S.length), j < k → bad b (emptyP y k).S[j] = false := by
  have h0 := empty_ne hk hb
  have hm := meas_empty hk h0 (isPan_ne hP)
  refine ⟨?_, by omega, by omega, isPan_empty hP hk h0, emptyP_len _ _, fun j hj hjk => ?_⟩
  · rw [hc, show g = (g - 1) + 1 by omega, clr_go hk hb h, Nat.add_sub_cancel]
  · have e : (emptyP y k).S = y.S.set k (y.W.head?.getD 0) := by simp [emptyP]
    simp only [e, List.getElem_set_ne (show k ≠ j by omega)]
    exact h j (by rw [emptyP_len] at hj; exact hj) hjk
attribute [local irreducible] areTies causeB biasB clr clearP emptyP isPan meas bad
set_option maxHeartbeats 1000000 in
theorem l13Seat_ok (u4 : Option Addr) (n4 v4 : Nat) (ts : List Tie) (u5 : Option Addr) (n5 v5 : Nat) (ps : List ByteArray) (u1 : Option Addr) (n1 v1 : Nat) (u2 : Option Addr) (n2 v2 : Nat) (u3 : Option Addr) (n3 v3 : Nat) (x : Pan) (w : World) (H4 : Sl Tie.cells 4 w u4 n4 v4 ts) (hx4 : ∀ t ∈ ts, t.Party.size ≤ 9223372036854775807) (H5 : Sl strc 1 w u5 n5 v5 ps) (hx5 : ∀ y ∈ ps, y.size ≤ 9223372036854775807) (H1 : Sl i64c 1 w u1 n1 v1 x.S) (H2 : Sl i64c 1 w u2 n2 v2 x.W) (H3 : Sl i64c 1 w u3 n3 v3 x.G) (hP : isPan x = true) (hT : areTies ts = true) : Ret Tryz.prog 139 [.slice u4 n4 v4, .slice u5 n5 v5, .agg #[.slice u1 n1 v1, .slice u2 n2 v2, .slice u3 n3 v3]] w (fun v w' => Ext w w' ∧ ∃ r : Int, v = .int .i64 r ∧ ((r = -1 ∧ ∀ j (hj : j < x.S.length), bad (biasB ts ps) x.S[j] = false) ∨ ∃ k : Nat, r = (k : Int) ∧ ∃ hk : k < x.S.length, bad (biasB ts ps) x.S[k] = true ∧ ∀ j (hj : j < x.S.length), j < k → bad (biasB ts ps) x.S[j] = false)) := by
 refine ret_of_run (N := 34) Tryz.func139 rfl rfl rfl ?_
 have hn4 := H4.len
 have hn46 := H4.n64
 have hn5 := H5.len
 have hn56 := H5.n64
 have hn1 := H1.len
 have hn2 := H2.len
 have hn3 := H3.len
 have hle := pan_le hP
 have htl := ties_len hT
 have E : Ext w w := Ext.refl w
 refine sr_ ?_
 refine obox rfl rfl rfl ?_
 intro b1 w1 e1 hb1 hz1 O1
 have E := E.trans e1
 replace O1 : Own w1 b1 [.slice u1 n1 v1, .slice u2 n2 v2, .slice u3 n3 v3] 79 := O1
 refine vn_ rfl rfl rfl ?_
 refine run_seq ?_
 refine sr_ ?_
 refine vn_ rfl rfl rfl ?_
 refine run_block ?_
 refine run_loop (ι := Nat × World) (fun x_ => match x_ with | (k, wr) => (Ext w wr) ∧ (Own wr b1 ([.slice u1 n1 v1, .slice u2 n2 v2, .slice u3 n3 v3]) 79) ∧ (w1.heap.size ≤ wr.heap.size) ∧ (k ≤ n1) ∧ (∀ j (hj : j < x.S.length), j < k → bad (biasB ts ps) x.S[j] = false)) (fun x_ => match x_ with | (k, wr) => [(0, .slice u4 n4 v4), (1, .slice u5 n5 v5), (5, .pointer (some ⟨b1, 0, none⟩)), (7, .int .i64 (k : Int))]) (fun x_ => match x_ with | (k, wr) => wr) (fun x_ => match x_ with | (k, wr) => n1 - k) ?_ (0, w1) (⟨E, O1, Nat.le_refl _, by omega, fun j hj h => absurd h (Nat.not_lt_zero j)⟩) ⟨rfl, rfl, rfl, rfl, trivial⟩ rfl
 intro i_ hI_ hback2
 obtain ⟨k, wr⟩ := i_
 obtain ⟨E, O_b1, lz_wr, hk, ha⟩ := hI_
 try dsimp only
 have zr := E.size
 have lt_b1 := O_b1.lt
 refine run_seq ?_
 refine sr_ ?_
 refine vm_ rfl rfl rfl ?_
 refine oz_ (xfieldAddr fo79f0 rfl) rfl rfl ?_
 refine oz_ (v := .slice u1 n1 v1) (xload1 Tryz.isAgg24 rfl (O_b1.cells) rfl) rfl rfl ?_
 refine oz_ (xlen Tryz.underlying24 rfl) rfl rfl ?_
 refine oz_ (xlss rfl rfl _ rfl) rfl rfl ?_
 refine ods (fun c12 => ?_) (fun c12 => ?_)
 rotate_left
 ·
  refine cg_ rfl ?_
  refine run_exit rfl ?_
  refine sr_ ?_
  refine vn_ rfl rfl rfl ?_
  refine run_ret Tryz.func139 (res1 rfl rfl) ?_
  exact ⟨_, rfl, E, _, rfl, .inl ⟨rfl, fun j hj => ha j hj (by omega)⟩⟩
 refine ct_ rfl ?_
 refine run_skip ?_
 refine run_seq ?_
 refine run_block ?_
 refine sr_ ?_
 refine oz_ (xfieldAddr fo79f0 rfl) rfl rfl ?_
 refine oz_ (v := .slice u1 n1 v1) (xload1 Tryz.isAgg24 rfl (O_b1.cells) rfl) rfl rfl ?_
 refine vm_ rfl rfl rfl ?_
 have h18 := (H1.ext E).at (i := k) (by omega)
 refine oz_ (xindexN (i := k) Tryz.underlying24 Tryz.sizeOf2 rfl rfl rfl ((H1.ext E).p (i := k) (by omega)) (by have := (H1.ext E).len; omega)) rfl rfl ?_
 refine oz_ (v := .int .i64 x.S[k]) (xloadz Tryz.isAgg2 rfl (h18) rfl) rfl rfl ?_
 refine oz_ (xneq rfl rfl _ rfl) rfl rfl ?_
 refine ods (fun c20 => ?_) (fun c20 => ?_)
 rotate_left
 ·
  refine vm_ rfl rfl rfl ?_
  refine o2_ rfl rfl rfl rfl ?_
  refine o2_ rfl rfl rfl rfl ?_
  refine o2_ rfl rfl rfl rfl ?_
  refine o2_ rfl rfl rfl rfl ?_
  refine o2_ rfl rfl rfl rfl ?_
  refine oz_ (xpick_f rfl rfl) rfl rfl ?_
  refine cf_ rfl ?_
  refine run_inBlock ?_
  refine run_region ?_
  refine vm_ rfl rfl rfl ?_
  refine oz_ (xadd rfl rfl (by unfold I64; omega)) rfl rfl ?_
  refine vn_ rfl rfl rfl ?_
  refine run_sub ?_ (hback2 (k + 1, wr) (⟨E, O_b1, by omega, by omega, below_succ (q := fun y => bad (biasB ts ps) y = false) ha (fun _ => bad_f1 c20)⟩) (by first | omega | (dsimp only; omega)))
  exact ⟨rfl, rfl, rfl, rfl, trivial⟩
 refine vm_ rfl rfl rfl ?_
 refine vm_ rfl rfl rfl ?_
 refine vm_ rfl rfl rfl ?_
 refine oz_ (xfieldAddr fo79f0 rfl) rfl rfl ?_
 refine oz_ (v := .slice u1 n1 v1) (xload1 Tryz.isAgg24 rfl (O_b1.cells) rfl) rfl rfl ?_
 refine vm_ rfl rfl rfl ?_
 have h27 := (H1.ext E).at (i := k) (by omega)
 refine oz_ (xindexN (i := k) Tryz.underlying24 Tryz.sizeOf2 rfl rfl rfl ((H1.ext E).p (i := k) (by omega)) (by have := (H1.ext E).len; omega)) rfl rfl ?_
 refine oz_ (v := .int .i64 x.S[k]) (xloadz Tryz.isAgg2 rfl (h27) rfl) rfl rfl ?_
 refine oc (xcall Tryz.call154 rfl) rfl rfl rfl (l13Causes_ok _ _ _ ts _ _ _ ps (x.S[k]) _ (H4.ext E) (by assumption) (H5.ext E) (by assumption) (by omega)) ?_
 rintro _ w2 ⟨e2, q29, m29, d29, rfl, hb29⟩
 have z2 := e2.size
 have E := E.trans e2
 replace O_b1 := O_b1.ext e2
 refine oz_ (xlen Tryz.underlying24 rfl) rfl rfl ?_
 refine oz_ (xgtr rfl rfl _ rfl) rfl rfl ?_
 refine ods (fun c31 => ?_) (fun c31 => ?_)
 ·
  refine oz_ (xpick_t rfl rfl) rfl rfl ?_
  refine ct_ rfl ?_
  refine sr_ ?_
  refine vm_ rfl rfl rfl ?_
  refine vn_ rfl rfl rfl ?_
  refine run_ret Tryz.func139 (res1 rfl rfl) ?_
  exact ⟨_, rfl, E, _, rfl, .inr ⟨k, rfl, by omega, bad_t c20 (by rw [← hb29]; exact decide_eq_true (by omega)), ha⟩⟩
 refine oz_ (xpick_t rfl rfl) rfl rfl ?_
 refine cf_ rfl ?_
 refine run_inBlock ?_
 refine run_region ?_
 refine vm_ rfl rfl rfl ?_
 refine oz_ (xadd rfl rfl (by unfold I64; omega)) rfl rfl ?_
 refine vn_ rfl rfl rfl ?_
 refine run_sub ?_ (hback2 (k + 1, w2) (⟨E, O_b1, by omega, by omega, below_succ (q := fun y => bad (biasB ts ps) y = false) ha (fun _ => bad_f2 (by rw [← hb29]; exact decide_eq_false (by omega)))⟩) (by first | omega | (dsimp only; omega)))
 exact ⟨rfl, rfl, rfl, rfl, trivial⟩
set_option maxHeartbeats 400000 in
theorem l13Panel_ok (u4 : Option Addr) (n4 v4 : Nat) (ts : List Tie) (u5 : Option Addr) (n5 v5 : Nat) (ps : List ByteArray) (u1 : Option Addr) (n1 v1 : Nat) (u2 : Option Addr) (n2 v2 : Nat) (u3 : Option Addr) (n3 v3 : Nat) (x : Pan) (w : World) (H4 : Sl Tie.cells 4 w u4 n4 v4 ts) (hx4 : ∀ t ∈ ts, t.Party.size ≤ 9223372036854775807) (H5 : Sl strc 1 w u5 n5 v5 ps) (hx5 : ∀ y ∈ ps, y.size ≤ 9223372036854775807) (H1 : Sl i64c 1 w u1 n1 v1 x.S) (H2 : Sl i64c 1 w u2 n2 v2 x.W) (H3 : Sl i64c 1 w u3 n3 v3 x.G) (hb : n1 ≤ 1000 ∧ n2 ≤ 1000 ∧ n3 ≤ 1000) : Ret Tryz.prog 138 [.slice u4 n4 v4, .slice u5 n5 v5, .agg #[.slice u1 n1 v1, .slice u2 n2 v2, .slice u3 n3 v3]] w (Pv w (.int .i64 (panCode x ts ps))) := by
 refine ret_of_run (N := 13) Tryz.func138 rfl rfl rfl ?_
 have hn4 := H4.len
 have hn46 := H4.n64
 have hn5 := H5.len
 have hn56 := H5.n64
 have E : Ext w w := Ext.refl w
 refine sr_ ?_
 refine obox rfl rfl rfl ?_
 intro b1 w1 e1 hb1 hz1 O1
 have E := E.trans e1
 replace O1 : Own w1 b1 [.slice u1 n1 v1, .slice u2 n2 v2, .slice u3 n3 v3] 79 := O1
 refine vn_ rfl rfl rfl ?_
 refine run_seq ?_
 refine sr_ ?_
 refine oz_ (v := .agg #[.slice u1 n1 v1, .slice u2 n2 v2, .slice u3 n3 v3]) (xloadN Tryz.isAgg79 Tryz.sizeOf79 rfl (O1.cells) rfl) rfl rfl ?_
 refine oc (xcall Tryz.call105 rfl) rfl rfl rfl (sIsPanel_ok _ _ _ _ _ _ _ _ _ x _ (H1.ext E) (H2.ext E) (H3.ext E) hb) ?_
 rintro _ w2 ⟨rfl, e2⟩
 have z2 := e2.size
 have E := E.trans e2
 refine obs (fun c8 => ?_) (fun c8 => ?_)
 rotate_left
 ·
  refine oz_ (xnot rfl) rfl rfl ?_
  refine ct_ rfl ?_
  refine sr_ ?_
  refine vn_ rfl rfl rfl ?_
  refine run_ret Tryz.func138 (res1 rfl rfl) ?_
  exact ⟨_, rfl, by rw [panCode, if_pos c8], E⟩
 refine oz_ (xnot rfl) rfl rfl ?_
 refine cf_ rfl ?_
 refine sr_ ?_
 refine vm_ rfl rfl rfl ?_
 refine vm_ rfl rfl rfl ?_
 refine oc (xcall Tryz.call54 rfl) rfl rfl rfl (l13Code_ok _ _ _ ts _ _ _ ps _ (H4.ext E) (by assumption) (H5.ext E) (by assumption)) ?_
 rintro _ w3 ⟨rfl, e3⟩
 have z3 := e3.size
 have E := E.trans e3
 refine vn_ rfl rfl rfl ?_
 refine run_ret Tryz.func138 (res1 rfl rfl) ?_
 exact ⟨_, rfl, by rw [panCode, if_neg (by simp [c8])], E⟩
set_option maxHeartbeats 2000000 in
theorem clearPanel_ok (u4 : Option Addr) (n4 v4 : Nat) (ts : List Tie) (u5 : Option Addr) (n5 v5 : Nat) (ps : List ByteArray) (u1 : Option Addr) (n1 v1 : Nat) (u2 : Option Addr) (n2 v2 : Nat) (u3 : Option Addr) (n3 v3 : Nat) (x : Pan) (w : World) (H4 : Sl Tie.cells 4 w u4 n4 v4 ts) (hx4 : ∀ t ∈ ts, t.Party.size ≤ 9223372036854775807) (H5 : Sl strc 1 w u5 n5 v5 ps) (hx5 : ∀ y ∈ ps, y.size ≤ 9223372036854775807) (H1 : Sl i64c 1 w u1 n1 v1 x.S) (H2 : Sl i64c 1 w u2 n2 v2 x.W) (H3 : Sl i64c 1 w u3 n3 v3 x.G) (hP : isPan x = true) (hT : areTies ts = true) : Ret Tryz.prog 117 [.slice u4 n4 v4, .slice u5 n5 v5, .agg #[.slice u1 n1 v1, .slice u2 n2 v2, .slice u3 n3 v3]] w (fun v w' => Ext w w' ∧ ∃ (q1 : Option Addr) (m1 d1 : Nat) (q2 : Option Addr) (m2 d2 : Nat) (q3 : Option Addr) (m3 d3 : Nat) , v = .agg #[.slice q1 m1 d1, .slice q2 m2 d2, .slice q3 m3 d3] ∧ SlF i64c 1 w' w.heap.size w'.heap.size q1 m1 d1 ((clearP (biasB ts ps) x).S) ∧ SlF i64c 1 w' w.heap.size w'.heap.size q2 m2 d2 ((clearP (biasB ts ps) x).W) ∧ SlF i64c 1 w' w.heap.size w'.heap.size q3 m3 d3 ((clearP (biasB ts ps) x).G)) := by
 refine ret_of_run (N := 30) Tryz.func117 rfl rfl rfl ?_
 have hn4 := H4.len
 have hn46 := H4.n64
 have hn5 := H5.len
 have hn56 := H5.n64
 have hn1 := H1.len
 have hn2 := H2.len
 have hn3 := H3.len
 have hle := pan_le hP
 have htl := ties_len hT
 have E : Ext w w := Ext.refl w
 refine sr_ ?_
 refine obox rfl rfl rfl ?_
 intro b1 w1 e1 hb1 hz1 O1
 have E := E.trans e1
 replace O1 : Own w1 b1 [.slice u1 n1 v1, .slice u2 n2 v2, .slice u3 n3 v3] 79 := O1
 refine oalloc Tryz.zeroValue79 rfl rfl ?_
 intro b2 w2 e2 hb2 hz2 O2
 have E := E.trans e2
 replace O1 := O1.ext e2
 replace O2 : Own w2 b2 [.slice none 0 0, .slice none 0 0, .slice none 0 0] 79 := O2
 refine ops_nil ?_
 refine sr_ ?_
 refine oz_ (v := .agg #[.slice u1 n1 v1, .slice u2 n2 v2, .slice u3 n3 v3]) (xloadN Tryz.isAgg79 Tryz.sizeOf79 rfl (O1.cells) rfl) rfl rfl ?_
 refine oc (xcall Tryz.call118 rfl) rfl rfl rfl (copyPanel_ok _ _ _ _ _ _ _ _ _ x _ (H1.ext E) (H2.ext E) (H3.ext E) (by omega)) ?_
 rintro _ w3 ⟨e3, q10_1, m10_1, d10_1, q10_2, m10_2, d10_2, q10_3, m10_3, d10_3, k10_1, k10_2, rfl, ⟨hk10_1, hk10_2, hk10_3⟩, F10_1, F10_2, F10_3⟩
 have z3 := e3.size
 have E := E.trans e3
 replace O1 := O1.ext e3
 replace O2 := O2.ext e3
 have lF10_1 := F10_1.len
 have lF10_2 := F10_2.len
 have lF10_3 := F10_3.len
 refine oalloc Tryz.zeroValue79 rfl rfl ?_
 intro b4 w4 e4 hb4 hz4 O4
 have E := E.trans e4
 replace F10_1 := F10_1.ext e4
 replace F10_2 := F10_2.ext e4
 replace F10_3 := F10_3.ext e4
 replace O1 := O1.ext e4
 replace O2 := O2.ext e4
 replace O4 : Own w4 b4 [.slice none 0 0, .slice none 0 0, .slice none 0 0] 79 := O4
 refine ostoreN (vs := _) Tryz.sizeOf79 rfl rfl O4 rfl (by simp) (by simp [Value.oneCell']) rfl ?_
 intro w5 on5 O5
 have hz5 := on5.size
 have E := on5.ext E (by omega)
 replace F10_1 := F10_1.only on5 (by omega)
 replace F10_2 := F10_2.only on5 (by omega)
 replace F10_3 := F10_3.only on5 (by omega)
 replace O1 := on5.own O1 (by omega)
 replace O2 := on5.own O2 (by omega)
 replace O5 : Own w5 b4 [.slice q10_1 m10_1 d10_1, .slice q10_2 m10_2 d10_2, .slice q10_3 m10_3 d10_3] 79 := O5
 refine ops_nil ?_
 refine run_seq ?_
 refine sr_ ?_
 refine vn_ rfl rfl rfl ?_
 refine run_block ?_
 refine run_loop (ι := Nat × Pan × Nat × Nat × Nat × Option Addr × Nat × Nat × Option Addr × Nat × Nat × Option Addr × Nat × Nat × World) (fun x_ => match x_ with | (k, y, g, lo, hi, qa, ma, da, qb, mb, db, qc, mc, dc, wr) => (Ext w wr) ∧ (Own wr b1 ([.slice u1 n1 v1, .slice u2 n2 v2, .slice u3 n3 v3]) 79) ∧ (Own wr b2 ([.slice none 0 0, .slice none 0 0, .slice none 0 0]) 79) ∧ (Own wr b4 ([.slice qa ma da, .slice qb mb db, .slice qc mc dc]) 79) ∧ (SlF i64c 1 wr lo hi qa ma da y.S) ∧ (SlF i64c 1 wr lo hi qb mb db y.W) ∧ (SlF i64c 1 wr lo hi qc mc dc y.G) ∧ (w5.heap.size ≤ wr.heap.size) ∧ (isPan y = true) ∧ (clearP (biasB ts ps) x = clr (biasB ts ps) g y) ∧ (meas y ≤ g) ∧ (hi ≤ b4 ∨ b4 + 1 ≤ lo) ∧ (w2.heap.size ≤ lo) ∧ (hi ≤ wr.heap.size) ∧ (k ≤ y.S.length) ∧ (y.S.length ≤ 12) ∧ (∀ j (hj : j < y.S.length), j < k → bad (biasB ts ps) y.S[j] = false)) (fun x_ => match x_ with | (k, y, g, lo, hi, qa, ma, da, qb, mb, db, qc, mc, dc, wr) => [(0, .slice u4 n4 v4), (1, .slice u5 n5 v5), (6, .pointer (some ⟨b2, 0, none⟩)), (7, .pointer (some ⟨b4, 0, none⟩)), (8, .int .i64 (k : Int))]) (fun x_ => match x_ with | (k, y, g, lo, hi, qa, ma, da, qb, mb, db, qc, mc, dc, wr) => wr) (fun x_ => match x_ with | (k, y, g, lo, hi, qa, ma, da, qb, mb, db, qc, mc, dc, wr) => meas y + (12 - k)) ?_ (0, x, meas x, w2.heap.size, b4, q10_1, m10_1, d10_1, q10_2, m10_2, d10_2, q10_3, m10_3, d10_3, w5) (⟨E, O1, O2, O5, (F10_1.slF (by omega) (by omega)), (F10_2.slF (by omega) (by omega)), (F10_3.slF (by omega) (by omega)), Nat.le_refl _, hP, by unfold clearP; rfl, Nat.le_refl _, by omega, by omega, by omega, Nat.zero_le _, hle.1, fun j hj h => absurd h (Nat.not_lt_zero j)⟩) ⟨rfl, rfl, rfl, rfl, rfl, trivial⟩ rfl
 intro i_ hI_ hback3
 obtain ⟨k, y, g, lo, hi, qa, ma, da, qb, mb, db, qc, mc, dc, wr⟩ := i_
 obtain ⟨E, O_b1, O_b2, O_b4, FA, FB, FC, lz_wr, hyP, hg, hgm, hlo, hlw, hhi, hk, hy12, ha⟩ := hI_
 try dsimp only
 have zr := E.size
 have lt_b1 := O_b1.lt
 have lt_b2 := O_b2.lt
 have lt_b4 := O_b4.lt
 refine run_seq ?_
 refine sr_ ?_
 refine vm_ rfl rfl rfl ?_
 refine oz_ (xfieldAddr fo79f0 rfl) rfl rfl ?_
 refine oz_ (v := .slice qa ma da) (xload1 Tryz.isAgg24 rfl (O_b4.cells) rfl) rfl rfl ?_
 refine oz_ (xlen Tryz.underlying24 rfl) rfl rfl ?_
 refine oc (xcall Tryz.call130 rfl) rfl rfl rfl (at_ok ((k : Int)) ((ma : Int)) _) ?_
 rintro _ w_ ⟨rfl, hw_⟩
 replace hw_ := hw_.symm
 subst hw_
 refine obs (fun c15 => ?_) (fun c15 => ?_)
 rotate_left
 ·
  simp only [Bool.and_eq_false_iff, decide_eq_false_iff_not] at c15
  have lA := FA.sl.len
  refine cg_ rfl ?_
  refine run_exit rfl ?_
  refine sr_ ?_
  refine oz_ (v := .agg #[.slice qa ma da, .slice qb mb db, .slice qc mc dc]) (xloadN Tryz.isAgg79 Tryz.sizeOf79 rfl (O_b4.cells) rfl) rfl rfl ?_
  refine ostoreN (vs := _) Tryz.sizeOf79 rfl rfl O_b2 rfl (by simp) (by simp [Value.oneCell']) rfl ?_
  intro w6 on6 O6
  have hz6 := on6.size
  have E := on6.ext E (by omega)
  replace FA := FA.only on6 (by omega)
  replace FB := FB.only on6 (by omega)
  replace FC := FC.only on6 (by omega)
  replace O6 : Own w6 b2 [.slice qa ma da, .slice qb mb db, .slice qc mc dc] 79 := O6
  refine ops_nil ?_
  refine run_ret Tryz.func117 (resc1 rfl rfl (run_loadVar_cells Tryz.isAgg79 Tryz.sizeOf79 O6.cells rfl)) ?_
  have hst : clearP (biasB ts ps) x = y := by rw [hg]; exact clr_stop (fun j hj => ha j hj (by omega))
  exact ⟨_, rfl, E, _, _, _, _, _, _, _, _, _, rfl, by rw [hst]; exact (FA.wide (by omega) (by omega)), by rw [hst]; exact (FB.wide (by omega) (by omega)), by rw [hst]; exact (FC.wide (by omega) (by omega))⟩
 have hkl : k < y.S.length := by simp only [Bool.and_eq_true, decide_eq_true_eq] at c15; have := FA.sl.len; omega
 have hbb := bad_bias (ps := ps) hT y.S[k]
 refine ct_ rfl ?_
 refine run_skip ?_
 refine run_block ?_
 refine sr_ ?_
 refine vm_ rfl rfl rfl ?_
 refine vm_ rfl rfl rfl ?_
 refine oz_ (xfieldAddr fo79f0 rfl) rfl rfl ?_
 refine oz_ (v := .slice qa ma da) (xload1 Tryz.isAgg24 rfl (O_b4.cells) rfl) rfl rfl ?_
 refine vm_ rfl rfl rfl ?_
 have h21 := (FA.sl).at (i := k) (by omega)
 refine oz_ (xindexN (i := k) Tryz.underlying24 Tryz.sizeOf2 rfl rfl rfl ((FA.sl).p (i := k) (by omega)) (by have := (FA.sl).len; omega)) rfl rfl ?_
 refine oz_ (v := .int .i64 y.S[k]) (xloadz Tryz.isAgg2 rfl (h21) rfl) rfl rfl ?_
 refine oc (xcall Tryz.call131 rfl) rfl rfl rfl (biased_ok _ _ _ ts _ _ _ ps (y.S[k]) _ (H4.ext E) (by assumption) (H5.ext E) (by assumption) (by omega)) ?_
 rintro _ w6 ⟨rfl, e6⟩
 have z6 := e6.size
 have E := E.trans e6
 replace FA := FA.ext e6
 replace FB := FB.ext e6
 replace FC := FC.ext e6
 replace O_b1 := O_b1.ext e6
 replace O_b2 := O_b2.ext e6
 replace O_b4 := O_b4.ext e6
 refine obs (fun c23 => ?_) (fun c23 => ?_)
 rotate_left
 ·
  have hkb : bad (biasB ts ps) y.S[k] = false := by rw [hbb, c23]
  refine cg_ rfl ?_
  refine run_region ?_
  refine vm_ rfl rfl rfl ?_
  refine oz_ (xadd rfl rfl (by unfold I64; omega)) rfl rfl ?_
  refine vn_ rfl rfl rfl ?_
  refine run_inBlock ?_

  refine run_sub ?_ (hback3 (k + 1, y, g, lo, hi, qa, ma, da, qb, mb, db, qc, mc, dc, w6) (⟨E, O_b1, O_b2, O_b4, (FA.wide (by omega) (by omega)), (FB.wide (by omega) (by omega)), (FC.wide (by omega) (by omega)), by omega, hyP, hg, hgm, hlo, hlw, by omega, by omega, hy12, below_succ (q := fun z => bad (biasB ts ps) z = false) ha (fun _ => hkb)⟩) (by first | omega | (dsimp only; omega)))
  exact ⟨rfl, rfl, rfl, rfl, rfl, trivial⟩
 have hkb : bad (biasB ts ps) y.S[k] = true := by rw [hbb, c23]
 refine ct_ rfl ?_
 refine run_region ?_
 refine oz_ (v := .agg #[.slice qa ma da, .slice qb mb db, .slice qc mc dc]) (xloadN Tryz.isAgg79 Tryz.sizeOf79 rfl (O_b4.cells) rfl) rfl rfl ?_
 refine vm_ rfl rfl rfl ?_
 refine oc (xcall Tryz.call132 rfl) rfl rfl rfl (empty_ok _ _ _ _ _ _ _ _ _ y k _ (FA.sl) (FB.sl) (FC.sl) hyP hkl) ?_
 rintro _ w7 ⟨e7, q26_1, m26_1, d26_1, q26_2, m26_2, d26_2, q26_3, m26_3, d26_3, rfl, F26_1, F26_2, F26_3⟩
 have z7 := e7.size
 have E := E.trans e7
 replace O_b1 := O_b1.ext e7
 replace O_b2 := O_b2.ext e7
 replace O_b4 := O_b4.ext e7
 have lF26_1 := F26_1.sl.len
 have lF26_2 := F26_2.sl.len
 have lF26_3 := F26_3.sl.len
 refine ostoreN (vs := _) Tryz.sizeOf79 rfl rfl O_b4 rfl (by simp) (by simp [Value.oneCell']) rfl ?_
 intro w8 on8 O8
 have hz8 := on8.size
 have E := on8.ext E (by omega)
 replace F26_1 := F26_1.only on8 (by omega)
 replace F26_2 := F26_2.only on8 (by omega)
 replace F26_3 := F26_3.only on8 (by omega)
 replace O_b1 := on8.own O_b1 (by omega)
 replace O_b2 := on8.own O_b2 (by omega)
 replace O8 : Own w8 b4 [.slice q26_1 m26_1 d26_1, .slice q26_2 m26_2 d26_2, .slice q26_3 m26_3 d26_3] 79 := O8
 refine ops_nil ?_
 refine run_inBlock ?_
 obtain ⟨e1, e2, e3, e4, e5, e6⟩ := clr_next hkl hkb ha hyP hgm hg
 refine run_sub ?_ (hback3 (k, (emptyP y k), (g - 1), (b4 + 1), w8.heap.size, q26_1, m26_1, d26_1, q26_2, m26_2, d26_2, q26_3, m26_3, d26_3, w8) (⟨E, O_b1, O_b2, O8, (F26_1.wide (by omega) (by omega)), (F26_2.wide (by omega) (by omega)), (F26_3.wide (by omega) (by omega)), by omega, e4, e1, e2, by omega, by omega, by omega, by omega, by omega, e6⟩) (by first | omega | (dsimp only; omega)))
 exact ⟨rfl, rfl, rfl, rfl, rfl, trivial⟩
set_option maxHeartbeats 2000000 in
theorem ClearPanel_ok (u4 : Option Addr) (n4 v4 : Nat) (ts : List Tie) (u5 : Option Addr) (n5 v5 : Nat) (ps : List ByteArray) (u1 : Option Addr) (n1 v1 : Nat) (u2 : Option Addr) (n2 v2 : Nat) (u3 : Option Addr) (n3 v3 : Nat) (x : Pan) (w : World) (H4 : Sl Tie.cells 4 w u4 n4 v4 ts) (hx4 : ∀ t ∈ ts, t.Party.size ≤ 9223372036854775807) (H5 : Sl strc 1 w u5 n5 v5 ps) (hx5 : ∀ y ∈ ps, y.size ≤ 9223372036854775807) (H1 : Sl i64c 1 w u1 n1 v1 x.S) (H2 : Sl i64c 1 w u2 n2 v2 x.W) (H3 : Sl i64c 1 w u3 n3 v3 x.G) (hP : isPan x = true) (hC : areCase ts ps = true) : Ret Tryz.prog 125 [.slice u4 n4 v4, .slice u5 n5 v5, .agg #[.slice u1 n1 v1, .slice u2 n2 v2, .slice u3 n3 v3]] w (fun v w' => Ext w w' ∧ ∃ (q1 : Option Addr) (m1 d1 : Nat) (q2 : Option Addr) (m2 d2 : Nat) (q3 : Option Addr) (m3 d3 : Nat) , v = .tuple #[.agg #[.slice q1 m1 d1, .slice q2 m2 d2, .slice q3 m3 d3], .int .i64 0] ∧ SlF i64c 1 w' w.heap.size w'.heap.size q1 m1 d1 ((clearP (biasB ts ps) x).S) ∧ SlF i64c 1 w' w.heap.size w'.heap.size q2 m2 d2 ((clearP (biasB ts ps) x).W) ∧ SlF i64c 1 w' w.heap.size w'.heap.size q3 m3 d3 ((clearP (biasB ts ps) x).G)) := by
 refine ret_of_run (N := 37) Tryz.func125 rfl rfl rfl ?_
 have hn4 := H4.len
 have hn46 := H4.n64
 have hn5 := H5.len
 have hn56 := H5.n64
 have hn1 := H1.len
 have hn2 := H2.len
 have hn3 := H3.len
 have hle := pan_le hP
 have hT := case_ties hC
 have htl := ties_len hT
 have E : Ext w w := Ext.refl w
 refine sr_ ?_
 refine obox rfl rfl rfl ?_
 intro b1 w1 e1 hb1 hz1 O1
 have E := E.trans e1
 replace O1 : Own w1 b1 [.slice u1 n1 v1, .slice u2 n2 v2, .slice u3 n3 v3] 79 := O1
 refine oalloc Tryz.zeroValue79 rfl rfl ?_
 intro b2 w2 e2 hb2 hz2 O2
 have E := E.trans e2
 replace O1 := O1.ext e2
 replace O2 : Own w2 b2 [.slice none 0 0, .slice none 0 0, .slice none 0 0] 79 := O2
 refine vn_ rfl rfl rfl ?_
 refine sr_ ?_
 refine vm_ rfl rfl rfl ?_
 refine vm_ rfl rfl rfl ?_
 refine oz_ (v := .agg #[.slice u1 n1 v1, .slice u2 n2 v2, .slice u3 n3 v3]) (xloadN Tryz.isAgg79 Tryz.sizeOf79 rfl (O1.cells) rfl) rfl rfl ?_
 refine oc (xcall Tryz.call138 rfl) rfl rfl rfl (l13Panel_ok _ _ _ ts _ _ _ ps _ _ _ _ _ _ _ _ _ x _ (H4.ext E) (by assumption) (H5.ext E) (by assumption) (H1.ext E) (H2.ext E) (H3.ext E) (by omega)) ?_
 rintro _ w3 ⟨rfl, e3⟩
 have z3 := e3.size
 have E := E.trans e3
 replace O1 := O1.ext e3
 replace O2 := O2.ext e3
 refine vn_ rfl rfl rfl ?_
 refine run_seq ?_
 refine sr_ ?_
 refine vm_ rfl rfl rfl ?_
 refine oz_ (xneq rfl rfl _ rfl) rfl rfl ?_
 refine ods (fun c15 => ?_) (fun c15 => ?_)
 ·
  exfalso; exact c15 (by rw [panCode, if_neg (by simp [hP]), caseCode, if_pos hC])
 refine cf_ rfl ?_
 refine run_block ?_
 refine run_loop (ι := Pan × Nat × Nat × Nat × Option Addr × Nat × Nat × Option Addr × Nat × Nat × Option Addr × Nat × Nat × World) (fun x_ => match x_ with | (y, g, lo, hi, qa, ma, da, qb, mb, db, qc, mc, dc, wr) => (Ext w wr) ∧ (Own wr b1 ([.slice qa ma da, .slice qb mb db, .slice qc mc dc]) 79) ∧ (Own wr b2 ([.slice none 0 0, .slice none 0 0, .slice none 0 0]) 79) ∧ (SlF i64c 1 wr lo hi qa ma da y.S) ∧ (SlF i64c 1 wr lo hi qb mb db y.W) ∧ (SlF i64c 1 wr lo hi qc mc dc y.G) ∧ (w3.heap.size ≤ wr.heap.size) ∧ (isPan y = true) ∧ (clearP (biasB ts ps) x = clr (biasB ts ps) g y) ∧ (meas y ≤ g) ∧ (hi ≤ b1 ∨ b2 + 1 ≤ lo)) (fun x_ => match x_ with | (y, g, lo, hi, qa, ma, da, qb, mb, db, qc, mc, dc, wr) => [(0, .slice u4 n4 v4), (1, .slice u5 n5 v5), (5, .pointer (some ⟨b1, 0, none⟩)), (6, .pointer (some ⟨b2, 0, none⟩))]) (fun x_ => match x_ with | (y, g, lo, hi, qa, ma, da, qb, mb, db, qc, mc, dc, wr) => wr) (fun x_ => match x_ with | (y, g, lo, hi, qa, ma, da, qb, mb, db, qc, mc, dc, wr) => meas y) ?_ (x, meas x, 0, w.heap.size, u1, n1, v1, u2, n2, v2, u3, n3, v3, w3) (⟨E, O1, O2, (par_slF H1 E), (par_slF H2 E), (par_slF H3 E), Nat.le_refl _, hP, by unfold clearP; rfl, Nat.le_refl _, by omega⟩) ⟨rfl, rfl, rfl, rfl, trivial⟩ rfl
 intro i_ hI_ hback4
 obtain ⟨y, g, lo, hi, qa, ma, da, qb, mb, db, qc, mc, dc, wr⟩ := i_
 obtain ⟨E, O_b1, O_b2, FA, FB, FC, lz_wr, hyP, hg, hgm, hlo⟩ := hI_
 try dsimp only
 have zr := E.size
 have lt_b1 := O_b1.lt
 have lt_b2 := O_b2.lt
 have hyl := pan_le hyP
 have lFA := FA.sl.len
 have lFB := FB.sl.len
 have lFC := FC.sl.len
 refine run_block ?_
 refine sr_ ?_
 refine vm_ rfl rfl rfl ?_
 refine vm_ rfl rfl rfl ?_
 refine oz_ (v := .agg #[.slice qa ma da, .slice qb mb db, .slice qc mc dc]) (xloadN Tryz.isAgg79 Tryz.sizeOf79 rfl (O_b1.cells) rfl) rfl rfl ?_
 refine oc (xcall Tryz.call139 rfl) rfl rfl rfl (l13Seat_ok _ _ _ ts _ _ _ ps _ _ _ _ _ _ _ _ _ y _ (H4.ext E) (by assumption) (H5.ext E) (by assumption) (FA.sl) (FB.sl) (FC.sl) hyP hT) ?_
 rintro _ w4 ⟨e4, r21, rfl, hs21⟩
 have z4 := e4.size
 have E := E.trans e4
 replace FA := FA.ext e4
 replace FB := FB.ext e4
 replace FC := FC.ext e4
 replace O_b1 := O_b1.ext e4
 replace O_b2 := O_b2.ext e4
 refine vn_ rfl rfl rfl ?_
 refine run_seq ?_
 refine sr_ ?_
 refine vm_ rfl rfl rfl ?_
 refine oz_ (xlss rfl rfl _ rfl) rfl rfl ?_
 refine ods (fun c23 => ?_) (fun c23 => ?_)
 rotate_left
 ·
  obtain ⟨kk, rfl, hkl, hkb, hkj⟩ := hs21.resolve_left (by rintro ⟨h_, _⟩; omega)
  refine cf_ rfl ?_
  refine run_region ?_
  refine oz_ (v := .agg #[.slice qa ma da, .slice qb mb db, .slice qc mc dc]) (xloadN Tryz.isAgg79 Tryz.sizeOf79 rfl (O_b1.cells) rfl) rfl rfl ?_
  refine vm_ rfl rfl rfl ?_
  refine oc (xcall Tryz.call135 rfl) rfl rfl rfl (l12Empty_ok _ _ _ _ _ _ _ _ _ y kk _ (FA.sl) (FB.sl) (FC.sl) hyP hkl) ?_
  rintro _ w5 ⟨e5, q36_1, m36_1, d36_1, q36_2, m36_2, d36_2, q36_3, m36_3, d36_3, rfl, F36_1, F36_2, F36_3⟩
  have z5 := e5.size
  have E := E.trans e5
  replace O_b1 := O_b1.ext e5
  replace O_b2 := O_b2.ext e5
  have lF36_1 := F36_1.sl.len
  have lF36_2 := F36_2.sl.len
  have lF36_3 := F36_3.sl.len
  refine ostoreN (vs := _) Tryz.sizeOf79 rfl rfl O_b1 rfl (by simp) (by simp [Value.oneCell']) rfl ?_
  intro w6 on6 O6
  have hz6 := on6.size
  have E := on6.ext E (by omega)
  replace F36_1 := F36_1.only on6 (by omega)
  replace F36_2 := F36_2.only on6 (by omega)
  replace F36_3 := F36_3.only on6 (by omega)
  replace O_b2 := on6.own O_b2 (by omega)
  replace O6 : Own w6 b1 [.slice q36_1 m36_1 d36_1, .slice q36_2 m36_2 d36_2, .slice q36_3 m36_3 d36_3] 79 := O6
  refine ops_nil ?_
  refine run_inBlock ?_
  obtain ⟨e1, e2, e3, e4, e5, e6⟩ := clr_next hkl hkb hkj hyP hgm hg
  refine run_sub ?_ (hback4 ((emptyP y kk), (g - 1), (b2 + 1), w6.heap.size, q36_1, m36_1, d36_1, q36_2, m36_2, d36_2, q36_3, m36_3, d36_3, w6) (⟨E, O6, O_b2, (F36_1.wide (by omega) (by omega)), (F36_2.wide (by omega) (by omega)), (F36_3.wide (by omega) (by omega)), by omega, e4, e1, e2, by omega⟩) (by dsimp only; omega))
  exact ⟨rfl, rfl, rfl, rfl, trivial⟩
 have hsa := (hs21.resolve_right (by rintro ⟨kk, hkk, _⟩; omega)).2
 refine ct_ rfl ?_
 refine run_seq ?_
 have hcut6 := cut_size (w := w4) (k := b2) (by omega)
 have RE := ext_to_cut E (k := b2) (by omega) (by omega)
 have RO_b1 := O_b1.cut (k := b2) (by omega) (by omega)
 refine run_heldC (ext_cut (w := w4) (k := b2) (by omega)) (by kernel_rfl) ?_
 intro wh6 F
 have zh6 := F.size
 have E := E.trans F
 replace FA := FA.ext F
 replace FB := FB.ext F
 replace FC := FC.ext F
 replace O_b2 := O_b2.ext F
 replace F := (ext_cut (w := w4) (k := b2) (by omega)).trans F
 refine h_take 0 rfl (by kernel_rfl) (by kernel_rfl) (by kernel_rfl) (fun w' x_ => xfieldAddr fo79f0 rfl) rfl rfl rfl F ?_
 refine h_take 1 (v := .slice qa ma da) rfl (by kernel_rfl) (by kernel_rfl) (by kernel_rfl) (fun w' x_ => xload1 Tryz.isAgg24 rfl ((RO_b1.cells).ext x_) rfl) rfl rfl rfl F ?_
 refine h_take 3 rfl (by kernel_rfl) (by kernel_rfl) (by kernel_rfl) (fun w' x_ => xfieldAddr fo79f1 rfl) rfl rfl rfl F ?_
 refine h_take 4 (v := .slice qb mb db) rfl (by kernel_rfl) (by kernel_rfl) (by kernel_rfl) (fun w' x_ => xload1 Tryz.isAgg24 rfl ((RO_b1.cells).ext x_) rfl) rfl rfl rfl F ?_
 refine h_take 6 rfl (by kernel_rfl) (by kernel_rfl) (by kernel_rfl) (fun w' x_ => xfieldAddr fo79f2 rfl) rfl rfl rfl F ?_
 refine h_take 7 (v := .slice qc mc dc) rfl (by kernel_rfl) (by kernel_rfl) (by kernel_rfl) (fun w' x_ => xload1 Tryz.isAgg24 rfl ((RO_b1.cells).ext x_) rfl) rfl rfl rfl F ?_
 refine h_ready (rs := [2]) (by kernel_rfl) (by decide) ⟨?_, trivial⟩
 refine hs_call rfl (xcall Tryz.call102 rfl) rfl rfl rfl (l01Own_ok _ _ _ _ _ (FA.sl) (FA.sl).nil (by omega)) ?_
 rintro _ w5 ⟨e5, q26, cc26, rfl, Q26⟩
 have z5 := e5.size
 have E := E.trans e5
 replace FB := FB.ext e5
 replace FC := FC.ext e5
 replace O_b2 := O_b2.ext e5
 have F := F.trans e5
 refine ⟨F, ?_⟩
 refine h_ready (rs := [5]) (by kernel_rfl) (by decide) ⟨?_, trivial⟩
 refine hs_call rfl (xcall Tryz.call102 rfl) rfl rfl rfl (l01Own_ok _ _ _ _ _ (FB.sl) (FB.sl).nil (by omega)) ?_
 rintro _ w6 ⟨e6, q29, cc29, rfl, Q29⟩
 have z6 := e6.size
 have E := E.trans e6
 replace FC := FC.ext e6
 replace Q26 := Q26.ext e6
 replace O_b2 := O_b2.ext e6
 have F := F.trans e6
 refine ⟨F, ?_⟩
 refine h_ready (rs := [8]) (by kernel_rfl) (by decide) ⟨?_, trivial⟩
 refine hs_call rfl (xcall Tryz.call102 rfl) rfl rfl rfl (l01Own_ok _ _ _ _ _ (FC.sl) (FC.sl).nil (by omega)) ?_
 rintro _ w7 ⟨e7, q32, cc32, rfl, Q32⟩
 have z7 := e7.size
 have E := E.trans e7
 replace Q26 := Q26.ext e7
 replace Q29 := Q29.ext e7
 replace O_b2 := O_b2.ext e7
 have F := F.trans e7
 refine ⟨F, ?_⟩
 refine h_take 9 rfl (by kernel_rfl) (by kernel_rfl) (by kernel_rfl) (fun w' x_ => xbuild (vs := [.slice q26 ma cc26, .slice q29 mb cc29, .slice q32 mc cc32]) (cells := #[.slice q26 ma cc26, .slice q29 mb cc29, .slice q32 mc cc32]) rfl (by kernel_rfl)) rfl rfl rfl F ?_
 refine h_ready (rs := [10]) (by kernel_rfl) (by decide) ⟨?_, trivial⟩
 refine hs_storeN (vs := [.slice q26 ma cc26, .slice q29 mb cc29, .slice q32 mc cc32]) Tryz.sizeOf79 rfl rfl O_b2 rfl (by simp) (by simp [Value.oneCell']) F (by omega) rfl rfl ?_
 intro w8 on8 O8
 have hz8 := on8.size
 have E := on8.ext E (by omega)
 replace Q26 := Q26.only on8 (by omega)
 replace Q29 := Q29.only on8 (by omega)
 replace Q32 := Q32.only on8 (by omega)
 have F := on8.ext F (by omega)
 replace O8 : Own w8 b2 [.slice q26 ma cc26, .slice q29 mb cc29, .slice q32 mc cc32] 79 := O8
 refine h_take 11 rfl (by kernel_rfl) (by kernel_rfl) (by kernel_rfl) (fun w' x_ => xassign rfl) rfl rfl rfl F ?_
 refine h_doneC (by kernel_rfl) ?_
 refine run_ret Tryz.func125 (resc2 rfl rfl (run_loadVar_cells Tryz.isAgg79 Tryz.sizeOf79 O8.cells rfl) rfl) ?_
 have hst : clearP (biasB ts ps) x = y := by rw [hg]; exact clr_stop (fun j hj => hsa j hj)
 exact ⟨_, rfl, E, _, _, _, _, _, _, _, _, _, rfl, by rw [hst]; exact (Q26.slF (by omega) (by omega)), by rw [hst]; exact (Q29.slF (by omega) (by omega)), by rw [hst]; exact (Q32.slF (by omega) (by omega))⟩
end Go.Proofs.YtchblgaklknkcaaGreat
