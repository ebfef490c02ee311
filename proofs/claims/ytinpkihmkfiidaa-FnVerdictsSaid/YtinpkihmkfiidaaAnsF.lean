/-
  Answers for a verdict: the walks. No condition beyond those written in each theorem.
-/
import Derived.Test.YtinpkihmkfiidaaVerd
import Derived.Test.YtinpkihmkfiidaaCountW
namespace Go.Proofs.Ytinpkihmkfiidaa
open Go.RowKit
set_option linter.unusedVariables false
set_option linter.unusedSimpArgs false
set_option linter.unusedSectionVars false
set_option maxRecDepth 4000

/-- what the table of lengths says of v -/
def lenV (ys : List Int) (vd v : Int) : Int := if v = vd then 0 else if v < 0 then 1000 else getI ys v.toNat
theorem best_step {xs : List Question} {vd : Int} {s0 st : List Int × Int} {l : List (List Int)} {k : Nat} (hk : k < l.length) (h : bestL xs vd s0 (l.take k) = st) : bestL xs vd s0 (l.take (k + 1)) = bestS xs vd st l[k] := by
  rw [List.take_succ_eq_append_getElem hk, bestL, List.foldl_append, List.foldl_cons, List.foldl_nil]
  rw [bestL] at h; rw [h]
def dw (xs : List Question) (vd i : Int) (j : Nat) : Int := if i < (j : Int) then dst xs vd j else 0
def dwL (xs : List Question) (vd i : Int) : List Int := (List.range xs.length).map (dw xs vd i)
def dL (xs : List Question) (vd : Int) : List Int := (List.range xs.length).map fun (j : Nat) => dst xs vd (j : Int)
theorem dL_length (xs : List Question) (vd : Int) : (dL xs vd).length = xs.length := by simp [dL]
theorem dL_at {xs : List Question} {vd : Int} {j : Nat} (h : j < (dL xs vd).length) : (dL xs vd)[j] = dst xs vd (j : Int) := by simp [dL]
theorem dwL_length (xs : List Question) (vd i : Int) : (dwL xs vd i).length = xs.length := by simp [dwL]
theorem dwL_at {xs : List Question} {vd i : Int} {j : Nat} (h : j < (dwL xs vd i).length) : (dwL xs vd i)[j] = dw xs vd i j := by simp [dwL]
theorem dwL_start (xs : List Question) (vd : Int) {i : Int} (h : i = (xs.length : Int) - 1) : List.replicate xs.length (0 : Int) = dwL xs vd i := by
  apply List.ext_getElem (by simp [dwL])
  intro j h1 h2
  rw [dwL_at, dw, if_neg (by simp at h1; omega)]; simp
theorem dwL_end (xs : List Question) (vd : Int) {i : Int} (h : i < 0) : dwL xs vd i = dL xs vd := by
  apply List.ext_getElem (by simp [dwL, dL])
  intro j h1 h2
  rw [dwL_at, dL_at, dw, if_pos (by omega)]
theorem dwL_set {xs : List Question} {vd : Int} {i : Nat} (h : i < xs.length) {v : Int} (hv : v = dst xs vd i) : (dwL xs vd i).set i v = dwL xs vd ((i : Int) - 1) := by
  subst hv
  apply List.ext_getElem (by simp [dwL])
  intro j h1 h2
  rw [dwL_at, List.getElem_set]
  split
  · rename_i e; subst e; rw [dw, if_pos (by omega)]
  · rename_i e
    rw [dwL_at, dw, dw]
    by_cases h3 : (i : Int) < j
    · rw [if_pos h3, if_pos (by omega)]
    · rw [if_neg h3, if_neg (by omega)]
theorem lenV_dw {xs : List Question} {vd i v : Int} (hv : vd < 0) (h : v < 0 ∨ (i < v ∧ v < xs.length ∧ 0 ≤ v)) : lenV (dwL xs vd i) vd v = dst xs vd v := by
  unfold lenV
  by_cases h0 : v < 0
  · rw [dst_neg h0]
    by_cases e : v = vd
    · rw [if_pos e, if_pos e]
    · rw [if_neg e, if_neg e, if_pos h0]
  · rw [if_neg (by omega), if_neg h0, getI_at (by rw [dwL_length]; omega), dwL_at, dw, if_pos (by omega), show ((v.toNat : Nat) : Int) = v by omega]
theorem fillA_set {n k : Nat} (h : k < n) : (List.replicate k (-1 : Int) ++ List.replicate (n - k) 0).set k (-1) = List.replicate (k + 1) (-1) ++ List.replicate (n - (k + 1)) 0 := by
  rw [List.set_append_right _ _ (by simp), show n - k = (n - (k + 1)) + 1 by omega, List.replicate_succ, List.length_replicate, Nat.sub_self, List.set_cons_zero, List.replicate_succ']
  simp
theorem fillA_all {n k : Nat} (h : ¬ k < n) (hk : k ≤ n) : List.replicate k (-1 : Int) ++ List.replicate (n - k) 0 = List.replicate n (-1) := by
  obtain rfl : k = n := by omega
  simp
theorem goNo_eq {xs : List Question} {vd : Int} {i : Nat} (h : i < xs.length) : goNo xs vd i = decide (dst xs vd xs[i].No + 1 = dst xs vd i) := by simp only [goNo, List.getElem?_eq_getElem h]

set_option maxHeartbeats 400000 in
theorem lengths1_ok (v vd : Int) (b1 b3 : Nat) (p : Option Addr) (n c : Nat) (ys : List Int) (r : Int) (w : World) (O1 : Own w b1 [.int .i64 vd] 2) (O3 : Own w b3 [.slice p n c] 31) (G : Sl i64c 1 w p n c ys) (hv : v < 0 ∨ (0 ≤ v ∧ v < ys.length)) (hr : lenV ys vd v = r) : Ret Try.prog 140 [.int .i64 v, .pointer (some ⟨b1, 0, none⟩), .pointer (some ⟨b3, 0, none⟩)] w (Ps w (.int .i64 r)) := by
  refine ret_of_run (N := 16) Try.func140 rfl rfl rfl ?_
  have hn := G.len
  have E : Ext w w := Ext.refl w
  refine run_seq ?_
  refine run_region ?_
  refine ov (xassign rfl) rfl rfl rfl ?_
  refine ops_nil ?_
  refine run_seq ?_
  refine run_block ?_
  refine run_seq ?_
  refine run_region ?_
  refine ov (xmove rfl) rfl rfl rfl ?_
  refine ov (v := .int .i64 vd) (xloadz Try.isAgg2 rfl (O1.cells) rfl) rfl rfl rfl ?_
  refine ov (xeql rfl rfl _ rfl) rfl rfl rfl ?_
  refine ods (fun c8 => ?_) (fun c8 => ?_)
  ·
    refine ov (xassign rfl) rfl rfl rfl ?_
    refine ops_nil ?_
    refine run_cond_t rfl ?_
    refine run_seq ?_
    refine run_region ?_
    refine ov (xassign rfl) rfl rfl rfl ?_
    refine ops_nil ?_
    refine run_ret Try.func140 (res1 rfl rfl) ?_
    exact ⟨_, rfl, by rw [← hr, lenV, if_pos c8], rfl⟩
  ·
    refine ov (xassign rfl) rfl rfl rfl ?_
    refine ops_nil ?_
    refine run_cond_f rfl ?_
    refine run_seq ?_
    refine run_region ?_
    refine ov (xmove rfl) rfl rfl rfl ?_
    refine ov (xlss rfl rfl _ rfl) rfl rfl rfl ?_
    refine ods (fun c11 => ?_) (fun c11 => ?_)
    ·
      refine ov (xassign rfl) rfl rfl rfl ?_
      refine ops_nil ?_
      refine run_cond_t rfl ?_
      refine run_seq ?_
      refine run_region ?_
      refine ov (xassign rfl) rfl rfl rfl ?_
      refine ops_nil ?_
      refine run_ret Try.func140 (res1 rfl rfl) ?_
      exact ⟨_, rfl, by rw [← hr, lenV, if_neg c8, if_pos c11], rfl⟩
    ·
      refine ov (xassign rfl) rfl rfl rfl ?_
      refine ops_nil ?_
      refine run_cond_f rfl ?_
      refine run_skip ?_
      refine run_inBlock ?_
      refine run_seq ?_
      refine run_region ?_
      refine ov (v := .slice p n c) (xloadz Try.isAgg31 rfl (O3.cells) rfl) rfl rfl rfl ?_
      refine ov (xmove rfl) rfl rfl rfl ?_
      have h14 := (G).at (i := v.toNat) (by omega)
      refine ov (xindexN (i := v.toNat) Try.underlying31 Try.sizeOf2 rfl rfl (by omega) ((G).p (i := v.toNat) (by omega)) (by have := (G).len; omega)) rfl rfl rfl ?_
      refine ov (v := .int .i64 ys[v.toNat]) (xloadz Try.isAgg2 rfl (h14) rfl) rfl rfl rfl ?_
      refine ov (xassign rfl) rfl rfl rfl ?_
      refine ops_nil ?_
      refine run_ret Try.func140 (res1 rfl rfl) ?_
      exact ⟨_, rfl, by rw [← hr, lenV, if_neg c8, if_neg c11, getI_at (by omega)], rfl⟩

set_option maxHeartbeats 2000000 in
theorem lengths_ok (p : Option Addr) (n c : Nat) (xs : List Question) (w : World) (H : Sl Question.cells 3 w p n c xs) (hx : ∀ x ∈ xs, x.Label.size ≤ 9223372036854775807) (hf : isForm xs = true) (vd : Int) (hv : vd < 0) : Ret Try.prog 108 [.slice p n c, .int .i64 vd] w (fun v w' => Ext w w' ∧ ∃ q m d, v = .slice q m d ∧ Ow i64c 1 2 w' w.heap.size w'.heap.size q m d (dL xs vd)) := by
  refine ret_of_run (N := 40) Try.func108 rfl rfl rfl ?_
  have hn := H.len
  have hn6 := H.n64
  have hl := isForm_len hf
  have E : Ext w w := Ext.refl w
  refine run_seq ?_
  refine run_region ?_
  refine obox rfl rfl rfl ?_
  intro b1 w1 e1 hb1 hz1 O1
  have E := E.trans e1
  replace O1 : Own w1 b1 [.int .i64 vd] 2 := O1
  refine ov (xassign rfl) rfl rfl rfl ?_
  refine ops_nil ?_
  refine run_seq ?_
  refine run_region ?_
  refine ov (xmove rfl) rfl rfl rfl ?_
  refine ov (xlen Try.underlying25 rfl) rfl rfl rfl ?_
  refine omake (n := n) Try.underlying31 inf2 rfl rfl (by decide) rfl rfl rfl rfl (by simp only [Try.t2]; omega) (by omega) rfl rfl ?_
  intro b2 w2 e2 hb2 hz2 O2
  have E := E.trans e2
  replace O1 := O1.ext e2
  replace O2 : Own w2 b2 (List.replicate (n) ([.int .i64 0] : List Value)).flatten 2 := O2
  have G2 : Ow i64c 1 2 w2 b2 (b2 + 1) (some ⟨b2, 0, none⟩) n n (List.replicate (n) (0 : Int)) := Own.ow (by simpa [i64c] using O2) (by simp) (by omega) (Nat.le_refl _) (by omega) (by intro x hx; rfl)
  refine oalloc Try.zeroValue31 rfl rfl ?_
  intro b3 w3 e3 hb3 hz3 O3
  have E := E.trans e3
  replace G2 := G2.ext e3
  replace O1 := O1.ext e3
  replace O3 : Own w3 b3 [.slice none 0 0] 31 := O3
  refine ostore1 Try.sizeOf31 rfl rfl O3 (by simp) rfl rfl ?_
  intro w4 on4 O4
  have hz4 := on4.size
  have E := on4.ext E (by omega)
  replace G2 := G2.only on4 (by omega)
  replace O1 := on4.own O1 (by omega)
  replace O4 : Own w4 b3 [.slice (some ⟨b2, 0, none⟩) n n] 31 := O4
  refine ops_nil ?_
  refine run_seq ?_
  refine run_region ?_
  refine ov (xmakeFunc rfl rfl) rfl rfl rfl ?_
  refine ov (xassign rfl) rfl rfl rfl ?_
  refine ops_nil ?_
  refine run_seq ?_
  refine run_seq ?_
  refine run_region ?_
  have GL := G2
  refine ov (xmove rfl) rfl rfl rfl ?_
  refine ov (xlen Try.underlying25 rfl) rfl rfl rfl ?_
  refine ov (xsub rfl rfl (by unfold I64; omega)) rfl rfl rfl ?_
  refine ov (xassign rfl) rfl rfl rfl ?_
  refine ops_nil ?_
  refine run_block ?_
  refine run_loop (ι := Int × List Int × World) (fun x_ => match x_ with | (ii, ys, wr) => (Ext w wr) ∧ (Own wr b1 ([.int .i64 vd]) 2) ∧ (Own wr b3 ([.slice (some ⟨b2, 0, none⟩) n n]) 31) ∧ (Ow i64c 1 2 wr b2 (b2 + 1) (some ⟨b2, 0, none⟩) n n ys) ∧ (w4.heap.size ≤ wr.heap.size) ∧ (-1 ≤ ii) ∧ (ii < n) ∧ (ys = dwL xs vd ii)) (fun x_ => match x_ with | (ii, ys, wr) => [(0, .slice p n c), (5, .pointer (some ⟨b3, 0, none⟩)), (6, .func (.func 140) #[] #[.pointer (some ⟨b1, 0, none⟩), .pointer (some ⟨b3, 0, none⟩)]), (7, .int .i64 ii)]) (fun x_ => match x_ with | (ii, ys, wr) => wr) (fun x_ => match x_ with | (ii, ys, wr) => (ii + 1).toNat) ?_ ((n : Int) - 1, List.replicate n (0 : Int), w4) (⟨E, O1, O4, GL, Nat.le_refl _, by omega, by omega, by rw [hn]; exact dwL_start xs vd (by omega)⟩) ⟨rfl, rfl, rfl, rfl, trivial⟩ rfl
  intro i_ hI_ hback4
  obtain ⟨ii, ys, wr⟩ := i_
  obtain ⟨E, O_b1, O_b3, GL, lz_wr, hi0, hi1, hys⟩ := hI_
  try dsimp only
  have zr := E.size
  have lt_b1 := O_b1.lt
  have lt_b3 := O_b3.lt
  refine run_seq ?_
  refine run_seq ?_
  refine run_region ?_
  refine ov (xmove rfl) rfl rfl rfl ?_
  refine ov (xgeq rfl rfl _ rfl) rfl rfl rfl ?_
  refine ods (fun c16 => ?_) (fun c16 => ?_)
  ·
    obtain ⟨i, hi_⟩ : ∃ i : Nat, (i : Int) = ii := ⟨ii.toNat, by omega⟩
    have hin : i < xs.length := by omega
    have hb1 := dst_le hf vd xs[i].Yes
    have hb2 := dst_le hf vd xs[i].No
    have hy1 := form_yes hf (i := i) (by omega)
    have hn1 := form_no hf (i := i) (by omega)
    have hyl : ys.length = xs.length := by rw [hys, dwL_length]
    refine ops_nil ?_
    refine run_cond_t rfl ?_
    refine run_skip ?_
    refine run_seq ?_
    refine run_block ?_
    refine run_tail 20 (by kernel_rfl) (by kernel_rfl) ?_
    intro w5 e5
    have z5 := e5.size
    have E := E.trans e5
    replace GL := GL.ext e5
    replace O_b1 := O_b1.ext e5
    replace O_b3 := O_b3.ext e5
    refine stv (v := .slice (some ⟨b2, 0, none⟩) n n) (xloadz Try.isAgg31 rfl (O_b3.cells) rfl) rfl rfl rfl ?_
    refine stv (xmove rfl) rfl rfl rfl ?_
    refine stv (xmove rfl) rfl rfl rfl ?_
    refine stv (xmove rfl) rfl rfl rfl ?_
    refine stv (xmove rfl) rfl rfl rfl ?_
    have h24 := (H.ext E).at (i := i) (by omega)
    refine stv (xindexN (i := i) Try.underlying25 Try.sizeOf80 rfl rfl (by omega) ((H.ext E).p (i := i) (by omega)) (by have := (H.ext E).len; omega)) rfl rfl rfl ?_
    refine stv (xfieldAddr fo80f1 rfl) rfl rfl rfl ?_
    refine stv (v := .int .i64 xs[i].Yes) (xload1 Try.isAgg2 rfl (h24) rfl) rfl rfl rfl ?_
    refine stc (xcallv rfl Try.call140 rfl) rfl rfl rfl (lengths1_ok xs[i].Yes vd b1 b3 _ _ _ ys (dst xs vd xs[i].Yes) _ O_b1 O_b3 GL.sl (by have := congrArg List.length hys; rw [dwL_length] at this; omega) (by rw [hys]; exact lenV_dw hv (by omega))) ?_
    refine stv (xmove rfl) rfl rfl rfl ?_
    refine stv (xmove rfl) rfl rfl rfl ?_
    refine stv (xmove rfl) rfl rfl rfl ?_
    have h31 := (H.ext E).at (i := i) (by omega)
    refine stv (xindexN (i := i) Try.underlying25 Try.sizeOf80 rfl rfl (by omega) ((H.ext E).p (i := i) (by omega)) (by have := (H.ext E).len; omega)) rfl rfl rfl ?_
    refine stv (xfieldAddr fo80f2 rfl) rfl rfl rfl ?_
    refine stv (v := .int .i64 xs[i].No) (xload1 Try.isAgg2 rfl (h31) rfl) rfl rfl rfl ?_
    refine stc (xcallv rfl Try.call140 rfl) rfl rfl rfl (lengths1_ok xs[i].No vd b1 b3 _ _ _ ys (dst xs vd xs[i].No) _ O_b1 O_b3 GL.sl (by have := congrArg List.length hys; rw [dwL_length] at this; omega) (by rw [hys]; exact lenV_dw hv (by omega))) ?_
    refine stv (xmin rfl rfl) rfl rfl rfl ?_
    refine stv (xadd rfl rfl (by unfold I64; omega)) rfl rfl rfl ?_
    refine stv (xmin rfl rfl) rfl rfl rfl ?_
    have h38 := (GL.sl).at (i := i) (by omega)
    refine stv (xindexN (i := i) Try.underlying31 Try.sizeOf2 rfl rfl (by omega) ((GL.sl).p (i := i) (by omega)) (by have := (GL.sl).len; omega)) rfl rfl rfl ?_
    refine st_storeOw1 (i := i) (y := ((min 1000 (1 + (min (dst xs vd xs[i].Yes) (dst xs vd xs[i].No)))))) Try.sizeOf2 GL (by omega) rfl rfl rfl rfl rfl ?_
    intro w6 m6 g6
    have z6 := m6.size
    have E := m6.toExt E (by omega)
    try replace O_b1 := m6.own O_b1 (by omega)
    try replace O_b3 := m6.own O_b3 (by omega)
    replace GL := g6
    refine run_inBlock ?_
    refine run_region ?_
    refine ov (xmove rfl) rfl rfl rfl ?_
    refine ov (xsub rfl rfl (by unfold I64; omega)) rfl rfl rfl ?_
    refine ov (xassign rfl) rfl rfl rfl ?_
    refine ops_nil ?_
    refine run_sub ?_ (hback4 (ii - 1, ys.set i (min 1000 (1 + min (dst xs vd xs[i].Yes) (dst xs vd xs[i].No))), w6) (⟨E, O_b1, O_b3, GL, by omega, by omega, by omega, by subst hi_; rw [hys]; exact dwL_set (by omega) (dst_at hf hv (by omega)).symm⟩) (by first | omega | (dsimp only; omega)))
    exact ⟨rfl, rfl, rfl, rfl, trivial⟩
  ·
    refine ops_nil ?_
    refine run_cond_f rfl ?_
    refine run_exit rfl ?_
    refine run_seq ?_
    refine run_region ?_
    refine ov (v := .slice (some ⟨b2, 0, none⟩) n n) (xloadz Try.isAgg31 rfl (O_b3.cells) rfl) rfl rfl rfl ?_
    refine ov (xassign rfl) rfl rfl rfl ?_
    refine ops_nil ?_
    refine run_ret Try.func108 (res1 rfl rfl) ?_
    exact ⟨_, rfl, E, _, _, _, rfl, by rw [← dwL_end xs vd (by omega : ii < 0), ← hys]; exact GL.wide (by omega) (by omega)⟩

set_option maxHeartbeats 4000000 in
theorem AnswersFor_ok (p : Option Addr) (n c : Nat) (xs : List Question) (w : World) (H : Sl Question.cells 3 w p n c xs) (hx : ∀ x ∈ xs, x.Label.size ≤ 9223372036854775807) (vd : Int) : Ret Try.prog 47 [.slice p n c, .int .i64 vd] w (fun v w' => Ext w w' ∧ ∃ q m d, v = .tuple #[.slice q m d, .int .i64 (answersFor xs vd).2] ∧ Ow i64c 1 2 w' w.heap.size w'.heap.size q m d (answersFor xs vd).1) := by
  refine ret_of_run (N := 85) Try.func47 rfl rfl rfl ?_
  have hn := H.len
  have hn6 := H.n64
  have E : Ext w w := Ext.refl w
  refine run_seq ?_
  refine run_region ?_
  refine ov (xassign rfl) rfl rfl rfl ?_
  refine ov (xassign rfl) rfl rfl rfl ?_
  refine ops_nil ?_
  refine run_seq ?_
  refine run_seq ?_
  refine run_region ?_
  refine ov (xmove rfl) rfl rfl rfl ?_
  refine oc (xcall Try.call28 rfl) rfl rfl rfl (IsForm_ok _ _ _ _ _ (H.ext E) (by assumption)) ?_
  rintro _ w1 ⟨rfl, e1⟩
  have z1 := e1.size
  have E := E.trans e1
  refine obs (fun c12 => ?_) (fun c12 => ?_)
  ·
    have hf := c12
    have hl := isForm_len hf
    refine ov (xnot rfl) rfl rfl rfl ?_
    refine ops_nil ?_
    refine run_cond_f rfl ?_
    refine run_skip ?_
    refine run_seq ?_
    refine run_seq ?_
    refine run_region ?_
    refine ov (xmove rfl) rfl rfl rfl ?_
    refine oc (xcall Try.call93 rfl) rfl rfl rfl (isVerdict_ok (vd) _) ?_
    rintro _ w_ ⟨rfl, hw_⟩
    replace hw_ := hw_.symm
    subst hw_
    refine obs (fun c15 => ?_) (fun c15 => ?_)
    ·
      have hv := inR_iff.1 c15
      refine ov (xnot rfl) rfl rfl rfl ?_
      refine ops_nil ?_
      refine run_cond_f rfl ?_
      refine run_skip ?_
      refine run_seq ?_
      refine run_region ?_
      refine ov (xmove rfl) rfl rfl rfl ?_
      refine ov (xmove rfl) rfl rfl rfl ?_
      refine oc (xcall Try.call108 rfl) rfl rfl rfl (lengths_ok _ _ _ _ _ (H.ext E) (by assumption) (by assumption) (vd) (by omega)) ?_
      rintro _ w2 ⟨e2, q19, m19, d19, rfl, G19⟩
      have z2 := e2.size
      have E := E.trans e2
      have lG19 := G19.len
      refine ov (xassign rfl) rfl rfl rfl ?_
      refine ops_nil ?_
      refine run_seq ?_
      refine run_seq ?_
      refine run_region ?_
      have hdl := dL_length xs vd
      refine ov (xmove rfl) rfl rfl rfl ?_
      have h21 := (G19.sl).at (i := 0) (by omega)
      refine ov (xindexN (i := 0) Try.underlying31 Try.sizeOf2 rfl rfl rfl ((G19.sl).p (i := 0) (by omega)) (by have := (G19.sl).len; omega)) rfl rfl rfl ?_
      refine ov (v := .int .i64 (dL xs vd)[0]) (xloadz Try.isAgg2 rfl (h21) rfl) rfl rfl rfl ?_
      refine ov (xeql rfl rfl _ rfl) rfl rfl rfl ?_
      refine ods (fun c23 => ?_) (fun c23 => ?_)
      ·
        refine ops_nil ?_
        refine run_cond_t rfl ?_
        refine run_seq ?_
        refine run_region ?_
        refine ov (xassign rfl) rfl rfl rfl ?_
        refine ov (xassign rfl) rfl rfl rfl ?_
        refine ops_nil ?_
        refine run_ret Try.func47 (res2 rfl rfl rfl) ?_
        have he : answersFor xs vd = ([], 4) := by rw [answersFor, if_neg (by simp [c12]), if_neg (by simp [c15]), if_pos (by rw [dL_at] at c23; exact c23)]
        exact ⟨_, rfl, E, none, 0, 0, by rw [he], by rw [he]; exact Ow.none _ _ _ _ _ _⟩
      ·
        refine ops_nil ?_
        refine run_cond_f rfl ?_
        refine run_skip ?_
        refine run_seq ?_
        refine run_region ?_
        have hl7 := hn
        refine ov (xmove rfl) rfl rfl rfl ?_
        refine ov (xlen Try.underlying25 rfl) rfl rfl rfl ?_
        refine omake (n := n) Try.underlying31 inf2 rfl rfl (by decide) rfl rfl rfl rfl (by simp only [Try.t2]; omega) (by omega) rfl rfl ?_
        intro b3 w3 e3 hb3 hz3 O3
        have E := E.trans e3
        replace G19 := G19.ext e3
        replace O3 : Own w3 b3 (List.replicate (n) ([.int .i64 0] : List Value)).flatten 2 := O3
        have G3 : Ow i64c 1 2 w3 b3 (b3 + 1) (some ⟨b3, 0, none⟩) n n (List.replicate (n) (0 : Int)) := Own.ow (by simpa [i64c] using O3) (by simp) (by omega) (Nat.le_refl _) (by omega) (by intro x hx; rfl)
        refine ov (xassign rfl) rfl rfl rfl ?_
        refine ops_nil ?_
        refine run_seq ?_
        refine run_seq ?_
        refine run_region ?_
        refine ov (xmove rfl) rfl rfl rfl ?_
        refine ov (xlen Try.underlying31 rfl) rfl rfl rfl ?_
        refine ov (xmove rfl) rfl rfl rfl ?_
        refine ops_nil ?_
        refine run_block ?_
        refine run_loop (ι := Nat × Option Addr × Nat × Nat × List Int × World) (fun x_ => match x_ with | (k, q_7, m_7, c_7, ys_7, wr) => (Ext w wr) ∧ (Ow i64c 1 2 wr w1.heap.size w2.heap.size q19 m19 d19 (dL xs vd)) ∧ (Ow i64c 1 2 wr b3 wr.heap.size q_7 m_7 c_7 ys_7) ∧ (b3 ≤ wr.heap.size) ∧ (w3.heap.size ≤ wr.heap.size) ∧ (k ≤ n) ∧ (m_7 = n) ∧ (ys_7 = List.replicate k (-1) ++ List.replicate (n - k) 0)) (fun x_ => match x_ with | (k, q_7, m_7, c_7, ys_7, wr) => [(0, .slice p n c), (1, .int .i64 vd), (6, .slice q19 m19 d19), (7, .slice q_7 m_7 c_7), (28, .int .i64 (n : Int)), (29, .int .i64 (k : Int))]) (fun x_ => match x_ with | (k, q_7, m_7, c_7, ys_7, wr) => wr) (fun x_ => match x_ with | (k, q_7, m_7, c_7, ys_7, wr) => n - k) ?_ (0, (some ⟨b3, 0, none⟩), n, n, (List.replicate n (0 : Int)), w3) (⟨E, G19, G3.wide (by omega) (by omega), by omega, Nat.le_refl _, by omega, rfl, by simp⟩) ⟨rfl, rfl, rfl, rfl, rfl, rfl, trivial⟩ rfl
        intro i_ hI_ hback10
        obtain ⟨k, q_7, m_7, c_7, ys_7, wr⟩ := i_
        obtain ⟨E, G19, G_7, lo_7, lz_wr, hk, hm7, hy⟩ := hI_
        try dsimp only
        have zr := E.size
        have lg_7 := G_7.len
        refine run_seq ?_
        refine run_region ?_
        refine ov (xlss rfl rfl _ rfl) rfl rfl rfl ?_
        refine ods (fun c30 => ?_) (fun c30 => ?_)
        ·
          refine ops_nil ?_
          refine run_seq ?_
          refine run_cond_t rfl ?_
          refine run_skip ?_
          refine run_seq ?_
          refine run_block ?_
          refine run_seq ?_
          refine run_region ?_
          refine ov (xmove rfl) rfl rfl rfl ?_
          refine ov (xassign rfl) rfl rfl rfl ?_
          refine ops_nil ?_
          refine run_region ?_
          refine ov (xmove rfl) rfl rfl rfl ?_
          refine ov (xmove rfl) rfl rfl rfl ?_
          have h34 := (G_7.sl).at (i := k) (by omega)
          refine ov (xindexN (i := k) Try.underlying31 Try.sizeOf2 rfl rfl (by omega) ((G_7.sl).p (i := k) (by omega)) (by have := (G_7.sl).len; omega)) rfl rfl rfl ?_
          refine ostoreOw1 (i := k) (y := (-1)) Try.sizeOf2 G_7 (by omega) rfl rfl rfl rfl rfl ?_
          intro w4 m4 g4
          have z4 := m4.size
          have E := m4.toExt E (by omega)
          replace G19 := G19.off m4 (by omega)
          replace G_7 := g4
          refine ops_nil ?_
          refine run_inBlock ?_
          refine run_region ?_
          refine ov (xadd rfl rfl (by unfold I64; omega)) rfl rfl rfl ?_
          refine ov (xmove rfl) rfl rfl rfl ?_
          refine ops_nil ?_
          refine run_sub ?_ (hback10 (k + 1, q_7, m_7, c_7, (ys_7.set k (-1)), w4) (⟨E, G19, G_7.wide (by omega) (by omega), by omega, by omega, by omega, by omega, by rw [hy]; exact fillA_set (by omega)⟩) (by first | omega | (dsimp only; omega)))
          exact ⟨rfl, rfl, rfl, rfl, rfl, rfl, trivial⟩
        ·
          refine ops_nil ?_
          refine run_seq ?_
          refine run_cond_f rfl ?_
          refine run_exit rfl ?_
          refine run_seq ?_
          refine run_seq ?_
          refine run_region ?_
          refine ov (xassign rfl) rfl rfl rfl ?_
          refine ops_nil ?_
          refine run_block ?_
          refine run_loop (ι := Int × Nat × Option Addr × Nat × Nat × List Int × World) (fun x_ => match x_ with | (now_, fu, q_7, m_7, c_7, ys_7, wr2) => (Ext w wr2) ∧ (Ow i64c 1 2 wr2 w1.heap.size w2.heap.size q19 m19 d19 (dL xs vd)) ∧ (Ow i64c 1 2 wr2 b3 wr2.heap.size q_7 m_7 c_7 ys_7) ∧ (b3 ≤ wr2.heap.size) ∧ (wr.heap.size ≤ wr2.heap.size) ∧ (now_ < n) ∧ (0 ≤ now_ → n ≤ fu + now_.toNat) ∧ (m_7 = n) ∧ (gr xs vd xs.length (noneA xs) 0 = gr xs vd fu ys_7 now_)) (fun x_ => match x_ with | (now_, fu, q_7, m_7, c_7, ys_7, wr2) => [(0, .slice p n c), (1, .int .i64 vd), (6, .slice q19 m19 d19), (7, .slice q_7 m_7 c_7), (9, .int .i64 now_)]) (fun x_ => match x_ with | (now_, fu, q_7, m_7, c_7, ys_7, wr2) => wr2) (fun x_ => match x_ with | (now_, fu, q_7, m_7, c_7, ys_7, wr2) => if now_ < 0 then 0 else fu + 1) ?_ (0, xs.length, q_7, m_7, c_7, ys_7, wr) (⟨E, G19, G_7.wide (by omega) (by omega), by omega, Nat.le_refl _, by omega, by omega, hm7, by rw [hy, fillA_all (by omega) (by omega), hn]; rfl⟩) ⟨rfl, rfl, rfl, rfl, rfl, trivial⟩ rfl
          intro i_ hI_ hback15
          obtain ⟨now_, fu, q_7, m_7, c_7, ys_7, wr2⟩ := i_
          obtain ⟨E, G19, G_7, lo_7, lz_wr2, hnl, hu, hm8, hg⟩ := hI_
          try dsimp only
          have zr := E.size
          have lg_7 := G_7.len
          refine run_seq ?_
          refine run_seq ?_
          refine run_region ?_
          refine ov (xmove rfl) rfl rfl rfl ?_
          refine ov (xgeq rfl rfl _ rfl) rfl rfl rfl ?_
          refine ods (fun c37 => ?_) (fun c37 => ?_)
          ·
            obtain ⟨i, hi_⟩ : ∃ i : Nat, (i : Int) = now_ := ⟨now_.toNat, by omega⟩
            have hin : i < xs.length := by omega
            have hdl := dL_length xs vd
            have hdi := dL_at (xs := xs) (vd := vd) (j := i) (by omega)
            have hn1 := form_no hf hin
            have hy1 := form_yes hf hin
            have hno1 : xs[i].No = vd → dst xs vd xs[i].No = 0 := fun e => by rw [e, dst_neg (by omega), if_pos rfl]
            have hno2 : xs[i].No < 0 → xs[i].No ≠ vd → dst xs vd xs[i].No = 1000 := fun h e => by rw [dst_neg h, if_neg e]
            have hb1 := dst_le hf vd xs[i].No
            have hb2 := dst_le hf vd (i : Int)
            refine ops_nil ?_
            refine run_cond_t rfl ?_
            refine run_skip ?_
            refine run_seq ?_
            refine run_block ?_
            refine run_seq ?_
            refine run_region ?_
            refine ov (xmove rfl) rfl rfl rfl ?_
            refine ov (xmove rfl) rfl rfl rfl ?_
            have h49 := (H.ext E).at (i := i) (by omega)
            refine ov (xindexN (i := i) Try.underlying25 Try.sizeOf80 rfl rfl (by omega) ((H.ext E).p (i := i) (by omega)) (by have := (H.ext E).len; omega)) rfl rfl rfl ?_
            refine ov (xfieldAddr fo80f2 rfl) rfl rfl rfl ?_
            refine ov (v := .int .i64 xs[i].No) (xload1 Try.isAgg2 rfl (h49) rfl) rfl rfl rfl ?_
            refine ov (xassign rfl) rfl rfl rfl ?_
            refine ops_nil ?_
            refine run_seq ?_
            refine run_draw (by kernel_rfl) (by kernel_rfl) ?_
            refine qv (fun w' x_ => xmove rfl) rfl rfl rfl ?_
            refine qv (fun w' x_ => xmove rfl) rfl rfl rfl ?_
            refine qv (fun w' x_ => xeql rfl rfl _ rfl) rfl rfl rfl ?_
            refine qds (fun c54 => ?_) (fun c54 => ?_)
            ·
              refine qv (fun w' x_ => xmove rfl) rfl rfl rfl ?_
              refine qv (fun w' x_ => xmove rfl) rfl rfl rfl ?_
              refine qv (fun w' x_ => xmove rfl) rfl rfl rfl ?_
              have h58 := (G19.sl).at (i := i) (by omega)
              refine qv (fun w' x_ => xindexN (i := i) Try.underlying31 Try.sizeOf2 rfl rfl (by omega) ((G19.sl).p (i := i) (by omega)) (by have := (G19.sl).len; omega)) rfl rfl rfl ?_
              refine qv (v := .int .i64 (dL xs vd)[i]) (fun w' x_ => xloadz Try.isAgg2 rfl ((h58).ext x_) rfl) rfl rfl rfl ?_
              refine qv (fun w' x_ => xeql rfl rfl _ rfl) rfl rfl rfl ?_
              refine qds (fun c60 => ?_) (fun c60 => ?_)
              ·
                refine qv (fun w' x_ => xpick_t rfl rfl) rfl rfl rfl ?_
                refine qv (fun w' x_ => xmove rfl) rfl rfl rfl ?_
                refine qg rfl rfl rfl ?_
                refine qg rfl rfl rfl ?_
                refine qg rfl rfl rfl ?_
                refine qg rfl rfl rfl ?_
                refine qg rfl rfl rfl ?_
                refine qg rfl rfl rfl ?_
                refine qg rfl rfl rfl ?_
                refine qg rfl rfl rfl ?_
                refine qg rfl rfl rfl ?_
                refine qg rfl rfl rfl ?_
                refine qg rfl rfl rfl ?_
                refine qg rfl rfl rfl ?_
                refine qg rfl rfl rfl ?_
                refine qg rfl rfl rfl ?_
                refine qv (fun w' x_ => xpick_t rfl rfl) rfl rfl rfl ?_
                refine q_nil ?_
                intro w4 e4
                have z4 := e4.size
                have E := E.trans e4
                replace G_7 := G_7.ext e4
                replace G19 := G19.ext e4
                refine run_cond_t rfl ?_
                refine run_region ?_
                have hgo : goNo xs vd i = true := by rw [goNo_eq hin, decide_eq_true_eq]; omega
                refine ov (xmove rfl) rfl rfl rfl ?_
                refine ov (xmove rfl) rfl rfl rfl ?_
                have h80 := (G_7.sl).at (i := i) (by omega)
                refine ov (xindexN (i := i) Try.underlying31 Try.sizeOf2 rfl rfl (by omega) ((G_7.sl).p (i := i) (by omega)) (by have := (G_7.sl).len; omega)) rfl rfl rfl ?_
                refine ostoreOw1 (i := i) (y := (0)) Try.sizeOf2 G_7 (by omega) rfl rfl rfl rfl rfl ?_
                intro w5 m5 g5
                have z5 := m5.size
                have E := m5.toExt E (by omega)
                replace G19 := G19.off m5 (by omega)
                replace G_7 := g5
                refine ops_nil ?_
                refine run_inBlock ?_
                refine run_draw (by kernel_rfl) (by kernel_rfl) ?_
                refine qv (fun w' x_ => xmove rfl) rfl rfl rfl ?_
                refine qv (fun w' x_ => xmove rfl) rfl rfl rfl ?_
                have h40 := (H.ext E).at (i := i) (by omega)
                refine qv (fun w' x_ => xindexN (i := i) Try.underlying25 Try.sizeOf80 rfl rfl (by omega) ((H.ext E).p (i := i) (by omega)) (by have := (H.ext E).len; omega)) rfl rfl rfl ?_
                refine qv (v := .agg #[.string xs[i].Label, .int .i64 xs[i].Yes, .int .i64 xs[i].No]) (fun w' x_ => xloadN Try.isAgg80 Try.sizeOf80 rfl ((h40).ext x_) rfl) rfl rfl rfl ?_
                refine qv (fun w' x_ => xmove rfl) rfl rfl rfl ?_
                refine qv (fun w' x_ => xmove rfl) rfl rfl rfl ?_
                have h44 := (G_7.sl).at (i := i) (by rw [List.length_set]; omega)
                rw [List.getElem_set_self] at h44
                refine qv (fun w' x_ => xindexN (i := i) Try.underlying31 Try.sizeOf2 rfl rfl (by omega) ((G_7.sl).p (i := i) (by rw [List.length_set]; omega)) (by have := (G_7.sl).len; omega)) rfl rfl rfl ?_
                refine qv (v := .int .i64 (0)) (fun w' x_ => xloadz Try.isAgg2 rfl ((h44).ext x_) rfl) rfl rfl rfl ?_
                have t46 := fun (w' : World) (x_ : Ext w5 w') => Ret.q (w := w') (follows_ok xs[i] ((0)) _)
                refine qc (fun w' => xcall Try.call109 rfl) rfl rfl rfl t46 ?_
                clear t46
                refine qv (fun w' x_ => xassign rfl) rfl rfl rfl ?_
                refine q_nil ?_
                intro w6 e6
                have z6 := e6.size
                have E := E.trans e6
                replace G_7 := G_7.ext e6
                replace G19 := G19.ext e6
                have hfl : follows xs[i] (0) = xs[i].No := rfl
                have hfu1 : fu = (fu - 1) + 1 := by have := hu (by omega); omega
                refine run_sub ?_ (hback15 (follows xs[i] (0), fu - 1, q_7, m_7, c_7, (ys_7.set i (0)), w6) (⟨E, G19, G_7.wide (by omega) (by omega), by omega, by omega, by rw [hfl]; omega, by rw [hfl]; omega, by omega, by rw [hg, ← hi_, hfu1, gr_no hin hgo]; rfl⟩) (by dsimp only; rw [hfl]; (repeat' split) <;> omega))
                exact ⟨rfl, rfl, rfl, rfl, rfl, trivial⟩
              ·
                refine qv (fun w' x_ => xpick_t rfl rfl) rfl rfl rfl ?_
                refine qv (fun w' x_ => xmove rfl) rfl rfl rfl ?_
                refine qv (fun w' x_ => xmove rfl) rfl rfl rfl ?_
                refine qv (fun w' x_ => xgeq rfl rfl _ rfl) rfl rfl rfl ?_
                refine qds (fun c64 => ?_) (fun c64 => ?_)
                ·
                  have hdn := dL_at (xs := xs) (vd := vd) (j := xs[i].No.toNat) (by omega)
                  rw [show ((xs[i].No.toNat : Nat) : Int) = xs[i].No by omega] at hdn
                  refine qv (fun w' x_ => xmove rfl) rfl rfl rfl ?_
                  refine qv (fun w' x_ => xmove rfl) rfl rfl rfl ?_
                  refine qv (fun w' x_ => xmove rfl) rfl rfl rfl ?_
                  have h68 := (G19.sl).at (i := xs[i].No.toNat) (by omega)
                  refine qv (fun w' x_ => xindexN (i := xs[i].No.toNat) (m := xs[i].No) (n := m19) Try.underlying31 Try.sizeOf2 rfl rfl (by omega) ((G19.sl).p (i := xs[i].No.toNat) (by omega)) (by have := (G19.sl).len; omega)) rfl rfl rfl ?_
                  refine qv (v := .int .i64 (dL xs vd)[xs[i].No.toNat]) (fun w' x_ => xloadz Try.isAgg2 rfl ((h68).ext x_) rfl) rfl rfl rfl ?_
                  refine qv (fun w' x_ => xadd rfl rfl (by unfold I64; omega)) rfl rfl rfl ?_
                  refine qv (fun w' x_ => xmove rfl) rfl rfl rfl ?_
                  refine qv (fun w' x_ => xmove rfl) rfl rfl rfl ?_
                  have h73 := (G19.sl).at (i := i) (by omega)
                  refine qv (fun w' x_ => xindexN (i := i) Try.underlying31 Try.sizeOf2 rfl rfl (by omega) ((G19.sl).p (i := i) (by omega)) (by have := (G19.sl).len; omega)) rfl rfl rfl ?_
                  refine qv (v := .int .i64 (dL xs vd)[i]) (fun w' x_ => xloadz Try.isAgg2 rfl ((h73).ext x_) rfl) rfl rfl rfl ?_
                  refine qv (fun w' x_ => xeql rfl rfl _ rfl) rfl rfl rfl ?_
                  refine qds (fun c75 => ?_) (fun c75 => ?_)
                  ·
                    refine qv (fun w' x_ => xpick_t rfl rfl) rfl rfl rfl ?_
                    refine qv (fun w' x_ => xpick_f rfl rfl) rfl rfl rfl ?_
                    refine q_nil ?_
                    intro w4 e4
                    have z4 := e4.size
                    have E := E.trans e4
                    replace G_7 := G_7.ext e4
                    replace G19 := G19.ext e4
                    refine run_cond_t rfl ?_
                    refine run_region ?_
                    have hgo : goNo xs vd i = true := by rw [goNo_eq hin, decide_eq_true_eq]; omega
                    refine ov (xmove rfl) rfl rfl rfl ?_
                    refine ov (xmove rfl) rfl rfl rfl ?_
                    have h80 := (G_7.sl).at (i := i) (by omega)
                    refine ov (xindexN (i := i) Try.underlying31 Try.sizeOf2 rfl rfl (by omega) ((G_7.sl).p (i := i) (by omega)) (by have := (G_7.sl).len; omega)) rfl rfl rfl ?_
                    refine ostoreOw1 (i := i) (y := (0)) Try.sizeOf2 G_7 (by omega) rfl rfl rfl rfl rfl ?_
                    intro w5 m5 g5
                    have z5 := m5.size
                    have E := m5.toExt E (by omega)
                    replace G19 := G19.off m5 (by omega)
                    replace G_7 := g5
                    refine ops_nil ?_
                    refine run_inBlock ?_
                    refine run_draw (by kernel_rfl) (by kernel_rfl) ?_
                    refine qv (fun w' x_ => xmove rfl) rfl rfl rfl ?_
                    refine qv (fun w' x_ => xmove rfl) rfl rfl rfl ?_
                    have h40 := (H.ext E).at (i := i) (by omega)
                    refine qv (fun w' x_ => xindexN (i := i) Try.underlying25 Try.sizeOf80 rfl rfl (by omega) ((H.ext E).p (i := i) (by omega)) (by have := (H.ext E).len; omega)) rfl rfl rfl ?_
                    refine qv (v := .agg #[.string xs[i].Label, .int .i64 xs[i].Yes, .int .i64 xs[i].No]) (fun w' x_ => xloadN Try.isAgg80 Try.sizeOf80 rfl ((h40).ext x_) rfl) rfl rfl rfl ?_
                    refine qv (fun w' x_ => xmove rfl) rfl rfl rfl ?_
                    refine qv (fun w' x_ => xmove rfl) rfl rfl rfl ?_
                    have h44 := (G_7.sl).at (i := i) (by rw [List.length_set]; omega)
                    rw [List.getElem_set_self] at h44
                    refine qv (fun w' x_ => xindexN (i := i) Try.underlying31 Try.sizeOf2 rfl rfl (by omega) ((G_7.sl).p (i := i) (by rw [List.length_set]; omega)) (by have := (G_7.sl).len; omega)) rfl rfl rfl ?_
                    refine qv (v := .int .i64 (0)) (fun w' x_ => xloadz Try.isAgg2 rfl ((h44).ext x_) rfl) rfl rfl rfl ?_
                    have t46 := fun (w' : World) (x_ : Ext w5 w') => Ret.q (w := w') (follows_ok xs[i] ((0)) _)
                    refine qc (fun w' => xcall Try.call109 rfl) rfl rfl rfl t46 ?_
                    clear t46
                    refine qv (fun w' x_ => xassign rfl) rfl rfl rfl ?_
                    refine q_nil ?_
                    intro w6 e6
                    have z6 := e6.size
                    have E := E.trans e6
                    replace G_7 := G_7.ext e6
                    replace G19 := G19.ext e6
                    have hfl : follows xs[i] (0) = xs[i].No := rfl
                    have hfu1 : fu = (fu - 1) + 1 := by have := hu (by omega); omega
                    refine run_sub ?_ (hback15 (follows xs[i] (0), fu - 1, q_7, m_7, c_7, (ys_7.set i (0)), w6) (⟨E, G19, G_7.wide (by omega) (by omega), by omega, by omega, by rw [hfl]; omega, by rw [hfl]; omega, by omega, by rw [hg, ← hi_, hfu1, gr_no hin hgo]; rfl⟩) (by dsimp only; rw [hfl]; (repeat' split) <;> omega))
                    exact ⟨rfl, rfl, rfl, rfl, rfl, trivial⟩
                  ·
                    refine qv (fun w' x_ => xpick_t rfl rfl) rfl rfl rfl ?_
                    refine qv (fun w' x_ => xpick_f rfl rfl) rfl rfl rfl ?_
                    refine q_nil ?_
                    intro w4 e4
                    have z4 := e4.size
                    have E := E.trans e4
                    replace G_7 := G_7.ext e4
                    replace G19 := G19.ext e4
                    refine run_cond_f rfl ?_
                    refine run_region ?_
                    have hgo : goNo xs vd i = false := by rw [goNo_eq hin, decide_eq_false_iff_not]; omega
                    refine ov (xmove rfl) rfl rfl rfl ?_
                    refine ov (xmove rfl) rfl rfl rfl ?_
                    have h83 := (G_7.sl).at (i := i) (by omega)
                    refine ov (xindexN (i := i) Try.underlying31 Try.sizeOf2 rfl rfl (by omega) ((G_7.sl).p (i := i) (by omega)) (by have := (G_7.sl).len; omega)) rfl rfl rfl ?_
                    refine ostoreOw1 (i := i) (y := (1)) Try.sizeOf2 G_7 (by omega) rfl rfl rfl rfl rfl ?_
                    intro w5 m5 g5
                    have z5 := m5.size
                    have E := m5.toExt E (by omega)
                    replace G19 := G19.off m5 (by omega)
                    replace G_7 := g5
                    refine ops_nil ?_
                    refine run_inBlock ?_
                    refine run_draw (by kernel_rfl) (by kernel_rfl) ?_
                    refine qv (fun w' x_ => xmove rfl) rfl rfl rfl ?_
                    refine qv (fun w' x_ => xmove rfl) rfl rfl rfl ?_
                    have h40 := (H.ext E).at (i := i) (by omega)
                    refine qv (fun w' x_ => xindexN (i := i) Try.underlying25 Try.sizeOf80 rfl rfl (by omega) ((H.ext E).p (i := i) (by omega)) (by have := (H.ext E).len; omega)) rfl rfl rfl ?_
                    refine qv (v := .agg #[.string xs[i].Label, .int .i64 xs[i].Yes, .int .i64 xs[i].No]) (fun w' x_ => xloadN Try.isAgg80 Try.sizeOf80 rfl ((h40).ext x_) rfl) rfl rfl rfl ?_
                    refine qv (fun w' x_ => xmove rfl) rfl rfl rfl ?_
                    refine qv (fun w' x_ => xmove rfl) rfl rfl rfl ?_
                    have h44 := (G_7.sl).at (i := i) (by rw [List.length_set]; omega)
                    rw [List.getElem_set_self] at h44
                    refine qv (fun w' x_ => xindexN (i := i) Try.underlying31 Try.sizeOf2 rfl rfl (by omega) ((G_7.sl).p (i := i) (by rw [List.length_set]; omega)) (by have := (G_7.sl).len; omega)) rfl rfl rfl ?_
                    refine qv (v := .int .i64 (1)) (fun w' x_ => xloadz Try.isAgg2 rfl ((h44).ext x_) rfl) rfl rfl rfl ?_
                    have t46 := fun (w' : World) (x_ : Ext w5 w') => Ret.q (w := w') (follows_ok xs[i] ((1)) _)
                    refine qc (fun w' => xcall Try.call109 rfl) rfl rfl rfl t46 ?_
                    clear t46
                    refine qv (fun w' x_ => xassign rfl) rfl rfl rfl ?_
                    refine q_nil ?_
                    intro w6 e6
                    have z6 := e6.size
                    have E := E.trans e6
                    replace G_7 := G_7.ext e6
                    replace G19 := G19.ext e6
                    have hfl : follows xs[i] (1) = xs[i].Yes := rfl
                    have hfu1 : fu = (fu - 1) + 1 := by have := hu (by omega); omega
                    refine run_sub ?_ (hback15 (follows xs[i] (1), fu - 1, q_7, m_7, c_7, (ys_7.set i (1)), w6) (⟨E, G19, G_7.wide (by omega) (by omega), by omega, by omega, by rw [hfl]; omega, by rw [hfl]; omega, by omega, by rw [hg, ← hi_, hfu1, gr_yes hin hgo]; rfl⟩) (by dsimp only; rw [hfl]; (repeat' split) <;> omega))
                    exact ⟨rfl, rfl, rfl, rfl, rfl, trivial⟩
                ·
                  refine qv (fun w' x_ => xmove rfl) rfl rfl rfl ?_
                  refine qg rfl rfl rfl ?_
                  refine qg rfl rfl rfl ?_
                  refine qg rfl rfl rfl ?_
                  refine qg rfl rfl rfl ?_
                  refine qg rfl rfl rfl ?_
                  refine qg rfl rfl rfl ?_
                  refine qg rfl rfl rfl ?_
                  refine qg rfl rfl rfl ?_
                  refine qg rfl rfl rfl ?_
                  refine qg rfl rfl rfl ?_
                  refine qv (fun w' x_ => xpick_f rfl rfl) rfl rfl rfl ?_
                  refine qv (fun w' x_ => xpick_f rfl rfl) rfl rfl rfl ?_
                  refine q_nil ?_
                  intro w4 e4
                  have z4 := e4.size
                  have E := E.trans e4
                  replace G_7 := G_7.ext e4
                  replace G19 := G19.ext e4
                  refine run_cond_f rfl ?_
                  refine run_region ?_
                  have hgo : goNo xs vd i = false := by rw [goNo_eq hin, decide_eq_false_iff_not]; omega
                  refine ov (xmove rfl) rfl rfl rfl ?_
                  refine ov (xmove rfl) rfl rfl rfl ?_
                  have h83 := (G_7.sl).at (i := i) (by omega)
                  refine ov (xindexN (i := i) Try.underlying31 Try.sizeOf2 rfl rfl (by omega) ((G_7.sl).p (i := i) (by omega)) (by have := (G_7.sl).len; omega)) rfl rfl rfl ?_
                  refine ostoreOw1 (i := i) (y := (1)) Try.sizeOf2 G_7 (by omega) rfl rfl rfl rfl rfl ?_
                  intro w5 m5 g5
                  have z5 := m5.size
                  have E := m5.toExt E (by omega)
                  replace G19 := G19.off m5 (by omega)
                  replace G_7 := g5
                  refine ops_nil ?_
                  refine run_inBlock ?_
                  refine run_draw (by kernel_rfl) (by kernel_rfl) ?_
                  refine qv (fun w' x_ => xmove rfl) rfl rfl rfl ?_
                  refine qv (fun w' x_ => xmove rfl) rfl rfl rfl ?_
                  have h40 := (H.ext E).at (i := i) (by omega)
                  refine qv (fun w' x_ => xindexN (i := i) Try.underlying25 Try.sizeOf80 rfl rfl (by omega) ((H.ext E).p (i := i) (by omega)) (by have := (H.ext E).len; omega)) rfl rfl rfl ?_
                  refine qv (v := .agg #[.string xs[i].Label, .int .i64 xs[i].Yes, .int .i64 xs[i].No]) (fun w' x_ => xloadN Try.isAgg80 Try.sizeOf80 rfl ((h40).ext x_) rfl) rfl rfl rfl ?_
                  refine qv (fun w' x_ => xmove rfl) rfl rfl rfl ?_
                  refine qv (fun w' x_ => xmove rfl) rfl rfl rfl ?_
                  have h44 := (G_7.sl).at (i := i) (by rw [List.length_set]; omega)
                  rw [List.getElem_set_self] at h44
                  refine qv (fun w' x_ => xindexN (i := i) Try.underlying31 Try.sizeOf2 rfl rfl (by omega) ((G_7.sl).p (i := i) (by rw [List.length_set]; omega)) (by have := (G_7.sl).len; omega)) rfl rfl rfl ?_
                  refine qv (v := .int .i64 (1)) (fun w' x_ => xloadz Try.isAgg2 rfl ((h44).ext x_) rfl) rfl rfl rfl ?_
                  have t46 := fun (w' : World) (x_ : Ext w5 w') => Ret.q (w := w') (follows_ok xs[i] ((1)) _)
                  refine qc (fun w' => xcall Try.call109 rfl) rfl rfl rfl t46 ?_
                  clear t46
                  refine qv (fun w' x_ => xassign rfl) rfl rfl rfl ?_
                  refine q_nil ?_
                  intro w6 e6
                  have z6 := e6.size
                  have E := E.trans e6
                  replace G_7 := G_7.ext e6
                  replace G19 := G19.ext e6
                  have hfl : follows xs[i] (1) = xs[i].Yes := rfl
                  have hfu1 : fu = (fu - 1) + 1 := by have := hu (by omega); omega
                  refine run_sub ?_ (hback15 (follows xs[i] (1), fu - 1, q_7, m_7, c_7, (ys_7.set i (1)), w6) (⟨E, G19, G_7.wide (by omega) (by omega), by omega, by omega, by rw [hfl]; omega, by rw [hfl]; omega, by omega, by rw [hg, ← hi_, hfu1, gr_yes hin hgo]; rfl⟩) (by dsimp only; rw [hfl]; (repeat' split) <;> omega))
                  exact ⟨rfl, rfl, rfl, rfl, rfl, trivial⟩
            ·
              refine qv (fun w' x_ => xmove rfl) rfl rfl rfl ?_
              refine qg rfl rfl rfl ?_
              refine qg rfl rfl rfl ?_
              refine qg rfl rfl rfl ?_
              refine qg rfl rfl rfl ?_
              refine qg rfl rfl rfl ?_
              refine qv (fun w' x_ => xpick_f rfl rfl) rfl rfl rfl ?_
              refine qv (fun w' x_ => xmove rfl) rfl rfl rfl ?_
              refine qv (fun w' x_ => xmove rfl) rfl rfl rfl ?_
              refine qv (fun w' x_ => xgeq rfl rfl _ rfl) rfl rfl rfl ?_
              refine qds (fun c64 => ?_) (fun c64 => ?_)
              ·
                have hdn := dL_at (xs := xs) (vd := vd) (j := xs[i].No.toNat) (by omega)
                rw [show ((xs[i].No.toNat : Nat) : Int) = xs[i].No by omega] at hdn
                refine qv (fun w' x_ => xmove rfl) rfl rfl rfl ?_
                refine qv (fun w' x_ => xmove rfl) rfl rfl rfl ?_
                refine qv (fun w' x_ => xmove rfl) rfl rfl rfl ?_
                have h68 := (G19.sl).at (i := xs[i].No.toNat) (by omega)
                refine qv (fun w' x_ => xindexN (i := xs[i].No.toNat) (m := xs[i].No) (n := m19) Try.underlying31 Try.sizeOf2 rfl rfl (by omega) ((G19.sl).p (i := xs[i].No.toNat) (by omega)) (by have := (G19.sl).len; omega)) rfl rfl rfl ?_
                refine qv (v := .int .i64 (dL xs vd)[xs[i].No.toNat]) (fun w' x_ => xloadz Try.isAgg2 rfl ((h68).ext x_) rfl) rfl rfl rfl ?_
                refine qv (fun w' x_ => xadd rfl rfl (by unfold I64; omega)) rfl rfl rfl ?_
                refine qv (fun w' x_ => xmove rfl) rfl rfl rfl ?_
                refine qv (fun w' x_ => xmove rfl) rfl rfl rfl ?_
                have h73 := (G19.sl).at (i := i) (by omega)
                refine qv (fun w' x_ => xindexN (i := i) Try.underlying31 Try.sizeOf2 rfl rfl (by omega) ((G19.sl).p (i := i) (by omega)) (by have := (G19.sl).len; omega)) rfl rfl rfl ?_
                refine qv (v := .int .i64 (dL xs vd)[i]) (fun w' x_ => xloadz Try.isAgg2 rfl ((h73).ext x_) rfl) rfl rfl rfl ?_
                refine qv (fun w' x_ => xeql rfl rfl _ rfl) rfl rfl rfl ?_
                refine qds (fun c75 => ?_) (fun c75 => ?_)
                ·
                  refine qv (fun w' x_ => xpick_t rfl rfl) rfl rfl rfl ?_
                  refine qv (fun w' x_ => xpick_f rfl rfl) rfl rfl rfl ?_
                  refine q_nil ?_
                  intro w4 e4
                  have z4 := e4.size
                  have E := E.trans e4
                  replace G_7 := G_7.ext e4
                  replace G19 := G19.ext e4
                  refine run_cond_t rfl ?_
                  refine run_region ?_
                  have hgo : goNo xs vd i = true := by rw [goNo_eq hin, decide_eq_true_eq]; omega
                  refine ov (xmove rfl) rfl rfl rfl ?_
                  refine ov (xmove rfl) rfl rfl rfl ?_
                  have h80 := (G_7.sl).at (i := i) (by omega)
                  refine ov (xindexN (i := i) Try.underlying31 Try.sizeOf2 rfl rfl (by omega) ((G_7.sl).p (i := i) (by omega)) (by have := (G_7.sl).len; omega)) rfl rfl rfl ?_
                  refine ostoreOw1 (i := i) (y := (0)) Try.sizeOf2 G_7 (by omega) rfl rfl rfl rfl rfl ?_
                  intro w5 m5 g5
                  have z5 := m5.size
                  have E := m5.toExt E (by omega)
                  replace G19 := G19.off m5 (by omega)
                  replace G_7 := g5
                  refine ops_nil ?_
                  refine run_inBlock ?_
                  refine run_draw (by kernel_rfl) (by kernel_rfl) ?_
                  refine qv (fun w' x_ => xmove rfl) rfl rfl rfl ?_
                  refine qv (fun w' x_ => xmove rfl) rfl rfl rfl ?_
                  have h40 := (H.ext E).at (i := i) (by omega)
                  refine qv (fun w' x_ => xindexN (i := i) Try.underlying25 Try.sizeOf80 rfl rfl (by omega) ((H.ext E).p (i := i) (by omega)) (by have := (H.ext E).len; omega)) rfl rfl rfl ?_
                  refine qv (v := .agg #[.string xs[i].Label, .int .i64 xs[i].Yes, .int .i64 xs[i].No]) (fun w' x_ => xloadN Try.isAgg80 Try.sizeOf80 rfl ((h40).ext x_) rfl) rfl rfl rfl ?_
                  refine qv (fun w' x_ => xmove rfl) rfl rfl rfl ?_
                  refine qv (fun w' x_ => xmove rfl) rfl rfl rfl ?_
                  have h44 := (G_7.sl).at (i := i) (by rw [List.length_set]; omega)
                  rw [List.getElem_set_self] at h44
                  refine qv (fun w' x_ => xindexN (i := i) Try.underlying31 Try.sizeOf2 rfl rfl (by omega) ((G_7.sl).p (i := i) (by rw [List.length_set]; omega)) (by have := (G_7.sl).len; omega)) rfl rfl rfl ?_
                  refine qv (v := .int .i64 (0)) (fun w' x_ => xloadz Try.isAgg2 rfl ((h44).ext x_) rfl) rfl rfl rfl ?_
                  have t46 := fun (w' : World) (x_ : Ext w5 w') => Ret.q (w := w') (follows_ok xs[i] ((0)) _)
                  refine qc (fun w' => xcall Try.call109 rfl) rfl rfl rfl t46 ?_
                  clear t46
                  refine qv (fun w' x_ => xassign rfl) rfl rfl rfl ?_
                  refine q_nil ?_
                  intro w6 e6
                  have z6 := e6.size
                  have E := E.trans e6
                  replace G_7 := G_7.ext e6
                  replace G19 := G19.ext e6
                  have hfl : follows xs[i] (0) = xs[i].No := rfl
                  have hfu1 : fu = (fu - 1) + 1 := by have := hu (by omega); omega
                  refine run_sub ?_ (hback15 (follows xs[i] (0), fu - 1, q_7, m_7, c_7, (ys_7.set i (0)), w6) (⟨E, G19, G_7.wide (by omega) (by omega), by omega, by omega, by rw [hfl]; omega, by rw [hfl]; omega, by omega, by rw [hg, ← hi_, hfu1, gr_no hin hgo]; rfl⟩) (by dsimp only; rw [hfl]; (repeat' split) <;> omega))
                  exact ⟨rfl, rfl, rfl, rfl, rfl, trivial⟩
                ·
                  refine qv (fun w' x_ => xpick_t rfl rfl) rfl rfl rfl ?_
                  refine qv (fun w' x_ => xpick_f rfl rfl) rfl rfl rfl ?_
                  refine q_nil ?_
                  intro w4 e4
                  have z4 := e4.size
                  have E := E.trans e4
                  replace G_7 := G_7.ext e4
                  replace G19 := G19.ext e4
                  refine run_cond_f rfl ?_
                  refine run_region ?_
                  have hgo : goNo xs vd i = false := by rw [goNo_eq hin, decide_eq_false_iff_not]; omega
                  refine ov (xmove rfl) rfl rfl rfl ?_
                  refine ov (xmove rfl) rfl rfl rfl ?_
                  have h83 := (G_7.sl).at (i := i) (by omega)
                  refine ov (xindexN (i := i) Try.underlying31 Try.sizeOf2 rfl rfl (by omega) ((G_7.sl).p (i := i) (by omega)) (by have := (G_7.sl).len; omega)) rfl rfl rfl ?_
                  refine ostoreOw1 (i := i) (y := (1)) Try.sizeOf2 G_7 (by omega) rfl rfl rfl rfl rfl ?_
                  intro w5 m5 g5
                  have z5 := m5.size
                  have E := m5.toExt E (by omega)
                  replace G19 := G19.off m5 (by omega)
                  replace G_7 := g5
                  refine ops_nil ?_
                  refine run_inBlock ?_
                  refine run_draw (by kernel_rfl) (by kernel_rfl) ?_
                  refine qv (fun w' x_ => xmove rfl) rfl rfl rfl ?_
                  refine qv (fun w' x_ => xmove rfl) rfl rfl rfl ?_
                  have h40 := (H.ext E).at (i := i) (by omega)
                  refine qv (fun w' x_ => xindexN (i := i) Try.underlying25 Try.sizeOf80 rfl rfl (by omega) ((H.ext E).p (i := i) (by omega)) (by have := (H.ext E).len; omega)) rfl rfl rfl ?_
                  refine qv (v := .agg #[.string xs[i].Label, .int .i64 xs[i].Yes, .int .i64 xs[i].No]) (fun w' x_ => xloadN Try.isAgg80 Try.sizeOf80 rfl ((h40).ext x_) rfl) rfl rfl rfl ?_
                  refine qv (fun w' x_ => xmove rfl) rfl rfl rfl ?_
                  refine qv (fun w' x_ => xmove rfl) rfl rfl rfl ?_
                  have h44 := (G_7.sl).at (i := i) (by rw [List.length_set]; omega)
                  rw [List.getElem_set_self] at h44
                  refine qv (fun w' x_ => xindexN (i := i) Try.underlying31 Try.sizeOf2 rfl rfl (by omega) ((G_7.sl).p (i := i) (by rw [List.length_set]; omega)) (by have := (G_7.sl).len; omega)) rfl rfl rfl ?_
                  refine qv (v := .int .i64 (1)) (fun w' x_ => xloadz Try.isAgg2 rfl ((h44).ext x_) rfl) rfl rfl rfl ?_
                  have t46 := fun (w' : World) (x_ : Ext w5 w') => Ret.q (w := w') (follows_ok xs[i] ((1)) _)
                  refine qc (fun w' => xcall Try.call109 rfl) rfl rfl rfl t46 ?_
                  clear t46
                  refine qv (fun w' x_ => xassign rfl) rfl rfl rfl ?_
                  refine q_nil ?_
                  intro w6 e6
                  have z6 := e6.size
                  have E := E.trans e6
                  replace G_7 := G_7.ext e6
                  replace G19 := G19.ext e6
                  have hfl : follows xs[i] (1) = xs[i].Yes := rfl
                  have hfu1 : fu = (fu - 1) + 1 := by have := hu (by omega); omega
                  refine run_sub ?_ (hback15 (follows xs[i] (1), fu - 1, q_7, m_7, c_7, (ys_7.set i (1)), w6) (⟨E, G19, G_7.wide (by omega) (by omega), by omega, by omega, by rw [hfl]; omega, by rw [hfl]; omega, by omega, by rw [hg, ← hi_, hfu1, gr_yes hin hgo]; rfl⟩) (by dsimp only; rw [hfl]; (repeat' split) <;> omega))
                  exact ⟨rfl, rfl, rfl, rfl, rfl, trivial⟩
              ·
                refine qv (fun w' x_ => xmove rfl) rfl rfl rfl ?_
                refine qg rfl rfl rfl ?_
                refine qg rfl rfl rfl ?_
                refine qg rfl rfl rfl ?_
                refine qg rfl rfl rfl ?_
                refine qg rfl rfl rfl ?_
                refine qg rfl rfl rfl ?_
                refine qg rfl rfl rfl ?_
                refine qg rfl rfl rfl ?_
                refine qg rfl rfl rfl ?_
                refine qg rfl rfl rfl ?_
                refine qv (fun w' x_ => xpick_f rfl rfl) rfl rfl rfl ?_
                refine qv (fun w' x_ => xpick_f rfl rfl) rfl rfl rfl ?_
                refine q_nil ?_
                intro w4 e4
                have z4 := e4.size
                have E := E.trans e4
                replace G_7 := G_7.ext e4
                replace G19 := G19.ext e4
                refine run_cond_f rfl ?_
                refine run_region ?_
                have hgo : goNo xs vd i = false := by rw [goNo_eq hin, decide_eq_false_iff_not]; omega
                refine ov (xmove rfl) rfl rfl rfl ?_
                refine ov (xmove rfl) rfl rfl rfl ?_
                have h83 := (G_7.sl).at (i := i) (by omega)
                refine ov (xindexN (i := i) Try.underlying31 Try.sizeOf2 rfl rfl (by omega) ((G_7.sl).p (i := i) (by omega)) (by have := (G_7.sl).len; omega)) rfl rfl rfl ?_
                refine ostoreOw1 (i := i) (y := (1)) Try.sizeOf2 G_7 (by omega) rfl rfl rfl rfl rfl ?_
                intro w5 m5 g5
                have z5 := m5.size
                have E := m5.toExt E (by omega)
                replace G19 := G19.off m5 (by omega)
                replace G_7 := g5
                refine ops_nil ?_
                refine run_inBlock ?_
                refine run_draw (by kernel_rfl) (by kernel_rfl) ?_
                refine qv (fun w' x_ => xmove rfl) rfl rfl rfl ?_
                refine qv (fun w' x_ => xmove rfl) rfl rfl rfl ?_
                have h40 := (H.ext E).at (i := i) (by omega)
                refine qv (fun w' x_ => xindexN (i := i) Try.underlying25 Try.sizeOf80 rfl rfl (by omega) ((H.ext E).p (i := i) (by omega)) (by have := (H.ext E).len; omega)) rfl rfl rfl ?_
                refine qv (v := .agg #[.string xs[i].Label, .int .i64 xs[i].Yes, .int .i64 xs[i].No]) (fun w' x_ => xloadN Try.isAgg80 Try.sizeOf80 rfl ((h40).ext x_) rfl) rfl rfl rfl ?_
                refine qv (fun w' x_ => xmove rfl) rfl rfl rfl ?_
                refine qv (fun w' x_ => xmove rfl) rfl rfl rfl ?_
                have h44 := (G_7.sl).at (i := i) (by rw [List.length_set]; omega)
                rw [List.getElem_set_self] at h44
                refine qv (fun w' x_ => xindexN (i := i) Try.underlying31 Try.sizeOf2 rfl rfl (by omega) ((G_7.sl).p (i := i) (by rw [List.length_set]; omega)) (by have := (G_7.sl).len; omega)) rfl rfl rfl ?_
                refine qv (v := .int .i64 (1)) (fun w' x_ => xloadz Try.isAgg2 rfl ((h44).ext x_) rfl) rfl rfl rfl ?_
                have t46 := fun (w' : World) (x_ : Ext w5 w') => Ret.q (w := w') (follows_ok xs[i] ((1)) _)
                refine qc (fun w' => xcall Try.call109 rfl) rfl rfl rfl t46 ?_
                clear t46
                refine qv (fun w' x_ => xassign rfl) rfl rfl rfl ?_
                refine q_nil ?_
                intro w6 e6
                have z6 := e6.size
                have E := E.trans e6
                replace G_7 := G_7.ext e6
                replace G19 := G19.ext e6
                have hfl : follows xs[i] (1) = xs[i].Yes := rfl
                have hfu1 : fu = (fu - 1) + 1 := by have := hu (by omega); omega
                refine run_sub ?_ (hback15 (follows xs[i] (1), fu - 1, q_7, m_7, c_7, (ys_7.set i (1)), w6) (⟨E, G19, G_7.wide (by omega) (by omega), by omega, by omega, by rw [hfl]; omega, by rw [hfl]; omega, by omega, by rw [hg, ← hi_, hfu1, gr_yes hin hgo]; rfl⟩) (by dsimp only; rw [hfl]; (repeat' split) <;> omega))
                exact ⟨rfl, rfl, rfl, rfl, rfl, trivial⟩
          ·
            refine ops_nil ?_
            refine run_cond_f rfl ?_
            refine run_exit rfl ?_
            refine run_seq ?_
            refine run_region ?_
            refine ov (xmove rfl) rfl rfl rfl ?_
            refine ov (xassign rfl) rfl rfl rfl ?_
            refine ov (xassign rfl) rfl rfl rfl ?_
            refine ops_nil ?_
            refine run_ret Try.func47 (res2 rfl rfl rfl) ?_
            have he : answersFor xs vd = (ys_7, 0) := by rw [answersFor, if_neg (by simp [c12]), if_neg (by simp [c15]), if_neg (by rw [dL_at] at c23; exact c23), hg, gr_neg (by omega)]
            exact ⟨_, rfl, E, _, _, _, by rw [he], by rw [he]; exact G_7.wide (by omega) (by omega)⟩
    ·
      refine ov (xnot rfl) rfl rfl rfl ?_
      refine ops_nil ?_
      refine run_cond_t rfl ?_
      refine run_seq ?_
      refine run_region ?_
      refine ov (xassign rfl) rfl rfl rfl ?_
      refine ov (xassign rfl) rfl rfl rfl ?_
      refine ops_nil ?_
      refine run_ret Try.func47 (res2 rfl rfl rfl) ?_
      have he : answersFor xs vd = ([], 2) := by rw [answersFor, if_neg (by simp [c12]), if_pos c15]
      exact ⟨_, rfl, E, none, 0, 0, by rw [he], by rw [he]; exact Ow.none _ _ _ _ _ _⟩
  ·
    refine ov (xnot rfl) rfl rfl rfl ?_
    refine ops_nil ?_
    refine run_cond_t rfl ?_
    refine run_seq ?_
    refine run_region ?_
    refine ov (xassign rfl) rfl rfl rfl ?_
    refine ov (xassign rfl) rfl rfl rfl ?_
    refine ops_nil ?_
    refine run_ret Try.func47 (res2 rfl rfl rfl) ?_
    have he : answersFor xs vd = ([], 1) := by rw [answersFor, if_pos c12]
    exact ⟨_, rfl, E, none, 0, 0, by rw [he], by rw [he]; exact Ow.none _ _ _ _ _ _⟩

set_option maxHeartbeats 4000000 in
theorem sAnswersFor_ok (p : Option Addr) (n c : Nat) (xs : List Question) (w : World) (H : Sl Question.cells 3 w p n c xs) (hx : ∀ x ∈ xs, x.Label.size ≤ 9223372036854775807) (vd : Int) : Ret Try.prog 46 [.slice p n c, .int .i64 vd] w (fun v w' => Ext w w' ∧ ∃ q m d, v = .tuple #[.slice q m d, .int .i64 (answersFor xs vd).2] ∧ Ow i64c 1 2 w' w.heap.size w'.heap.size q m d (answersFor xs vd).1) := by
  refine ret_of_run (N := 60) Try.func46 rfl rfl rfl ?_
  have hn := H.len
  have hn6 := H.n64
  have E : Ext w w := Ext.refl w
  refine run_seq ?_
  refine run_region ?_
  refine ov (xassign rfl) rfl rfl rfl ?_
  refine ov (xassign rfl) rfl rfl rfl ?_
  refine ops_nil ?_
  refine run_seq ?_
  refine run_seq ?_
  refine run_region ?_
  refine ov (xmove rfl) rfl rfl rfl ?_
  refine oc (xcall Try.call26 rfl) rfl rfl rfl (sIsForm_ok _ _ _ _ _ (H.ext E) (by assumption)) ?_
  rintro _ w1 ⟨rfl, e1⟩
  have z1 := e1.size
  have E := E.trans e1
  refine obs (fun c13 => ?_) (fun c13 => ?_)
  ·
    have hl := isForm_len c13
    refine ov (xnot rfl) rfl rfl rfl ?_
    refine ops_nil ?_
    refine run_cond_f rfl ?_
    refine run_skip ?_
    refine run_seq ?_
    refine run_seq ?_
    refine run_region ?_
    refine ov (xmove rfl) rfl rfl rfl ?_
    refine oc (xcall Try.call88 rfl) rfl rfl rfl (l01In_ok (vd) ((-6)) ((-1)) _) ?_
    rintro _ w_ ⟨rfl, hw_⟩
    replace hw_ := hw_.symm
    subst hw_
    refine obs (fun c16 => ?_) (fun c16 => ?_)
    ·
      refine ov (xnot rfl) rfl rfl rfl ?_
      refine ops_nil ?_
      refine run_cond_f rfl ?_
      refine run_skip ?_
      refine run_seq ?_
      refine run_region ?_
      refine obuild (cs := []) (sz := 1) Try.underlying31 inf2 rfl rfl (by decide) rfl rfl (by simp [Value.cells]) rfl rfl rfl ?_
      intro b2 w2 e2 hb2 hz2 O2
      have E := E.trans e2
      have G2 : Ow i64c 1 2 w2 b2 (b2 + 1) (some ⟨b2, 0, none⟩) 0 0 ([] : List Int) := Own.ow (by simpa using O2) rfl (by omega) (Nat.le_refl _) (by omega) (by intro x hx; rfl)
      refine ov (xassign rfl) rfl rfl rfl ?_
      refine ov (xassign rfl) rfl rfl rfl ?_
      refine ops_nil ?_
      refine run_seq ?_
      refine run_region ?_
      refine ov (xmove rfl) rfl rfl rfl ?_
      refine ov (xmove rfl) rfl rfl rfl ?_
      refine oc (xcall Try.call97 rfl) rfl rfl rfl (l26None_ok _ _ _ _ _ (H.ext E) (by assumption) (by omega)) ?_
      rintro _ w3 ⟨e3, q21, m21, d21, rfl, G21⟩
      have z3 := e3.size
      have E := E.trans e3
      replace G2 := G2.ext e3
      refine oc (xcall Try.call96 rfl) rfl rfl rfl (l26All_ok hx c13 xs.length (by omega) w.heap.size _ _ _ (noneA xs) _ (by omega) (H.ext E) (areAns_none xs) (.inl (by omega)) (G21.wide (by omega) (by omega))) ?_
      rintro _ w4 ⟨e4, q22, m22, d22, ys22, rfl, G22, hv22, I22⟩
      have z4 := e4.size
      have E := E.trans e4
      replace G2 := G2.ext e4
      replace G21 := G21.ext e4
      have lG22 := G22.len
      have hl22 := allG_2048 xs (by omega : xs.length ≤ 10) (noneA xs)
      rw [← hv22, List.length_map] at hl22
      refine ov (xassign rfl) rfl rfl rfl ?_
      refine ops_nil ?_
      refine run_seq ?_
      refine run_seq ?_
      refine run_region ?_
      refine ov (xassign rfl) rfl rfl rfl ?_
      refine ops_nil ?_
      refine run_block ?_
      refine run_loop (ι := Nat × Option Addr × Nat × Nat × List Int × Int × World) (fun x_ => match x_ with | (k, qb, mb, cb, bb, lb, wr) => (Ext w wr) ∧ (Ow i64c 1 2 wr w.heap.size wr.heap.size qb mb cb bb) ∧ (In1 innInt64SS i64c 1 2 wr w.heap.size wr.heap.size ys22) ∧ (Ow (xc cellsInt64SS) 1 31 wr w3.heap.size w4.heap.size q22 m22 d22 ys22) ∧ (w4.heap.size ≤ wr.heap.size) ∧ (k ≤ m22) ∧ (bestL xs vd ([], -1) ((allA xs).take k) = (bb, lb)) ∧ (-1 ≤ lb)) (fun x_ => match x_ with | (k, qb, mb, cb, bb, lb, wr) => [(0, .slice p n c), (1, .int .i64 vd), (6, .slice qb mb cb), (7, .int .i64 lb), (8, .slice q22 m22 d22), (9, .int .i64 (k : Int))]) (fun x_ => match x_ with | (k, qb, mb, cb, bb, lb, wr) => wr) (fun x_ => match x_ with | (k, qb, mb, cb, bb, lb, wr) => m22 - k) ?_ (0, (some ⟨b2, 0, none⟩), 0, 0, [], -1, w4) (⟨E, G2.wide (by omega) (by omega), I22.wide (by omega) (by omega), G22, Nat.le_refl _, by omega, by simp [bestL], by omega⟩) ⟨rfl, rfl, rfl, rfl, rfl, rfl, trivial⟩ rfl
      intro i_ hI_ hback8
      obtain ⟨k, qb, mb, cb, bb, lb, wr⟩ := i_
      obtain ⟨E, GB, I22, G22, lz_wr, hk, hbb, hlb⟩ := hI_
      try dsimp only
      have zr := E.size
      refine run_seq ?_
      refine run_seq ?_
      refine run_region ?_
      refine ov (xmove rfl) rfl rfl rfl ?_
      refine ov (xmove rfl) rfl rfl rfl ?_
      refine ov (xlen Try.underlying36 rfl) rfl rfl rfl ?_
      refine ov (xlss rfl rfl _ rfl) rfl rfl rfl ?_
      refine ods (fun c26 => ?_) (fun c26 => ?_)
      ·
        have hkl : k < ys22.length := by omega
        have hkm : ys22[k].v ∈ allA xs := by rw [allA, ← hv22]; exact List.mem_map.2 ⟨_, List.getElem_mem hkl, rfl⟩
        have hkt := allA_tidy c13 hkm
        have hkA := hkt.1
        have hka2 : k < (allA xs).length := by rw [allA, ← hv22, List.length_map]; exact hkl
        have hka : (allA xs)[k] = ys22[k].v := by simp only [allA, ← hv22, List.getElem_map]
        refine ops_nil ?_
        refine run_cond_t rfl ?_
        refine run_skip ?_
        refine run_seq ?_
        refine run_block ?_
        refine run_seq ?_
        refine run_region ?_
        refine ov (xmove rfl) rfl rfl rfl ?_
        refine ov (xmove rfl) rfl rfl rfl ?_
        refine ov (xmove rfl) rfl rfl rfl ?_
        have h33 := (G22.sl).at (i := k) (by omega)
        refine ov (xindexN (i := k) Try.underlying36 Try.sizeOf31 rfl rfl rfl ((G22.sl).p (i := k) (by omega)) (by have := (G22.sl).len; omega)) rfl rfl rfl ?_
        refine ov (v := .slice ys22[k].h.p ys22[k].h.n ys22[k].h.c) (xloadz Try.isAgg31 rfl (h33) rfl) rfl rfl rfl ?_
        refine oc (xcall Try.call99 rfl) rfl rfl rfl (l26Way_ok _ _ _ _ _ _ _ ys22[k].v _ (H.ext E) (by assumption) ((I22.i ys22[k] (List.getElem_mem hkl)).sl) (by assumption) (by assumption)) ?_
        rintro _ w5 ⟨e5, q35, m35, d35, rfl, G35⟩
        have z5 := e5.size
        have E := E.trans e5
        replace GB := GB.ext e5
        replace I22 := I22.ext e5
        replace G22 := G22.ext e5
        have lG35 := G35.len
        refine ov (xmove rfl) rfl rfl rfl ?_
        refine ov (xextract rfl rfl) rfl rfl rfl ?_
        refine ov (xextract rfl rfl) rfl rfl rfl ?_
        refine ov (xassign rfl) rfl rfl rfl ?_
        refine ov (xassign rfl) rfl rfl rfl ?_
        refine ops_nil ?_
        refine run_seq ?_
        refine run_region ?_
        refine ov (xmove rfl) rfl rfl rfl ?_
        refine ov (xmove rfl) rfl rfl rfl ?_
        refine ov (xeql rfl rfl _ rfl) rfl rfl rfl ?_
        refine ods (fun c40 => ?_) (fun c40 => ?_)
        ·
          refine ov (xmove rfl) rfl rfl rfl ?_
          refine ov (xmove rfl) rfl rfl rfl ?_
          refine ov (xlss rfl rfl _ rfl) rfl rfl rfl ?_
          refine ods (fun c43 => ?_) (fun c43 => ?_)
          ·
            refine ov (xmove rfl) rfl rfl rfl ?_
            refine og rfl rfl rfl ?_
            refine og rfl rfl rfl ?_
            refine og rfl rfl rfl ?_
            refine og rfl rfl rfl ?_
            refine ov (xpick_t rfl rfl) rfl rfl rfl ?_
            refine ov (xpick_t rfl rfl) rfl rfl rfl ?_
            refine ops_nil ?_
            refine run_cond_t rfl ?_
            refine run_seq ?_
            refine run_region ?_
            refine ov (xmove rfl) rfl rfl rfl ?_
            refine ov (xmove rfl) rfl rfl rfl ?_
            have h53 := (G22.sl).at (i := k) (by omega)
            refine ov (xindexN (i := k) Try.underlying36 Try.sizeOf31 rfl rfl rfl ((G22.sl).p (i := k) (by omega)) (by have := (G22.sl).len; omega)) rfl rfl rfl ?_
            refine ov (v := .slice ys22[k].h.p ys22[k].h.n ys22[k].h.c) (xloadz Try.isAgg31 rfl (h53) rfl) rfl rfl rfl ?_
            refine ov (xassign rfl) rfl rfl rfl ?_
            refine ops_nil ?_
            refine run_region ?_
            refine ov (xmove rfl) rfl rfl rfl ?_
            refine ov (xlen Try.underlying31 rfl) rfl rfl rfl ?_
            refine ov (xassign rfl) rfl rfl rfl ?_
            refine ops_nil ?_
            refine run_inBlock ?_
            refine run_region ?_
            refine ov (xmove rfl) rfl rfl rfl ?_
            refine ov (xadd rfl rfl (by unfold I64; omega)) rfl rfl rfl ?_
            refine ov (xassign rfl) rfl rfl rfl ?_
            refine ops_nil ?_
            refine run_sub ?_ (hback8 (k + 1, ys22[k].h.p, ys22[k].h.n, ys22[k].h.c, ys22[k].v, (m35 : Int), w5) (⟨E, (I22.i ys22[k] (List.getElem_mem hkl)).wide (by omega) (by omega), I22.wide (by omega) (by omega), G22, by omega, by omega, by rw [best_step hka2 hbb, hka, bestS, if_pos ⟨c40, by simp only; omega⟩, lG35], by omega⟩) (by first | omega | (dsimp only; omega)))
            exact ⟨rfl, rfl, rfl, rfl, rfl, rfl, trivial⟩
          ·
            refine ov (xmove rfl) rfl rfl rfl ?_
            refine ov (xmove rfl) rfl rfl rfl ?_
            refine ov (xlen Try.underlying31 rfl) rfl rfl rfl ?_
            refine ov (xmove rfl) rfl rfl rfl ?_
            refine ov (xlss rfl rfl _ rfl) rfl rfl rfl ?_
            refine ods (fun c48 => ?_) (fun c48 => ?_)
            ·
              refine ov (xpick_f rfl rfl) rfl rfl rfl ?_
              refine ov (xpick_t rfl rfl) rfl rfl rfl ?_
              refine ops_nil ?_
              refine run_cond_t rfl ?_
              refine run_seq ?_
              refine run_region ?_
              refine ov (xmove rfl) rfl rfl rfl ?_
              refine ov (xmove rfl) rfl rfl rfl ?_
              have h53 := (G22.sl).at (i := k) (by omega)
              refine ov (xindexN (i := k) Try.underlying36 Try.sizeOf31 rfl rfl rfl ((G22.sl).p (i := k) (by omega)) (by have := (G22.sl).len; omega)) rfl rfl rfl ?_
              refine ov (v := .slice ys22[k].h.p ys22[k].h.n ys22[k].h.c) (xloadz Try.isAgg31 rfl (h53) rfl) rfl rfl rfl ?_
              refine ov (xassign rfl) rfl rfl rfl ?_
              refine ops_nil ?_
              refine run_region ?_
              refine ov (xmove rfl) rfl rfl rfl ?_
              refine ov (xlen Try.underlying31 rfl) rfl rfl rfl ?_
              refine ov (xassign rfl) rfl rfl rfl ?_
              refine ops_nil ?_
              refine run_inBlock ?_
              refine run_region ?_
              refine ov (xmove rfl) rfl rfl rfl ?_
              refine ov (xadd rfl rfl (by unfold I64; omega)) rfl rfl rfl ?_
              refine ov (xassign rfl) rfl rfl rfl ?_
              refine ops_nil ?_
              refine run_sub ?_ (hback8 (k + 1, ys22[k].h.p, ys22[k].h.n, ys22[k].h.c, ys22[k].v, (m35 : Int), w5) (⟨E, (I22.i ys22[k] (List.getElem_mem hkl)).wide (by omega) (by omega), I22.wide (by omega) (by omega), G22, by omega, by omega, by rw [best_step hka2 hbb, hka, bestS, if_pos ⟨c40, by simp only; omega⟩, lG35], by omega⟩) (by first | omega | (dsimp only; omega)))
              exact ⟨rfl, rfl, rfl, rfl, rfl, rfl, trivial⟩
            ·
              refine ov (xpick_f rfl rfl) rfl rfl rfl ?_
              refine ov (xpick_t rfl rfl) rfl rfl rfl ?_
              refine ops_nil ?_
              refine run_cond_f rfl ?_
              refine run_skip ?_
              refine run_inBlock ?_
              refine run_region ?_
              refine ov (xmove rfl) rfl rfl rfl ?_
              refine ov (xadd rfl rfl (by unfold I64; omega)) rfl rfl rfl ?_
              refine ov (xassign rfl) rfl rfl rfl ?_
              refine ops_nil ?_
              refine run_sub ?_ (hback8 (k + 1, qb, mb, cb, bb, lb, w5) (⟨E, GB.wide (by omega) (by omega), I22.wide (by omega) (by omega), G22, by omega, by omega, by rw [best_step hka2 hbb, hka, bestS, if_neg (by rintro ⟨h1, h2⟩; simp only at h2; omega)], by omega⟩) (by first | omega | (dsimp only; omega)))
              exact ⟨rfl, rfl, rfl, rfl, rfl, rfl, trivial⟩
        ·
          refine ov (xmove rfl) rfl rfl rfl ?_
          refine og rfl rfl rfl ?_
          refine og rfl rfl rfl ?_
          refine og rfl rfl rfl ?_
          refine og rfl rfl rfl ?_
          refine og rfl rfl rfl ?_
          refine og rfl rfl rfl ?_
          refine og rfl rfl rfl ?_
          refine og rfl rfl rfl ?_
          refine ov (xpick_f rfl rfl) rfl rfl rfl ?_
          refine ops_nil ?_
          refine run_cond_f rfl ?_
          refine run_skip ?_
          refine run_inBlock ?_
          refine run_region ?_
          refine ov (xmove rfl) rfl rfl rfl ?_
          refine ov (xadd rfl rfl (by unfold I64; omega)) rfl rfl rfl ?_
          refine ov (xassign rfl) rfl rfl rfl ?_
          refine ops_nil ?_
          refine run_sub ?_ (hback8 (k + 1, qb, mb, cb, bb, lb, w5) (⟨E, GB.wide (by omega) (by omega), I22.wide (by omega) (by omega), G22, by omega, by omega, by rw [best_step hka2 hbb, hka, bestS, if_neg (by rintro ⟨h1, h2⟩; simp only at h2; omega)], by omega⟩) (by first | omega | (dsimp only; omega)))
          exact ⟨rfl, rfl, rfl, rfl, rfl, rfl, trivial⟩
      ·
        refine ops_nil ?_
        refine run_cond_f rfl ?_
        refine run_exit rfl ?_
        refine run_seq ?_
        refine run_seq ?_
        refine run_region ?_
        refine ov (xmove rfl) rfl rfl rfl ?_
        refine ov (xlss rfl rfl _ rfl) rfl rfl rfl ?_
        refine ods (fun c58 => ?_) (fun c58 => ?_)
        ·
          refine ops_nil ?_
          refine run_cond_t rfl ?_
          refine run_seq ?_
          refine run_region ?_
          refine ov (xassign rfl) rfl rfl rfl ?_
          refine ov (xassign rfl) rfl rfl rfl ?_
          refine ops_nil ?_
          refine run_ret Try.func46 (res2 rfl rfl rfl) ?_
          have hkk : (allA xs).take k = allA xs := List.take_of_length_le (by rw [allA, ← hv22, List.length_map]; omega)
          have hbe := best_all c13 c16
          rw [← hkk, hbb] at hbe
          have hdb := dst_le c13 vd 0
          have hdz : dst xs vd 0 = 1000 := by
            by_cases hd : dst xs vd 0 = 1000
            · exact hd
            · rw [if_neg hd, Prod.mk.injEq] at hbe; omega
          have he : answersFor xs vd = ([], 4) := by rw [answersFor, if_neg (by simp [c13]), if_neg (by simp [c16]), if_pos hdz]
          exact ⟨_, rfl, E, none, 0, 0, by rw [he], by rw [he]; exact Ow.none _ _ _ _ _ _⟩
        ·
          refine ops_nil ?_
          refine run_cond_f rfl ?_
          refine run_skip ?_
          refine run_seq ?_
          refine run_region ?_
          refine ov (xmove rfl) rfl rfl rfl ?_
          refine ov (xassign rfl) rfl rfl rfl ?_
          refine ov (xassign rfl) rfl rfl rfl ?_
          refine ops_nil ?_
          refine run_ret Try.func46 (res2 rfl rfl rfl) ?_
          have hkk : (allA xs).take k = allA xs := List.take_of_length_le (by rw [allA, ← hv22, List.length_map]; omega)
          have hbe := best_all c13 c16
          rw [← hkk, hbb] at hbe
          have hdz : ¬ dst xs vd 0 = 1000 := fun hd => by
            rw [if_pos hd, Prod.mk.injEq] at hbe; omega
          rw [if_neg hdz, Prod.mk.injEq] at hbe
          have he : answersFor xs vd = (bb, 0) := by rw [answersFor, if_neg (by simp [c13]), if_neg (by simp [c16]), if_neg hdz, ← hbe.1]
          exact ⟨_, rfl, E, _, _, _, by rw [he], by rw [he]; exact GB.wide (by omega) (by omega)⟩
    ·
      refine ov (xnot rfl) rfl rfl rfl ?_
      refine ops_nil ?_
      refine run_cond_t rfl ?_
      refine run_seq ?_
      refine run_region ?_
      refine ov (xassign rfl) rfl rfl rfl ?_
      refine ov (xassign rfl) rfl rfl rfl ?_
      refine ops_nil ?_
      refine run_ret Try.func46 (res2 rfl rfl rfl) ?_
      have he : answersFor xs vd = ([], 2) := by rw [answersFor, if_neg (by simp [c13]), if_pos c16]
      exact ⟨_, rfl, E, none, 0, 0, by rw [he], by rw [he]; exact Ow.none _ _ _ _ _ _⟩
  ·
    refine ov (xnot rfl) rfl rfl rfl ?_
    refine ops_nil ?_
    refine run_cond_t rfl ?_
    refine run_seq ?_
    refine run_region ?_
    refine ov (xassign rfl) rfl rfl rfl ?_
    refine ov (xassign rfl) rfl rfl rfl ?_
    refine ops_nil ?_
    refine run_ret Try.func46 (res2 rfl rfl rfl) ?_
    have he : answersFor xs vd = ([], 1) := by rw [answersFor, if_pos c13]
    exact ⟨_, rfl, E, none, 0, 0, by rw [he], by rw [he]; exact Ow.none _ _ _ _ _ _⟩
end Go.Proofs.Ytinpkihmkfiidaa
