/-
  Polls. No condition beyond those written in each theorem.
-/
import Derived.Test.YtchblgaklknkcaaGreatMore
import Derived.Test.YtchblgaklknkcaaGreatTidy
namespace Go.Proofs.YtchblgaklknkcaaGreat
open Go.RowKit
set_option linter.unusedVariables false
set_option linter.unusedSimpArgs false
set_option linter.unusedSectionVars false
set_option maxRecDepth 4000
def getI (v : List Int) (q : Nat) : Int := v[q]?.getD 0
theorem getI_at {v : List Int} {q : Nat} (h : q < v.length) : getI v q = v[q] := by simp [getI, h]
def isPoll (xs : List Question) (nd : Int) (vs : List (List Int)) : Bool := allB vs.length (allI (fun _ v => areAns xs v) vs) && (isForm xs && inR 1 12 vs.length && inR ((vs.length : Int) / 2 + 1) vs.length nd)
theorem isPoll_f {xs : List Question} {nd : Int} {vs : List (List Int)} {k : Nat} (hk : k < vs.length) (h : areAns xs vs[k] = false) : isPoll xs nd vs = false := by
 rw [isPoll, allB_false hk (by rw [allI_of hk]; exact h)]; rfl
theorem isPoll_form {xs : List Question} {nd : Int} {vs : List (List Int)} (h : isPoll xs nd vs = true) : isForm xs = true := by
 simp only [isPoll, Bool.and_eq_true] at h; exact h.2.1.1
theorem isPoll_len {xs : List Question} {nd : Int} {vs : List (List Int)} (h : isPoll xs nd vs = true) : 1 ≤ vs.length ∧ vs.length ≤ 12 := by
 simp only [isPoll, Bool.and_eq_true] at h; have := inR_iff.1 h.2.1.2; omega
theorem isPoll_need {xs : List Question} {nd : Int} {vs : List (List Int)} (h : isPoll xs nd vs = true) : (vs.length : Int) / 2 + 1 ≤ nd ∧ nd ≤ vs.length := by
 simp only [isPoll, Bool.and_eq_true] at h; exact inR_iff.1 h.2.2
theorem isPoll_votes {xs : List Question} {nd : Int} {vs : List (List Int)} (h : isPoll xs nd vs = true) {k : Nat} (hk : k < vs.length) : areAns xs vs[k] = true := by
 simp only [isPoll, Bool.and_eq_true] at h
 have := allB_iff.1 h.1 k hk
 rwa [allI_of hk] at this
theorem isPoll_row {xs : List Question} {nd : Int} {vs : List (List Int)} (h : isPoll xs nd vs = true) : ∀ v ∈ vs, v.length = xs.length := fun v m => by
  obtain ⟨k, hk, rfl⟩ := List.getElem_of_mem m
  exact areAns_len (isPoll_votes h hk)
theorem code_ans {xs : List Question} {az : List Int} (h : isForm xs = true) (h2 : formCode xs az = 0) : areAns xs az = true := (formCode_zero h2).2
theorem code_ans_f {xs : List Question} {az : List Int} (h : isForm xs = true) (h2 : formCode xs az ≠ 0) : areAns xs az = false := by
 rw [Bool.eq_false_iff]; intro h3
 exact h2 (by rw [formCode, if_neg (by simp [h]), if_neg (by simp [h3])])
def cntV (vs : List (List Int)) (q : Nat) (a : Int) : Int := ((vs.filter fun v => decide (getI v q = a)).length : Int)
theorem cntV_step {vs : List (List Int)} {q : Nat} {a : Int} {k : Nat} (hk : k < vs.length) (hq : q < vs[k].length) : cntV (vs.take (k + 1)) q a = if vs[k][q] = a then cntV (vs.take k) q a + 1 else cntV (vs.take k) q a := by
 rw [List.take_succ_eq_append_getElem hk, cntV, List.filter_append, List.length_append, cntV]
 by_cases h : vs[k][q] = a
 · simp [getI_at hq, h]
 · simp [getI_at hq, h]
def ansAt (nd : Int) (vs : List (List Int)) (q : Nat) : Int := if nd ≤ cntV vs q 1 then 1 else if nd ≤ cntV vs q 0 then 0 else -1
def ansOf (xs : List Question) (nd : Int) (vs : List (List Int)) : List Int := (List.range xs.length).map (ansAt nd vs)
theorem ansOf_length (xs : List Question) (nd : Int) (vs : List (List Int)) : (ansOf xs nd vs).length = xs.length := by simp [ansOf]
theorem ansOf_at {xs : List Question} {nd : Int} {vs : List (List Int)} {q : Nat} (h : q < (ansOf xs nd vs).length) : (ansOf xs nd vs)[q] = ansAt nd vs q := by simp [ansOf]
theorem ansOf_push {nd : Int} {vs : List (List Int)} {k : Nat} {ys : List Int} (h : ys = (List.range k).map (ansAt nd vs)) {y : Int} (hy : y = ansAt nd vs k) : ys ++ [y] = (List.range (k + 1)).map (ansAt nd vs) := by
 rw [h, hy, List.range_succ]; simp
theorem areAns_ans (xs : List Question) (nd : Int) (vs : List (List Int)) : areAns xs (ansOf xs nd vs) = true := by
 simp only [areAns, Bool.and_eq_true, decide_eq_true_eq]
 refine ⟨allB_iff.2 fun i hi => ?_, ansOf_length _ _ _⟩
 rw [allI_of hi, ansOf_at, ansAt]
 split
 · rfl
 · split <;> rfl
theorem formCode_ans {xs : List Question} (h : isForm xs = true) (nd : Int) (vs : List (List Int)) : formCode xs (ansOf xs nd vs) = 0 := by
 rw [formCode, if_neg (by simp [h]), if_neg (by simp [areAns_ans])]
def answersOf (xs : List Question) (nd : Int) (vs : List (List Int)) : List Int × Int := if isPoll xs nd vs = false then ([], 1) else (ansOf xs nd vs, 0)
def pollVerdict (xs : List Question) (nd : Int) (vs : List (List Int)) : Int × Int := if isPoll xs nd vs = false then (0, 1) else verdictOf xs (ansOf xs nd vs)
theorem verdictOf_ans {xs : List Question} (h : isForm xs = true) (nd : Int) (vs : List (List Int)) : verdictOf xs (ansOf xs nd vs) = if (wayF xs (ansOf xs nd vs)).2 = 0 then (0, 5) else ((wayF xs (ansOf xs nd vs)).2, 0) := by
 rw [verdictOf, if_neg (by simp [formCode_ans h])]
set_option maxHeartbeats 400000 in
theorem isSeats_ok (n : Int) (w : World) : Ret Tryz.prog 42 [.int .i64 n] w (Ps w (.bool (inR 1 12 n))) := by
 refine ret_of_run (N := 5) Tryz.func42 rfl rfl rfl ?_
 have E : Ext w w := Ext.refl w
 refine sr_ ?_
 refine vn_ rfl rfl rfl ?_
 refine sr_ ?_
 refine vm_ rfl rfl rfl ?_
 refine oc (xcall Tryz.call65 rfl) rfl rfl rfl (within_ok (n) (1) (12) _) ?_
 rintro _ w_ ⟨rfl, hw_⟩
 replace hw_ := hw_.symm
 subst hw_
 refine vn_ rfl rfl rfl ?_
 refine run_ret Tryz.func42 (res1 rfl rfl) ?_
 exact ⟨_, rfl, rfl, rfl⟩
set_option maxHeartbeats 400000 in
theorem at_ok (i n : Int) (w : World) : Ret Tryz.prog 130 [.int .i64 i, .int .i64 n] w (Ps w (.bool (decide (0 ≤ i) && decide (i < n)))) := by
 refine ret_of_run (N := 12) Tryz.func130 rfl rfl rfl ?_
 have E : Ext w w := Ext.refl w
 refine sr_ ?_
 refine vn_ rfl rfl rfl ?_
 refine sr_ ?_
 refine vm_ rfl rfl rfl ?_
 refine oz_ (xgeq rfl rfl _ rfl) rfl rfl ?_
 refine ods (fun c6 => ?_) (fun c6 => ?_)
 ·
  refine vm_ rfl rfl rfl ?_
  refine vm_ rfl rfl rfl ?_
  refine vm_ rfl rfl rfl ?_
  refine oz_ (xlss rfl rfl _ rfl) rfl rfl ?_
  refine oz_ (xpick_t rfl rfl) rfl rfl ?_
  refine vn_ rfl rfl rfl ?_
  refine run_ret Tryz.func130 (res1 rfl rfl) ?_
  exact ⟨_, rfl, congrArg Value.bool (by rw [Bool.eq_iff_iff, Bool.and_eq_true, decide_eq_true_eq, decide_eq_true_eq]; simp; omega), rfl⟩
 refine vm_ rfl rfl rfl ?_
 refine o2_ rfl rfl rfl rfl ?_
 refine og rfl rfl rfl ?_
 refine oz_ (xpick_f rfl rfl) rfl rfl ?_
 refine vn_ rfl rfl rfl ?_
 refine run_ret Tryz.func130 (res1 rfl rfl) ?_
 exact ⟨_, rfl, congrArg Value.bool (by rw [Bool.eq_iff_iff, Bool.and_eq_true, decide_eq_true_eq, decide_eq_true_eq]; simp; omega), rfl⟩
set_option maxHeartbeats 1000000 in
theorem IsPoll_ok (p : Option Addr) (n c : Nat) (xs : List Question) (nd : Int) (vs : List (List Int)) (p3 : Option Addr) (n3 c3 : Nat) (w : World) (H : Sl Question.cells 3 w p n c xs) (hx : ∀ x ∈ xs, x.Label.size ≤ 9223372036854775807) (Hv0 : SnInt64SS w p3 n3 c3 vs) : Ret Tryz.prog 26 [.slice p n c, .agg #[.int .i64 nd, .slice p3 n3 c3]] w (Pv w (.bool (isPoll xs nd vs))) := by
 refine ret_of_run (N := 38) Tryz.func26 rfl rfl rfl ?_
 have hn := H.len
 have hn6 := H.n64
 obtain ⟨hd, Hv⟩ := Hv0
 have hn3 := Hv.len
 have hv6 := Hv.n64
 have E : Ext w w := Ext.refl w
 refine sr_ ?_
 refine obox rfl rfl rfl ?_
 intro b1 w1 e1 hb1 hz1 O1
 have E := E.trans e1
 replace O1 : Own w1 b1 [.int .i64 nd, .slice p3 n3 c3] 38 := O1
 refine vn_ rfl rfl rfl ?_
 refine run_seq ?_
 refine sr_ ?_
 refine oz_ (xfieldAddr fo38f1 rfl) rfl rfl ?_
 refine oz_ (v := .slice p3 n3 c3) (xload1 Tryz.isAgg36 rfl (O1.cells) rfl) rfl rfl ?_
 refine oz_ (xlen Tryz.underlying36 rfl) rfl rfl ?_
 refine vm_ rfl rfl rfl ?_
 refine ops_nil ?_
 refine run_block ?_
 refine run_loop (ι := Nat × World) (fun x_ => match x_ with | (k, wr) => (Ext w wr) ∧ (Own wr b1 ([.int .i64 nd, .slice p3 n3 c3]) 38) ∧ (w1.heap.size ≤ wr.heap.size) ∧ (k ≤ n3) ∧ (allB k (allI (fun _ v => areAns xs v) vs) = true)) (fun x_ => match x_ with | (k, wr) => [(0, .slice p n c), (3, .pointer (some ⟨b1, 0, none⟩)), (9, .slice p3 n3 c3), (10, .int .i64 (n3 : Int)), (11, .int .i64 (k : Int))]) (fun x_ => match x_ with | (k, wr) => wr) (fun x_ => match x_ with | (k, wr) => n3 - k) ?_ (0, w1) (⟨E, O1, Nat.le_refl _, by omega, allB_zero⟩) ⟨rfl, rfl, rfl, rfl, rfl, trivial⟩ rfl
 intro i_ hI_ hback2
 obtain ⟨k, wr⟩ := i_
 obtain ⟨E, O_b1, lz_wr, hk, ha⟩ := hI_
 try dsimp only
 have zr := E.size
 have lt_b1 := O_b1.lt
 refine sr_ ?_
 refine oz_ (xlss rfl rfl _ rfl) rfl rfl ?_
 refine ods (fun c12 => ?_) (fun c12 => ?_)
 ·
  refine ops_nil ?_
  refine run_seq ?_
  refine run_cond_t rfl ?_
  refine run_skip ?_
  refine run_seq ?_
  refine run_block ?_
  refine sr_ ?_
  have h13 := (Hv.ext E).at (i := k) (by omega)
  refine oz_ (xindexN (i := k) Tryz.underlying36 Tryz.sizeOf24 rfl rfl rfl ((Hv.ext E).p (i := k) (by omega)) (by have := (Hv.ext E).len; omega)) rfl rfl ?_
  refine oz_ (v := .slice (hd k).p (hd k).n (hd k).c) (xloadz Tryz.isAgg24 rfl (h13) rfl) rfl rfl ?_
  refine vn_ rfl rfl rfl ?_
  refine sr_ ?_
  refine vm_ rfl rfl rfl ?_
  refine vm_ rfl rfl rfl ?_
  refine oc (xcall Tryz.call64 rfl) rfl rfl rfl (areAnswers_ok _ _ _ _ _ _ _ vs[k] _ (H.ext E) (by assumption) ((show Sl i64c 1 _ _ _ _ vs[k] from (Hv.inner (i := k) (by omega)).ext E))) ?_
  rintro _ w2 ⟨rfl, e2⟩
  have z2 := e2.size
  have E := E.trans e2
  replace O_b1 := O_b1.ext e2
  refine obs (fun c17 => ?_) (fun c17 => ?_)
  ·
   refine oz_ (xnot rfl) rfl rfl ?_
   refine cf_ rfl ?_
   refine run_inBlock ?_
   refine run_region ?_
   refine oz_ (xadd rfl rfl (by unfold I64; omega)) rfl rfl ?_
   refine vm_ rfl rfl rfl ?_
   refine ops_nil ?_
   refine run_sub ?_ (hback2 (k + 1, w2) (⟨E, O_b1, by omega, by omega, allB_succ ha (by rw [allI_of (by omega)]; exact c17)⟩) (by first | omega | (dsimp only; omega)))
   exact ⟨rfl, rfl, rfl, rfl, rfl, trivial⟩
  refine oz_ (xnot rfl) rfl rfl ?_
  refine ct_ rfl ?_
  refine sr_ ?_
  refine vn_ rfl rfl rfl ?_
  refine run_ret Tryz.func26 (res1 rfl rfl) ?_
  exact ⟨_, rfl, by rw [isPoll_f (k := k) (by omega) c17], E⟩
 refine ops_nil ?_
 refine run_seq ?_
 refine run_cond_f rfl ?_
 refine run_exit rfl ?_
 refine sr_ ?_
 refine oz_ (xfieldAddr fo38f1 rfl) rfl rfl ?_
 refine oz_ (v := .slice p3 n3 c3) (xload1 Tryz.isAgg36 rfl (O_b1.cells) rfl) rfl rfl ?_
 refine oz_ (xlen Tryz.underlying36 rfl) rfl rfl ?_
 refine vn_ rfl rfl rfl ?_
 refine sr_ ?_
 refine vm_ rfl rfl rfl ?_
 refine oc (xcall Tryz.call34 rfl) rfl rfl rfl (IsForm_ok _ _ _ _ _ (H.ext E) (by assumption)) ?_
 rintro _ w2 ⟨rfl, e2⟩
 have z2 := e2.size
 have E := E.trans e2
 replace O_b1 := O_b1.ext e2
 refine obs (fun c24 => ?_) (fun c24 => ?_)
 rotate_left
 ·
  refine vm_ rfl rfl rfl ?_
  refine o2_ rfl rfl rfl rfl ?_
  refine oz_ (xpick_f rfl rfl) rfl rfl ?_
  refine vm_ rfl rfl rfl ?_
  refine o2_ rfl rfl rfl rfl ?_
  refine o2_ rfl rfl rfl rfl ?_
  refine o2_ rfl rfl rfl rfl ?_
  refine og rfl rfl rfl ?_
  refine oz_ (xpick_f rfl rfl) rfl rfl ?_
  refine vn_ rfl rfl rfl ?_
  refine run_ret Tryz.func26 (res1 rfl rfl) ?_
  obtain rfl : k = n3 := by omega
  subst hn3
  exact ⟨_, rfl, by simp [isPoll, *], E⟩
 refine vm_ rfl rfl rfl ?_
 refine vm_ rfl rfl rfl ?_
 refine oc (xcall Tryz.call42 rfl) rfl rfl rfl (isSeats_ok ((n3 : Int)) _) ?_
 rintro _ w_ ⟨rfl, hw_⟩
 replace hw_ := hw_.symm
 subst hw_
 refine obs (fun c27 => ?_) (fun c27 => ?_)
 ·
  refine oz_ (xpick_t rfl rfl) rfl rfl ?_
  refine vm_ rfl rfl rfl ?_
  refine oz_ (xfieldAddr fo38f0 rfl) rfl rfl ?_
  refine oz_ (v := .int .i64 nd) (xload1 Tryz.isAgg2 rfl (O_b1.cells) rfl) rfl rfl ?_
  refine vm_ rfl rfl rfl ?_
  refine oz_ (v := .int .i64 ((n3 : Int) / 2)) (xquo rfl rfl (by omega) (by omega) (by unfold I64; omega)) rfl rfl ?_
  refine oz_ (xadd rfl rfl (by unfold I64; omega)) rfl rfl ?_
  refine vm_ rfl rfl rfl ?_
  refine oc (xcall Tryz.call65 rfl) rfl rfl rfl (within_ok (nd) ((((n3 : Int) / 2) + 1)) ((n3 : Int)) _) ?_
  rintro _ w_ ⟨rfl, hw_⟩
  replace hw_ := hw_.symm
  subst hw_
  refine oz_ (xpick_t rfl rfl) rfl rfl ?_
  refine vn_ rfl rfl rfl ?_
  refine run_ret Tryz.func26 (res1 rfl rfl) ?_
  obtain rfl : k = n3 := by omega
  subst hn3
  exact ⟨_, rfl, by simp [isPoll, *], E⟩
 refine oz_ (xpick_t rfl rfl) rfl rfl ?_
 refine vm_ rfl rfl rfl ?_
 refine o2_ rfl rfl rfl rfl ?_
 refine o2_ rfl rfl rfl rfl ?_
 refine o2_ rfl rfl rfl rfl ?_
 refine og rfl rfl rfl ?_
 refine oz_ (xpick_f rfl rfl) rfl rfl ?_
 refine vn_ rfl rfl rfl ?_
 refine run_ret Tryz.func26 (res1 rfl rfl) ?_
 obtain rfl : k = n3 := by omega
 subst hn3
 exact ⟨_, rfl, by simp [isPoll, *], E⟩
set_option maxHeartbeats 1000000 in
theorem sIsPoll_ok (p : Option Addr) (n c : Nat) (xs : List Question) (nd : Int) (vs : List (List Int)) (p3 : Option Addr) (n3 c3 : Nat) (w : World) (H : Sl Question.cells 3 w p n c xs) (hx : ∀ x ∈ xs, x.Label.size ≤ 9223372036854775807) (Hv0 : SnInt64SS w p3 n3 c3 vs) : Ret Tryz.prog 28 [.slice p n c, .agg #[.int .i64 nd, .slice p3 n3 c3]] w (Pv w (.bool (isPoll xs nd vs))) := by
 refine ret_of_run (N := 43) Tryz.func28 rfl rfl rfl ?_
 have hn := H.len
 have hn6 := H.n64
 obtain ⟨hd, Hv⟩ := Hv0
 have hn3 := Hv.len
 have hv6 := Hv.n64
 have E : Ext w w := Ext.refl w
 refine sr_ ?_
 refine obox rfl rfl rfl ?_
 intro b1 w1 e1 hb1 hz1 O1
 have E := E.trans e1
 replace O1 : Own w1 b1 [.int .i64 nd, .slice p3 n3 c3] 38 := O1
 refine vn_ rfl rfl rfl ?_
 refine sr_ ?_
 refine oz_ (xfieldAddr fo38f1 rfl) rfl rfl ?_
 refine oz_ (v := .slice p3 n3 c3) (xload1 Tryz.isAgg36 rfl (O1.cells) rfl) rfl rfl ?_
 refine oz_ (xlen Tryz.underlying36 rfl) rfl rfl ?_
 refine vn_ rfl rfl rfl ?_
 refine run_seq ?_
 refine sr_ ?_
 refine vm_ rfl rfl rfl ?_
 refine oc (xcall Tryz.call67 rfl) rfl rfl rfl (sIsForm_ok _ _ _ _ _ (H.ext E) (by assumption)) ?_
 rintro _ w2 ⟨rfl, e2⟩
 have z2 := e2.size
 have E := E.trans e2
 replace O1 := O1.ext e2
 refine obs (fun c11 => ?_) (fun c11 => ?_)
 rotate_left
 ·
  refine oz_ (xnot rfl) rfl rfl ?_
  refine vm_ rfl rfl rfl ?_
  refine o2_ rfl rfl rfl rfl ?_
  refine og rfl rfl rfl ?_
  refine oz_ (xpick_t rfl rfl) rfl rfl ?_
  refine vm_ rfl rfl rfl ?_
  refine o2_ rfl rfl rfl rfl ?_
  refine o2_ rfl rfl rfl rfl ?_
  refine o2_ rfl rfl rfl rfl ?_
  refine o2_ rfl rfl rfl rfl ?_
  refine oz_ (xpick_t rfl rfl) rfl rfl ?_
  refine ct_ rfl ?_
  refine sr_ ?_
  refine vn_ rfl rfl rfl ?_
  refine run_ret Tryz.func28 (res1 rfl rfl) ?_
  subst hn3
  exact ⟨_, rfl, by simp [isPoll, *], E⟩
 refine oz_ (xnot rfl) rfl rfl ?_
 refine vm_ rfl rfl rfl ?_
 refine vm_ rfl rfl rfl ?_
 refine oc (xcall Tryz.call68 rfl) rfl rfl rfl (l01In_ok ((n3 : Int)) (1) (12) _) ?_
 rintro _ w_ ⟨rfl, hw_⟩
 replace hw_ := hw_.symm
 subst hw_
 refine obs (fun c15 => ?_) (fun c15 => ?_)
 rotate_left
 ·
  refine oz_ (xnot rfl) rfl rfl ?_
  refine oz_ (xpick_f rfl rfl) rfl rfl ?_
  refine vm_ rfl rfl rfl ?_
  refine o2_ rfl rfl rfl rfl ?_
  refine o2_ rfl rfl rfl rfl ?_
  refine o2_ rfl rfl rfl rfl ?_
  refine o2_ rfl rfl rfl rfl ?_
  refine oz_ (xpick_t rfl rfl) rfl rfl ?_
  refine ct_ rfl ?_
  refine sr_ ?_
  refine vn_ rfl rfl rfl ?_
  refine run_ret Tryz.func28 (res1 rfl rfl) ?_
  subst hn3
  exact ⟨_, rfl, by simp [isPoll, *], E⟩
 refine oz_ (xnot rfl) rfl rfl ?_
 refine oz_ (xpick_f rfl rfl) rfl rfl ?_
 refine vm_ rfl rfl rfl ?_
 refine oz_ (xfieldAddr fo38f0 rfl) rfl rfl ?_
 refine oz_ (v := .int .i64 nd) (xload1 Tryz.isAgg2 rfl (O1.cells) rfl) rfl rfl ?_
 refine vm_ rfl rfl rfl ?_
 refine oz_ (v := .int .i64 ((n3 : Int) / 2)) (xquo rfl rfl (by omega) (by omega) (by unfold I64; omega)) rfl rfl ?_
 refine oz_ (xadd rfl rfl (by unfold I64; omega)) rfl rfl ?_
 refine vm_ rfl rfl rfl ?_
 refine oc (xcall Tryz.call68 rfl) rfl rfl rfl (l01In_ok (nd) ((((n3 : Int) / 2) + 1)) ((n3 : Int)) _) ?_
 rintro _ w_ ⟨rfl, hw_⟩
 replace hw_ := hw_.symm
 subst hw_
 refine obs (fun c25 => ?_) (fun c25 => ?_)
 rotate_left
 ·
  refine oz_ (xnot rfl) rfl rfl ?_
  refine oz_ (xpick_f rfl rfl) rfl rfl ?_
  refine ct_ rfl ?_
  refine sr_ ?_
  refine vn_ rfl rfl rfl ?_
  refine run_ret Tryz.func28 (res1 rfl rfl) ?_
  subst hn3
  exact ⟨_, rfl, by simp [isPoll, *], E⟩
 refine oz_ (xnot rfl) rfl rfl ?_
 refine oz_ (xpick_f rfl rfl) rfl rfl ?_
 refine cf_ rfl ?_
 refine run_seq ?_
 refine sr_ ?_
 refine vn_ rfl rfl rfl ?_
 refine run_block ?_
 refine run_loop (ι := Nat × World) (fun x_ => match x_ with | (k, wr) => (Ext w wr) ∧ (Own wr b1 ([.int .i64 nd, .slice p3 n3 c3]) 38) ∧ (w2.heap.size ≤ wr.heap.size) ∧ (k ≤ n3) ∧ (allB k (allI (fun _ v => areAns xs v) vs) = true)) (fun x_ => match x_ with | (k, wr) => [(0, .slice p n c), (3, .pointer (some ⟨b1, 0, none⟩)), (6, .int .i64 (k : Int))]) (fun x_ => match x_ with | (k, wr) => wr) (fun x_ => match x_ with | (k, wr) => n3 - k) ?_ (0, w2) (⟨E, O1, Nat.le_refl _, by omega, allB_zero⟩) ⟨rfl, rfl, rfl, trivial⟩ rfl
 intro i_ hI_ hback5
 obtain ⟨k, wr⟩ := i_
 obtain ⟨E, O_b1, lz_wr, hk, ha⟩ := hI_
 try dsimp only
 have zr := E.size
 have lt_b1 := O_b1.lt
 refine run_seq ?_
 refine sr_ ?_
 refine vm_ rfl rfl rfl ?_
 refine oz_ (xfieldAddr fo38f1 rfl) rfl rfl ?_
 refine oz_ (v := .slice p3 n3 c3) (xload1 Tryz.isAgg36 rfl (O_b1.cells) rfl) rfl rfl ?_
 refine oz_ (xlen Tryz.underlying36 rfl) rfl rfl ?_
 refine oz_ (xlss rfl rfl _ rfl) rfl rfl ?_
 refine ods (fun c32 => ?_) (fun c32 => ?_)
 rotate_left
 ·
  refine cg_ rfl ?_
  refine run_exit rfl ?_
  refine sr_ ?_
  refine vn_ rfl rfl rfl ?_
  refine run_ret Tryz.func28 (res1 rfl rfl) ?_
  obtain rfl : k = n3 := by omega
  subst hn3
  exact ⟨_, rfl, by simp [isPoll, *], E⟩
 refine ct_ rfl ?_
 refine run_skip ?_
 refine run_seq ?_
 refine run_block ?_
 refine sr_ ?_
 refine vm_ rfl rfl rfl ?_
 refine oz_ (xfieldAddr fo38f1 rfl) rfl rfl ?_
 refine oz_ (v := .slice p3 n3 c3) (xload1 Tryz.isAgg36 rfl (O_b1.cells) rfl) rfl rfl ?_
 refine vm_ rfl rfl rfl ?_
 have h39 := (Hv.ext E).at (i := k) (by omega)
 refine oz_ (xindexN (i := k) Tryz.underlying36 Tryz.sizeOf24 rfl rfl rfl ((Hv.ext E).p (i := k) (by omega)) (by have := (Hv.ext E).len; omega)) rfl rfl ?_
 refine oz_ (v := .slice (hd k).p (hd k).n (hd k).c) (xloadz Tryz.isAgg24 rfl (h39) rfl) rfl rfl ?_
 refine oc (xcall Tryz.call69 rfl) rfl rfl rfl (l26Code_ok _ _ _ _ _ _ _ vs[k] _ (H.ext E) (by assumption) ((show Sl i64c 1 _ _ _ _ vs[k] from (Hv.inner (i := k) (by omega)).ext E))) ?_
 rintro _ w3 ⟨rfl, e3⟩
 have z3 := e3.size
 have E := E.trans e3
 replace O_b1 := O_b1.ext e3
 refine oz_ (xneq rfl rfl _ rfl) rfl rfl ?_
 refine ods (fun c42 => ?_) (fun c42 => ?_)
 ·
  refine ct_ rfl ?_
  refine sr_ ?_
  refine vn_ rfl rfl rfl ?_
  refine run_ret Tryz.func28 (res1 rfl rfl) ?_
  exact ⟨_, rfl, by rw [isPoll_f (k := k) (by omega) (code_ans_f c11 (by omega))], E⟩
 refine cf_ rfl ?_
 refine run_inBlock ?_
 refine run_region ?_
 refine vm_ rfl rfl rfl ?_
 refine oz_ (xadd rfl rfl (by unfold I64; omega)) rfl rfl ?_
 refine vn_ rfl rfl rfl ?_
 refine run_sub ?_ (hback5 (k + 1, w3) (⟨E, O_b1, by omega, by omega, allB_succ ha (by rw [allI_of (by omega)]; exact code_ans c11 (by omega))⟩) (by first | omega | (dsimp only; omega)))
 exact ⟨rfl, rfl, rfl, trivial⟩
set_option maxHeartbeats 400000 in
theorem tally_ok (nd : Int) (vs : List (List Int)) (p3 : Option Addr) (n3 c3 : Nat) (q : Nat) (qi : Int) (a : Int) (w : World) (Hv0 : SnInt64SS w p3 n3 c3 vs) (hq : ∀ v ∈ vs, q < v.length) (hqi : qi = (q : Int)) : Ret Tryz.prog 66 [.agg #[.int .i64 nd, .slice p3 n3 c3], .int .i64 qi, .int .i64 a] w (Pv w (.int .i64 (cntV vs q a))) := by
 refine ret_of_run (N := 27) Tryz.func66 rfl rfl rfl ?_
 obtain ⟨hd, Hv⟩ := Hv0
 have hn3 := Hv.len
 have hv6 := Hv.n64
 have E : Ext w w := Ext.refl w
 refine sr_ ?_
 refine obox rfl rfl rfl ?_
 intro b1 w1 e1 hb1 hz1 O1
 have E := E.trans e1
 replace O1 : Own w1 b1 [.int .i64 nd, .slice p3 n3 c3] 38 := O1
 refine vn_ rfl rfl rfl ?_
 refine sr_ ?_
 refine vn_ rfl rfl rfl ?_
 refine run_seq ?_
 refine sr_ ?_
 refine oz_ (xfieldAddr fo38f1 rfl) rfl rfl ?_
 refine oz_ (v := .slice p3 n3 c3) (xload1 Tryz.isAgg36 rfl (O1.cells) rfl) rfl rfl ?_
 refine oz_ (xlen Tryz.underlying36 rfl) rfl rfl ?_
 refine vm_ rfl rfl rfl ?_
 refine ops_nil ?_
 refine run_block ?_
 refine run_loop (ι := Nat × Int × World) (fun x_ => match x_ with | (k, cc, wr) => (Ext w wr) ∧ (Own wr b1 ([.int .i64 nd, .slice p3 n3 c3]) 38) ∧ (w1.heap.size ≤ wr.heap.size) ∧ (k ≤ n3) ∧ (cc = cntV (vs.take k) q a) ∧ (0 ≤ cc) ∧ (cc ≤ k)) (fun x_ => match x_ with | (k, cc, wr) => [(1, .int .i64 qi), (2, .int .i64 a), (7, .int .i64 cc), (11, .slice p3 n3 c3), (12, .int .i64 (n3 : Int)), (13, .int .i64 (k : Int))]) (fun x_ => match x_ with | (k, cc, wr) => wr) (fun x_ => match x_ with | (k, cc, wr) => n3 - k) ?_ (0, 0, w1) (⟨E, O1, Nat.le_refl _, by omega, rfl, by omega, by omega⟩) ⟨rfl, rfl, rfl, rfl, rfl, rfl, trivial⟩ rfl
 intro i_ hI_ hback3
 obtain ⟨k, cc, wr⟩ := i_
 obtain ⟨E, O_b1, lz_wr, hk, hc, hc0, hc1⟩ := hI_
 try dsimp only
 have zr := E.size
 have lt_b1 := O_b1.lt
 have hqk := fun h : k < vs.length => hq vs[k] (List.getElem_mem h)
 refine sr_ ?_
 refine oz_ (xlss rfl rfl _ rfl) rfl rfl ?_
 refine ods (fun c14 => ?_) (fun c14 => ?_)
 rotate_left
 ·
  refine ops_nil ?_
  refine run_seq ?_
  refine run_cond_f rfl ?_
  refine run_exit rfl ?_
  refine sr_ ?_
  refine vm_ rfl rfl rfl ?_
  refine vn_ rfl rfl rfl ?_
  refine run_ret Tryz.func66 (res1 rfl rfl) ?_
  obtain rfl : k = n3 := by omega
  exact ⟨_, rfl, by rw [hc, hn3, List.take_length], E⟩
 replace hqk := hqk (by omega)
 refine ops_nil ?_
 refine run_seq ?_
 refine run_cond_t rfl ?_
 refine run_skip ?_
 refine run_seq ?_
 refine run_block ?_
 refine sr_ ?_
 have h15 := (Hv.ext E).at (i := k) (by omega)
 refine oz_ (xindexN (i := k) Tryz.underlying36 Tryz.sizeOf24 rfl rfl rfl ((Hv.ext E).p (i := k) (by omega)) (by have := (Hv.ext E).len; omega)) rfl rfl ?_
 refine oz_ (v := .slice (hd k).p (hd k).n (hd k).c) (xloadz Tryz.isAgg24 rfl (h15) rfl) rfl rfl ?_
 refine vn_ rfl rfl rfl ?_
 refine sr_ ?_
 refine vm_ rfl rfl rfl ?_
 refine vm_ rfl rfl rfl ?_
 have h19 := ((show Sl i64c 1 _ _ _ _ vs[k] from (Hv.inner (i := k) (by omega)).ext E)).at (i := q) (by omega)
 refine oz_ (xindexN (i := q) Tryz.underlying24 Tryz.sizeOf2 rfl rfl (by omega) (((show Sl i64c 1 _ _ _ _ vs[k] from (Hv.inner (i := k) (by omega)).ext E)).p (i := q) (by omega)) (by have := ((show Sl i64c 1 _ _ _ _ vs[k] from (Hv.inner (i := k) (by omega)).ext E)).len; omega)) rfl rfl ?_
 refine oz_ (v := .int .i64 vs[k][q]) (xloadz Tryz.isAgg2 rfl (h19) rfl) rfl rfl ?_
 refine vm_ rfl rfl rfl ?_
 refine oz_ (xeql rfl rfl _ rfl) rfl rfl ?_
 refine ods (fun c22 => ?_) (fun c22 => ?_)
 rotate_left
 ·
  refine cf_ rfl ?_
  refine run_inBlock ?_
  refine run_region ?_
  refine oz_ (xadd rfl rfl (by unfold I64; omega)) rfl rfl ?_
  refine vm_ rfl rfl rfl ?_
  refine ops_nil ?_
  refine run_sub ?_ (hback3 (k + 1, cc, wr) (⟨E, O_b1, by omega, by omega, by rw [hc, cntV_step (by omega) hqk, if_neg c22], by omega, by omega⟩) (by first | omega | (dsimp only; omega)))
  exact ⟨rfl, rfl, rfl, rfl, rfl, rfl, trivial⟩
 refine ct_ rfl ?_
 refine run_region ?_
 refine vm_ rfl rfl rfl ?_
 refine oz_ (xadd rfl rfl (by unfold I64; omega)) rfl rfl ?_
 refine vn_ rfl rfl rfl ?_
 refine run_inBlock ?_
 refine run_region ?_
 refine oz_ (xadd rfl rfl (by unfold I64; omega)) rfl rfl ?_
 refine vm_ rfl rfl rfl ?_
 refine ops_nil ?_
 refine run_sub ?_ (hback3 (k + 1, (cc + 1), wr) (⟨E, O_b1, by omega, by omega, by rw [hc, cntV_step (by omega) hqk, if_pos c22], by omega, by omega⟩) (by first | omega | (dsimp only; omega)))
 exact ⟨rfl, rfl, rfl, rfl, rfl, rfl, trivial⟩
set_option maxHeartbeats 400000 in
theorem l27Count_ok (nd : Int) (vs : List (List Int)) (p3 : Option Addr) (n3 c3 : Nat) (q : Nat) (qi : Int) (a : Int) (w : World) (Hv0 : SnInt64SS w p3 n3 c3 vs) (hq : ∀ v ∈ vs, q < v.length) (hqi : qi = (q : Int)) : Ret Tryz.prog 71 [.agg #[.int .i64 nd, .slice p3 n3 c3], .int .i64 qi, .int .i64 a] w (Pv w (.int .i64 (cntV vs q a))) := by
 refine ret_of_run (N := 29) Tryz.func71 rfl rfl rfl ?_
 obtain ⟨hd, Hv⟩ := Hv0
 have hn3 := Hv.len
 have hv6 := Hv.n64
 have E : Ext w w := Ext.refl w
 refine sr_ ?_
 refine obox rfl rfl rfl ?_
 intro b1 w1 e1 hb1 hz1 O1
 have E := E.trans e1
 replace O1 : Own w1 b1 [.int .i64 nd, .slice p3 n3 c3] 38 := O1
 refine vn_ rfl rfl rfl ?_
 refine sr_ ?_
 refine vn_ rfl rfl rfl ?_
 refine run_seq ?_
 refine sr_ ?_
 refine vn_ rfl rfl rfl ?_
 refine run_block ?_
 refine run_loop (ι := Nat × Int × World) (fun x_ => match x_ with | (k, cc, wr) => (Ext w wr) ∧ (Own wr b1 ([.int .i64 nd, .slice p3 n3 c3]) 38) ∧ (w1.heap.size ≤ wr.heap.size) ∧ (k ≤ n3) ∧ (cc = cntV (vs.take k) q a) ∧ (0 ≤ cc) ∧ (cc ≤ k)) (fun x_ => match x_ with | (k, cc, wr) => [(1, .int .i64 qi), (2, .int .i64 a), (3, .pointer (some ⟨b1, 0, none⟩)), (7, .int .i64 cc), (8, .int .i64 (k : Int))]) (fun x_ => match x_ with | (k, cc, wr) => wr) (fun x_ => match x_ with | (k, cc, wr) => n3 - k) ?_ (0, 0, w1) (⟨E, O1, Nat.le_refl _, by omega, rfl, by omega, by omega⟩) ⟨rfl, rfl, rfl, rfl, rfl, trivial⟩ rfl
 intro i_ hI_ hback3
 obtain ⟨k, cc, wr⟩ := i_
 obtain ⟨E, O_b1, lz_wr, hk, hc, hc0, hc1⟩ := hI_
 try dsimp only
 have zr := E.size
 have lt_b1 := O_b1.lt
 have hqk := fun h : k < vs.length => hq vs[k] (List.getElem_mem h)
 refine run_seq ?_
 refine sr_ ?_
 refine vm_ rfl rfl rfl ?_
 refine oz_ (xfieldAddr fo38f1 rfl) rfl rfl ?_
 refine oz_ (v := .slice p3 n3 c3) (xload1 Tryz.isAgg36 rfl (O_b1.cells) rfl) rfl rfl ?_
 refine oz_ (xlen Tryz.underlying36 rfl) rfl rfl ?_
 refine oz_ (xlss rfl rfl _ rfl) rfl rfl ?_
 refine ods (fun c13 => ?_) (fun c13 => ?_)
 rotate_left
 ·
  refine cg_ rfl ?_
  refine run_exit rfl ?_
  refine sr_ ?_
  refine vm_ rfl rfl rfl ?_
  refine vn_ rfl rfl rfl ?_
  refine run_ret Tryz.func71 (res1 rfl rfl) ?_
  obtain rfl : k = n3 := by omega
  exact ⟨_, rfl, by rw [hc, hn3, List.take_length], E⟩
 replace hqk := hqk (by omega)
 refine ct_ rfl ?_
 refine run_skip ?_
 refine run_seq ?_
 refine run_block ?_
 refine sr_ ?_
 refine oz_ (xfieldAddr fo38f1 rfl) rfl rfl ?_
 refine oz_ (v := .slice p3 n3 c3) (xload1 Tryz.isAgg36 rfl (O_b1.cells) rfl) rfl rfl ?_
 refine vm_ rfl rfl rfl ?_
 have h19 := (Hv.ext E).at (i := k) (by omega)
 refine oz_ (xindexN (i := k) Tryz.underlying36 Tryz.sizeOf24 rfl rfl rfl ((Hv.ext E).p (i := k) (by omega)) (by have := (Hv.ext E).len; omega)) rfl rfl ?_
 refine oz_ (v := .slice (hd k).p (hd k).n (hd k).c) (xloadz Tryz.isAgg24 rfl (h19) rfl) rfl rfl ?_
 refine vm_ rfl rfl rfl ?_
 have h22 := ((show Sl i64c 1 _ _ _ _ vs[k] from (Hv.inner (i := k) (by omega)).ext E)).at (i := q) (by omega)
 refine oz_ (xindexN (i := q) Tryz.underlying24 Tryz.sizeOf2 rfl rfl (by omega) (((show Sl i64c 1 _ _ _ _ vs[k] from (Hv.inner (i := k) (by omega)).ext E)).p (i := q) (by omega)) (by have := ((show Sl i64c 1 _ _ _ _ vs[k] from (Hv.inner (i := k) (by omega)).ext E)).len; omega)) rfl rfl ?_
 refine oz_ (v := .int .i64 vs[k][q]) (xloadz Tryz.isAgg2 rfl (h22) rfl) rfl rfl ?_
 refine vm_ rfl rfl rfl ?_
 refine oz_ (xeql rfl rfl _ rfl) rfl rfl ?_
 refine ods (fun c25 => ?_) (fun c25 => ?_)
 rotate_left
 ·
  refine cf_ rfl ?_
  refine run_inBlock ?_
  refine run_region ?_
  refine vm_ rfl rfl rfl ?_
  refine oz_ (xadd rfl rfl (by unfold I64; omega)) rfl rfl ?_
  refine vn_ rfl rfl rfl ?_
  refine run_sub ?_ (hback3 (k + 1, cc, wr) (⟨E, O_b1, by omega, by omega, by rw [hc, cntV_step (by omega) hqk, if_neg c25], by omega, by omega⟩) (by first | omega | (dsimp only; omega)))
  exact ⟨rfl, rfl, rfl, rfl, rfl, trivial⟩
 refine ct_ rfl ?_
 refine run_region ?_
 refine vm_ rfl rfl rfl ?_
 refine oz_ (xadd rfl rfl (by unfold I64; omega)) rfl rfl ?_
 refine vn_ rfl rfl rfl ?_
 refine run_inBlock ?_
 refine run_region ?_
 refine vm_ rfl rfl rfl ?_
 refine oz_ (xadd rfl rfl (by unfold I64; omega)) rfl rfl ?_
 refine vn_ rfl rfl rfl ?_
 refine run_sub ?_ (hback3 (k + 1, (cc + 1), wr) (⟨E, O_b1, by omega, by omega, by rw [hc, cntV_step (by omega) hqk, if_pos c25], by omega, by omega⟩) (by first | omega | (dsimp only; omega)))
 exact ⟨rfl, rfl, rfl, rfl, rfl, trivial⟩
end Go.Proofs.YtchblgaklknkcaaGreat
