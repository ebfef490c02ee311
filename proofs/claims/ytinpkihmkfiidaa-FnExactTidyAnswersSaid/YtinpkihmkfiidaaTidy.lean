/-
  Answers without those that are not on their way. No condition beyond those written in each theorem.
-/
import Derived.Test.YtinpkihmkfiidaaVerdict
import Derived.Test.YtinpkihmkfiidaaMarkB
import Derived.Test.YtinpkihmkfiidaaEqB
namespace Go.Proofs.Ytinpkihmkfiidaa
open Go.RowKit
set_option linter.unusedVariables false
set_option linter.unusedSimpArgs false
set_option linter.unusedSectionVars false
set_option maxRecDepth 4000

theorem wayG_le (xs : List Question) (az : List Int) : ∀ (f i : Nat), (wayG xs az f i).2 ≤ 0
  | 0, _ => by simp [wayG]
  | f + 1, i => by
    unfold wayG
    split
    · split
      · simp
      · split
        · rename_i h; simp only; omega
        · exact wayG_le xs az f _
    · simp
def hasI (l : List Int) (x : Int) : Bool := l.any fun y => decide (y = x)
theorem hasI_iff {l : List Int} {x : Int} : hasI l x = true ↔ x ∈ l := by
  simp only [hasI, List.any_eq_true, decide_eq_true_eq]
  exact ⟨fun ⟨y, h1, h2⟩ => h2 ▸ h1, fun h => ⟨x, h, rfl⟩⟩
theorem hasI_t {l : List Int} {x : Int} {k : Nat} (hk : k < l.length) (h : l[k] = x) : hasI l x = true := hasI_iff.2 (h ▸ List.getElem_mem hk)
theorem hasI_f {l : List Int} {x : Int} {n : Nat} (h : ∀ j (hj : j < l.length), j < n → l[j] ≠ x) (hn : l.length ≤ n) : hasI l x = false := by
  rw [Bool.eq_false_iff]; intro h'
  obtain ⟨j, hj, e⟩ := List.getElem_of_mem (hasI_iff.1 h')
  exact h j hj (by omega) e
theorem markTo_at {α : Type} {f : α → Int → α} {s : Int} {xs : List α} {k0 : Int} {i : Nat} (h : i < xs.length) (h2 : i < (markTo f s xs k0 i).length) : (markTo f s xs k0 i)[i] = xs[i] := by
  have hl := markAll_length f s xs k0
  have : (markTo f s xs k0 i)[i]? = some xs[i] := by
    rw [markTo, List.getElem?_append_right (by simp; omega)]
    simp [hl, Nat.min_eq_left (Nat.le_of_lt h)]
  exact (List.getElem?_eq_some_iff.1 this).2
theorem markTo_length {α : Type} (f : α → Int → α) (s : Int) (xs : List α) (k0 : Int) (i : Nat) : (markTo f s xs k0 i).length = xs.length := by
  have hl := markAll_length f s xs k0
  simp [markTo, hl]; omega
theorem markTo_set {α : Type} {f : α → Int → α} {s : Int} {xs : List α} {k0 : Int} {i : Nat} (h : i < xs.length) {y : α} (hy : y = f xs[i] (k0 + s * i)) : (markTo f s xs k0 i).set i y = markTo f s xs k0 (i + 1) := by
  subst hy
  have h' : i < (markAll f s xs k0).length := by rw [markAll_length]; exact h
  rw [markTo, markTo, List.drop_eq_getElem_cons h, List.set_append_right _ _ (by simp; omega)]
  have e : i - ((markAll f s xs k0).take i).length = 0 := by simp; omega
  rw [e, List.set_cons_zero, List.take_succ_eq_append_getElem h', markAll_at h]; simp
theorem markTo_keep {α : Type} {f : α → Int → α} {s : Int} {xs : List α} {k0 : Int} {i : Nat} (h : i < xs.length) (hy : xs[i] = f xs[i] (k0 + s * i)) : markTo f s xs k0 i = markTo f s xs k0 (i + 1) := by
  rw [← markTo_set h hy]
  have h2 : i < (markTo f s xs k0 i).length := by rw [markTo_length]; exact h
  have h3 := markTo_at h h2
  conv => lhs; rw [← List.set_getElem_self h2]
  rw [h3]
def tdF (way : List Int) (a i : Int) : Int := if hasI way i = true then a else -1
theorem tdF_t {way : List Int} {a i : Int} (h : hasI way i = true) : a = tdF way a (0 + 1 * i) := by rw [tdF, if_pos (by rw [Int.zero_add, Int.one_mul]; exact h)]
theorem tdF_f {way : List Int} {a i : Int} (h : hasI way i = false) : -1 = tdF way a (0 + 1 * i) := by rw [tdF, if_neg (by rw [Int.zero_add, Int.one_mul, h]; simp)]
def tidyL (way az : List Int) : List Int := markAll (tdF way) 1 az 0
theorem tidyL_length (way az : List Int) : (tidyL way az).length = az.length := markAll_length _ _ _ _
theorem tidyL_at {way az : List Int} {i : Nat} (h : i < az.length) : (tidyL way az)[i]'(by rw [tidyL_length]; exact h) = tdF way az[i] i := by
  have := markAll_at (f := tdF way) (s := 1) (xs := az) (k0 := 0) h
  simp only [tidyL]; rw [this]; congr 1; omega
theorem tidy_push {way az ys : List Int} {k : Nat} (hy : ys = (tidyL way az).take k) (h : k < az.length) {y : Int} (e : y = tdF way az[k] k) : ys ++ [y] = (tidyL way az).take (k + 1) := by
  rw [hy, List.take_succ_eq_append_getElem (by rw [tidyL_length]; exact h), tidyL_at h, e]
def isTidy (xs : List Question) (az : List Int) : Bool × Int := if formCode xs az ≠ 0 then (false, formCode xs az) else if (wayF xs az).2 = 0 then (false, 0) else (eqL eqI (tidyL (wayF xs az).1 az) az, 0)
def tidyAnswers (xs : List Question) (az : List Int) : List Int × Int := if (verdictOf xs az).2 ≠ 0 then ([], (verdictOf xs az).2) else (tidyL (wayF xs az).1 az, 0)
theorem verdictOf_code {xs : List Question} {az : List Int} (h : (verdictOf xs az).2 = 0) : formCode xs az = 0 := by
  unfold verdictOf at h
  split at h
  · exact absurd h (by assumption)
  · omega
theorem tidyAnswers_len (xs : List Question) (az : List Int) : (tidyAnswers xs az).1.length ≤ 10 := by
  unfold tidyAnswers
  split
  · simp
  · rename_i h
    obtain ⟨h1, h2⟩ := formCode_zero (verdictOf_code (by omega : (verdictOf xs az).2 = 0))
    have := isForm_len h1; have := areAns_len h2
    rw [tidyL_length]; omega

set_option maxHeartbeats 400000 in
theorem hasI_ok (p : Option Addr) (n c : Nat) (xs : List Int) (x : Int) (w : World) (H : Sl i64c 1 w p n c xs) : Ret Try.prog 131 [.slice p n c, .int .i64 x] w (Pv w (.bool (hasI xs x))) := by
  refine ret_of_run (N := 17) Try.func131 rfl rfl rfl ?_
  have hn := H.len
  have hn6 := H.n64
  have E : Ext w w := Ext.refl w
  refine run_seq ?_
  refine run_region ?_
  refine ov (xassign rfl) rfl rfl rfl ?_
  refine ops_nil ?_
  refine run_seq ?_
  refine run_seq ?_
  refine run_region ?_
  refine ov (xmove rfl) rfl rfl rfl ?_
  refine ov (xlen Try.underlying31 rfl) rfl rfl rfl ?_
  refine ov (xmove rfl) rfl rfl rfl ?_
  refine ops_nil ?_
  refine run_block ?_
  refine run_loop (ι := Nat × World) (fun x_ => match x_ with | (k, wr) => (Ext w wr) ∧ (w.heap.size ≤ wr.heap.size) ∧ (k ≤ n) ∧ (∀ j (hj : j < xs.length), j < k → xs[j] ≠ x)) (fun x_ => match x_ with | (k, wr) => [(1, .int .i64 x), (7, .slice p n c), (8, .int .i64 (n : Int)), (9, .int .i64 (k : Int))]) (fun x_ => match x_ with | (k, wr) => wr) (fun x_ => match x_ with | (k, wr) => n - k) ?_ (0, w) (⟨E, Nat.le_refl _, by omega, fun j hj h => absurd h (Nat.not_lt_zero j)⟩) ⟨rfl, rfl, rfl, rfl, trivial⟩ rfl
  intro i_ hI_ hback2
  obtain ⟨k, wr⟩ := i_
  obtain ⟨E, lz_wr, hk, ha⟩ := hI_
  try dsimp only
  have zr := E.size
  refine run_seq ?_
  refine run_region ?_
  refine ov (xlss rfl rfl _ rfl) rfl rfl rfl ?_
  refine ods (fun c10 => ?_) (fun c10 => ?_)
  ·
    refine ops_nil ?_
    refine run_seq ?_
    refine run_cond_t rfl ?_
    refine run_skip ?_
    refine run_seq ?_
    refine run_block ?_
    refine run_seq ?_
    refine run_region ?_
    have h11 := (H.ext E).at (i := k) (by omega)
    refine ov (xindexN (i := k) Try.underlying31 Try.sizeOf2 rfl rfl rfl ((H.ext E).p (i := k) (by omega)) (by have := (H.ext E).len; omega)) rfl rfl rfl ?_
    refine ov (v := .int .i64 xs[k]) (xloadz Try.isAgg2 rfl (h11) rfl) rfl rfl rfl ?_
    refine ov (xassign rfl) rfl rfl rfl ?_
    refine ops_nil ?_
    refine run_seq ?_
    refine run_region ?_
    refine ov (xmove rfl) rfl rfl rfl ?_
    refine ov (xmove rfl) rfl rfl rfl ?_
    refine ov (xeql rfl rfl _ rfl) rfl rfl rfl ?_
    refine ods (fun c15 => ?_) (fun c15 => ?_)
    ·
      refine ops_nil ?_
      refine run_cond_t rfl ?_
      refine run_seq ?_
      refine run_region ?_
      refine ov (xassign rfl) rfl rfl rfl ?_
      refine ops_nil ?_
      refine run_ret Try.func131 (res1 rfl rfl) ?_
      exact ⟨_, rfl, by rw [hasI_t (k := k) (by omega) (by omega)], E⟩
    ·
      refine ops_nil ?_
      refine run_cond_f rfl ?_
      refine run_skip ?_
      refine run_inBlock ?_
      refine run_region ?_
      refine ov (xadd rfl rfl (by unfold I64; omega)) rfl rfl rfl ?_
      refine ov (xmove rfl) rfl rfl rfl ?_
      refine ops_nil ?_
      refine run_sub ?_ (hback2 (k + 1, wr) (⟨E, by omega, by omega, below_succ (q := fun y => y ≠ x) ha (fun _ => by omega)⟩) (by first | omega | (dsimp only; omega)))
      exact ⟨rfl, rfl, rfl, rfl, trivial⟩
  ·
    refine ops_nil ?_
    refine run_seq ?_
    refine run_cond_f rfl ?_
    refine run_exit rfl ?_
    refine run_seq ?_
    refine run_region ?_
    refine ov (xassign rfl) rfl rfl rfl ?_
    refine ops_nil ?_
    refine run_ret Try.func131 (res1 rfl rfl) ?_
    exact ⟨_, rfl, by rw [hasI_f ha (by omega)], E⟩

set_option maxHeartbeats 400000 in
theorem l01Has_ok (p : Option Addr) (n c : Nat) (xs : List Int) (x : Int) (w : World) (H : Sl i64c 1 w p n c xs) : Ret Try.prog 129 [.slice p n c, .int .i64 x] w (Pv w (.bool (hasI xs x))) := by
  refine ret_of_run (N := 18) Try.func129 rfl rfl rfl ?_
  have hn := H.len
  have hn6 := H.n64
  have E : Ext w w := Ext.refl w
  refine run_seq ?_
  refine run_region ?_
  refine ov (xassign rfl) rfl rfl rfl ?_
  refine ops_nil ?_
  refine run_seq ?_
  refine run_seq ?_
  refine run_region ?_
  refine ov (xassign rfl) rfl rfl rfl ?_
  refine ops_nil ?_
  refine run_block ?_
  refine run_loop (ι := Nat × World) (fun x_ => match x_ with | (k, wr) => (Ext w wr) ∧ (w.heap.size ≤ wr.heap.size) ∧ (k ≤ n) ∧ (∀ j (hj : j < xs.length), j < k → xs[j] ≠ x)) (fun x_ => match x_ with | (k, wr) => [(0, .slice p n c), (1, .int .i64 x), (5, .int .i64 (k : Int))]) (fun x_ => match x_ with | (k, wr) => wr) (fun x_ => match x_ with | (k, wr) => n - k) ?_ (0, w) (⟨E, Nat.le_refl _, by omega, fun j hj h => absurd h (Nat.not_lt_zero j)⟩) ⟨rfl, rfl, rfl, trivial⟩ rfl
  intro i_ hI_ hback2
  obtain ⟨k, wr⟩ := i_
  obtain ⟨E, lz_wr, hk, ha⟩ := hI_
  try dsimp only
  have zr := E.size
  refine run_seq ?_
  refine run_seq ?_
  refine run_region ?_
  refine ov (xmove rfl) rfl rfl rfl ?_
  refine ov (xmove rfl) rfl rfl rfl ?_
  refine ov (xlen Try.underlying31 rfl) rfl rfl rfl ?_
  refine ov (xlss rfl rfl _ rfl) rfl rfl rfl ?_
  refine ods (fun c9 => ?_) (fun c9 => ?_)
  ·
    refine ops_nil ?_
    refine run_cond_t rfl ?_
    refine run_skip ?_
    refine run_seq ?_
    refine run_block ?_
    refine run_seq ?_
    refine run_region ?_
    refine ov (xmove rfl) rfl rfl rfl ?_
    refine ov (xmove rfl) rfl rfl rfl ?_
    have h14 := (H.ext E).at (i := k) (by omega)
    refine ov (xindexN (i := k) Try.underlying31 Try.sizeOf2 rfl rfl rfl ((H.ext E).p (i := k) (by omega)) (by have := (H.ext E).len; omega)) rfl rfl rfl ?_
    refine ov (v := .int .i64 xs[k]) (xloadz Try.isAgg2 rfl (h14) rfl) rfl rfl rfl ?_
    refine ov (xmove rfl) rfl rfl rfl ?_
    refine ov (xeql rfl rfl _ rfl) rfl rfl rfl ?_
    refine ods (fun c17 => ?_) (fun c17 => ?_)
    ·
      refine ops_nil ?_
      refine run_cond_t rfl ?_
      refine run_seq ?_
      refine run_region ?_
      refine ov (xassign rfl) rfl rfl rfl ?_
      refine ops_nil ?_
      refine run_ret Try.func129 (res1 rfl rfl) ?_
      exact ⟨_, rfl, by rw [hasI_t (k := k) (by omega) (by omega)], E⟩
    ·
      refine ops_nil ?_
      refine run_cond_f rfl ?_
      refine run_skip ?_
      refine run_inBlock ?_
      refine run_region ?_
      refine ov (xmove rfl) rfl rfl rfl ?_
      refine ov (xadd rfl rfl (by unfold I64; omega)) rfl rfl rfl ?_
      refine ov (xassign rfl) rfl rfl rfl ?_
      refine ops_nil ?_
      refine run_sub ?_ (hback2 (k + 1, wr) (⟨E, by omega, by omega, below_succ (q := fun y => y ≠ x) ha (fun _ => by omega)⟩) (by first | omega | (dsimp only; omega)))
      exact ⟨rfl, rfl, rfl, trivial⟩
  ·
    refine ops_nil ?_
    refine run_cond_f rfl ?_
    refine run_exit rfl ?_
    refine run_seq ?_
    refine run_region ?_
    refine ov (xassign rfl) rfl rfl rfl ?_
    refine ops_nil ?_
    refine run_ret Try.func129 (res1 rfl rfl) ?_
    exact ⟨_, rfl, by rw [hasI_f ha (by omega)], E⟩

set_option maxHeartbeats 400000 in
theorem sameI_ok (p q : Option Addr) (n c m d : Nat) (xs ys : List Int) (w : World) (H : Sl i64c 1 w p n c xs) (K : Sl i64c 1 w q m d ys) : Ret Try.prog 112 [.slice p n c, .slice q m d] w (Pv w (.bool (eqL eqI xs ys))) := by
  refine ret_of_run (N := 26) Try.func112 rfl rfl rfl ?_
  have hn := H.len
  have hm := K.len
  have hn6 := H.n64
  have hm6 := K.n64
  have E : Ext w w := Ext.refl w
  refine run_seq ?_
  refine run_region ?_
  refine ov (xassign rfl) rfl rfl rfl ?_
  refine ops_nil ?_
  refine run_seq ?_
  refine run_seq ?_
  refine run_region ?_
  refine ov (xmove rfl) rfl rfl rfl ?_
  refine ov (xlen Try.underlying31 rfl) rfl rfl rfl ?_
  refine ov (xmove rfl) rfl rfl rfl ?_
  refine ov (xlen Try.underlying31 rfl) rfl rfl rfl ?_
  refine ov (xneq rfl rfl _ rfl) rfl rfl rfl ?_
  refine ods (fun c10 => ?_) (fun c10 => ?_)
  ·
    refine ops_nil ?_
    refine run_cond_t rfl ?_
    refine run_seq ?_
    refine run_region ?_
    refine ov (xassign rfl) rfl rfl rfl ?_
    refine ops_nil ?_
    refine run_ret Try.func112 (res1 rfl rfl) ?_
    exact ⟨_, rfl, by rw [eqL_ne (by omega)], E⟩
  ·
    refine ops_nil ?_
    refine run_cond_f rfl ?_
    refine run_skip ?_
    refine run_seq ?_
    refine run_seq ?_
    refine run_region ?_
    refine ov (xmove rfl) rfl rfl rfl ?_
    refine ov (xlen Try.underlying31 rfl) rfl rfl rfl ?_
    refine ov (xmove rfl) rfl rfl rfl ?_
    refine ops_nil ?_
    refine run_block ?_
    refine run_loop (ι := Nat × World) (fun x_ => match x_ with | (k, wr) => (Ext w wr) ∧ (w.heap.size ≤ wr.heap.size) ∧ (k ≤ n) ∧ (n = m) ∧ (allB k (fun i => eqAt eqI xs ys i) = true)) (fun x_ => match x_ with | (k, wr) => [(0, .slice p n c), (1, .slice q m d), (12, .int .i64 (n : Int)), (13, .int .i64 (k : Int))]) (fun x_ => match x_ with | (k, wr) => wr) (fun x_ => match x_ with | (k, wr) => n - k) ?_ (0, w) (⟨E, Nat.le_refl _, by omega, by omega, allB_zero⟩) ⟨rfl, rfl, rfl, rfl, trivial⟩ rfl
    intro i_ hI_ hback4
    obtain ⟨k, wr⟩ := i_
    obtain ⟨E, lz_wr, hk, hnm, ha⟩ := hI_
    try dsimp only
    have zr := E.size
    refine run_seq ?_
    refine run_region ?_
    refine ov (xlss rfl rfl _ rfl) rfl rfl rfl ?_
    refine ods (fun c14 => ?_) (fun c14 => ?_)
    ·
      refine ops_nil ?_
      refine run_seq ?_
      refine run_cond_t rfl ?_
      refine run_skip ?_
      refine run_seq ?_
      refine run_block ?_
      refine run_seq ?_
      refine run_region ?_
      refine ov (xmove rfl) rfl rfl rfl ?_
      refine ov (xassign rfl) rfl rfl rfl ?_
      refine ops_nil ?_
      refine run_seq ?_
      refine run_draw (by kernel_rfl) (by kernel_rfl) ?_
      refine qv (fun w' x_ => xmove rfl) rfl rfl rfl ?_
      refine qv (fun w' x_ => xmove rfl) rfl rfl rfl ?_
      have h18 := (H.ext E).at (i := k) (by omega)
      refine qv (fun w' x_ => xindexN (i := k) Try.underlying31 Try.sizeOf2 rfl rfl rfl ((H.ext E).p (i := k) (by omega)) (by have := (H.ext E).len; omega)) rfl rfl rfl ?_
      refine qv (v := .int .i64 xs[k]) (fun w' x_ => xloadz Try.isAgg2 rfl ((h18).ext x_) rfl) rfl rfl rfl ?_
      refine qv (fun w' x_ => xmove rfl) rfl rfl rfl ?_
      refine qv (fun w' x_ => xmove rfl) rfl rfl rfl ?_
      have h22 := (K.ext E).at (i := k) (by omega)
      refine qv (fun w' x_ => xindexN (i := k) Try.underlying31 Try.sizeOf2 rfl rfl rfl ((K.ext E).p (i := k) (by omega)) (by have := (K.ext E).len; omega)) rfl rfl rfl ?_
      refine qv (v := .int .i64 ys[k]) (fun w' x_ => xloadz Try.isAgg2 rfl ((h22).ext x_) rfl) rfl rfl rfl ?_
      refine qv (fun w' x_ => xneq rfl rfl _ rfl) rfl rfl rfl ?_
      refine qds (fun c24 => ?_) (fun c24 => ?_)
      ·
        refine q_nil ?_
        intro w1 e1
        have z1 := e1.size
        have E := E.trans e1
        refine run_cond_t rfl ?_
        refine run_seq ?_
        refine run_region ?_
        refine ov (xassign rfl) rfl rfl rfl ?_
        refine ops_nil ?_
        refine run_ret Try.func112 (res1 rfl rfl) ?_
        exact ⟨_, rfl, by rw [eqL_at (i := k) (by omega) (by omega) (by simpa [eqI] using c24)], E⟩
      ·
        refine q_nil ?_
        intro w1 e1
        have z1 := e1.size
        have E := E.trans e1
        refine run_cond_f rfl ?_
        refine run_skip ?_
        refine run_inBlock ?_
        refine run_region ?_
        refine ov (xadd rfl rfl (by unfold I64; omega)) rfl rfl rfl ?_
        refine ov (xmove rfl) rfl rfl rfl ?_
        refine ops_nil ?_
        refine run_sub ?_ (hback4 (k + 1, w1) (⟨E, by omega, by omega, hnm, allB_succ ha (by rw [eqAt_of (by omega) (by omega)]; simpa [eqI] using c24)⟩) (by first | omega | (dsimp only; omega)))
        exact ⟨rfl, rfl, rfl, rfl, trivial⟩
    ·
      refine ops_nil ?_
      refine run_seq ?_
      refine run_cond_f rfl ?_
      refine run_exit rfl ?_
      refine run_seq ?_
      refine run_region ?_
      refine ov (xassign rfl) rfl rfl rfl ?_
      refine ops_nil ?_
      refine run_ret Try.func112 (res1 rfl rfl) ?_
      obtain rfl : k = n := by omega
      exact ⟨_, rfl, by rw [eqL_eq (by omega) (by rw [← hn]; exact ha)], E⟩

set_option maxHeartbeats 400000 in
theorem l01Same_ok (p q : Option Addr) (n c m d : Nat) (xs ys : List Int) (w : World) (H : Sl i64c 1 w p n c xs) (K : Sl i64c 1 w q m d ys) : Ret Try.prog 110 [.slice p n c, .slice q m d] w (Pv w (.bool (eqL eqI xs ys))) := by
  refine ret_of_run (N := 26) Try.func110 rfl rfl rfl ?_
  have hn := H.len
  have hm := K.len
  have hn6 := H.n64
  have hm6 := K.n64
  have E : Ext w w := Ext.refl w
  refine run_seq ?_
  refine run_region ?_
  refine ov (xassign rfl) rfl rfl rfl ?_
  refine ops_nil ?_
  refine run_seq ?_
  refine run_seq ?_
  refine run_region ?_
  refine ov (xmove rfl) rfl rfl rfl ?_
  refine ov (xlen Try.underlying31 rfl) rfl rfl rfl ?_
  refine ov (xmove rfl) rfl rfl rfl ?_
  refine ov (xlen Try.underlying31 rfl) rfl rfl rfl ?_
  refine ov (xneq rfl rfl _ rfl) rfl rfl rfl ?_
  refine ods (fun c10 => ?_) (fun c10 => ?_)
  ·
    refine ops_nil ?_
    refine run_cond_t rfl ?_
    refine run_seq ?_
    refine run_region ?_
    refine ov (xassign rfl) rfl rfl rfl ?_
    refine ops_nil ?_
    refine run_ret Try.func110 (res1 rfl rfl) ?_
    exact ⟨_, rfl, by rw [eqL_ne (by omega)], E⟩
  ·
    refine ops_nil ?_
    refine run_cond_f rfl ?_
    refine run_skip ?_
    refine run_seq ?_
    refine run_seq ?_
    refine run_region ?_
    refine ov (xassign rfl) rfl rfl rfl ?_
    refine ops_nil ?_
    refine run_block ?_
    refine run_loop (ι := Nat × World) (fun x_ => match x_ with | (k, wr) => (Ext w wr) ∧ (w.heap.size ≤ wr.heap.size) ∧ (k ≤ n) ∧ (n = m) ∧ (allB k (fun i => eqAt eqI xs ys i) = true)) (fun x_ => match x_ with | (k, wr) => [(0, .slice p n c), (1, .slice q m d), (5, .int .i64 (k : Int))]) (fun x_ => match x_ with | (k, wr) => wr) (fun x_ => match x_ with | (k, wr) => n - k) ?_ (0, w) (⟨E, Nat.le_refl _, by omega, by omega, allB_zero⟩) ⟨rfl, rfl, rfl, trivial⟩ rfl
    intro i_ hI_ hback4
    obtain ⟨k, wr⟩ := i_
    obtain ⟨E, lz_wr, hk, hnm, ha⟩ := hI_
    try dsimp only
    have zr := E.size
    refine run_seq ?_
    refine run_seq ?_
    refine run_region ?_
    refine ov (xmove rfl) rfl rfl rfl ?_
    refine ov (xmove rfl) rfl rfl rfl ?_
    refine ov (xlen Try.underlying31 rfl) rfl rfl rfl ?_
    refine ov (xlss rfl rfl _ rfl) rfl rfl rfl ?_
    refine ods (fun c14 => ?_) (fun c14 => ?_)
    ·
      refine ops_nil ?_
      refine run_cond_t rfl ?_
      refine run_skip ?_
      refine run_seq ?_
      refine run_block ?_
      refine run_seq ?_
      refine run_draw (by kernel_rfl) (by kernel_rfl) ?_
      refine qv (fun w' x_ => xmove rfl) rfl rfl rfl ?_
      refine qv (fun w' x_ => xmove rfl) rfl rfl rfl ?_
      have h19 := (H.ext E).at (i := k) (by omega)
      refine qv (fun w' x_ => xindexN (i := k) Try.underlying31 Try.sizeOf2 rfl rfl rfl ((H.ext E).p (i := k) (by omega)) (by have := (H.ext E).len; omega)) rfl rfl rfl ?_
      refine qv (v := .int .i64 xs[k]) (fun w' x_ => xloadz Try.isAgg2 rfl ((h19).ext x_) rfl) rfl rfl rfl ?_
      refine qv (fun w' x_ => xmove rfl) rfl rfl rfl ?_
      refine qv (fun w' x_ => xmove rfl) rfl rfl rfl ?_
      have h23 := (K.ext E).at (i := k) (by omega)
      refine qv (fun w' x_ => xindexN (i := k) Try.underlying31 Try.sizeOf2 rfl rfl rfl ((K.ext E).p (i := k) (by omega)) (by have := (K.ext E).len; omega)) rfl rfl rfl ?_
      refine qv (v := .int .i64 ys[k]) (fun w' x_ => xloadz Try.isAgg2 rfl ((h23).ext x_) rfl) rfl rfl rfl ?_
      refine qv (fun w' x_ => xneq rfl rfl _ rfl) rfl rfl rfl ?_
      refine qds (fun c25 => ?_) (fun c25 => ?_)
      ·
        refine q_nil ?_
        intro w1 e1
        have z1 := e1.size
        have E := E.trans e1
        refine run_cond_t rfl ?_
        refine run_seq ?_
        refine run_region ?_
        refine ov (xassign rfl) rfl rfl rfl ?_
        refine ops_nil ?_
        refine run_ret Try.func110 (res1 rfl rfl) ?_
        exact ⟨_, rfl, by rw [eqL_at (i := k) (by omega) (by omega) (by simpa [eqI] using c25)], E⟩
      ·
        refine q_nil ?_
        intro w1 e1
        have z1 := e1.size
        have E := E.trans e1
        refine run_cond_f rfl ?_
        refine run_skip ?_
        refine run_inBlock ?_
        refine run_region ?_
        refine ov (xmove rfl) rfl rfl rfl ?_
        refine ov (xadd rfl rfl (by unfold I64; omega)) rfl rfl rfl ?_
        refine ov (xassign rfl) rfl rfl rfl ?_
        refine ops_nil ?_
        refine run_sub ?_ (hback4 (k + 1, w1) (⟨E, by omega, by omega, hnm, allB_succ ha (by rw [eqAt_of (by omega) (by omega)]; simpa [eqI] using c25)⟩) (by first | omega | (dsimp only; omega)))
        exact ⟨rfl, rfl, rfl, trivial⟩
    ·
      refine ops_nil ?_
      refine run_cond_f rfl ?_
      refine run_exit rfl ?_
      refine run_seq ?_
      refine run_region ?_
      refine ov (xassign rfl) rfl rfl rfl ?_
      refine ops_nil ?_
      refine run_ret Try.func110 (res1 rfl rfl) ?_
      obtain rfl : k = n := by omega
      exact ⟨_, rfl, by rw [eqL_eq (by omega) (by rw [← hn]; exact ha)], E⟩

set_option maxHeartbeats 400000 in
theorem cloneInt64_ok (p : Option Addr) (n c : Nat) (xs : List Int) (w : World) (H : Sl i64c 1 w p n c xs) (hp : p = none → c = 0) (hn2 : n ≤ 1000000000) : Ret Try.prog 122 [.slice p n c] w (fun v w' => Ext w w' ∧ ∃ q c', v = .slice q n c' ∧ Ow i64c 1 2 w' w.heap.size w'.heap.size q n c' xs) := by
  refine ret_of_run (N := 8) Try.func122 rfl rfl rfl ?_
  have hn := H.len
  have E : Ext w w := Ext.refl w
  refine run_seq ?_
  refine run_region ?_
  refine ov (xassign rfl) rfl rfl rfl ?_
  refine ops_nil ?_
  refine run_seq ?_
  refine run_region ?_
  refine ov (xmove rfl) rfl rfl rfl ?_
  refine ov (xlen Try.underlying31 rfl) rfl rfl rfl ?_
  refine omake0 i64c (sz := 1) (n := n) Try.underlying31 inf2 rfl rfl rfl rfl rfl (by simp only [Try.t2]; omega) (by omega) rfl rfl ?_
  intro b1 w1 e1 hb1 hz1 G1
  have E := E.trans e1
  refine ov (xmove rfl) rfl rfl rfl ?_
  refine oapp (bytes := 8) (nm := n) G1 rfl rfl elem2 (H.ext E) hp (by intro y hy; rfl) (by intro y hy u hu; simp only [i64c, List.mem_singleton] at hu; subst hu; rfl) (by omega) (by omega) (by omega) (by omega) rfl rfl ?_
  intro p2 c2_ w2 m2 G2
  have hz2 := m2.size
  have E := m2.toExt E (by omega)
  refine ov (xassign rfl) rfl rfl rfl ?_
  refine ops_nil ?_
  refine run_ret Try.func122 (res1 rfl rfl) ?_
  exact ⟨_, rfl, E, _, _, rfl, G2.wide (by omega) (by omega)⟩

set_option maxHeartbeats 400000 in
theorem l01Own_ok (p : Option Addr) (n c : Nat) (xs : List Int) (w : World) (H : Sl i64c 1 w p n c xs) (hp : p = none → c = 0) (hn2 : n ≤ 1000000000) : Ret Try.prog 121 [.slice p n c] w (fun v w' => Ext w w' ∧ ∃ q c', v = .slice q n c' ∧ Ow i64c 1 2 w' w.heap.size w'.heap.size q n c' xs) := by
  refine ret_of_run (N := 6) Try.func121 rfl rfl rfl ?_
  have hn := H.len
  have E : Ext w w := Ext.refl w
  refine run_seq ?_
  refine run_region ?_
  refine ov (xassign rfl) rfl rfl rfl ?_
  refine ops_nil ?_
  refine run_seq ?_
  refine run_region ?_
  refine obuild (cs := []) (sz := 1) Try.underlying31 inf2 rfl rfl (by decide) rfl rfl (by simp [Value.cells]) rfl rfl rfl ?_
  intro b1 w1 e1 hb1 hz1 O1
  have E := E.trans e1
  have G1 : Ow i64c 1 2 w1 b1 (b1 + 1) (some ⟨b1, 0, none⟩) 0 0 ([] : List Int) := Own.ow (by simpa [i64c] using O1) rfl (by omega) (Nat.le_refl _) (by omega) (by intro x hx; rfl)
  refine ov (xmove rfl) rfl rfl rfl ?_
  refine oapp (bytes := 8) (nm := n) G1 rfl rfl elem2 (H.ext E) hp (by intro y hy; rfl) (by intro y hy u hu; simp only [i64c, List.mem_singleton] at hu; subst hu; rfl) (by omega) (by omega) (by omega) (by omega) rfl rfl ?_
  intro p2 c2_ w2 m2 G2
  have hz2 := m2.size
  have E := m2.toExt E (by omega)
  refine ov (xassign rfl) rfl rfl rfl ?_
  refine ops_nil ?_
  refine run_ret Try.func121 (res1 rfl rfl) ?_
  exact ⟨_, rfl, E, _, _, rfl, G2.wide (by omega) (by omega)⟩

set_option maxHeartbeats 400000 in
theorem tidy_ok (p : Option Addr) (n c : Nat) (xs : List Question) (p2 : Option Addr) (n2 c2 : Nat) (az : List Int) (w : World) (H : Sl Question.cells 3 w p n c xs) (hx : ∀ x ∈ xs, x.Label.size ≤ 9223372036854775807) (K : Sl i64c 1 w p2 n2 c2 az) (hf : isForm xs = true) (hA : areAns xs az = true) (hk : p2 = none → c2 = 0) : Ret Try.prog 113 [.slice p n c, .slice p2 n2 c2] w (fun v w' => Ext w w' ∧ ∃ q m d, v = .slice q m d ∧ Ow i64c 1 2 w' w.heap.size w'.heap.size q m d (tidyL (wayF xs az).1 az)) := by
  refine ret_of_run (N := 31) Try.func113 rfl rfl rfl ?_
  have hn := H.len
  have hn6 := H.n64
  have hn2 := K.len
  have hk6 := K.n64
  have hl := isForm_len hf
  have hal := areAns_len hA
  have E : Ext w w := Ext.refl w
  refine run_seq ?_
  refine run_region ?_
  refine ov (xassign rfl) rfl rfl rfl ?_
  refine ops_nil ?_
  refine run_seq ?_
  refine run_region ?_
  refine ov (xmove rfl) rfl rfl rfl ?_
  refine ov (xmove rfl) rfl rfl rfl ?_
  refine oc (xcall Try.call101 rfl) rfl rfl rfl (wayOf_ok _ _ _ _ _ _ _ _ _ (H.ext E) (by assumption) (K.ext E) (by assumption) (by assumption)) ?_
  rintro _ w1 ⟨e1, q12, m12, d12, rfl, G12⟩
  have z1 := e1.size
  have E := E.trans e1
  refine ov (xmove rfl) rfl rfl rfl ?_
  refine ov (xextract rfl rfl) rfl rfl rfl ?_
  refine ov (xextract rfl rfl) rfl rfl rfl ?_
  refine ov (xassign rfl) rfl rfl rfl ?_
  refine ov (xassign rfl) rfl rfl rfl ?_
  refine ops_nil ?_
  refine run_seq ?_
  refine run_region ?_
  refine ov (xmove rfl) rfl rfl rfl ?_
  refine oc (xcall Try.call122 rfl) rfl rfl rfl (cloneInt64_ok _ _ _ _ _ (K.ext E) hk (by omega)) ?_
  rintro _ w2 ⟨e2, q16, c16_, rfl, G16⟩
  have z2 := e2.size
  have E := E.trans e2
  replace G12 := G12.ext e2
  refine ov (xassign rfl) rfl rfl rfl ?_
  refine ops_nil ?_
  refine run_seq ?_
  refine run_seq ?_
  refine run_region ?_
  refine ov (xmove rfl) rfl rfl rfl ?_
  refine ov (xlen Try.underlying31 rfl) rfl rfl rfl ?_
  refine ov (xmove rfl) rfl rfl rfl ?_
  refine ops_nil ?_
  refine run_block ?_
  refine run_loop (ι := Nat × Option Addr × Nat × Nat × List Int × World) (fun x_ => match x_ with | (k, q_7, m_7, c_7, ys_7, wr) => (Ext w wr) ∧ (Ow i64c 1 2 wr w.heap.size w1.heap.size q12 m12 d12 (wayF xs az).1) ∧ (Ow i64c 1 2 wr w1.heap.size wr.heap.size q_7 m_7 c_7 ys_7) ∧ (w1.heap.size ≤ wr.heap.size) ∧ (w2.heap.size ≤ wr.heap.size) ∧ (k ≤ n2) ∧ (m_7 = n2) ∧ (ys_7 = markTo (tdF (wayF xs az).1) 1 az 0 k)) (fun x_ => match x_ with | (k, q_7, m_7, c_7, ys_7, wr) => [(5, .slice q12 m12 d12), (7, .slice q_7 m_7 c_7), (18, .int .i64 (n2 : Int)), (19, .int .i64 (k : Int))]) (fun x_ => match x_ with | (k, q_7, m_7, c_7, ys_7, wr) => wr) (fun x_ => match x_ with | (k, q_7, m_7, c_7, ys_7, wr) => n2 - k) ?_ (0, q16, n2, c16_, az, w2) (⟨E, G12, G16.wide (by omega) (by omega), by omega, Nat.le_refl _, by omega, rfl, (markTo_zero _ _ _ _).symm⟩) ⟨rfl, rfl, rfl, rfl, trivial⟩ rfl
  intro i_ hI_ hback4
  obtain ⟨k, q_7, m_7, c_7, ys_7, wr⟩ := i_
  obtain ⟨E, G12, G_7, lo_7, lz_wr, hkn, hm, hy⟩ := hI_
  try dsimp only
  have zr := E.size
  have lg_7 := G_7.len
  refine run_seq ?_
  refine run_region ?_
  refine ov (xlss rfl rfl _ rfl) rfl rfl rfl ?_
  refine ods (fun c20 => ?_) (fun c20 => ?_)
  ·
    refine ops_nil ?_
    refine run_seq ?_
    refine run_cond_t rfl ?_
    refine run_skip ?_
    refine run_seq ?_
    refine run_block ?_
    refine run_seq ?_
    refine run_region ?_
    refine ov (xmove rfl) rfl rfl rfl ?_
    refine ov (xassign rfl) rfl rfl rfl ?_
    refine ops_nil ?_
    refine run_seq ?_
    refine run_region ?_
    refine ov (xmove rfl) rfl rfl rfl ?_
    refine ov (xmove rfl) rfl rfl rfl ?_
    refine oc (xcall Try.call131 rfl) rfl rfl rfl (hasI_ok _ _ _ _ ((k : Int)) _ (G12.sl)) ?_
    rintro _ w3 ⟨rfl, e3⟩
    have z3 := e3.size
    have E := E.trans e3
    replace G_7 := G_7.ext e3
    replace G12 := G12.ext e3
    refine obs (fun c24 => ?_) (fun c24 => ?_)
    ·
      refine ov (xnot rfl) rfl rfl rfl ?_
      refine ops_nil ?_
      refine run_cond_f rfl ?_
      refine run_skip ?_
      refine run_inBlock ?_
      refine run_region ?_
      refine ov (xadd rfl rfl (by unfold I64; omega)) rfl rfl rfl ?_
      refine ov (xmove rfl) rfl rfl rfl ?_
      refine ops_nil ?_
      refine run_sub ?_ (hback4 (k + 1, q_7, m_7, c_7, ys_7, w3) (⟨E, G12, G_7.wide (by omega) (by omega), by omega, by omega, by omega, by omega, by rw [hy]; exact markTo_keep (by omega) (tdF_t c24)⟩) (by first | omega | (dsimp only; omega)))
      exact ⟨rfl, rfl, rfl, rfl, trivial⟩
    ·
      refine ov (xnot rfl) rfl rfl rfl ?_
      refine ops_nil ?_
      refine run_cond_t rfl ?_
      refine run_region ?_
      refine ov (xmove rfl) rfl rfl rfl ?_
      refine ov (xmove rfl) rfl rfl rfl ?_
      have h28 := (G_7.sl).at (i := k) (by omega)
      refine ov (xindexN (i := k) Try.underlying31 Try.sizeOf2 rfl rfl rfl ((G_7.sl).p (i := k) (by omega)) (by have := (G_7.sl).len; omega)) rfl rfl rfl ?_
      refine ostoreOw1 (i := k) (y := (-1)) Try.sizeOf2 G_7 (by omega) rfl rfl rfl rfl rfl ?_
      intro w4 m4 g4
      have z4 := m4.size
      have E := m4.toExt E (by omega)
      replace G12 := G12.off m4 (by omega)
      replace G_7 := g4
      refine ops_nil ?_
      refine run_inBlock ?_
      refine run_region ?_
      refine ov (xadd rfl rfl (by unfold I64; omega)) rfl rfl rfl ?_
      refine ov (xmove rfl) rfl rfl rfl ?_
      refine ops_nil ?_
      refine run_sub ?_ (hback4 (k + 1, q_7, m_7, c_7, (ys_7.set k (-1)), w4) (⟨E, G12, G_7.wide (by omega) (by omega), by omega, by omega, by omega, by omega, by rw [hy, markTo_set (by omega) (tdF_f c24)]⟩) (by first | omega | (dsimp only; omega)))
      exact ⟨rfl, rfl, rfl, rfl, trivial⟩
  ·
    refine ops_nil ?_
    refine run_seq ?_
    refine run_cond_f rfl ?_
    refine run_exit rfl ?_
    refine run_seq ?_
    refine run_region ?_
    refine ov (xmove rfl) rfl rfl rfl ?_
    refine ov (xassign rfl) rfl rfl rfl ?_
    refine ops_nil ?_
    refine run_ret Try.func113 (res1 rfl rfl) ?_
    obtain rfl : k = n2 := by omega
    exact ⟨_, rfl, E, _, _, _, rfl, by rw [tidyL, ← markTo_all hn2, ← hy]; exact G_7.wide (by omega) (by omega)⟩

set_option maxHeartbeats 400000 in
theorem l26Tidy_ok (p : Option Addr) (n c : Nat) (xs : List Question) (p2 : Option Addr) (n2 c2 : Nat) (az : List Int) (w : World) (H : Sl Question.cells 3 w p n c xs) (hx : ∀ x ∈ xs, x.Label.size ≤ 9223372036854775807) (K : Sl i64c 1 w p2 n2 c2 az) (hf : isForm xs = true) (hA : areAns xs az = true) : Ret Try.prog 111 [.slice p n c, .slice p2 n2 c2] w (fun v w' => Ext w w' ∧ ∃ q m d, v = .slice q m d ∧ Ow i64c 1 2 w' w.heap.size w'.heap.size q m d (tidyL (wayF xs az).1 az)) := by
  refine ret_of_run (N := 36) Try.func111 rfl rfl rfl ?_
  have hn := H.len
  have hn6 := H.n64
  have hn2 := K.len
  have hk6 := K.n64
  have hl := isForm_len hf
  have hal := areAns_len hA
  have E : Ext w w := Ext.refl w
  refine run_seq ?_
  refine run_region ?_
  refine ov (xassign rfl) rfl rfl rfl ?_
  refine ops_nil ?_
  refine run_seq ?_
  refine run_region ?_
  refine ov (xmove rfl) rfl rfl rfl ?_
  refine ov (xmove rfl) rfl rfl rfl ?_
  refine oc (xcall Try.call99 rfl) rfl rfl rfl (l26Way_ok _ _ _ _ _ _ _ _ _ (H.ext E) (by assumption) (K.ext E) (by assumption) (by assumption)) ?_
  rintro _ w1 ⟨e1, q12, m12, d12, rfl, G12⟩
  have z1 := e1.size
  have E := E.trans e1
  refine ov (xmove rfl) rfl rfl rfl ?_
  refine ov (xextract rfl rfl) rfl rfl rfl ?_
  refine ov (xextract rfl rfl) rfl rfl rfl ?_
  refine ov (xassign rfl) rfl rfl rfl ?_
  refine ov (xassign rfl) rfl rfl rfl ?_
  refine ops_nil ?_
  refine run_seq ?_
  refine run_region ?_
  refine obuild (cs := []) (sz := 1) Try.underlying31 inf2 rfl rfl (by decide) rfl rfl (by simp [Value.cells]) rfl rfl rfl ?_
  intro b2 w2 e2 hb2 hz2 O2
  have E := E.trans e2
  replace G12 := G12.ext e2
  have G2 : Ow i64c 1 2 w2 b2 (b2 + 1) (some ⟨b2, 0, none⟩) 0 0 ([] : List Int) := Own.ow (by simpa [i64c] using O2) rfl (by omega) (Nat.le_refl _) (by omega) (by intro x hx; rfl)
  refine ov (xassign rfl) rfl rfl rfl ?_
  refine ops_nil ?_
  refine run_seq ?_
  refine run_seq ?_
  refine run_region ?_
  refine ov (xassign rfl) rfl rfl rfl ?_
  refine ops_nil ?_
  refine run_block ?_
  refine run_loop (ι := Nat × Option Addr × Nat × Nat × List Int × World) (fun x_ => match x_ with | (k, q_7, m_7, c_7, ys_7, wr) => (Ext w wr) ∧ (Ow i64c 1 2 wr w.heap.size w1.heap.size q12 m12 d12 (wayF xs az).1) ∧ (Ow i64c 1 2 wr b2 wr.heap.size q_7 m_7 c_7 ys_7) ∧ (b2 ≤ wr.heap.size) ∧ (w2.heap.size ≤ wr.heap.size) ∧ (k ≤ n2) ∧ (m_7 = k) ∧ (ys_7 = (tidyL (wayF xs az).1 az).take k)) (fun x_ => match x_ with | (k, q_7, m_7, c_7, ys_7, wr) => [(1, .slice p2 n2 c2), (5, .slice q12 m12 d12), (7, .slice q_7 m_7 c_7), (8, .int .i64 (k : Int))]) (fun x_ => match x_ with | (k, q_7, m_7, c_7, ys_7, wr) => wr) (fun x_ => match x_ with | (k, q_7, m_7, c_7, ys_7, wr) => n2 - k) ?_ (0, (some ⟨b2, 0, none⟩), 0, 0, [], w2) (⟨E, G12, G2.wide (by omega) (by omega), by omega, Nat.le_refl _, by omega, rfl, rfl⟩) ⟨rfl, rfl, rfl, rfl, trivial⟩ rfl
  intro i_ hI_ hback4
  obtain ⟨k, q_7, m_7, c_7, ys_7, wr⟩ := i_
  obtain ⟨E, G12, G_7, lo_7, lz_wr, hkn, hm, hy⟩ := hI_
  try dsimp only
  have zr := E.size
  have lg_7 := G_7.len
  refine run_seq ?_
  refine run_seq ?_
  refine run_region ?_
  refine ov (xmove rfl) rfl rfl rfl ?_
  refine ov (xmove rfl) rfl rfl rfl ?_
  refine ov (xlen Try.underlying31 rfl) rfl rfl rfl ?_
  refine ov (xlss rfl rfl _ rfl) rfl rfl rfl ?_
  refine ods (fun c19 => ?_) (fun c19 => ?_)
  ·
    refine ops_nil ?_
    refine run_cond_t rfl ?_
    refine run_skip ?_
    refine run_seq ?_
    refine run_block ?_
    refine run_seq ?_
    refine run_region ?_
    refine ov (xmove rfl) rfl rfl rfl ?_
    refine ov (xmove rfl) rfl rfl rfl ?_
    refine oc (xcall Try.call129 rfl) rfl rfl rfl (l01Has_ok _ _ _ _ ((k : Int)) _ (G12.sl)) ?_
    rintro _ w3 ⟨rfl, e3⟩
    have z3 := e3.size
    have E := E.trans e3
    replace G_7 := G_7.ext e3
    replace G12 := G12.ext e3
    refine obs (fun c24 => ?_) (fun c24 => ?_)
    ·
      refine ops_nil ?_
      refine run_cond_t rfl ?_
      refine run_region ?_
      refine ov (xmove rfl) rfl rfl rfl ?_
      refine ov (xmove rfl) rfl rfl rfl ?_
      refine ov (xmove rfl) rfl rfl rfl ?_
      have h28 := (K.ext E).at (i := k) (by omega)
      refine ov (xindexN (i := k) Try.underlying31 Try.sizeOf2 rfl rfl rfl ((K.ext E).p (i := k) (by omega)) (by have := (K.ext E).len; omega)) rfl rfl rfl ?_
      refine ov (v := .int .i64 az[k]) (xloadz Try.isAgg2 rfl (h28) rfl) rfl rfl rfl ?_
      refine obuild (cs := [.int .i64 az[k]]) (sz := 1) Try.underlying31 inf2 rfl rfl (by decide) rfl rfl (by simp [Value.cells]) rfl rfl rfl ?_
      intro b4 w4 e4 hb4 hz4 O4
      have E := E.trans e4
      replace G_7 := G_7.ext e4
      replace G12 := G12.ext e4
      refine oapp (bytes := 8) (nm := (m_7 + 1)) G_7 rfl rfl elem2 (Own.sl1 (y := az[k]) O4) (by intro h; cases h) (by intro y hy; rfl) (by intro y hy u hu; rw [List.mem_singleton] at hy; subst hy; revert u; simp [Value.oneCell', i64c]) (by omega) (by omega) (by omega) (by omega) rfl rfl ?_
      intro p5 c5_ w5 m5 G5
      have hz5 := m5.size
      have E := m5.toExt E (by omega)
      replace G12 := G12.off m5 (by omega)
      try replace O4 := m5.own O4 (by omega)
      refine ov (xassign rfl) rfl rfl rfl ?_
      refine ops_nil ?_
      refine run_inBlock ?_
      refine run_region ?_
      refine ov (xmove rfl) rfl rfl rfl ?_
      refine ov (xadd rfl rfl (by unfold I64; omega)) rfl rfl rfl ?_
      refine ov (xassign rfl) rfl rfl rfl ?_
      refine ops_nil ?_
      refine run_sub ?_ (hback4 (k + 1, p5, (m_7 + 1), c5_, ys_7 ++ [az[k]], w5) (⟨E, G12, G5.wide (by omega) (by omega), by omega, by omega, by omega, by omega, tidy_push hy (by omega) (by rw [tdF, c24]; rfl)⟩) (by first | omega | (dsimp only; omega)))
      exact ⟨rfl, rfl, rfl, rfl, trivial⟩
    ·
      refine ops_nil ?_
      refine run_cond_f rfl ?_
      refine run_region ?_
      refine ov (xmove rfl) rfl rfl rfl ?_
      refine obuild (cs := [.int .i64 (-1)]) (sz := 1) Try.underlying31 inf2 rfl rfl (by decide) rfl rfl (by simp [Value.cells]) rfl rfl rfl ?_
      intro b4 w4 e4 hb4 hz4 O4
      have E := E.trans e4
      replace G_7 := G_7.ext e4
      replace G12 := G12.ext e4
      refine oapp (bytes := 8) (nm := (m_7 + 1)) G_7 rfl rfl elem2 (Own.sl1 (y := (-1)) O4) (by intro h; cases h) (by intro y hy; rfl) (by intro y hy u hu; rw [List.mem_singleton] at hy; subst hy; revert u; simp [Value.oneCell', i64c]) (by omega) (by omega) (by omega) (by omega) rfl rfl ?_
      intro p5 c5_ w5 m5 G5
      have hz5 := m5.size
      have E := m5.toExt E (by omega)
      replace G12 := G12.off m5 (by omega)
      try replace O4 := m5.own O4 (by omega)
      refine ov (xassign rfl) rfl rfl rfl ?_
      refine ops_nil ?_
      refine run_inBlock ?_
      refine run_region ?_
      refine ov (xmove rfl) rfl rfl rfl ?_
      refine ov (xadd rfl rfl (by unfold I64; omega)) rfl rfl rfl ?_
      refine ov (xassign rfl) rfl rfl rfl ?_
      refine ops_nil ?_
      refine run_sub ?_ (hback4 (k + 1, p5, (m_7 + 1), c5_, ys_7 ++ [-1], w5) (⟨E, G12, G5.wide (by omega) (by omega), by omega, by omega, by omega, by omega, tidy_push hy (by omega) (by rw [tdF, c24]; rfl)⟩) (by first | omega | (dsimp only; omega)))
      exact ⟨rfl, rfl, rfl, rfl, trivial⟩
  ·
    refine ops_nil ?_
    refine run_cond_f rfl ?_
    refine run_exit rfl ?_
    refine run_seq ?_
    refine run_region ?_
    refine ov (xmove rfl) rfl rfl rfl ?_
    refine ov (xassign rfl) rfl rfl rfl ?_
    refine ops_nil ?_
    refine run_ret Try.func111 (res1 rfl rfl) ?_
    obtain rfl : k = n2 := by omega
    exact ⟨_, rfl, E, _, _, _, rfl, by rw [hy, List.take_of_length_le (by rw [tidyL_length]; omega)] at G_7; exact G_7.wide (by omega) (by omega)⟩

set_option maxHeartbeats 400000 in
theorem IsTidy_ok (p : Option Addr) (n c : Nat) (xs : List Question) (p2 : Option Addr) (n2 c2 : Nat) (az : List Int) (w : World) (H : Sl Question.cells 3 w p n c xs) (hx : ∀ x ∈ xs, x.Label.size ≤ 9223372036854775807) (K : Sl i64c 1 w p2 n2 c2 az) (hk : p2 = none → c2 = 0) : Ret Try.prog 49 [.slice p n c, .slice p2 n2 c2] w (Pv w (.tuple #[.bool (isTidy xs az).1, .int .i64 (isTidy xs az).2])) := by
  refine ret_of_run (N := 30) Try.func49 rfl rfl rfl ?_
  have hn := H.len
  have hn6 := H.n64
  have hn2 := K.len
  have hk6 := K.n64
  have hwl := wayG_le xs az xs.length 0
  have hwl2 : (wayF xs az).2 ≤ 0 := hwl
  have E : Ext w w := Ext.refl w
  refine run_seq ?_
  refine run_region ?_
  refine ov (xassign rfl) rfl rfl rfl ?_
  refine ov (xassign rfl) rfl rfl rfl ?_
  refine ops_nil ?_
  refine run_seq ?_
  refine run_seq ?_
  refine run_region ?_
  refine ov (xmove rfl) rfl rfl rfl ?_
  refine ov (xmove rfl) rfl rfl rfl ?_
  refine oc (xcall Try.call100 rfl) rfl rfl rfl (formCode_ok _ _ _ _ _ _ _ _ _ (H.ext E) (by assumption) (K.ext E)) ?_
  rintro _ w1 ⟨rfl, e1⟩
  have z1 := e1.size
  have E := E.trans e1
  refine ov (xassign rfl) rfl rfl rfl ?_
  refine ops_nil ?_
  refine run_seq ?_
  refine run_region ?_
  refine ov (xmove rfl) rfl rfl rfl ?_
  refine ov (xneq rfl rfl _ rfl) rfl rfl rfl ?_
  refine ods (fun c13 => ?_) (fun c13 => ?_)
  ·
    refine ops_nil ?_
    refine run_cond_t rfl ?_
    refine run_seq ?_
    refine run_region ?_
    refine ov (xmove rfl) rfl rfl rfl ?_
    refine ov (xassign rfl) rfl rfl rfl ?_
    refine ov (xassign rfl) rfl rfl rfl ?_
    refine ops_nil ?_
    refine run_ret Try.func49 (res2 rfl rfl rfl) ?_
    have he : isTidy xs az = (false, (formCode xs az)) := by unfold isTidy; (repeat' split) <;> first | rfl | (exfalso; omega) | (exfalso; simp_all; done)
    exact ⟨_, rfl, by rw [he], E⟩
  ·
    refine ops_nil ?_
    refine run_cond_f rfl ?_
    refine run_skip ?_
    refine run_seq ?_
    refine run_region ?_
    refine ov (xmove rfl) rfl rfl rfl ?_
    refine ov (xmove rfl) rfl rfl rfl ?_
    obtain ⟨hf, hA⟩ := formCode_zero (by omega : formCode xs az = 0)
    refine oc (xcall Try.call101 rfl) rfl rfl rfl (wayOf_ok _ _ _ _ _ _ _ _ _ (H.ext E) (by assumption) (K.ext E) (by assumption) (by assumption)) ?_
    rintro _ w2 ⟨e2, q18, m18, d18, rfl, G18⟩
    have z2 := e2.size
    have E := E.trans e2
    refine ov (xmove rfl) rfl rfl rfl ?_
    refine ov (xextract rfl rfl) rfl rfl rfl ?_
    refine ov (xextract rfl rfl) rfl rfl rfl ?_
    refine ov (xassign rfl) rfl rfl rfl ?_
    refine ov (xassign rfl) rfl rfl rfl ?_
    refine ops_nil ?_
    refine run_seq ?_
    refine run_region ?_
    refine ov (xmove rfl) rfl rfl rfl ?_
    refine ov (xneq rfl rfl _ rfl) rfl rfl rfl ?_
    refine ods (fun c22 => ?_) (fun c22 => ?_)
    ·
      refine ov (xmove rfl) rfl rfl rfl ?_
      refine ov (xmove rfl) rfl rfl rfl ?_
      refine ov (xmove rfl) rfl rfl rfl ?_
      refine oc (xcall Try.call113 rfl) rfl rfl rfl (tidy_ok _ _ _ _ _ _ _ _ _ (H.ext E) (by assumption) (K.ext E) (by assumption) (by assumption) hk) ?_
      rintro _ w3 ⟨e3, q26, m26, d26, rfl, G26⟩
      have z3 := e3.size
      have E := E.trans e3
      replace G18 := G18.ext e3
      refine ov (xmove rfl) rfl rfl rfl ?_
      refine oc (xcall Try.call112 rfl) rfl rfl rfl (sameI_ok _ _ _ _ _ _ _ _ _ (G26.sl) (K.ext E)) ?_
      rintro _ w4 ⟨rfl, e4⟩
      have z4 := e4.size
      have E := E.trans e4
      replace G18 := G18.ext e4
      replace G26 := G26.ext e4
      refine ov (xpick_t rfl rfl) rfl rfl rfl ?_
      refine ov (xassign rfl) rfl rfl rfl ?_
      refine ov (xassign rfl) rfl rfl rfl ?_
      refine ops_nil ?_
      refine run_ret Try.func49 (res2 rfl rfl rfl) ?_
      have he : isTidy xs az = ((eqL eqI (tidyL (wayF xs az).1 az) az), 0) := by unfold isTidy; (repeat' split) <;> first | rfl | (exfalso; omega) | (exfalso; simp_all; done)
      exact ⟨_, rfl, by rw [he], E⟩
    ·
      refine ov (xmove rfl) rfl rfl rfl ?_
      refine og rfl rfl rfl ?_
      refine og rfl rfl rfl ?_
      refine og rfl rfl rfl ?_
      refine og rfl rfl rfl ?_
      refine og rfl rfl rfl ?_
      refine ov (xpick_f rfl rfl) rfl rfl rfl ?_
      refine ov (xassign rfl) rfl rfl rfl ?_
      refine ov (xassign rfl) rfl rfl rfl ?_
      refine ops_nil ?_
      refine run_ret Try.func49 (res2 rfl rfl rfl) ?_
      have he : isTidy xs az = (false, 0) := by unfold isTidy; (repeat' split) <;> first | rfl | (exfalso; omega) | (exfalso; simp_all; done)
      exact ⟨_, rfl, by rw [he], E⟩

set_option maxHeartbeats 400000 in
theorem sIsTidy_ok (p : Option Addr) (n c : Nat) (xs : List Question) (p2 : Option Addr) (n2 c2 : Nat) (az : List Int) (w : World) (H : Sl Question.cells 3 w p n c xs) (hx : ∀ x ∈ xs, x.Label.size ≤ 9223372036854775807) (K : Sl i64c 1 w p2 n2 c2 az) : Ret Try.prog 48 [.slice p n c, .slice p2 n2 c2] w (Pv w (.tuple #[.bool (isTidy xs az).1, .int .i64 (isTidy xs az).2])) := by
  refine ret_of_run (N := 30) Try.func48 rfl rfl rfl ?_
  have hn := H.len
  have hn6 := H.n64
  have hn2 := K.len
  have hk6 := K.n64
  have hwl := wayG_le xs az xs.length 0
  have hwl2 : (wayF xs az).2 ≤ 0 := hwl
  have E : Ext w w := Ext.refl w
  refine run_seq ?_
  refine run_region ?_
  refine ov (xassign rfl) rfl rfl rfl ?_
  refine ov (xassign rfl) rfl rfl rfl ?_
  refine ops_nil ?_
  refine run_seq ?_
  refine run_region ?_
  refine ov (xmove rfl) rfl rfl rfl ?_
  refine ov (xmove rfl) rfl rfl rfl ?_
  refine oc (xcall Try.call98 rfl) rfl rfl rfl (l26Code_ok _ _ _ _ _ _ _ _ _ (H.ext E) (by assumption) (K.ext E)) ?_
  rintro _ w1 ⟨rfl, e1⟩
  have z1 := e1.size
  have E := E.trans e1
  refine ov (xassign rfl) rfl rfl rfl ?_
  refine ops_nil ?_
  refine run_seq ?_
  refine run_seq ?_
  refine run_region ?_
  refine ov (xmove rfl) rfl rfl rfl ?_
  refine ov (xneq rfl rfl _ rfl) rfl rfl rfl ?_
  refine ods (fun c13 => ?_) (fun c13 => ?_)
  ·
    refine ops_nil ?_
    refine run_cond_t rfl ?_
    refine run_seq ?_
    refine run_region ?_
    refine ov (xmove rfl) rfl rfl rfl ?_
    refine ov (xassign rfl) rfl rfl rfl ?_
    refine ov (xassign rfl) rfl rfl rfl ?_
    refine ops_nil ?_
    refine run_ret Try.func48 (res2 rfl rfl rfl) ?_
    have he : isTidy xs az = (false, (formCode xs az)) := by unfold isTidy; (repeat' split) <;> first | rfl | (exfalso; omega) | (exfalso; simp_all; done)
    exact ⟨_, rfl, by rw [he], E⟩
  ·
    refine ops_nil ?_
    refine run_cond_f rfl ?_
    refine run_skip ?_
    refine run_seq ?_
    refine run_region ?_
    refine ov (xmove rfl) rfl rfl rfl ?_
    refine ov (xmove rfl) rfl rfl rfl ?_
    obtain ⟨hf, hA⟩ := formCode_zero (by omega : formCode xs az = 0)
    refine oc (xcall Try.call99 rfl) rfl rfl rfl (l26Way_ok _ _ _ _ _ _ _ _ _ (H.ext E) (by assumption) (K.ext E) (by assumption) (by assumption)) ?_
    rintro _ w2 ⟨e2, q18, m18, d18, rfl, G18⟩
    have z2 := e2.size
    have E := E.trans e2
    refine ov (xmove rfl) rfl rfl rfl ?_
    refine ov (xextract rfl rfl) rfl rfl rfl ?_
    refine ov (xextract rfl rfl) rfl rfl rfl ?_
    refine ov (xassign rfl) rfl rfl rfl ?_
    refine ov (xassign rfl) rfl rfl rfl ?_
    refine ops_nil ?_
    refine run_seq ?_
    refine run_region ?_
    refine ov (xmove rfl) rfl rfl rfl ?_
    refine ov (xlss rfl rfl _ rfl) rfl rfl rfl ?_
    refine ods (fun c22 => ?_) (fun c22 => ?_)
    ·
      refine ov (xmove rfl) rfl rfl rfl ?_
      refine ov (xmove rfl) rfl rfl rfl ?_
      refine ov (xmove rfl) rfl rfl rfl ?_
      refine oc (xcall Try.call111 rfl) rfl rfl rfl (l26Tidy_ok _ _ _ _ _ _ _ _ _ (H.ext E) (by assumption) (K.ext E) (by assumption) (by assumption)) ?_
      rintro _ w3 ⟨e3, q26, m26, d26, rfl, G26⟩
      have z3 := e3.size
      have E := E.trans e3
      replace G18 := G18.ext e3
      refine ov (xmove rfl) rfl rfl rfl ?_
      refine oc (xcall Try.call110 rfl) rfl rfl rfl (l01Same_ok _ _ _ _ _ _ _ _ _ (G26.sl) (K.ext E)) ?_
      rintro _ w4 ⟨rfl, e4⟩
      have z4 := e4.size
      have E := E.trans e4
      replace G18 := G18.ext e4
      replace G26 := G26.ext e4
      refine ov (xpick_t rfl rfl) rfl rfl rfl ?_
      refine ov (xassign rfl) rfl rfl rfl ?_
      refine ov (xassign rfl) rfl rfl rfl ?_
      refine ops_nil ?_
      refine run_ret Try.func48 (res2 rfl rfl rfl) ?_
      have he : isTidy xs az = ((eqL eqI (tidyL (wayF xs az).1 az) az), 0) := by unfold isTidy; (repeat' split) <;> first | rfl | (exfalso; omega) | (exfalso; simp_all; done)
      exact ⟨_, rfl, by rw [he], E⟩
    ·
      refine ov (xmove rfl) rfl rfl rfl ?_
      refine og rfl rfl rfl ?_
      refine og rfl rfl rfl ?_
      refine og rfl rfl rfl ?_
      refine og rfl rfl rfl ?_
      refine og rfl rfl rfl ?_
      refine ov (xpick_f rfl rfl) rfl rfl rfl ?_
      refine ov (xassign rfl) rfl rfl rfl ?_
      refine ov (xassign rfl) rfl rfl rfl ?_
      refine ops_nil ?_
      refine run_ret Try.func48 (res2 rfl rfl rfl) ?_
      have he : isTidy xs az = (false, 0) := by unfold isTidy; (repeat' split) <;> first | rfl | (exfalso; omega) | (exfalso; simp_all; done)
      exact ⟨_, rfl, by rw [he], E⟩

set_option maxHeartbeats 400000 in
theorem TidyAnswers_ok (p : Option Addr) (n c : Nat) (xs : List Question) (p2 : Option Addr) (n2 c2 : Nat) (az : List Int) (w : World) (H : Sl Question.cells 3 w p n c xs) (hx : ∀ x ∈ xs, x.Label.size ≤ 9223372036854775807) (K : Sl i64c 1 w p2 n2 c2 az) (hk : p2 = none → c2 = 0) : Ret Try.prog 53 [.slice p n c, .slice p2 n2 c2] w (fun v w' => Ext w w' ∧ ∃ q m d, v = .tuple #[.slice q m d, .int .i64 (tidyAnswers xs az).2] ∧ Ow i64c 1 2 w' w.heap.size w'.heap.size q m d (tidyAnswers xs az).1) := by
  refine ret_of_run (N := 20) Try.func53 rfl rfl rfl ?_
  have hn := H.len
  have hn6 := H.n64
  have hn2 := K.len
  have hk6 := K.n64
  have E : Ext w w := Ext.refl w
  refine run_seq ?_
  refine run_region ?_
  refine ov (xassign rfl) rfl rfl rfl ?_
  refine ov (xassign rfl) rfl rfl rfl ?_
  refine ops_nil ?_
  refine run_seq ?_
  refine run_seq ?_
  refine run_region ?_
  refine ov (xmove rfl) rfl rfl rfl ?_
  refine ov (xmove rfl) rfl rfl rfl ?_
  refine oc (xcall Try.call34 rfl) rfl rfl rfl (VerdictOf_ok _ _ _ _ _ _ _ _ _ (H.ext E) (by assumption) (K.ext E)) ?_
  rintro _ w1 ⟨rfl, e1⟩
  have z1 := e1.size
  have E := E.trans e1
  refine ov (xmove rfl) rfl rfl rfl ?_
  refine ov (xextract rfl rfl) rfl rfl rfl ?_
  refine ov (xextract rfl rfl) rfl rfl rfl ?_
  refine ov (xassign rfl) rfl rfl rfl ?_
  refine ov (xassign rfl) rfl rfl rfl ?_
  refine ops_nil ?_
  refine run_seq ?_
  refine run_region ?_
  refine ov (xmove rfl) rfl rfl rfl ?_
  refine ov (xneq rfl rfl _ rfl) rfl rfl rfl ?_
  refine ods (fun c15 => ?_) (fun c15 => ?_)
  ·
    refine ops_nil ?_
    refine run_cond_t rfl ?_
    refine run_seq ?_
    refine run_region ?_
    refine ov (xmove rfl) rfl rfl rfl ?_
    refine ov (xassign rfl) rfl rfl rfl ?_
    refine ov (xassign rfl) rfl rfl rfl ?_
    refine ops_nil ?_
    refine run_ret Try.func53 (res2 rfl rfl rfl) ?_
    have he : tidyAnswers xs az = ([], (verdictOf xs az).2) := by unfold tidyAnswers; (repeat' split) <;> first | rfl | (exfalso; omega)
    exact ⟨_, rfl, E, none, 0, 0, by rw [he], by rw [he]; exact Ow.none _ _ _ _ _ _⟩
  ·
    refine ops_nil ?_
    refine run_cond_f rfl ?_
    refine run_skip ?_
    refine run_seq ?_
    refine run_region ?_
    refine ov (xmove rfl) rfl rfl rfl ?_
    refine ov (xmove rfl) rfl rfl rfl ?_
    obtain ⟨hf, hA⟩ := formCode_zero (verdictOf_code (by omega : (verdictOf xs az).2 = 0))
    refine oc (xcall Try.call113 rfl) rfl rfl rfl (tidy_ok _ _ _ _ _ _ _ _ _ (H.ext E) (by assumption) (K.ext E) (by assumption) (by assumption) hk) ?_
    rintro _ w2 ⟨e2, q19, m19, d19, rfl, G19⟩
    have z2 := e2.size
    have E := E.trans e2
    refine ov (xassign rfl) rfl rfl rfl ?_
    refine ov (xassign rfl) rfl rfl rfl ?_
    refine ops_nil ?_
    refine run_ret Try.func53 (res2 rfl rfl rfl) ?_
    have he : tidyAnswers xs az = (tidyL (wayF xs az).1 az, 0) := by unfold tidyAnswers; (repeat' split) <;> first | rfl | (exfalso; omega)
    exact ⟨_, rfl, E, _, _, _, by rw [he], by rw [he]; exact G19.wide (by omega) (by omega)⟩

set_option maxHeartbeats 400000 in
theorem sTidyAnswers_ok (p : Option Addr) (n c : Nat) (xs : List Question) (p2 : Option Addr) (n2 c2 : Nat) (az : List Int) (w : World) (H : Sl Question.cells 3 w p n c xs) (hx : ∀ x ∈ xs, x.Label.size ≤ 9223372036854775807) (K : Sl i64c 1 w p2 n2 c2 az) : Ret Try.prog 52 [.slice p n c, .slice p2 n2 c2] w (fun v w' => Ext w w' ∧ ∃ q m d, v = .tuple #[.slice q m d, .int .i64 (tidyAnswers xs az).2] ∧ Ow i64c 1 2 w' w.heap.size w'.heap.size q m d (tidyAnswers xs az).1) := by
  refine ret_of_run (N := 20) Try.func52 rfl rfl rfl ?_
  have hn := H.len
  have hn6 := H.n64
  have hn2 := K.len
  have hk6 := K.n64
  have E : Ext w w := Ext.refl w
  refine run_seq ?_
  refine run_region ?_
  refine ov (xassign rfl) rfl rfl rfl ?_
  refine ov (xassign rfl) rfl rfl rfl ?_
  refine ops_nil ?_
  refine run_seq ?_
  refine run_region ?_
  refine ov (xmove rfl) rfl rfl rfl ?_
  refine ov (xmove rfl) rfl rfl rfl ?_
  refine oc (xcall Try.call32 rfl) rfl rfl rfl (sVerdictOf_ok _ _ _ _ _ _ _ _ _ (H.ext E) (by assumption) (K.ext E)) ?_
  rintro _ w1 ⟨rfl, e1⟩
  have z1 := e1.size
  have E := E.trans e1
  refine ov (xmove rfl) rfl rfl rfl ?_
  refine ov (xextract rfl rfl) rfl rfl rfl ?_
  refine ov (xextract rfl rfl) rfl rfl rfl ?_
  refine ov (xassign rfl) rfl rfl rfl ?_
  refine ov (xassign rfl) rfl rfl rfl ?_
  refine ops_nil ?_
  refine run_seq ?_
  refine run_seq ?_
  refine run_region ?_
  refine ov (xmove rfl) rfl rfl rfl ?_
  refine ov (xneq rfl rfl _ rfl) rfl rfl rfl ?_
  refine ods (fun c15 => ?_) (fun c15 => ?_)
  ·
    refine ops_nil ?_
    refine run_cond_t rfl ?_
    refine run_seq ?_
    refine run_region ?_
    refine ov (xmove rfl) rfl rfl rfl ?_
    refine ov (xassign rfl) rfl rfl rfl ?_
    refine ov (xassign rfl) rfl rfl rfl ?_
    refine ops_nil ?_
    refine run_ret Try.func52 (res2 rfl rfl rfl) ?_
    have he : tidyAnswers xs az = ([], (verdictOf xs az).2) := by unfold tidyAnswers; (repeat' split) <;> first | rfl | (exfalso; omega)
    exact ⟨_, rfl, E, none, 0, 0, by rw [he], by rw [he]; exact Ow.none _ _ _ _ _ _⟩
  ·
    refine ops_nil ?_
    refine run_cond_f rfl ?_
    refine run_skip ?_
    refine run_seq ?_
    refine run_region ?_
    refine ov (xmove rfl) rfl rfl rfl ?_
    refine ov (xmove rfl) rfl rfl rfl ?_
    obtain ⟨hf, hA⟩ := formCode_zero (verdictOf_code (by omega : (verdictOf xs az).2 = 0))
    refine oc (xcall Try.call111 rfl) rfl rfl rfl (l26Tidy_ok _ _ _ _ _ _ _ _ _ (H.ext E) (by assumption) (K.ext E) (by assumption) (by assumption)) ?_
    rintro _ w2 ⟨e2, q19, m19, d19, rfl, G19⟩
    have z2 := e2.size
    have E := E.trans e2
    refine ov (xassign rfl) rfl rfl rfl ?_
    refine ov (xassign rfl) rfl rfl rfl ?_
    refine ops_nil ?_
    refine run_ret Try.func52 (res2 rfl rfl rfl) ?_
    have he : tidyAnswers xs az = (tidyL (wayF xs az).1 az, 0) := by unfold tidyAnswers; (repeat' split) <;> first | rfl | (exfalso; omega)
    exact ⟨_, rfl, E, _, _, _, by rw [he], by rw [he]; exact G19.wide (by omega) (by omega)⟩
end Go.Proofs.Ytinpkihmkfiidaa
