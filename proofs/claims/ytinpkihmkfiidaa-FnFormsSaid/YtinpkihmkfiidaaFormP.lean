/-
  Complete answers have one verdict, and tidying keeps it, in plain words. No condition beyond those written in each theorem.
-/
import Derived.Test.YtinpkihmkfiidaaPolls2
namespace Go.Proofs.Ytinpkihmkfiidaa
open Go.RowKit
set_option linter.unusedVariables false
set_option linter.unusedSimpArgs false
set_option linter.unusedSectionVars false
set_option maxRecDepth 4000

theorem wayG_agree {xs : List Question} {az t : List Int} (hl : t.length = az.length) : ∀ (f i : Nat), (∀ q ∈ (wayG xs az f i).1, t[q.toNat]? = az[q.toNat]?) → wayG xs t f i = wayG xs az f i
  | 0, _, _ => rfl
  | f + 1, i, h => by
    unfold wayG at h ⊢
    cases ha : az[i]? with
    | none =>
      have : t[i]? = none := by rw [List.getElem?_eq_none_iff] at ha ⊢; omega
      rw [this]
    | some a =>
      cases hq : xs[i]? with
      | none => cases t[i]? <;> rfl
      | some q =>
        rw [ha, hq] at h
        simp only at h
        have hi : t[i]? = some a := by
          have h1 := h (i : Int) (by split <;> (try split) <;> simp)
          simpa [ha] using h1
        rw [hi]
        simp only
        by_cases h1 : a < 0
        · rw [if_pos h1, if_pos h1]
        · rw [if_neg h1] at h
          rw [if_neg h1, if_neg h1]
          by_cases h2 : follows q a < 0
          · rw [if_pos h2, if_pos h2]
          · rw [if_neg h2] at h
            rw [if_neg h2, if_neg h2, wayG_agree hl f _ (fun q m => h q (List.mem_cons_of_mem _ m))]
theorem tdF_idem (way : List Int) (a i : Int) : tdF way (tdF way a i) i = tdF way a i := by
  unfold tdF; split <;> rfl
theorem tidyL_idem (way az : List Int) : tidyL way (tidyL way az) = tidyL way az := by
  apply List.ext_getElem (by rw [tidyL_length])
  intro i h1 h2
  rw [tidyL_at (by simpa using h2), tidyL_at (by simpa [tidyL_length] using h2), tdF_idem]
theorem areAns_tidy {xs : List Question} {way az : List Int} (h : areAns xs az = true) : areAns xs (tidyL way az) = true := by
  simp only [areAns, Bool.and_eq_true, decide_eq_true_eq]
  refine ⟨allB_iff.2 fun i hi => ?_, by rw [tidyL_length]; exact areAns_len h⟩
  rw [tidyL_length] at hi
  rw [allI_of (by rw [tidyL_length]; exact hi), tidyL_at hi, inR_iff, tdF]
  have := areAns_at h hi
  split <;> omega
theorem wayF_tidy {xs : List Question} {az : List Int} (hf : isForm xs = true) (hA : areAns xs az = true) : wayF xs (tidyL (wayF xs az).1 az) = wayF xs az := by
  refine wayG_agree (tidyL_length _ _) _ _ fun q m => ?_
  have hm := wayG_mem hf xs.length 0 (by have := isForm_len hf; omega) q m
  have hq : q.toNat < az.length := by rw [areAns_len hA]; omega
  rw [List.getElem?_eq_getElem hq, List.getElem?_eq_getElem (by rw [tidyL_length]; exact hq), tidyL_at hq, tdF, if_pos (by rw [hasI_iff, show ((q.toNat : Nat) : Int) = q by omega]; exact m)]
theorem formCode_of {xs : List Question} {az : List Int} (hf : isForm xs = true) (hA : areAns xs az = true) : formCode xs az = 0 := by
  rw [formCode, if_neg (by simp [hf]), if_neg (by simp [hA])]
/-- tidying keeps the way and the verdict, and makes tidy -/
theorem tidy_keeps {xs : List Question} {az : List Int} (h : (verdictOf xs az).2 = 0) : (tidyAnswers xs az) = (tidyL (wayF xs az).1 az, 0) ∧ isTidy xs (tidyL (wayF xs az).1 az) = (true, 0) ∧ verdictOf xs (tidyL (wayF xs az).1 az) = verdictOf xs az ∧ wayOf xs (tidyL (wayF xs az).1 az) = wayOf xs az := by
  obtain ⟨hf, hA⟩ := formCode_zero (verdictOf_code h)
  have hA2 := areAns_tidy (way := (wayF xs az).1) hA
  have e1 := formCode_of hf hA
  have e2 := formCode_of hf hA2
  have e3 := wayF_tidy hf hA
  have e4 : (wayF xs az).2 ≠ 0 := by
    intro h4
    rw [verdictOf, if_neg (by simp [e1]), if_pos h4] at h; cases h
  refine ⟨by rw [tidyAnswers, if_neg (by simp [h])], ?_, ?_, ?_⟩
  · rw [isTidy, if_neg (by simp [e2]), e3, if_neg e4, tidyL_idem, eqL_refl eqI_refl]
  · rw [verdictOf, verdictOf, e3, e1, e2]
  · rw [wayOf, wayOf, e3, e1, e2]
theorem wayG_incr {xs : List Question} {az : List Int} (hf : isForm xs = true) : ∀ (f i : Nat), i < xs.length → (wayG xs az f i).1.Pairwise (· < ·) ∧ ∀ x ∈ (wayG xs az f i).1, (i : Int) ≤ x
  | 0, _, _ => by simp [wayG]
  | f + 1, i, hi => by
    unfold wayG
    split
    · rename_i a q ha hq
      have nx := isForm_next hf hi a
      have hq' : xs[i] = q := by rw [List.getElem?_eq_getElem hi] at hq; simpa using hq
      rw [hq'] at nx
      split
      · simp
      · split
        · simp
        · obtain ⟨h1, h2⟩ := wayG_incr hf (az := az) f (follows q a).toNat (by omega)
          refine ⟨List.Pairwise.cons (fun x m => ?_) h1, fun x m => ?_⟩
          · have := h2 x m; omega
          · rcases List.mem_cons.1 m with m | m
            · omega
            · have := h2 x m; omega
    · simp
theorem wayOf_incr (xs : List Question) (az : List Int) {k : Nat} (h : k < (wayOf xs az).1.length) (h1 : 1 ≤ k) : (wayOf xs az).1[k - 1] < (wayOf xs az).1[k] := by
  have key : (wayOf xs az).1.Pairwise (· < ·) := by
    unfold wayOf
    split
    · simp
    · rename_i h2
      have hf := (formCode_zero (by omega : formCode xs az = 0)).1
      exact (wayG_incr hf _ 0 (by have := isForm_len hf; omega)).1
  exact List.pairwise_iff_getElem.1 key (k - 1) k (by omega) h (by omega)
theorem tidyAnswers_code (xs : List Question) (az : List Int) : (tidyAnswers xs az).2 = (verdictOf xs az).2 := by
  unfold tidyAnswers; split
  · rfl
  · simp only; omega

end Go.Proofs.Ytinpkihmkfiidaa
