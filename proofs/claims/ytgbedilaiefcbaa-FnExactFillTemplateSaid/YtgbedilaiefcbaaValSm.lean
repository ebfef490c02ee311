/-
  The bulk of a slice of values bounds its texts. No condition beyond those written in each theorem.
-/
import Derived.Test.YtgbedilaiefcbaaTVal
namespace Go.Proofs.Ytgbedilaiefcbaa
open Go.RowKit
set_option linter.unusedVariables false
set_option linter.unusedSimpArgs false
set_option linter.unusedSectionVars false
set_option maxRecDepth 4000

theorem goVal_small : ∀ (xs : List Val) (L : Int), L ≤ 1048576 → 0 ≤ goS szVal xs L → ∀ x ∈ xs, x.Text.size ≤ 1048576
  | [], _, _, _, _, hx => by cases hx
  | y :: r, L, hL, h, x, hx => by
    unfold goS at h
    by_cases h1 : szVal y L < 0
    · rw [if_pos h1] at h; omega
    · rw [if_neg h1] at h
      have h2 : szVal y L ≤ L ∧ y.Text.size ≤ L := by
        unfold szVal bnd sub1 at h1 ⊢
        simp only at h1 ⊢
        repeat' split at h1
        all_goals (repeat' split)
        all_goals omega
      rcases List.mem_cons.1 hx with e | e
      · subst e; omega
      · exact goVal_small r _ (by omega) h x e
theorem szVal_small {xs : List Val} {L : Int} (hL : L ≤ 1048576) (h : 0 ≤ szS szVal xs L) : ∀ (i : Nat) (hi : i < xs.length), xs[i].Text.size ≤ 1048576 := by
  intro i hi
  unfold szS at h
  split at h
  · omega
  · exact goVal_small xs _ (by omega) h _ (List.getElem_mem hi)
end Go.Proofs.Ytgbedilaiefcbaa
