/-
  How many names a template has, in plain words. No condition beyond those written in each theorem.
-/
import Derived.Test.YtgbedilaiefcbaaPlacF
namespace Go.Proofs.Ytgbedilaiefcbaa
open Go.RowKit
set_option linter.unusedVariables false
set_option linter.unusedSimpArgs false
set_option linter.unusedSectionVars false
set_option maxRecDepth 4000

theorem namesOf_len {f : TP → List ByteArray} {s : ByteArray} {B : Nat} (h : (((rtI s).getD []).flatMap f).length ≤ B) : (namesOf f s).1.length ≤ B := by
  rw [namesOf]
  cases e : rtI s with
  | none => exact Nat.zero_le _
  | some l =>
    rw [e, Option.getD_some] at h
    exact Nat.le_trans (srtS_len _) h
theorem names_len (s : ByteArray) : (placesOf s).1.length ≤ 2882400 ∧ (sectionsOf s).1.length ≤ 2400 := by
  refine ⟨namesOf_len (stepP_len _ (rtI_TB s)), namesOf_len ?_⟩
  have := flat_len (B := 1) (l := (rtI s).getD []) (f := sectN) fun z _ => by unfold sectN; split <;> simp
  have h2 := (rtI_TB s).1
  omega
end Go.Proofs.Ytgbedilaiefcbaa
