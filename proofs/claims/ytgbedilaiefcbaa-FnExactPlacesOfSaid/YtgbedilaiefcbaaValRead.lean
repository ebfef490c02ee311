/-
  How values read. No condition.
-/
import Derived.Test.YtgbedilaiefcbaaTVal
import Derived.Test.YtgbedilaiefcbaaClose
import Derived.Test.YtgbedilaiefcbaaLists
import Derived.Test.YtgbedilaiefcbaaRows
namespace Go.Proofs.Ytgbedilaiefcbaa
open Go.RowKit
set_option linter.unusedVariables false
set_option linter.unusedSimpArgs false
set_option linter.unusedSectionVars false
set_option maxRecDepth 4000


instance : Inhabited Val := ⟨⟨⟨#[]⟩, ⟨#[]⟩⟩⟩
theorem reads_Val : Reads Try.prog 33 Val.cells Val.ok := by
  intro H enc w base spare held fuel cs x h
  obtain ⟨xs, m, _, _, hl, hn, hel⟩ := DataW.trod_struct Try.underlying33 h
  have hl' : cs.length = 2 := by rw [hl]; kernel_rfl
  match cs, hl' with
  | [c0, c1], _ => ?_
  have g0 := hel 0 _ rfl
  obtain ⟨y0, hy0⟩ : ∃ y, xs[0]? = some y := ⟨_, List.getElem?_eq_getElem (by rw [hn]; decide)⟩
  rw [hy0] at g0
  obtain ⟨x0, e0, o0⟩ := reads_string Try.underlying9 g0
  have g1 := hel 1 _ rfl
  obtain ⟨y1, hy1⟩ : ∃ y, xs[1]? = some y := ⟨_, List.getElem?_eq_getElem (by rw [hn]; decide)⟩
  rw [hy1] at g1
  obtain ⟨x1, e1, o1⟩ := reads_string Try.underlying9 g1
  simp [Program.cellsOf, inf9, Try.t9] at e0 e1
  exact ⟨⟨x0, x1⟩, by simp [Val.cells, e0, e1], ⟨o0, o1⟩⟩

end Go.Proofs.Ytgbedilaiefcbaa
