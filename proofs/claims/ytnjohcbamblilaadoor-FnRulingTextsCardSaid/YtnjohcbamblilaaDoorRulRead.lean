/-
  How rulings read. No condition.
-/
import Derived.Test.YtnjohcbamblilaaDoorRulings
import Derived.Test.YtnjohcbamblilaaDoorLists
import Derived.Test.YtnjohcbamblilaaDoorClose
namespace Go.Proofs.YtnjohcbamblilaaDoor
open Go.RowKit
set_option linter.unusedVariables false
set_option linter.unusedSimpArgs false
set_option linter.unusedSectionVars false
set_option maxRecDepth 4000


instance : Inhabited Ruling := ⟨⟨0, ⟨#[]⟩, 0⟩⟩
theorem reads_Ruling : Reads Tryd.prog 23 Ruling.cells Ruling.ok := by
  intro H enc w base spare held fuel cs x h
  obtain ⟨xs, m, _, _, hl, hn, hel⟩ := DataW.trod_struct Tryd.underlying23 h
  have hl' : cs.length = 3 := by rw [hl]; kernel_rfl
  match cs, hl' with
  | [c0, c1, c2], _ => ?_
  have g0 := hel 0 _ rfl
  obtain ⟨y0, hy0⟩ : ∃ y, xs[0]? = some y := ⟨_, List.getElem?_eq_getElem (by rw [hn]; decide)⟩
  rw [hy0] at g0
  obtain ⟨x0, e0, o0⟩ := reads_int Tryd.underlying2 g0
  have g1 := hel 1 _ rfl
  obtain ⟨y1, hy1⟩ : ∃ y, xs[1]? = some y := ⟨_, List.getElem?_eq_getElem (by rw [hn]; decide)⟩
  rw [hy1] at g1
  obtain ⟨x1, e1, o1⟩ := reads_string Tryd.underlying9 g1
  have g2 := hel 2 _ rfl
  obtain ⟨y2, hy2⟩ : ∃ y, xs[2]? = some y := ⟨_, List.getElem?_eq_getElem (by rw [hn]; decide)⟩
  rw [hy2] at g2
  obtain ⟨x2, e2, o2⟩ := reads_int Tryd.underlying2 g2
  simp [Program.cellsOf, inf2, Tryd.t2, inf9, Tryd.t9] at e0 e1 e2
  exact ⟨⟨x0, x1, x2⟩, by simp [Ruling.cells, e0, e1, e2], ⟨o0, o1, o2⟩⟩

end Go.Proofs.YtnjohcbamblilaaDoor
