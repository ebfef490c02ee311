/-
  What the reading of an exhibit gives. No condition beyond those written in each theorem.
-/
import Derived.Test.YtnjohcbamblilaaTExh
import Derived.Test.YtnjohcbamblilaaClose
import Derived.Test.YtnjohcbamblilaaRows
namespace Go.Proofs.Ytnjohcbamblilaa
open Go.RowKit
set_option linter.unusedVariables false
set_option linter.unusedSimpArgs false
set_option linter.unusedSectionVars false
set_option maxRecDepth 4000


instance : Inhabited Handing := ⟨⟨0, ⟨#[]⟩, ⟨#[]⟩, 0⟩⟩
theorem reads_Handing : Reads Try.prog 73 Handing.cells Handing.ok := by
  intro H enc w base spare held fuel cs x h
  obtain ⟨xs, m, _, _, hl, hn, hel⟩ := DataW.trod_struct Try.underlying73 h
  have hl' : cs.length = 4 := by rw [hl]; kernel_rfl
  match cs, hl' with
  | [c0, c1, c2, c3], _ => ?_
  have g0 := hel 0 _ rfl
  obtain ⟨y0, hy0⟩ : ∃ y, xs[0]? = some y := ⟨_, List.getElem?_eq_getElem (by rw [hn]; decide)⟩
  rw [hy0] at g0
  obtain ⟨x0, e0, o0⟩ := reads_int Try.underlying2 g0
  have g1 := hel 1 _ rfl
  obtain ⟨y1, hy1⟩ : ∃ y, xs[1]? = some y := ⟨_, List.getElem?_eq_getElem (by rw [hn]; decide)⟩
  rw [hy1] at g1
  obtain ⟨x1, e1, o1⟩ := reads_string Try.underlying9 g1
  have g2 := hel 2 _ rfl
  obtain ⟨y2, hy2⟩ : ∃ y, xs[2]? = some y := ⟨_, List.getElem?_eq_getElem (by rw [hn]; decide)⟩
  rw [hy2] at g2
  obtain ⟨x2, e2, o2⟩ := reads_string Try.underlying9 g2
  have g3 := hel 3 _ rfl
  obtain ⟨y3, hy3⟩ : ∃ y, xs[3]? = some y := ⟨_, List.getElem?_eq_getElem (by rw [hn]; decide)⟩
  rw [hy3] at g3
  obtain ⟨x3, e3, o3⟩ := reads_int Try.underlying2 g3
  simp [Program.cellsOf, inf2, Try.t2, inf9, Try.t9] at e0 e1 e2 e3
  exact ⟨⟨x0, x1, x2, x3⟩, by simp [Handing.cells, e0, e1, e2, e3], ⟨o0, o1, o2, o3⟩⟩



theorem open_Exhibit {H : Type} {enc : TypeId × Value → H} {w : World} {base : Nat} {spare : Nat → Bool} {held : Bool} {fuel : Nat} {cs : List Value} {x : DataW H × List MemPlace}
    (h : DataW.trod enc Try.prog w base spare held fuel 43 cs = some x) : ∃ (r : Exhibit), r.ok ∧ ∃ p_Chain n_Chain c_Chain, cs = [.string r.Code, .string r.Found, .int .i64 r.Day, .int .i64 r.Seal, .slice p_Chain n_Chain c_Chain] ∧ Sl Handing.cells 4 w p_Chain n_Chain c_Chain r.Chain := by
  obtain ⟨xs, m, _, _, hl, hn, hel⟩ := DataW.trod_struct Try.underlying43 h
  have hl' : cs.length = 5 := by rw [hl]; kernel_rfl
  match cs, hl' with
  | [c0, c1, c2, c3, c4], _ => ?_
  have g0 := hel 0 _ rfl
  obtain ⟨y0, hy0⟩ : ∃ y, xs[0]? = some y := ⟨_, List.getElem?_eq_getElem (by rw [hn]; decide)⟩
  rw [hy0] at g0
  obtain ⟨x0, e0, o0⟩ := reads_string Try.underlying9 g0
  have g1 := hel 1 _ rfl
  obtain ⟨y1, hy1⟩ : ∃ y, xs[1]? = some y := ⟨_, List.getElem?_eq_getElem (by rw [hn]; decide)⟩
  rw [hy1] at g1
  obtain ⟨x1, e1, o1⟩ := reads_string Try.underlying9 g1
  have g2 := hel 2 _ rfl
  obtain ⟨y2, hy2⟩ : ∃ y, xs[2]? = some y := ⟨_, List.getElem?_eq_getElem (by rw [hn]; decide)⟩
  rw [hy2] at g2
  obtain ⟨x2, e2, o2⟩ := reads_int Try.underlying2 g2
  have g3 := hel 3 _ rfl
  obtain ⟨y3, hy3⟩ : ∃ y, xs[3]? = some y := ⟨_, List.getElem?_eq_getElem (by rw [hn]; decide)⟩
  rw [hy3] at g3
  obtain ⟨x3, e3, o3⟩ := reads_int Try.underlying2 g3
  have g4 := hel 4 _ rfl
  obtain ⟨y4, hy4⟩ : ∃ y, xs[4]? = some y := ⟨_, List.getElem?_eq_getElem (by rw [hn]; decide)⟩
  rw [hy4] at g4
  obtain ⟨p4, n4, k4, x4, e4, H4, o4⟩ := sl_of_trod (sz := 4) Try.underlying41 (by kernel_rfl) (by decide) reads_Handing g4
  simp [Program.cellsOf, inf2, Try.t2, inf41, Try.t41, inf9, Try.t9] at e0 e1 e2 e3 e4
  exact ⟨⟨x0, x1, x2, x3, x4⟩, ⟨o0, o1, o2, o3, o4⟩, p4, n4, k4, by simp [e0, e1, e2, e3, e4], H4⟩

end Go.Proofs.Ytnjohcbamblilaa
