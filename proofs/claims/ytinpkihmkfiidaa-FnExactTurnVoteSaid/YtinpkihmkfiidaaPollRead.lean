/-
  What the reading of a poll gives. No condition beyond those written in each theorem.
-/
import Derived.Test.YtinpkihmkfiidaaRowF
import Derived.Test.YtinpkihmkfiidaaNestClose
import Derived.Test.YtinpkihmkfiidaaPrimRead
namespace Go.Proofs.Ytinpkihmkfiidaa
open Go.RowKit
set_option linter.unusedVariables false
set_option linter.unusedSimpArgs false
set_option linter.unusedSectionVars false
set_option maxRecDepth 4000

theorem reads_Int64SS : ReadsN Try.prog 31 cellsInt64SS innInt64SS i64c 1 (fun x => ∀ y ∈ x, I64 y) := fun h => by
  obtain ⟨p, n, c, xs, e, H, o⟩ := sl_of_trod (sz := 1) Try.underlying31 (by kernel_rfl) (by decide) reads_i64 h
  exact ⟨xs, ⟨p, n, c⟩, e, H, o⟩

theorem open_Poll {H : Type} {enc : TypeId × Value → H} {w : World} {base : Nat} {spare : Nat → Bool} {held : Bool} {fuel : Nat} {cs : List Value} {x : DataW H × List MemPlace}
    (h : DataW.trod enc Try.prog w base spare held fuel 38 cs = some x) : ∃ (r : Poll), r.ok ∧ ∃ p n c, cs = [.int .i64 r.Need, .slice p n c] ∧ SnInt64SS w p n c r.Votes := by
  obtain ⟨xs, m, _, _, hl, hn, hel⟩ := DataW.trod_struct Try.underlying38 h
  have hl' : cs.length = 2 := by rw [hl]; kernel_rfl
  match cs, hl' with
  | [c0, c1], _ => ?_
  have g0 := hel 0 _ rfl
  obtain ⟨y0, hy0⟩ : ∃ y, xs[0]? = some y := ⟨_, List.getElem?_eq_getElem (by rw [hn]; decide)⟩
  rw [hy0] at g0
  obtain ⟨x0, e0, o0⟩ := reads_int Try.underlying2 g0
  have g1 := hel 1 _ rfl
  obtain ⟨y1, hy1⟩ : ∃ y, xs[1]? = some y := ⟨_, List.getElem?_eq_getElem (by rw [hn]; decide)⟩
  rw [hy1] at g1
  obtain ⟨p1, n1, k1, x1, e1, H1, o1⟩ := sn_of_trod (sz := 1) Try.underlying36 (by kernel_rfl) (by decide) reads_Int64SS g1
  simp [Program.cellsOf, inf2, Try.t2, inf36, Try.t36] at e0 e1
  exact ⟨⟨x0, x1⟩, ⟨o0, o1⟩, p1, n1, k1, by simp [e0, e1], H1⟩

end Go.Proofs.Ytinpkihmkfiidaa
