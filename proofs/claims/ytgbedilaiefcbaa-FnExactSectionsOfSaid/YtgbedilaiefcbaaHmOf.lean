/-
  What the shape of the world tells of the variable of the library. No condition beyond those written in the theorem.
-/
import Derived.Test.YtgbedilaiefcbaaPlacF
import Derived.Shelf.Vars
namespace Go.Proofs.Ytgbedilaiefcbaa
open Go.RowKit
set_option linter.unusedVariables false
set_option linter.unusedSimpArgs false
set_option linter.unusedSectionVars false
set_option maxRecDepth 4000

theorem hm_of (W : World) (h : W.ShapedOpen Try.prog) : Hm W :=
  cell_of_shapedOpen_int (g := 0) (zero := #[.int .i64 0]) (t := 3) h (of_decide_eq_true (by kernel_rfl)) (by kernel_rfl) rfl (by kernel_rfl) (by kernel_rfl) Try.underlying3
end Go.Proofs.Ytgbedilaiefcbaa
