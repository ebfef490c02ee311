/-
  How slices of numbers and of texts read. No condition.
-/
import Derived.Test.YtgbedilaiefcbaaLists
import Derived.Test.YtgbedilaiefcbaaClose
import Derived.Test.YtgbedilaiefcbaaRows
namespace Go.Proofs.Ytgbedilaiefcbaa
open Go.RowKit
set_option linter.unusedVariables false
set_option linter.unusedSimpArgs false
set_option linter.unusedSectionVars false
set_option maxRecDepth 4000

theorem reads_i64 : Reads Try.prog 2 i64c I64 := fun h => reads_int Try.underlying2 h

theorem reads_str : Reads Try.prog 9 strc (fun s => s.size ≤ 9223372036854775807) := fun h => reads_string Try.underlying9 h
end Go.Proofs.Ytgbedilaiefcbaa
