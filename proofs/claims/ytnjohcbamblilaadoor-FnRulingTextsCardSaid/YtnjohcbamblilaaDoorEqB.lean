/-
  Equal slices of numbers and of texts. No condition beyond those written in each theorem.
-/
import Derived.Test.YtnjohcbamblilaaDoorLists
namespace Go.Proofs.YtnjohcbamblilaaDoor
open Go.RowKit
set_option linter.unusedVariables false
set_option linter.unusedSimpArgs false
set_option linter.unusedSectionVars false
set_option maxRecDepth 4000


end Go.Proofs.YtnjohcbamblilaaDoor
