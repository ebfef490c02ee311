/-
  What the reading of lists of exhibits gives. No condition beyond those written in each theorem.
-/
import Derived.Test.YtnjohcbamblilaaExhF
import Derived.Test.YtnjohcbamblilaaExhRead
import Derived.Test.YtnjohcbamblilaaRulRead
import Derived.Test.YtnjohcbamblilaaNestClose
import Derived.Test.YtnjohcbamblilaaClose
import Derived.Test.YtnjohcbamblilaaRows
namespace Go.Proofs.Ytnjohcbamblilaa
open Go.RowKit
set_option linter.unusedVariables false
set_option linter.unusedSimpArgs false
set_option linter.unusedSectionVars false
set_option maxRecDepth 4000

instance : Inhabited Exhibit := ⟨⟨⟨#[]⟩, ⟨#[]⟩, 0, 0, []⟩⟩
theorem reads_ExhibitS : ReadsN Try.prog 43 cellsExhibitS innExhibitS Handing.cells 4 (fun x => x.ok) := fun h => by
  obtain ⟨r, hr, p, n, c, e, H⟩ := open_Exhibit h
  exact ⟨r, ⟨p, n, c⟩, e, H, hr⟩
end Go.Proofs.Ytnjohcbamblilaa
