/-
  DERIVED. GIVEN WITH THE SEED: THE CARDS: each row of YtnjohcbamblilaaDoorRows.lean that lists a variable, with what it lists TIED to the program's text (the seventh form; the later family's looks); each row that meets fmt, with fmt's text TOLD by the authors' own Lean function (tested against real Go, not proved from fmt's source: count such statements apart). THE CARD IS WHAT COUNTS. Prove the row's statement (the work); the ties are given (YtnjohcbamblilaaDoorTie.lean); close each card by the builder's one call (the guide's Derived/Test/ToyasCard.lean, 'card_holds'). Laid BY PROGRAM, IN A SANDBOX (cutbox-door.mjs). By AI agents, Wed Nov 11 2026. No macro, syntax, notation, axiom, sorry.
-/
import Derived.Test.YtnjohcbamblilaaDoorRows
import GoSem.ClaimSeven
namespace Go.Proofs.YtnjohcbamblilaaDoor
namespace Rows

/-- THE TIED CARD OF 'laws.FnExactRulingText'. -/
def fnExactRulingTextCard : Claim7 := { stood := { row := fnExactRulingTextRow, standIns := [], harness := (true, "26671c1a6f7c4bf8b61ac17213adea52421837d3c4ea04a95132f59d0341d108"), looks := true }, kinds := [], alts := [], laidByText := true, laidKinds := [.data, .data, .data], laidTests := true, laidLooks := .later }
def FnExactRulingTextCardSaid : Prop := Claim7.holds Tryd.pinned (.plain (OpenSpec.ofChange fnExactRulingTextSpec)) fnExactRulingTextCard

/-- THE TIED CARD OF 'laws.FnExactReadRuling'. -/
def fnExactReadRulingCard : Claim7 := { stood := { row := fnExactReadRulingRow, standIns := [], harness := (true, "26671c1a6f7c4bf8b61ac17213adea52421837d3c4ea04a95132f59d0341d108"), looks := true }, kinds := [], alts := [], laidByText := true, laidKinds := [.data, .data, .data, .data, .sentinel, .sentinel, .pinned], laidTests := true, laidLooks := .later }
def FnExactReadRulingCardSaid : Prop := Claim7.holds Tryd.pinned (.plain (OpenSpec.ofChange fnExactReadRulingSpec)) fnExactReadRulingCard

/-- THE TIED CARD OF 'laws.FnRulingTexts'. -/
def fnRulingTextsCard : Claim7 := { stood := { row := fnRulingTextsRow, standIns := [], harness := (true, "26671c1a6f7c4bf8b61ac17213adea52421837d3c4ea04a95132f59d0341d108"), looks := true }, kinds := [], alts := [], laidByText := true, laidKinds := [.data, .data, .data, .data, .sentinel, .sentinel, .pinned], laidTests := true, laidLooks := .later }
def FnRulingTextsCardSaid : Prop := Claim7.holds Tryd.pinned (.plain (OpenSpec.ofChange fnRulingTextsSpec)) fnRulingTextsCard

/-- THE SECOND FORM's CARD OF 'laws.FnExactRulingText'. -/
def fnExactRulingTextUptoCard : Claim7 := { stood := { row := fnExactRulingTextUptoRow, standIns := [], harness := (true, "26671c1a6f7c4bf8b61ac17213adea52421837d3c4ea04a95132f59d0341d108"), looks := true }, kinds := [], alts := [], laidByText := true, laidKinds := [.data, .data, .data], laidTests := true, laidLooks := .later }
def FnExactRulingTextUptoCardSaid : Prop := Claim7.holds Tryd.pinned (.plain (OpenSpec.upto fnExactRulingTextSpec)) fnExactRulingTextUptoCard

/-- THE SECOND FORM's CARD OF 'laws.FnExactReadRuling'. -/
def fnExactReadRulingUptoCard : Claim7 := { stood := { row := fnExactReadRulingUptoRow, standIns := [], harness := (true, "26671c1a6f7c4bf8b61ac17213adea52421837d3c4ea04a95132f59d0341d108"), looks := true }, kinds := [], alts := [], laidByText := true, laidKinds := [.data, .data, .data, .data, .sentinel, .sentinel, .pinned], laidTests := true, laidLooks := .later }
def FnExactReadRulingUptoCardSaid : Prop := Claim7.holds Tryd.pinned (.plain (OpenSpec.upto fnExactReadRulingSpec)) fnExactReadRulingUptoCard

/-- THE SECOND FORM's CARD OF 'laws.FnRulingTexts'. -/
def fnRulingTextsUptoCard : Claim7 := { stood := { row := fnRulingTextsUptoRow, standIns := [], harness := (true, "26671c1a6f7c4bf8b61ac17213adea52421837d3c4ea04a95132f59d0341d108"), looks := true }, kinds := [], alts := [], laidByText := true, laidKinds := [.data, .data, .data, .data, .sentinel, .sentinel, .pinned], laidTests := true, laidLooks := .later }
def FnRulingTextsUptoCardSaid : Prop := Claim7.holds Tryd.pinned (.plain (OpenSpec.upto fnRulingTextsSpec)) fnRulingTextsUptoCard
end Rows
end Go.Proofs.YtnjohcbamblilaaDoor
