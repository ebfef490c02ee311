/-
  No cell of these rows narrows 'for every input' (looked for: loops, veiled, ifaces, maps, wideKeys, modest, calm, conditions, laid).
  DERIVED. THE GIVEN ROWS OF THIS SEAT. 8 by the template 'for every input the law returns true; each argument reads behind the call as it read before'; 0 by the template 'total and deterministic' (their statements: YtgbedilaiefcbaaTotals.lean).
  GIVEN WITH THE SEED: the statements are not yours to turn. If you find one false, say at which input.
  Laid BY PROGRAM, IN A SANDBOX (cutbox-rows.mjs): the forced cells as the released guide's own fill.sh prints them over the translation 59455ef2aa6915a7… (all of the seat's roots in one cut). By AI agents, Wed Nov 11 2026. No macro, syntax, notation, axiom, sorry.
-/
import Derived.Test.YtgbedilaiefcbaaChecked
import GoSem.Claim
import GoSem.ClaimJoined
import GoSem.ClaimMapViews
import Derived.JoinedTies
import Derived.KernelRfl
namespace Go.Proofs.Ytgbedilaiefcbaa
/- THE CELL 'sum', in the pinned program and in every row, IS THE sha256 OF THE DUMP (.gsa) THAT YtgbedilaiefcbaaProg.lean LOADS. Nothing in Lean hashes anything: it is a label: what it is worth is what the hold of that sum in a sandbox is worth. -/
noncomputable def Try.pinned : Pinned := { name := "ytgbedilaiefcbaa", sum := "59455ef2aa6915a78441a3c7881c69edf41fa628318b38f43361b49c204b00c4", checked := Try.checked }
namespace Rows
def none {H : Type} : Left H := { results := [], args := [] }

/-- 'laws.FnExactAreValues': WHATEVER THE INPUT: true; the input reads as it did. -/
def fnExactAreValuesSpec : ChangeSpec := { name := "fnExactAreValues", fn := fun _ => fun
  | [d] => { results := [.lit (.bool true)], args := [d] }
  | _ => none }
def fnExactAreValuesRow : OpenClaim := { program := "ytgbedilaiefcbaa", sum := "59455ef2aa6915a78441a3c7881c69edf41fa628318b38f43361b49c204b00c4", func := "loop.example/g01027/laws.FnExactAreValues", spec := "fnExactAreValues", inPlace := ["internal/bytealg.IndexByteString", "internal/bytealg.IndexString"], unfollowed := true, recurses := true, named := ["internal/bytealg.MaxLen"], apart := false }
def FnExactAreValuesSaid : Prop := fnExactAreValuesRow.holds Try.pinned (OpenSpec.ofChange fnExactAreValuesSpec)

/-- ITS FALSE NEIGHBOUR: 'it returns false'. Refute it at one input. -/
def fnExactAreValuesWrong : ChangeSpec := { name := "fnExactAreValues", fn := fun _ => fun
  | [d] => { results := [.lit (.bool false)], args := [d] }
  | _ => none }
def FnExactAreValuesWrongFalsely : Prop := fnExactAreValuesRow.holds Try.pinned (OpenSpec.ofChange fnExactAreValuesWrong)

/-- 'laws.FnExactValueOf': WHATEVER THE INPUT: true; the input reads as it did. -/
def fnExactValueOfSpec : ChangeSpec := { name := "fnExactValueOf", fn := fun _ => fun
  | [d1, d2] => { results := [.lit (.bool true)], args := [d1, d2] }
  | _ => none }
def fnExactValueOfRow : OpenClaim := { program := "ytgbedilaiefcbaa", sum := "59455ef2aa6915a78441a3c7881c69edf41fa628318b38f43361b49c204b00c4", func := "loop.example/g01027/laws.FnExactValueOf", spec := "fnExactValueOf", inPlace := ["internal/bytealg.IndexByteString", "internal/bytealg.IndexString"], unfollowed := true, recurses := true, named := ["internal/bytealg.MaxLen"], apart := false }
def FnExactValueOfSaid : Prop := fnExactValueOfRow.holds Try.pinned (OpenSpec.ofChange fnExactValueOfSpec)

/-- ITS FALSE NEIGHBOUR: 'it returns false'. Refute it at one input. -/
def fnExactValueOfWrong : ChangeSpec := { name := "fnExactValueOf", fn := fun _ => fun
  | [d1, d2] => { results := [.lit (.bool false)], args := [d1, d2] }
  | _ => none }
def FnExactValueOfWrongFalsely : Prop := fnExactValueOfRow.holds Try.pinned (OpenSpec.ofChange fnExactValueOfWrong)

/-- 'laws.FnExactSetValue': WHATEVER THE INPUT: true; the input reads as it did. -/
def fnExactSetValueSpec : ChangeSpec := { name := "fnExactSetValue", fn := fun _ => fun
  | [d1, d2] => { results := [.lit (.bool true)], args := [d1, d2] }
  | _ => none }
def fnExactSetValueRow : OpenClaim := { program := "ytgbedilaiefcbaa", sum := "59455ef2aa6915a78441a3c7881c69edf41fa628318b38f43361b49c204b00c4", func := "loop.example/g01027/laws.FnExactSetValue", spec := "fnExactSetValue", inPlace := ["internal/bytealg.IndexByteString", "internal/bytealg.IndexString"], unfollowed := true, recurses := true, named := ["internal/bytealg.MaxLen"], apart := false }
def FnExactSetValueSaid : Prop := fnExactSetValueRow.holds Try.pinned (OpenSpec.ofChange fnExactSetValueSpec)

/-- ITS FALSE NEIGHBOUR: 'it returns false'. Refute it at one input. -/
def fnExactSetValueWrong : ChangeSpec := { name := "fnExactSetValue", fn := fun _ => fun
  | [d1, d2] => { results := [.lit (.bool false)], args := [d1, d2] }
  | _ => none }
def FnExactSetValueWrongFalsely : Prop := fnExactSetValueRow.holds Try.pinned (OpenSpec.ofChange fnExactSetValueWrong)

/-- 'laws.FnValues': WHATEVER THE INPUT: true; the input reads as it did. -/
def fnValuesSpec : ChangeSpec := { name := "fnValues", fn := fun _ => fun
  | [d] => { results := [.lit (.bool true)], args := [d] }
  | _ => none }
def fnValuesRow : OpenClaim := { program := "ytgbedilaiefcbaa", sum := "59455ef2aa6915a78441a3c7881c69edf41fa628318b38f43361b49c204b00c4", func := "loop.example/g01027/laws.FnValues", spec := "fnValues", inPlace := ["internal/bytealg.IndexByteString", "internal/bytealg.IndexString"], unfollowed := true, recurses := true, named := ["internal/bytealg.MaxLen"], apart := false }
def FnValuesSaid : Prop := fnValuesRow.holds Try.pinned (OpenSpec.ofChange fnValuesSpec)

/-- ITS FALSE NEIGHBOUR: 'it returns false'. Refute it at one input. -/
def fnValuesWrong : ChangeSpec := { name := "fnValues", fn := fun _ => fun
  | [d] => { results := [.lit (.bool false)], args := [d] }
  | _ => none }
def FnValuesWrongFalsely : Prop := fnValuesRow.holds Try.pinned (OpenSpec.ofChange fnValuesWrong)

/-- 'laws.FnExactIsTemplate': WHATEVER THE INPUT: true; the input reads as it did. -/
def fnExactIsTemplateSpec : ChangeSpec := { name := "fnExactIsTemplate", fn := fun _ => fun
  | [d] => { results := [.lit (.bool true)], args := [d] }
  | _ => none }
def fnExactIsTemplateRow : OpenClaim := { program := "ytgbedilaiefcbaa", sum := "59455ef2aa6915a78441a3c7881c69edf41fa628318b38f43361b49c204b00c4", func := "loop.example/g01027/laws.FnExactIsTemplate", spec := "fnExactIsTemplate", inPlace := ["internal/bytealg.IndexByteString", "internal/bytealg.IndexString"], named := ["internal/bytealg.MaxLen"], apart := false }
def FnExactIsTemplateSaid : Prop := fnExactIsTemplateRow.holds Try.pinned (OpenSpec.ofChange fnExactIsTemplateSpec)

/-- ITS FALSE NEIGHBOUR: 'it returns false'. Refute it at one input. -/
def fnExactIsTemplateWrong : ChangeSpec := { name := "fnExactIsTemplate", fn := fun _ => fun
  | [d] => { results := [.lit (.bool false)], args := [d] }
  | _ => none }
def FnExactIsTemplateWrongFalsely : Prop := fnExactIsTemplateRow.holds Try.pinned (OpenSpec.ofChange fnExactIsTemplateWrong)

/-- 'laws.FnExactSectionsOf': WHATEVER THE INPUT: true; the input reads as it did. -/
def fnExactSectionsOfSpec : ChangeSpec := { name := "fnExactSectionsOf", fn := fun _ => fun
  | [d] => { results := [.lit (.bool true)], args := [d] }
  | _ => none }
def fnExactSectionsOfRow : OpenClaim := { program := "ytgbedilaiefcbaa", sum := "59455ef2aa6915a78441a3c7881c69edf41fa628318b38f43361b49c204b00c4", func := "loop.example/g01027/laws.FnExactSectionsOf", spec := "fnExactSectionsOf", inPlace := ["internal/bytealg.IndexByteString", "internal/bytealg.IndexString"], recurses := true, named := ["internal/bytealg.MaxLen"], apart := false }
def FnExactSectionsOfSaid : Prop := fnExactSectionsOfRow.holds Try.pinned (OpenSpec.ofChange fnExactSectionsOfSpec)

/-- ITS FALSE NEIGHBOUR: 'it returns false'. Refute it at one input. -/
def fnExactSectionsOfWrong : ChangeSpec := { name := "fnExactSectionsOf", fn := fun _ => fun
  | [d] => { results := [.lit (.bool false)], args := [d] }
  | _ => none }
def FnExactSectionsOfWrongFalsely : Prop := fnExactSectionsOfRow.holds Try.pinned (OpenSpec.ofChange fnExactSectionsOfWrong)

/-- 'laws.FnExactPlacesOf': WHATEVER THE INPUT: true; the input reads as it did. -/
def fnExactPlacesOfSpec : ChangeSpec := { name := "fnExactPlacesOf", fn := fun _ => fun
  | [d] => { results := [.lit (.bool true)], args := [d] }
  | _ => none }
def fnExactPlacesOfRow : OpenClaim := { program := "ytgbedilaiefcbaa", sum := "59455ef2aa6915a78441a3c7881c69edf41fa628318b38f43361b49c204b00c4", func := "loop.example/g01027/laws.FnExactPlacesOf", spec := "fnExactPlacesOf", inPlace := ["internal/bytealg.IndexByteString", "internal/bytealg.IndexString"], unfollowed := true, recurses := true, named := ["internal/bytealg.MaxLen"], apart := false }
def FnExactPlacesOfSaid : Prop := fnExactPlacesOfRow.holds Try.pinned (OpenSpec.ofChange fnExactPlacesOfSpec)

/-- ITS FALSE NEIGHBOUR: 'it returns false'. Refute it at one input. -/
def fnExactPlacesOfWrong : ChangeSpec := { name := "fnExactPlacesOf", fn := fun _ => fun
  | [d] => { results := [.lit (.bool false)], args := [d] }
  | _ => none }
def FnExactPlacesOfWrongFalsely : Prop := fnExactPlacesOfRow.holds Try.pinned (OpenSpec.ofChange fnExactPlacesOfWrong)

/-- 'laws.FnExactFillTemplate': WHATEVER THE INPUT: true; the input reads as it did. -/
def fnExactFillTemplateSpec : ChangeSpec := { name := "fnExactFillTemplate", fn := fun _ => fun
  | [d1, d2] => { results := [.lit (.bool true)], args := [d1, d2] }
  | _ => none }
def fnExactFillTemplateRow : OpenClaim := { program := "ytgbedilaiefcbaa", sum := "59455ef2aa6915a78441a3c7881c69edf41fa628318b38f43361b49c204b00c4", func := "loop.example/g01027/laws.FnExactFillTemplate", spec := "fnExactFillTemplate", inPlace := ["internal/bytealg.IndexByteString", "internal/bytealg.IndexString"], unfollowed := true, recurses := true, named := ["internal/bytealg.MaxLen"], apart := false }
def FnExactFillTemplateSaid : Prop := fnExactFillTemplateRow.holds Try.pinned (OpenSpec.ofChange fnExactFillTemplateSpec)

/-- ITS FALSE NEIGHBOUR: 'it returns false'. Refute it at one input. -/
def fnExactFillTemplateWrong : ChangeSpec := { name := "fnExactFillTemplate", fn := fun _ => fun
  | [d1, d2] => { results := [.lit (.bool false)], args := [d1, d2] }
  | _ => none }
def FnExactFillTemplateWrongFalsely : Prop := fnExactFillTemplateRow.holds Try.pinned (OpenSpec.ofChange fnExactFillTemplateWrong)

/- THE SECOND FORM. 'bulk': how many values and letters a reading holds, each counted each time it is reached (what is shared counts as often as it is met; a slice's spare places count too). A statement '..UptoSaid' is the law's where the arguments, and the package variables that the reading takes, are together of bulk at most 1048576: NARROWER than '..Said'. Prove '..Said' where nothing that the law and all that it calls make is longer than what came in: it says more and counts as full. Else prove '..UptoSaid'. A law counts once. -/
mutual
def uptoBulk {H : Type} : DataW H → Nat
  | .lit (.string bytes) => bytes.length + 1
  | .lit _ => 1
  | .nil => 1
  | .ptr d => uptoBulk d + 1
  | .slice elems spare => uptoBulkAll elems + uptoBulkAll spare + 1
  | .agg parts => uptoBulkAll parts + 1
  | .iface _ d => uptoBulk d + 1
  | .map entries => uptoBulkEntries entries + 1
  | .held _ => 1
def uptoBulkAll {H : Type} : List (DataW H) → Nat
  | [] => 0
  | d :: r => uptoBulk d + uptoBulkAll r
def uptoBulkEntries {H : Type} : List (Lit × DataW H) → Nat
  | [] => 0
  | x :: r => uptoBulkEntry x + uptoBulkEntries r
def uptoBulkEntry {H : Type} : Lit × DataW H → Nat
  | (.string bytes, d) => bytes.length + uptoBulk d + 1
  | (_, d) => uptoBulk d + 1
 end
def uptoSmall : (H : Type) → List (DataW H) → Bool := fun _ ds => decide (uptoBulkAll ds ≤ 1048576)
def OpenSpec.upto (s : _root_.Go.ChangeSpec) : _root_.Go.OpenSpec := { _root_.Go.OpenSpec.ofChange s with cond := some uptoSmall }

/-- 'laws.FnExactAreValues', WHERE WHAT IT READS IS OF BULK AT MOST 1048576: true; the input reads as it did. -/
def fnExactAreValuesUptoRow : OpenClaim := { program := "ytgbedilaiefcbaa", sum := "59455ef2aa6915a78441a3c7881c69edf41fa628318b38f43361b49c204b00c4", func := "loop.example/g01027/laws.FnExactAreValues", spec := "fnExactAreValues", inPlace := ["internal/bytealg.IndexByteString", "internal/bytealg.IndexString"], unfollowed := true, recurses := true, named := ["internal/bytealg.MaxLen"], apart := false, narrowed := true }
def FnExactAreValuesUptoSaid : Prop := fnExactAreValuesUptoRow.holds Try.pinned (OpenSpec.upto fnExactAreValuesSpec)

/-- 'laws.FnExactValueOf', WHERE WHAT IT READS IS OF BULK AT MOST 1048576: true; the input reads as it did. -/
def fnExactValueOfUptoRow : OpenClaim := { program := "ytgbedilaiefcbaa", sum := "59455ef2aa6915a78441a3c7881c69edf41fa628318b38f43361b49c204b00c4", func := "loop.example/g01027/laws.FnExactValueOf", spec := "fnExactValueOf", inPlace := ["internal/bytealg.IndexByteString", "internal/bytealg.IndexString"], unfollowed := true, recurses := true, named := ["internal/bytealg.MaxLen"], apart := false, narrowed := true }
def FnExactValueOfUptoSaid : Prop := fnExactValueOfUptoRow.holds Try.pinned (OpenSpec.upto fnExactValueOfSpec)

/-- 'laws.FnExactSetValue', WHERE WHAT IT READS IS OF BULK AT MOST 1048576: true; the input reads as it did. -/
def fnExactSetValueUptoRow : OpenClaim := { program := "ytgbedilaiefcbaa", sum := "59455ef2aa6915a78441a3c7881c69edf41fa628318b38f43361b49c204b00c4", func := "loop.example/g01027/laws.FnExactSetValue", spec := "fnExactSetValue", inPlace := ["internal/bytealg.IndexByteString", "internal/bytealg.IndexString"], unfollowed := true, recurses := true, named := ["internal/bytealg.MaxLen"], apart := false, narrowed := true }
def FnExactSetValueUptoSaid : Prop := fnExactSetValueUptoRow.holds Try.pinned (OpenSpec.upto fnExactSetValueSpec)

/-- 'laws.FnValues', WHERE WHAT IT READS IS OF BULK AT MOST 1048576: true; the input reads as it did. -/
def fnValuesUptoRow : OpenClaim := { program := "ytgbedilaiefcbaa", sum := "59455ef2aa6915a78441a3c7881c69edf41fa628318b38f43361b49c204b00c4", func := "loop.example/g01027/laws.FnValues", spec := "fnValues", inPlace := ["internal/bytealg.IndexByteString", "internal/bytealg.IndexString"], unfollowed := true, recurses := true, named := ["internal/bytealg.MaxLen"], apart := false, narrowed := true }
def FnValuesUptoSaid : Prop := fnValuesUptoRow.holds Try.pinned (OpenSpec.upto fnValuesSpec)

/-- 'laws.FnExactIsTemplate', WHERE WHAT IT READS IS OF BULK AT MOST 1048576: true; the input reads as it did. -/
def fnExactIsTemplateUptoRow : OpenClaim := { program := "ytgbedilaiefcbaa", sum := "59455ef2aa6915a78441a3c7881c69edf41fa628318b38f43361b49c204b00c4", func := "loop.example/g01027/laws.FnExactIsTemplate", spec := "fnExactIsTemplate", inPlace := ["internal/bytealg.IndexByteString", "internal/bytealg.IndexString"], named := ["internal/bytealg.MaxLen"], apart := false, narrowed := true }
def FnExactIsTemplateUptoSaid : Prop := fnExactIsTemplateUptoRow.holds Try.pinned (OpenSpec.upto fnExactIsTemplateSpec)

/-- 'laws.FnExactSectionsOf', WHERE WHAT IT READS IS OF BULK AT MOST 1048576: true; the input reads as it did. -/
def fnExactSectionsOfUptoRow : OpenClaim := { program := "ytgbedilaiefcbaa", sum := "59455ef2aa6915a78441a3c7881c69edf41fa628318b38f43361b49c204b00c4", func := "loop.example/g01027/laws.FnExactSectionsOf", spec := "fnExactSectionsOf", inPlace := ["internal/bytealg.IndexByteString", "internal/bytealg.IndexString"], recurses := true, named := ["internal/bytealg.MaxLen"], apart := false, narrowed := true }
def FnExactSectionsOfUptoSaid : Prop := fnExactSectionsOfUptoRow.holds Try.pinned (OpenSpec.upto fnExactSectionsOfSpec)

/-- 'laws.FnExactPlacesOf', WHERE WHAT IT READS IS OF BULK AT MOST 1048576: true; the input reads as it did. -/
def fnExactPlacesOfUptoRow : OpenClaim := { program := "ytgbedilaiefcbaa", sum := "59455ef2aa6915a78441a3c7881c69edf41fa628318b38f43361b49c204b00c4", func := "loop.example/g01027/laws.FnExactPlacesOf", spec := "fnExactPlacesOf", inPlace := ["internal/bytealg.IndexByteString", "internal/bytealg.IndexString"], unfollowed := true, recurses := true, named := ["internal/bytealg.MaxLen"], apart := false, narrowed := true }
def FnExactPlacesOfUptoSaid : Prop := fnExactPlacesOfUptoRow.holds Try.pinned (OpenSpec.upto fnExactPlacesOfSpec)

/-- 'laws.FnExactFillTemplate', WHERE WHAT IT READS IS OF BULK AT MOST 1048576: true; the input reads as it did. -/
def fnExactFillTemplateUptoRow : OpenClaim := { program := "ytgbedilaiefcbaa", sum := "59455ef2aa6915a78441a3c7881c69edf41fa628318b38f43361b49c204b00c4", func := "loop.example/g01027/laws.FnExactFillTemplate", spec := "fnExactFillTemplate", inPlace := ["internal/bytealg.IndexByteString", "internal/bytealg.IndexString"], unfollowed := true, recurses := true, named := ["internal/bytealg.MaxLen"], apart := false, narrowed := true }
def FnExactFillTemplateUptoSaid : Prop := fnExactFillTemplateUptoRow.holds Try.pinned (OpenSpec.upto fnExactFillTemplateSpec)

end Rows
end Go.Proofs.Ytgbedilaiefcbaa
