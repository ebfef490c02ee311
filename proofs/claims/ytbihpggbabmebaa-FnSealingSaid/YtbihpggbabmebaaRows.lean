/-
  No cell of these rows narrows 'for every input' (looked for: loops, veiled, ifaces, maps, wideKeys, modest, calm, conditions, laid).
  DERIVED. THE GIVEN ROWS OF THIS SEAT. 11 by the template 'for every input the law returns true; each argument reads behind the call as it read before'; 0 by the template 'total and deterministic' (their statements: YtbihpggbabmebaaTotals.lean).
  GIVEN WITH THE SEED: the statements are not yours to turn. If you find one false, say at which input.
  Laid BY PROGRAM, IN A SANDBOX (cutbox-rows.mjs): the forced cells as the released guide's own fill.sh prints them over the translation d227eb55fca5daac… (all of the seat's roots in one cut). By AI agents, Wed Nov 11 2026. No macro, syntax, notation, axiom, sorry.
-/
import Derived.Test.YtbihpggbabmebaaChecked
import GoSem.Claim
import GoSem.ClaimJoined
import GoSem.ClaimMapViews
import Derived.JoinedTies
import Derived.KernelRfl
namespace Go.Proofs.Ytbihpggbabmebaa
/- THE CELL 'sum', in the pinned program and in every row, IS THE sha256 OF THE DUMP (.gsa) THAT YtbihpggbabmebaaProg.lean LOADS. Nothing in Lean hashes anything: it is a label: what it is worth is what the hold of that sum in a sandbox is worth. -/
noncomputable def Try.pinned : Pinned := { name := "ytbihpggbabmebaa", sum := "d227eb55fca5daac73dd5f574adcddab8f59e837f3f90ba27a5a6f814874ffaf", checked := Try.checked }
namespace Rows
def none {H : Type} : Left H := { results := [], args := [] }

/-- 'laws.FnExactAreRoles': WHATEVER THE INPUT: true; the input reads as it did. -/
def fnExactAreRolesSpec : ChangeSpec := { name := "fnExactAreRoles", fn := fun _ => fun
  | [d] => { results := [.lit (.bool true)], args := [d] }
  | _ => none }
def fnExactAreRolesRow : OpenClaim := { program := "ytbihpggbabmebaa", sum := "d227eb55fca5daac73dd5f574adcddab8f59e837f3f90ba27a5a6f814874ffaf", func := "loop.example/g01027/laws.FnExactAreRoles", spec := "fnExactAreRoles", unfollowed := true, recurses := true, apart := false }
def FnExactAreRolesSaid : Prop := fnExactAreRolesRow.holds Try.pinned (OpenSpec.ofChange fnExactAreRolesSpec)

/-- ITS FALSE NEIGHBOUR: 'it returns false'. Refute it at one input. -/
def fnExactAreRolesWrong : ChangeSpec := { name := "fnExactAreRoles", fn := fun _ => fun
  | [d] => { results := [.lit (.bool false)], args := [d] }
  | _ => none }
def FnExactAreRolesWrongFalsely : Prop := fnExactAreRolesRow.holds Try.pinned (OpenSpec.ofChange fnExactAreRolesWrong)

/-- 'laws.FnExactAreFiles': WHATEVER THE INPUT: true; the input reads as it did. -/
def fnExactAreFilesSpec : ChangeSpec := { name := "fnExactAreFiles", fn := fun _ => fun
  | [d] => { results := [.lit (.bool true)], args := [d] }
  | _ => none }
def fnExactAreFilesRow : OpenClaim := { program := "ytbihpggbabmebaa", sum := "d227eb55fca5daac73dd5f574adcddab8f59e837f3f90ba27a5a6f814874ffaf", func := "loop.example/g01027/laws.FnExactAreFiles", spec := "fnExactAreFiles", unfollowed := true, recurses := true, apart := false }
def FnExactAreFilesSaid : Prop := fnExactAreFilesRow.holds Try.pinned (OpenSpec.ofChange fnExactAreFilesSpec)

/-- ITS FALSE NEIGHBOUR: 'it returns false'. Refute it at one input. -/
def fnExactAreFilesWrong : ChangeSpec := { name := "fnExactAreFiles", fn := fun _ => fun
  | [d] => { results := [.lit (.bool false)], args := [d] }
  | _ => none }
def FnExactAreFilesWrongFalsely : Prop := fnExactAreFilesRow.holds Try.pinned (OpenSpec.ofChange fnExactAreFilesWrong)

/-- 'laws.FnExactIsAbove': WHATEVER THE INPUT: true; the input reads as it did. -/
def fnExactIsAboveSpec : ChangeSpec := { name := "fnExactIsAbove", fn := fun _ => fun
  | [d1, d2, d3] => { results := [.lit (.bool true)], args := [d1, d2, d3] }
  | _ => none }
def fnExactIsAboveRow : OpenClaim := { program := "ytbihpggbabmebaa", sum := "d227eb55fca5daac73dd5f574adcddab8f59e837f3f90ba27a5a6f814874ffaf", func := "loop.example/g01027/laws.FnExactIsAbove", spec := "fnExactIsAbove", unfollowed := true, recurses := true, apart := false }
def FnExactIsAboveSaid : Prop := fnExactIsAboveRow.holds Try.pinned (OpenSpec.ofChange fnExactIsAboveSpec)

/-- ITS FALSE NEIGHBOUR: 'it returns false'. Refute it at one input. -/
def fnExactIsAboveWrong : ChangeSpec := { name := "fnExactIsAbove", fn := fun _ => fun
  | [d1, d2, d3] => { results := [.lit (.bool false)], args := [d1, d2, d3] }
  | _ => none }
def FnExactIsAboveWrongFalsely : Prop := fnExactIsAboveRow.holds Try.pinned (OpenSpec.ofChange fnExactIsAboveWrong)

/-- 'laws.FnExactSealFile': WHATEVER THE INPUT: true; the input reads as it did. -/
def fnExactSealFileSpec : ChangeSpec := { name := "fnExactSealFile", fn := fun _ => fun
  | [d1, d2, d3, d4] => { results := [.lit (.bool true)], args := [d1, d2, d3, d4] }
  | _ => none }
def fnExactSealFileRow : OpenClaim := { program := "ytbihpggbabmebaa", sum := "d227eb55fca5daac73dd5f574adcddab8f59e837f3f90ba27a5a6f814874ffaf", func := "loop.example/g01027/laws.FnExactSealFile", spec := "fnExactSealFile", unfollowed := true, recurses := true, apart := false }
def FnExactSealFileSaid : Prop := fnExactSealFileRow.holds Try.pinned (OpenSpec.ofChange fnExactSealFileSpec)

/-- ITS FALSE NEIGHBOUR: 'it returns false'. Refute it at one input. -/
def fnExactSealFileWrong : ChangeSpec := { name := "fnExactSealFile", fn := fun _ => fun
  | [d1, d2, d3, d4] => { results := [.lit (.bool false)], args := [d1, d2, d3, d4] }
  | _ => none }
def FnExactSealFileWrongFalsely : Prop := fnExactSealFileRow.holds Try.pinned (OpenSpec.ofChange fnExactSealFileWrong)

/-- 'laws.FnExactMaySee': WHATEVER THE INPUT: true; the input reads as it did. -/
def fnExactMaySeeSpec : ChangeSpec := { name := "fnExactMaySee", fn := fun _ => fun
  | [d1, d2, d3, d4, d5] => { results := [.lit (.bool true)], args := [d1, d2, d3, d4, d5] }
  | _ => none }
def fnExactMaySeeRow : OpenClaim := { program := "ytbihpggbabmebaa", sum := "d227eb55fca5daac73dd5f574adcddab8f59e837f3f90ba27a5a6f814874ffaf", func := "loop.example/g01027/laws.FnExactMaySee", spec := "fnExactMaySee", unfollowed := true, recurses := true, apart := false }
def FnExactMaySeeSaid : Prop := fnExactMaySeeRow.holds Try.pinned (OpenSpec.ofChange fnExactMaySeeSpec)

/-- ITS FALSE NEIGHBOUR: 'it returns false'. Refute it at one input. -/
def fnExactMaySeeWrong : ChangeSpec := { name := "fnExactMaySee", fn := fun _ => fun
  | [d1, d2, d3, d4, d5] => { results := [.lit (.bool false)], args := [d1, d2, d3, d4, d5] }
  | _ => none }
def FnExactMaySeeWrongFalsely : Prop := fnExactMaySeeRow.holds Try.pinned (OpenSpec.ofChange fnExactMaySeeWrong)

/-- 'laws.FnSeen': WHATEVER THE INPUT: true; the input reads as it did. -/
def fnSeenSpec : ChangeSpec := { name := "fnSeen", fn := fun _ => fun
  | [d] => { results := [.lit (.bool true)], args := [d] }
  | _ => none }
def fnSeenRow : OpenClaim := { program := "ytbihpggbabmebaa", sum := "d227eb55fca5daac73dd5f574adcddab8f59e837f3f90ba27a5a6f814874ffaf", func := "loop.example/g01027/laws.FnSeen", spec := "fnSeen", unfollowed := true, recurses := true, apart := false }
def FnSeenSaid : Prop := fnSeenRow.holds Try.pinned (OpenSpec.ofChange fnSeenSpec)

/-- ITS FALSE NEIGHBOUR: 'it returns false'. Refute it at one input. -/
def fnSeenWrong : ChangeSpec := { name := "fnSeen", fn := fun _ => fun
  | [d] => { results := [.lit (.bool false)], args := [d] }
  | _ => none }
def FnSeenWrongFalsely : Prop := fnSeenRow.holds Try.pinned (OpenSpec.ofChange fnSeenWrong)

/-- 'laws.FnExactFirstDay': WHATEVER THE INPUT: true; the input reads as it did. -/
def fnExactFirstDaySpec : ChangeSpec := { name := "fnExactFirstDay", fn := fun _ => fun
  | [d1, d2, d3, d4] => { results := [.lit (.bool true)], args := [d1, d2, d3, d4] }
  | _ => none }
def fnExactFirstDayRow : OpenClaim := { program := "ytbihpggbabmebaa", sum := "d227eb55fca5daac73dd5f574adcddab8f59e837f3f90ba27a5a6f814874ffaf", func := "loop.example/g01027/laws.FnExactFirstDay", spec := "fnExactFirstDay", unfollowed := true, recurses := true, apart := false }
def FnExactFirstDaySaid : Prop := fnExactFirstDayRow.holds Try.pinned (OpenSpec.ofChange fnExactFirstDaySpec)

/-- ITS FALSE NEIGHBOUR: 'it returns false'. Refute it at one input. -/
def fnExactFirstDayWrong : ChangeSpec := { name := "fnExactFirstDay", fn := fun _ => fun
  | [d1, d2, d3, d4] => { results := [.lit (.bool false)], args := [d1, d2, d3, d4] }
  | _ => none }
def FnExactFirstDayWrongFalsely : Prop := fnExactFirstDayRow.holds Try.pinned (OpenSpec.ofChange fnExactFirstDayWrong)

/-- 'laws.FnExactSeenBy': WHATEVER THE INPUT: true; the input reads as it did. -/
def fnExactSeenBySpec : ChangeSpec := { name := "fnExactSeenBy", fn := fun _ => fun
  | [d1, d2, d3, d4] => { results := [.lit (.bool true)], args := [d1, d2, d3, d4] }
  | _ => none }
def fnExactSeenByRow : OpenClaim := { program := "ytbihpggbabmebaa", sum := "d227eb55fca5daac73dd5f574adcddab8f59e837f3f90ba27a5a6f814874ffaf", func := "loop.example/g01027/laws.FnExactSeenBy", spec := "fnExactSeenBy", unfollowed := true, recurses := true, apart := false }
def FnExactSeenBySaid : Prop := fnExactSeenByRow.holds Try.pinned (OpenSpec.ofChange fnExactSeenBySpec)

/-- ITS FALSE NEIGHBOUR: 'it returns false'. Refute it at one input. -/
def fnExactSeenByWrong : ChangeSpec := { name := "fnExactSeenBy", fn := fun _ => fun
  | [d1, d2, d3, d4] => { results := [.lit (.bool false)], args := [d1, d2, d3, d4] }
  | _ => none }
def FnExactSeenByWrongFalsely : Prop := fnExactSeenByRow.holds Try.pinned (OpenSpec.ofChange fnExactSeenByWrong)

/-- 'laws.FnExactWhoSees': WHATEVER THE INPUT: true; the input reads as it did. -/
def fnExactWhoSeesSpec : ChangeSpec := { name := "fnExactWhoSees", fn := fun _ => fun
  | [d1, d2, d3, d4] => { results := [.lit (.bool true)], args := [d1, d2, d3, d4] }
  | _ => none }
def fnExactWhoSeesRow : OpenClaim := { program := "ytbihpggbabmebaa", sum := "d227eb55fca5daac73dd5f574adcddab8f59e837f3f90ba27a5a6f814874ffaf", func := "loop.example/g01027/laws.FnExactWhoSees", spec := "fnExactWhoSees", unfollowed := true, recurses := true, apart := false }
def FnExactWhoSeesSaid : Prop := fnExactWhoSeesRow.holds Try.pinned (OpenSpec.ofChange fnExactWhoSeesSpec)

/-- ITS FALSE NEIGHBOUR: 'it returns false'. Refute it at one input. -/
def fnExactWhoSeesWrong : ChangeSpec := { name := "fnExactWhoSees", fn := fun _ => fun
  | [d1, d2, d3, d4] => { results := [.lit (.bool false)], args := [d1, d2, d3, d4] }
  | _ => none }
def FnExactWhoSeesWrongFalsely : Prop := fnExactWhoSeesRow.holds Try.pinned (OpenSpec.ofChange fnExactWhoSeesWrong)

/-- 'laws.FnExactLeastRoles': WHATEVER THE INPUT: true; the input reads as it did. -/
def fnExactLeastRolesSpec : ChangeSpec := { name := "fnExactLeastRoles", fn := fun _ => fun
  | [d1, d2, d3] => { results := [.lit (.bool true)], args := [d1, d2, d3] }
  | _ => none }
def fnExactLeastRolesRow : OpenClaim := { program := "ytbihpggbabmebaa", sum := "d227eb55fca5daac73dd5f574adcddab8f59e837f3f90ba27a5a6f814874ffaf", func := "loop.example/g01027/laws.FnExactLeastRoles", spec := "fnExactLeastRoles", unfollowed := true, recurses := true, apart := false }
def FnExactLeastRolesSaid : Prop := fnExactLeastRolesRow.holds Try.pinned (OpenSpec.ofChange fnExactLeastRolesSpec)

/-- ITS FALSE NEIGHBOUR: 'it returns false'. Refute it at one input. -/
def fnExactLeastRolesWrong : ChangeSpec := { name := "fnExactLeastRoles", fn := fun _ => fun
  | [d1, d2, d3] => { results := [.lit (.bool false)], args := [d1, d2, d3] }
  | _ => none }
def FnExactLeastRolesWrongFalsely : Prop := fnExactLeastRolesRow.holds Try.pinned (OpenSpec.ofChange fnExactLeastRolesWrong)

/-- 'laws.FnSealing': WHATEVER THE INPUT: true; the input reads as it did. -/
def fnSealingSpec : ChangeSpec := { name := "fnSealing", fn := fun _ => fun
  | [d] => { results := [.lit (.bool true)], args := [d] }
  | _ => none }
def fnSealingRow : OpenClaim := { program := "ytbihpggbabmebaa", sum := "d227eb55fca5daac73dd5f574adcddab8f59e837f3f90ba27a5a6f814874ffaf", func := "loop.example/g01027/laws.FnSealing", spec := "fnSealing", unfollowed := true, recurses := true, apart := false }
def FnSealingSaid : Prop := fnSealingRow.holds Try.pinned (OpenSpec.ofChange fnSealingSpec)

/-- ITS FALSE NEIGHBOUR: 'it returns false'. Refute it at one input. -/
def fnSealingWrong : ChangeSpec := { name := "fnSealing", fn := fun _ => fun
  | [d] => { results := [.lit (.bool false)], args := [d] }
  | _ => none }
def FnSealingWrongFalsely : Prop := fnSealingRow.holds Try.pinned (OpenSpec.ofChange fnSealingWrong)

/- THE SECOND FORM. 'bulk': how many values and letters a reading holds, each counted each time it is reached (what is shared counts as often as it is met; a slice's spare places count too). A statement '..UptoSaid' is the law's where the arguments, and the package variables that the reading takes, are together of bulk at most 1048576: NARROWER than '..Said'. Prove '..Said' where nothing that the law and all that it calls make is longer than what came in: it says more and counts as full. Else prove '..UptoSaid'. A law counts once. -/
mutual
def uptoBulk {H : Type} : DataW H → Nat
  | .lit (.string bytes) => bytes.length + 1
  | .lit _ => 1
  | .nil => 1
  | .ptr d => uptoBulk d + 1
  | .slice elems spare => uptoBulkAll elems + uptoBulkAll spare + 1
  | .agg parts => uptoBulkAll parts + 1
  | .iface _ d => uptoBulk d + 1
  | .map entries => uptoBulkEntries entries + 1
  | .held _ => 1
def uptoBulkAll {H : Type} : List (DataW H) → Nat
  | [] => 0
  | d :: r => uptoBulk d + uptoBulkAll r
def uptoBulkEntries {H : Type} : List (Lit × DataW H) → Nat
  | [] => 0
  | x :: r => uptoBulkEntry x + uptoBulkEntries r
def uptoBulkEntry {H : Type} : Lit × DataW H → Nat
  | (.string bytes, d) => bytes.length + uptoBulk d + 1
  | (_, d) => uptoBulk d + 1
 end
def uptoSmall : (H : Type) → List (DataW H) → Bool := fun _ ds => decide (uptoBulkAll ds ≤ 1048576)
def OpenSpec.upto (s : _root_.Go.ChangeSpec) : _root_.Go.OpenSpec := { _root_.Go.OpenSpec.ofChange s with cond := some uptoSmall }

/-- 'laws.FnExactAreRoles', WHERE WHAT IT READS IS OF BULK AT MOST 1048576: true; the input reads as it did. -/
def fnExactAreRolesUptoRow : OpenClaim := { program := "ytbihpggbabmebaa", sum := "d227eb55fca5daac73dd5f574adcddab8f59e837f3f90ba27a5a6f814874ffaf", func := "loop.example/g01027/laws.FnExactAreRoles", spec := "fnExactAreRoles", unfollowed := true, recurses := true, apart := false, narrowed := true }
def FnExactAreRolesUptoSaid : Prop := fnExactAreRolesUptoRow.holds Try.pinned (OpenSpec.upto fnExactAreRolesSpec)

/-- 'laws.FnExactAreFiles', WHERE WHAT IT READS IS OF BULK AT MOST 1048576: true; the input reads as it did. -/
def fnExactAreFilesUptoRow : OpenClaim := { program := "ytbihpggbabmebaa", sum := "d227eb55fca5daac73dd5f574adcddab8f59e837f3f90ba27a5a6f814874ffaf", func := "loop.example/g01027/laws.FnExactAreFiles", spec := "fnExactAreFiles", unfollowed := true, recurses := true, apart := false, narrowed := true }
def FnExactAreFilesUptoSaid : Prop := fnExactAreFilesUptoRow.holds Try.pinned (OpenSpec.upto fnExactAreFilesSpec)

/-- 'laws.FnExactIsAbove', WHERE WHAT IT READS IS OF BULK AT MOST 1048576: true; the input reads as it did. -/
def fnExactIsAboveUptoRow : OpenClaim := { program := "ytbihpggbabmebaa", sum := "d227eb55fca5daac73dd5f574adcddab8f59e837f3f90ba27a5a6f814874ffaf", func := "loop.example/g01027/laws.FnExactIsAbove", spec := "fnExactIsAbove", unfollowed := true, recurses := true, apart := false, narrowed := true }
def FnExactIsAboveUptoSaid : Prop := fnExactIsAboveUptoRow.holds Try.pinned (OpenSpec.upto fnExactIsAboveSpec)

/-- 'laws.FnExactSealFile', WHERE WHAT IT READS IS OF BULK AT MOST 1048576: true; the input reads as it did. -/
def fnExactSealFileUptoRow : OpenClaim := { program := "ytbihpggbabmebaa", sum := "d227eb55fca5daac73dd5f574adcddab8f59e837f3f90ba27a5a6f814874ffaf", func := "loop.example/g01027/laws.FnExactSealFile", spec := "fnExactSealFile", unfollowed := true, recurses := true, apart := false, narrowed := true }
def FnExactSealFileUptoSaid : Prop := fnExactSealFileUptoRow.holds Try.pinned (OpenSpec.upto fnExactSealFileSpec)

/-- 'laws.FnExactMaySee', WHERE WHAT IT READS IS OF BULK AT MOST 1048576: true; the input reads as it did. -/
def fnExactMaySeeUptoRow : OpenClaim := { program := "ytbihpggbabmebaa", sum := "d227eb55fca5daac73dd5f574adcddab8f59e837f3f90ba27a5a6f814874ffaf", func := "loop.example/g01027/laws.FnExactMaySee", spec := "fnExactMaySee", unfollowed := true, recurses := true, apart := false, narrowed := true }
def FnExactMaySeeUptoSaid : Prop := fnExactMaySeeUptoRow.holds Try.pinned (OpenSpec.upto fnExactMaySeeSpec)

/-- 'laws.FnSeen', WHERE WHAT IT READS IS OF BULK AT MOST 1048576: true; the input reads as it did. -/
def fnSeenUptoRow : OpenClaim := { program := "ytbihpggbabmebaa", sum := "d227eb55fca5daac73dd5f574adcddab8f59e837f3f90ba27a5a6f814874ffaf", func := "loop.example/g01027/laws.FnSeen", spec := "fnSeen", unfollowed := true, recurses := true, apart := false, narrowed := true }
def FnSeenUptoSaid : Prop := fnSeenUptoRow.holds Try.pinned (OpenSpec.upto fnSeenSpec)

/-- 'laws.FnExactFirstDay', WHERE WHAT IT READS IS OF BULK AT MOST 1048576: true; the input reads as it did. -/
def fnExactFirstDayUptoRow : OpenClaim := { program := "ytbihpggbabmebaa", sum := "d227eb55fca5daac73dd5f574adcddab8f59e837f3f90ba27a5a6f814874ffaf", func := "loop.example/g01027/laws.FnExactFirstDay", spec := "fnExactFirstDay", unfollowed := true, recurses := true, apart := false, narrowed := true }
def FnExactFirstDayUptoSaid : Prop := fnExactFirstDayUptoRow.holds Try.pinned (OpenSpec.upto fnExactFirstDaySpec)

/-- 'laws.FnExactSeenBy', WHERE WHAT IT READS IS OF BULK AT MOST 1048576: true; the input reads as it did. -/
def fnExactSeenByUptoRow : OpenClaim := { program := "ytbihpggbabmebaa", sum := "d227eb55fca5daac73dd5f574adcddab8f59e837f3f90ba27a5a6f814874ffaf", func := "loop.example/g01027/laws.FnExactSeenBy", spec := "fnExactSeenBy", unfollowed := true, recurses := true, apart := false, narrowed := true }
def FnExactSeenByUptoSaid : Prop := fnExactSeenByUptoRow.holds Try.pinned (OpenSpec.upto fnExactSeenBySpec)

/-- 'laws.FnExactWhoSees', WHERE WHAT IT READS IS OF BULK AT MOST 1048576: true; the input reads as it did. -/
def fnExactWhoSeesUptoRow : OpenClaim := { program := "ytbihpggbabmebaa", sum := "d227eb55fca5daac73dd5f574adcddab8f59e837f3f90ba27a5a6f814874ffaf", func := "loop.example/g01027/laws.FnExactWhoSees", spec := "fnExactWhoSees", unfollowed := true, recurses := true, apart := false, narrowed := true }
def FnExactWhoSeesUptoSaid : Prop := fnExactWhoSeesUptoRow.holds Try.pinned (OpenSpec.upto fnExactWhoSeesSpec)

/-- 'laws.FnExactLeastRoles', WHERE WHAT IT READS IS OF BULK AT MOST 1048576: true; the input reads as it did. -/
def fnExactLeastRolesUptoRow : OpenClaim := { program := "ytbihpggbabmebaa", sum := "d227eb55fca5daac73dd5f574adcddab8f59e837f3f90ba27a5a6f814874ffaf", func := "loop.example/g01027/laws.FnExactLeastRoles", spec := "fnExactLeastRoles", unfollowed := true, recurses := true, apart := false, narrowed := true }
def FnExactLeastRolesUptoSaid : Prop := fnExactLeastRolesUptoRow.holds Try.pinned (OpenSpec.upto fnExactLeastRolesSpec)

/-- 'laws.FnSealing', WHERE WHAT IT READS IS OF BULK AT MOST 1048576: true; the input reads as it did. -/
def fnSealingUptoRow : OpenClaim := { program := "ytbihpggbabmebaa", sum := "d227eb55fca5daac73dd5f574adcddab8f59e837f3f90ba27a5a6f814874ffaf", func := "loop.example/g01027/laws.FnSealing", spec := "fnSealing", unfollowed := true, recurses := true, apart := false, narrowed := true }
def FnSealingUptoSaid : Prop := fnSealingUptoRow.holds Try.pinned (OpenSpec.upto fnSealingSpec)

end Rows
end Go.Proofs.Ytbihpggbabmebaa
