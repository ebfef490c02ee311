/-
  No cell of these rows narrows 'for every input' (looked for: loops, veiled, ifaces, maps, wideKeys, modest, calm, conditions, laid).
  DERIVED. THE GIVEN ROWS OF THIS SEAT. 15 by the template 'for every input the law returns true; each argument reads behind the call as it read before'; 0 by the template 'total and deterministic' (their statements: YtnjohcbamblilaaTotals.lean).
  GIVEN WITH THE SEED: the statements are not yours to turn. If you find one false, say at which input.
  Laid BY PROGRAM, IN A SANDBOX (cutbox-rows.mjs): the forced cells as the released guide's own fill.sh prints them over the translation caa32ecb2d5dd820… (all of the seat's roots in one cut). By AI agents, Wed Nov 11 2026. No macro, syntax, notation, axiom, sorry.
-/
import Derived.Test.YtnjohcbamblilaaChecked
import GoSem.Claim
import GoSem.ClaimJoined
import GoSem.ClaimMapViews
import Derived.JoinedTies
import Derived.KernelRfl
namespace Go.Proofs.Ytnjohcbamblilaa
/- THE CELL 'sum', in the pinned program and in every row, IS THE sha256 OF THE DUMP (.gsa) THAT YtnjohcbamblilaaProg.lean LOADS. Nothing in Lean hashes anything: it is a label: what it is worth is what the hold of that sum in a sandbox is worth. -/
noncomputable def Try.pinned : Pinned := { name := "ytnjohcbamblilaa", sum := "caa32ecb2d5dd820180880f57c6b9ccb2d37ba80ad5bdbc2c59e7981256dbd51", checked := Try.checked }
namespace Rows
def none {H : Type} : Left H := { results := [], args := [] }

/-- 'laws.FnExactAreRulings': WHATEVER THE INPUT: true; the input reads as it did. -/
def fnExactAreRulingsSpec : ChangeSpec := { name := "fnExactAreRulings", fn := fun _ => fun
  | [d] => { results := [.lit (.bool true)], args := [d] }
  | _ => none }
def fnExactAreRulingsRow : OpenClaim := { program := "ytnjohcbamblilaa", sum := "caa32ecb2d5dd820180880f57c6b9ccb2d37ba80ad5bdbc2c59e7981256dbd51", func := "loop.example/g01027/laws.FnExactAreRulings", spec := "fnExactAreRulings", apart := false }
def FnExactAreRulingsSaid : Prop := fnExactAreRulingsRow.holds Try.pinned (OpenSpec.ofChange fnExactAreRulingsSpec)

/-- ITS FALSE NEIGHBOUR: 'it returns false'. Refute it at one input. -/
def fnExactAreRulingsWrong : ChangeSpec := { name := "fnExactAreRulings", fn := fun _ => fun
  | [d] => { results := [.lit (.bool false)], args := [d] }
  | _ => none }
def FnExactAreRulingsWrongFalsely : Prop := fnExactAreRulingsRow.holds Try.pinned (OpenSpec.ofChange fnExactAreRulingsWrong)

/-- 'laws.FnExactStandingOn': WHATEVER THE INPUT: true; the input reads as it did. -/
def fnExactStandingOnSpec : ChangeSpec := { name := "fnExactStandingOn", fn := fun _ => fun
  | [d1, d2, d3] => { results := [.lit (.bool true)], args := [d1, d2, d3] }
  | _ => none }
def fnExactStandingOnRow : OpenClaim := { program := "ytnjohcbamblilaa", sum := "caa32ecb2d5dd820180880f57c6b9ccb2d37ba80ad5bdbc2c59e7981256dbd51", func := "loop.example/g01027/laws.FnExactStandingOn", spec := "fnExactStandingOn", apart := false }
def FnExactStandingOnSaid : Prop := fnExactStandingOnRow.holds Try.pinned (OpenSpec.ofChange fnExactStandingOnSpec)

/-- ITS FALSE NEIGHBOUR: 'it returns false'. Refute it at one input. -/
def fnExactStandingOnWrong : ChangeSpec := { name := "fnExactStandingOn", fn := fun _ => fun
  | [d1, d2, d3] => { results := [.lit (.bool false)], args := [d1, d2, d3] }
  | _ => none }
def FnExactStandingOnWrongFalsely : Prop := fnExactStandingOnRow.holds Try.pinned (OpenSpec.ofChange fnExactStandingOnWrong)

/-- 'laws.FnExactAddRuling': WHATEVER THE INPUT: true; the input reads as it did. -/
def fnExactAddRulingSpec : ChangeSpec := { name := "fnExactAddRuling", fn := fun _ => fun
  | [d1, d2] => { results := [.lit (.bool true)], args := [d1, d2] }
  | _ => none }
def fnExactAddRulingRow : OpenClaim := { program := "ytnjohcbamblilaa", sum := "caa32ecb2d5dd820180880f57c6b9ccb2d37ba80ad5bdbc2c59e7981256dbd51", func := "loop.example/g01027/laws.FnExactAddRuling", spec := "fnExactAddRuling", apart := false }
def FnExactAddRulingSaid : Prop := fnExactAddRulingRow.holds Try.pinned (OpenSpec.ofChange fnExactAddRulingSpec)

/-- ITS FALSE NEIGHBOUR: 'it returns false'. Refute it at one input. -/
def fnExactAddRulingWrong : ChangeSpec := { name := "fnExactAddRuling", fn := fun _ => fun
  | [d1, d2] => { results := [.lit (.bool false)], args := [d1, d2] }
  | _ => none }
def FnExactAddRulingWrongFalsely : Prop := fnExactAddRulingRow.holds Try.pinned (OpenSpec.ofChange fnExactAddRulingWrong)

/-- 'laws.FnExactHolderOn': WHATEVER THE INPUT: true; the input reads as it did. -/
def fnExactHolderOnSpec : ChangeSpec := { name := "fnExactHolderOn", fn := fun _ => fun
  | [d1, d2] => { results := [.lit (.bool true)], args := [d1, d2] }
  | _ => none }
def fnExactHolderOnRow : OpenClaim := { program := "ytnjohcbamblilaa", sum := "caa32ecb2d5dd820180880f57c6b9ccb2d37ba80ad5bdbc2c59e7981256dbd51", func := "loop.example/g01027/laws.FnExactHolderOn", spec := "fnExactHolderOn", apart := false }
def FnExactHolderOnSaid : Prop := fnExactHolderOnRow.holds Try.pinned (OpenSpec.ofChange fnExactHolderOnSpec)

/-- ITS FALSE NEIGHBOUR: 'it returns false'. Refute it at one input. -/
def fnExactHolderOnWrong : ChangeSpec := { name := "fnExactHolderOn", fn := fun _ => fun
  | [d1, d2] => { results := [.lit (.bool false)], args := [d1, d2] }
  | _ => none }
def FnExactHolderOnWrongFalsely : Prop := fnExactHolderOnRow.holds Try.pinned (OpenSpec.ofChange fnExactHolderOnWrong)

/-- 'laws.FnExactDaysHeld': WHATEVER THE INPUT: true; the input reads as it did. -/
def fnExactDaysHeldSpec : ChangeSpec := { name := "fnExactDaysHeld", fn := fun _ => fun
  | [d1, d2, d3] => { results := [.lit (.bool true)], args := [d1, d2, d3] }
  | _ => none }
def fnExactDaysHeldRow : OpenClaim := { program := "ytnjohcbamblilaa", sum := "caa32ecb2d5dd820180880f57c6b9ccb2d37ba80ad5bdbc2c59e7981256dbd51", func := "loop.example/g01027/laws.FnExactDaysHeld", spec := "fnExactDaysHeld", apart := false }
def FnExactDaysHeldSaid : Prop := fnExactDaysHeldRow.holds Try.pinned (OpenSpec.ofChange fnExactDaysHeldSpec)

/-- ITS FALSE NEIGHBOUR: 'it returns false'. Refute it at one input. -/
def fnExactDaysHeldWrong : ChangeSpec := { name := "fnExactDaysHeld", fn := fun _ => fun
  | [d1, d2, d3] => { results := [.lit (.bool false)], args := [d1, d2, d3] }
  | _ => none }
def FnExactDaysHeldWrongFalsely : Prop := fnExactDaysHeldRow.holds Try.pinned (OpenSpec.ofChange fnExactDaysHeldWrong)

/-- 'laws.FnExactSealChanges': WHATEVER THE INPUT: true; the input reads as it did. -/
def fnExactSealChangesSpec : ChangeSpec := { name := "fnExactSealChanges", fn := fun _ => fun
  | [d] => { results := [.lit (.bool true)], args := [d] }
  | _ => none }
def fnExactSealChangesRow : OpenClaim := { program := "ytnjohcbamblilaa", sum := "caa32ecb2d5dd820180880f57c6b9ccb2d37ba80ad5bdbc2c59e7981256dbd51", func := "loop.example/g01027/laws.FnExactSealChanges", spec := "fnExactSealChanges", apart := false }
def FnExactSealChangesSaid : Prop := fnExactSealChangesRow.holds Try.pinned (OpenSpec.ofChange fnExactSealChangesSpec)

/-- ITS FALSE NEIGHBOUR: 'it returns false'. Refute it at one input. -/
def fnExactSealChangesWrong : ChangeSpec := { name := "fnExactSealChanges", fn := fun _ => fun
  | [d] => { results := [.lit (.bool false)], args := [d] }
  | _ => none }
def FnExactSealChangesWrongFalsely : Prop := fnExactSealChangesRow.holds Try.pinned (OpenSpec.ofChange fnExactSealChangesWrong)

/-- 'laws.FnDaysHeld': WHATEVER THE INPUT: true; the input reads as it did. -/
def fnDaysHeldSpec : ChangeSpec := { name := "fnDaysHeld", fn := fun _ => fun
  | [d] => { results := [.lit (.bool true)], args := [d] }
  | _ => none }
def fnDaysHeldRow : OpenClaim := { program := "ytnjohcbamblilaa", sum := "caa32ecb2d5dd820180880f57c6b9ccb2d37ba80ad5bdbc2c59e7981256dbd51", func := "loop.example/g01027/laws.FnDaysHeld", spec := "fnDaysHeld", apart := false }
def FnDaysHeldSaid : Prop := fnDaysHeldRow.holds Try.pinned (OpenSpec.ofChange fnDaysHeldSpec)

/-- ITS FALSE NEIGHBOUR: 'it returns false'. Refute it at one input. -/
def fnDaysHeldWrong : ChangeSpec := { name := "fnDaysHeld", fn := fun _ => fun
  | [d] => { results := [.lit (.bool false)], args := [d] }
  | _ => none }
def FnDaysHeldWrongFalsely : Prop := fnDaysHeldRow.holds Try.pinned (OpenSpec.ofChange fnDaysHeldWrong)

/-- 'laws.FnExactHoldersOf': WHATEVER THE INPUT: true; the input reads as it did. -/
def fnExactHoldersOfSpec : ChangeSpec := { name := "fnExactHoldersOf", fn := fun _ => fun
  | [d] => { results := [.lit (.bool true)], args := [d] }
  | _ => none }
def fnExactHoldersOfRow : OpenClaim := { program := "ytnjohcbamblilaa", sum := "caa32ecb2d5dd820180880f57c6b9ccb2d37ba80ad5bdbc2c59e7981256dbd51", func := "loop.example/g01027/laws.FnExactHoldersOf", spec := "fnExactHoldersOf", apart := false }
def FnExactHoldersOfSaid : Prop := fnExactHoldersOfRow.holds Try.pinned (OpenSpec.ofChange fnExactHoldersOfSpec)

/-- ITS FALSE NEIGHBOUR: 'it returns false'. Refute it at one input. -/
def fnExactHoldersOfWrong : ChangeSpec := { name := "fnExactHoldersOf", fn := fun _ => fun
  | [d] => { results := [.lit (.bool false)], args := [d] }
  | _ => none }
def FnExactHoldersOfWrongFalsely : Prop := fnExactHoldersOfRow.holds Try.pinned (OpenSpec.ofChange fnExactHoldersOfWrong)

/-- 'laws.FnExactHandOver': WHATEVER THE INPUT: true; the input reads as it did. -/
def fnExactHandOverSpec : ChangeSpec := { name := "fnExactHandOver", fn := fun _ => fun
  | [d1, d2] => { results := [.lit (.bool true)], args := [d1, d2] }
  | _ => none }
def fnExactHandOverRow : OpenClaim := { program := "ytnjohcbamblilaa", sum := "caa32ecb2d5dd820180880f57c6b9ccb2d37ba80ad5bdbc2c59e7981256dbd51", func := "loop.example/g01027/laws.FnExactHandOver", spec := "fnExactHandOver", apart := false }
def FnExactHandOverSaid : Prop := fnExactHandOverRow.holds Try.pinned (OpenSpec.ofChange fnExactHandOverSpec)

/-- ITS FALSE NEIGHBOUR: 'it returns false'. Refute it at one input. -/
def fnExactHandOverWrong : ChangeSpec := { name := "fnExactHandOver", fn := fun _ => fun
  | [d1, d2] => { results := [.lit (.bool false)], args := [d1, d2] }
  | _ => none }
def FnExactHandOverWrongFalsely : Prop := fnExactHandOverRow.holds Try.pinned (OpenSpec.ofChange fnExactHandOverWrong)

/-- 'laws.FnExhibits': WHATEVER THE INPUT: true; the input reads as it did. -/
def fnExhibitsSpec : ChangeSpec := { name := "fnExhibits", fn := fun _ => fun
  | [d] => { results := [.lit (.bool true)], args := [d] }
  | _ => none }
def fnExhibitsRow : OpenClaim := { program := "ytnjohcbamblilaa", sum := "caa32ecb2d5dd820180880f57c6b9ccb2d37ba80ad5bdbc2c59e7981256dbd51", func := "loop.example/g01027/laws.FnExhibits", spec := "fnExhibits", unfollowed := true, recurses := true, apart := false }
def FnExhibitsSaid : Prop := fnExhibitsRow.holds Try.pinned (OpenSpec.ofChange fnExhibitsSpec)

/-- ITS FALSE NEIGHBOUR: 'it returns false'. Refute it at one input. -/
def fnExhibitsWrong : ChangeSpec := { name := "fnExhibits", fn := fun _ => fun
  | [d] => { results := [.lit (.bool false)], args := [d] }
  | _ => none }
def FnExhibitsWrongFalsely : Prop := fnExhibitsRow.holds Try.pinned (OpenSpec.ofChange fnExhibitsWrong)

/-- 'laws.FnExactCountStandings': WHATEVER THE INPUT: true; the input reads as it did. -/
def fnExactCountStandingsSpec : ChangeSpec := { name := "fnExactCountStandings", fn := fun _ => fun
  | [d1, d2, d3] => { results := [.lit (.bool true)], args := [d1, d2, d3] }
  | _ => none }
def fnExactCountStandingsRow : OpenClaim := { program := "ytnjohcbamblilaa", sum := "caa32ecb2d5dd820180880f57c6b9ccb2d37ba80ad5bdbc2c59e7981256dbd51", func := "loop.example/g01027/laws.FnExactCountStandings", spec := "fnExactCountStandings", unfollowed := true, recurses := true, apart := false }
def FnExactCountStandingsSaid : Prop := fnExactCountStandingsRow.holds Try.pinned (OpenSpec.ofChange fnExactCountStandingsSpec)

/-- ITS FALSE NEIGHBOUR: 'it returns false'. Refute it at one input. -/
def fnExactCountStandingsWrong : ChangeSpec := { name := "fnExactCountStandings", fn := fun _ => fun
  | [d1, d2, d3] => { results := [.lit (.bool false)], args := [d1, d2, d3] }
  | _ => none }
def FnExactCountStandingsWrongFalsely : Prop := fnExactCountStandingsRow.holds Try.pinned (OpenSpec.ofChange fnExactCountStandingsWrong)

/-- 'laws.FnExactWhyUnseen': WHATEVER THE INPUT: true; the input reads as it did. -/
def fnExactWhyUnseenSpec : ChangeSpec := { name := "fnExactWhyUnseen", fn := fun _ => fun
  | [d1, d2, d3, d4] => { results := [.lit (.bool true)], args := [d1, d2, d3, d4] }
  | _ => none }
def fnExactWhyUnseenRow : OpenClaim := { program := "ytnjohcbamblilaa", sum := "caa32ecb2d5dd820180880f57c6b9ccb2d37ba80ad5bdbc2c59e7981256dbd51", func := "loop.example/g01027/laws.FnExactWhyUnseen", spec := "fnExactWhyUnseen", unfollowed := true, recurses := true, apart := false }
def FnExactWhyUnseenSaid : Prop := fnExactWhyUnseenRow.holds Try.pinned (OpenSpec.ofChange fnExactWhyUnseenSpec)

/-- ITS FALSE NEIGHBOUR: 'it returns false'. Refute it at one input. -/
def fnExactWhyUnseenWrong : ChangeSpec := { name := "fnExactWhyUnseen", fn := fun _ => fun
  | [d1, d2, d3, d4] => { results := [.lit (.bool false)], args := [d1, d2, d3, d4] }
  | _ => none }
def FnExactWhyUnseenWrongFalsely : Prop := fnExactWhyUnseenRow.holds Try.pinned (OpenSpec.ofChange fnExactWhyUnseenWrong)

/-- 'laws.FnExactDoSee': WHATEVER THE INPUT: true; the input reads as it did. -/
def fnExactDoSeeSpec : ChangeSpec := { name := "fnExactDoSee", fn := fun _ => fun
  | [d1, d2, d3, d4] => { results := [.lit (.bool true)], args := [d1, d2, d3, d4] }
  | _ => none }
def fnExactDoSeeRow : OpenClaim := { program := "ytnjohcbamblilaa", sum := "caa32ecb2d5dd820180880f57c6b9ccb2d37ba80ad5bdbc2c59e7981256dbd51", func := "loop.example/g01027/laws.FnExactDoSee", spec := "fnExactDoSee", unfollowed := true, recurses := true, apart := false }
def FnExactDoSeeSaid : Prop := fnExactDoSeeRow.holds Try.pinned (OpenSpec.ofChange fnExactDoSeeSpec)

/-- ITS FALSE NEIGHBOUR: 'it returns false'. Refute it at one input. -/
def fnExactDoSeeWrong : ChangeSpec := { name := "fnExactDoSee", fn := fun _ => fun
  | [d1, d2, d3, d4] => { results := [.lit (.bool false)], args := [d1, d2, d3, d4] }
  | _ => none }
def FnExactDoSeeWrongFalsely : Prop := fnExactDoSeeRow.holds Try.pinned (OpenSpec.ofChange fnExactDoSeeWrong)

/-- 'laws.FnExactSeenOn': WHATEVER THE INPUT: true; the input reads as it did. -/
def fnExactSeenOnSpec : ChangeSpec := { name := "fnExactSeenOn", fn := fun _ => fun
  | [d1, d2, d3] => { results := [.lit (.bool true)], args := [d1, d2, d3] }
  | _ => none }
def fnExactSeenOnRow : OpenClaim := { program := "ytnjohcbamblilaa", sum := "caa32ecb2d5dd820180880f57c6b9ccb2d37ba80ad5bdbc2c59e7981256dbd51", func := "loop.example/g01027/laws.FnExactSeenOn", spec := "fnExactSeenOn", unfollowed := true, recurses := true, apart := false }
def FnExactSeenOnSaid : Prop := fnExactSeenOnRow.holds Try.pinned (OpenSpec.ofChange fnExactSeenOnSpec)

/-- ITS FALSE NEIGHBOUR: 'it returns false'. Refute it at one input. -/
def fnExactSeenOnWrong : ChangeSpec := { name := "fnExactSeenOn", fn := fun _ => fun
  | [d1, d2, d3] => { results := [.lit (.bool false)], args := [d1, d2, d3] }
  | _ => none }
def FnExactSeenOnWrongFalsely : Prop := fnExactSeenOnRow.holds Try.pinned (OpenSpec.ofChange fnExactSeenOnWrong)

/-- 'laws.FnRulings': WHATEVER THE INPUT: true; the input reads as it did. -/
def fnRulingsSpec : ChangeSpec := { name := "fnRulings", fn := fun _ => fun
  | [d] => { results := [.lit (.bool true)], args := [d] }
  | _ => none }
def fnRulingsRow : OpenClaim := { program := "ytnjohcbamblilaa", sum := "caa32ecb2d5dd820180880f57c6b9ccb2d37ba80ad5bdbc2c59e7981256dbd51", func := "loop.example/g01027/laws.FnRulings", spec := "fnRulings", unfollowed := true, recurses := true, apart := false }
def FnRulingsSaid : Prop := fnRulingsRow.holds Try.pinned (OpenSpec.ofChange fnRulingsSpec)

/-- ITS FALSE NEIGHBOUR: 'it returns false'. Refute it at one input. -/
def fnRulingsWrong : ChangeSpec := { name := "fnRulings", fn := fun _ => fun
  | [d] => { results := [.lit (.bool false)], args := [d] }
  | _ => none }
def FnRulingsWrongFalsely : Prop := fnRulingsRow.holds Try.pinned (OpenSpec.ofChange fnRulingsWrong)

/- THE SECOND FORM. 'bulk': how many values and letters a reading holds, each counted each time it is reached (what is shared counts as often as it is met; a slice's spare places count too). A statement '..UptoSaid' is the law's where the arguments, and the package variables that the reading takes, are together of bulk at most 1048576: NARROWER than '..Said'. Prove '..Said' where nothing that the law and all that it calls make is longer than what came in: it says more and counts as full. Else prove '..UptoSaid'. A law counts once. -/
mutual
def uptoBulk {H : Type} : DataW H → Nat
  | .lit (.string bytes) => bytes.length + 1
  | .lit _ => 1
  | .nil => 1
  | .ptr d => uptoBulk d + 1
  | .slice elems spare => uptoBulkAll elems + uptoBulkAll spare + 1
  | .agg parts => uptoBulkAll parts + 1
  | .iface _ d => uptoBulk d + 1
  | .map entries => uptoBulkEntries entries + 1
  | .held _ => 1
def uptoBulkAll {H : Type} : List (DataW H) → Nat
  | [] => 0
  | d :: r => uptoBulk d + uptoBulkAll r
def uptoBulkEntries {H : Type} : List (Lit × DataW H) → Nat
  | [] => 0
  | x :: r => uptoBulkEntry x + uptoBulkEntries r
def uptoBulkEntry {H : Type} : Lit × DataW H → Nat
  | (.string bytes, d) => bytes.length + uptoBulk d + 1
  | (_, d) => uptoBulk d + 1
 end
def uptoSmall : (H : Type) → List (DataW H) → Bool := fun _ ds => decide (uptoBulkAll ds ≤ 1048576)
def OpenSpec.upto (s : _root_.Go.ChangeSpec) : _root_.Go.OpenSpec := { _root_.Go.OpenSpec.ofChange s with cond := some uptoSmall }

/-- 'laws.FnExactAreRulings', WHERE WHAT IT READS IS OF BULK AT MOST 1048576: true; the input reads as it did. -/
def fnExactAreRulingsUptoRow : OpenClaim := { program := "ytnjohcbamblilaa", sum := "caa32ecb2d5dd820180880f57c6b9ccb2d37ba80ad5bdbc2c59e7981256dbd51", func := "loop.example/g01027/laws.FnExactAreRulings", spec := "fnExactAreRulings", apart := false, narrowed := true }
def FnExactAreRulingsUptoSaid : Prop := fnExactAreRulingsUptoRow.holds Try.pinned (OpenSpec.upto fnExactAreRulingsSpec)

/-- 'laws.FnExactStandingOn', WHERE WHAT IT READS IS OF BULK AT MOST 1048576: true; the input reads as it did. -/
def fnExactStandingOnUptoRow : OpenClaim := { program := "ytnjohcbamblilaa", sum := "caa32ecb2d5dd820180880f57c6b9ccb2d37ba80ad5bdbc2c59e7981256dbd51", func := "loop.example/g01027/laws.FnExactStandingOn", spec := "fnExactStandingOn", apart := false, narrowed := true }
def FnExactStandingOnUptoSaid : Prop := fnExactStandingOnUptoRow.holds Try.pinned (OpenSpec.upto fnExactStandingOnSpec)

/-- 'laws.FnExactAddRuling', WHERE WHAT IT READS IS OF BULK AT MOST 1048576: true; the input reads as it did. -/
def fnExactAddRulingUptoRow : OpenClaim := { program := "ytnjohcbamblilaa", sum := "caa32ecb2d5dd820180880f57c6b9ccb2d37ba80ad5bdbc2c59e7981256dbd51", func := "loop.example/g01027/laws.FnExactAddRuling", spec := "fnExactAddRuling", apart := false, narrowed := true }
def FnExactAddRulingUptoSaid : Prop := fnExactAddRulingUptoRow.holds Try.pinned (OpenSpec.upto fnExactAddRulingSpec)

/-- 'laws.FnExactHolderOn', WHERE WHAT IT READS IS OF BULK AT MOST 1048576: true; the input reads as it did. -/
def fnExactHolderOnUptoRow : OpenClaim := { program := "ytnjohcbamblilaa", sum := "caa32ecb2d5dd820180880f57c6b9ccb2d37ba80ad5bdbc2c59e7981256dbd51", func := "loop.example/g01027/laws.FnExactHolderOn", spec := "fnExactHolderOn", apart := false, narrowed := true }
def FnExactHolderOnUptoSaid : Prop := fnExactHolderOnUptoRow.holds Try.pinned (OpenSpec.upto fnExactHolderOnSpec)

/-- 'laws.FnExactDaysHeld', WHERE WHAT IT READS IS OF BULK AT MOST 1048576: true; the input reads as it did. -/
def fnExactDaysHeldUptoRow : OpenClaim := { program := "ytnjohcbamblilaa", sum := "caa32ecb2d5dd820180880f57c6b9ccb2d37ba80ad5bdbc2c59e7981256dbd51", func := "loop.example/g01027/laws.FnExactDaysHeld", spec := "fnExactDaysHeld", apart := false, narrowed := true }
def FnExactDaysHeldUptoSaid : Prop := fnExactDaysHeldUptoRow.holds Try.pinned (OpenSpec.upto fnExactDaysHeldSpec)

/-- 'laws.FnExactSealChanges', WHERE WHAT IT READS IS OF BULK AT MOST 1048576: true; the input reads as it did. -/
def fnExactSealChangesUptoRow : OpenClaim := { program := "ytnjohcbamblilaa", sum := "caa32ecb2d5dd820180880f57c6b9ccb2d37ba80ad5bdbc2c59e7981256dbd51", func := "loop.example/g01027/laws.FnExactSealChanges", spec := "fnExactSealChanges", apart := false, narrowed := true }
def FnExactSealChangesUptoSaid : Prop := fnExactSealChangesUptoRow.holds Try.pinned (OpenSpec.upto fnExactSealChangesSpec)

/-- 'laws.FnDaysHeld', WHERE WHAT IT READS IS OF BULK AT MOST 1048576: true; the input reads as it did. -/
def fnDaysHeldUptoRow : OpenClaim := { program := "ytnjohcbamblilaa", sum := "caa32ecb2d5dd820180880f57c6b9ccb2d37ba80ad5bdbc2c59e7981256dbd51", func := "loop.example/g01027/laws.FnDaysHeld", spec := "fnDaysHeld", apart := false, narrowed := true }
def FnDaysHeldUptoSaid : Prop := fnDaysHeldUptoRow.holds Try.pinned (OpenSpec.upto fnDaysHeldSpec)

/-- 'laws.FnExactHoldersOf', WHERE WHAT IT READS IS OF BULK AT MOST 1048576: true; the input reads as it did. -/
def fnExactHoldersOfUptoRow : OpenClaim := { program := "ytnjohcbamblilaa", sum := "caa32ecb2d5dd820180880f57c6b9ccb2d37ba80ad5bdbc2c59e7981256dbd51", func := "loop.example/g01027/laws.FnExactHoldersOf", spec := "fnExactHoldersOf", apart := false, narrowed := true }
def FnExactHoldersOfUptoSaid : Prop := fnExactHoldersOfUptoRow.holds Try.pinned (OpenSpec.upto fnExactHoldersOfSpec)

/-- 'laws.FnExactHandOver', WHERE WHAT IT READS IS OF BULK AT MOST 1048576: true; the input reads as it did. -/
def fnExactHandOverUptoRow : OpenClaim := { program := "ytnjohcbamblilaa", sum := "caa32ecb2d5dd820180880f57c6b9ccb2d37ba80ad5bdbc2c59e7981256dbd51", func := "loop.example/g01027/laws.FnExactHandOver", spec := "fnExactHandOver", apart := false, narrowed := true }
def FnExactHandOverUptoSaid : Prop := fnExactHandOverUptoRow.holds Try.pinned (OpenSpec.upto fnExactHandOverSpec)

/-- 'laws.FnExhibits', WHERE WHAT IT READS IS OF BULK AT MOST 1048576: true; the input reads as it did. -/
def fnExhibitsUptoRow : OpenClaim := { program := "ytnjohcbamblilaa", sum := "caa32ecb2d5dd820180880f57c6b9ccb2d37ba80ad5bdbc2c59e7981256dbd51", func := "loop.example/g01027/laws.FnExhibits", spec := "fnExhibits", unfollowed := true, recurses := true, apart := false, narrowed := true }
def FnExhibitsUptoSaid : Prop := fnExhibitsUptoRow.holds Try.pinned (OpenSpec.upto fnExhibitsSpec)

/-- 'laws.FnExactCountStandings', WHERE WHAT IT READS IS OF BULK AT MOST 1048576: true; the input reads as it did. -/
def fnExactCountStandingsUptoRow : OpenClaim := { program := "ytnjohcbamblilaa", sum := "caa32ecb2d5dd820180880f57c6b9ccb2d37ba80ad5bdbc2c59e7981256dbd51", func := "loop.example/g01027/laws.FnExactCountStandings", spec := "fnExactCountStandings", unfollowed := true, recurses := true, apart := false, narrowed := true }
def FnExactCountStandingsUptoSaid : Prop := fnExactCountStandingsUptoRow.holds Try.pinned (OpenSpec.upto fnExactCountStandingsSpec)

/-- 'laws.FnExactWhyUnseen', WHERE WHAT IT READS IS OF BULK AT MOST 1048576: true; the input reads as it did. -/
def fnExactWhyUnseenUptoRow : OpenClaim := { program := "ytnjohcbamblilaa", sum := "caa32ecb2d5dd820180880f57c6b9ccb2d37ba80ad5bdbc2c59e7981256dbd51", func := "loop.example/g01027/laws.FnExactWhyUnseen", spec := "fnExactWhyUnseen", unfollowed := true, recurses := true, apart := false, narrowed := true }
def FnExactWhyUnseenUptoSaid : Prop := fnExactWhyUnseenUptoRow.holds Try.pinned (OpenSpec.upto fnExactWhyUnseenSpec)

/-- 'laws.FnExactDoSee', WHERE WHAT IT READS IS OF BULK AT MOST 1048576: true; the input reads as it did. -/
def fnExactDoSeeUptoRow : OpenClaim := { program := "ytnjohcbamblilaa", sum := "caa32ecb2d5dd820180880f57c6b9ccb2d37ba80ad5bdbc2c59e7981256dbd51", func := "loop.example/g01027/laws.FnExactDoSee", spec := "fnExactDoSee", unfollowed := true, recurses := true, apart := false, narrowed := true }
def FnExactDoSeeUptoSaid : Prop := fnExactDoSeeUptoRow.holds Try.pinned (OpenSpec.upto fnExactDoSeeSpec)

/-- 'laws.FnExactSeenOn', WHERE WHAT IT READS IS OF BULK AT MOST 1048576: true; the input reads as it did. -/
def fnExactSeenOnUptoRow : OpenClaim := { program := "ytnjohcbamblilaa", sum := "caa32ecb2d5dd820180880f57c6b9ccb2d37ba80ad5bdbc2c59e7981256dbd51", func := "loop.example/g01027/laws.FnExactSeenOn", spec := "fnExactSeenOn", unfollowed := true, recurses := true, apart := false, narrowed := true }
def FnExactSeenOnUptoSaid : Prop := fnExactSeenOnUptoRow.holds Try.pinned (OpenSpec.upto fnExactSeenOnSpec)

/-- 'laws.FnRulings', WHERE WHAT IT READS IS OF BULK AT MOST 1048576: true; the input reads as it did. -/
def fnRulingsUptoRow : OpenClaim := { program := "ytnjohcbamblilaa", sum := "caa32ecb2d5dd820180880f57c6b9ccb2d37ba80ad5bdbc2c59e7981256dbd51", func := "loop.example/g01027/laws.FnRulings", spec := "fnRulings", unfollowed := true, recurses := true, apart := false, narrowed := true }
def FnRulingsUptoSaid : Prop := fnRulingsUptoRow.holds Try.pinned (OpenSpec.upto fnRulingsSpec)

end Rows
end Go.Proofs.Ytnjohcbamblilaa
