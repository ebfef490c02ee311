/-
  No cell of these rows narrows 'for every input' (looked for: loops, veiled, ifaces, maps, wideKeys, modest, calm, conditions, laid).
  DERIVED. THE GIVEN ROWS OF THIS SEAT. 22 by the template 'for every input the law returns true; each argument reads behind the call as it read before'; 0 by the template 'total and deterministic' (their statements: YtinpkihmkfiidaaTotals.lean).
  GIVEN WITH THE SEED: the statements are not yours to turn. If you find one false, say at which input.
  Laid BY PROGRAM, IN A SANDBOX (cutbox-rows.mjs): the forced cells as the released guide's own fill.sh prints them over the translation c1233e0e533079de… (all of the seat's roots in one cut). By AI agents, Wed Nov 11 2026. No macro, syntax, notation, axiom, sorry.
-/
import Derived.Test.YtinpkihmkfiidaaChecked
import GoSem.Claim
import GoSem.ClaimJoined
import GoSem.ClaimMapViews
import Derived.JoinedTies
import Derived.KernelRfl
namespace Go.Proofs.Ytinpkihmkfiidaa
/- THE CELL 'sum', in the pinned program and in every row, IS THE sha256 OF THE DUMP (.gsa) THAT YtinpkihmkfiidaaProg.lean LOADS. Nothing in Lean hashes anything: it is a label: what it is worth is what the hold of that sum in a sandbox is worth. -/
noncomputable def Try.pinned : Pinned := { name := "ytinpkihmkfiidaa", sum := "c1233e0e533079dec01e7f92e94537c8021c7198913b6203f08d24cd144c3504", checked := Try.checked }
namespace Rows
def none {H : Type} : Left H := { results := [], args := [] }

/-- 'laws.FnExactIsForm': WHATEVER THE INPUT: true; the input reads as it did. -/
def fnExactIsFormSpec : ChangeSpec := { name := "fnExactIsForm", fn := fun _ => fun
  | [d] => { results := [.lit (.bool true)], args := [d] }
  | _ => none }
def fnExactIsFormRow : OpenClaim := { program := "ytinpkihmkfiidaa", sum := "c1233e0e533079dec01e7f92e94537c8021c7198913b6203f08d24cd144c3504", func := "loop.example/g01027/laws.FnExactIsForm", spec := "fnExactIsForm", unfollowed := true, recurses := true, apart := false }
def FnExactIsFormSaid : Prop := fnExactIsFormRow.holds Try.pinned (OpenSpec.ofChange fnExactIsFormSpec)

/-- ITS FALSE NEIGHBOUR: 'it returns false'. Refute it at one input. -/
def fnExactIsFormWrong : ChangeSpec := { name := "fnExactIsForm", fn := fun _ => fun
  | [d] => { results := [.lit (.bool false)], args := [d] }
  | _ => none }
def FnExactIsFormWrongFalsely : Prop := fnExactIsFormRow.holds Try.pinned (OpenSpec.ofChange fnExactIsFormWrong)

/-- 'laws.FnExactCountWays': WHATEVER THE INPUT: true; the input reads as it did. -/
def fnExactCountWaysSpec : ChangeSpec := { name := "fnExactCountWays", fn := fun _ => fun
  | [d] => { results := [.lit (.bool true)], args := [d] }
  | _ => none }
def fnExactCountWaysRow : OpenClaim := { program := "ytinpkihmkfiidaa", sum := "c1233e0e533079dec01e7f92e94537c8021c7198913b6203f08d24cd144c3504", func := "loop.example/g01027/laws.FnExactCountWays", spec := "fnExactCountWays", unfollowed := true, recurses := true, apart := false }
def FnExactCountWaysSaid : Prop := fnExactCountWaysRow.holds Try.pinned (OpenSpec.ofChange fnExactCountWaysSpec)

/-- ITS FALSE NEIGHBOUR: 'it returns false'. Refute it at one input. -/
def fnExactCountWaysWrong : ChangeSpec := { name := "fnExactCountWays", fn := fun _ => fun
  | [d] => { results := [.lit (.bool false)], args := [d] }
  | _ => none }
def FnExactCountWaysWrongFalsely : Prop := fnExactCountWaysRow.holds Try.pinned (OpenSpec.ofChange fnExactCountWaysWrong)

/-- 'laws.FnExactVerdictOf': WHATEVER THE INPUT: true; the input reads as it did. -/
def fnExactVerdictOfSpec : ChangeSpec := { name := "fnExactVerdictOf", fn := fun _ => fun
  | [d1, d2] => { results := [.lit (.bool true)], args := [d1, d2] }
  | _ => none }
def fnExactVerdictOfRow : OpenClaim := { program := "ytinpkihmkfiidaa", sum := "c1233e0e533079dec01e7f92e94537c8021c7198913b6203f08d24cd144c3504", func := "loop.example/g01027/laws.FnExactVerdictOf", spec := "fnExactVerdictOf", unfollowed := true, recurses := true, apart := false }
def FnExactVerdictOfSaid : Prop := fnExactVerdictOfRow.holds Try.pinned (OpenSpec.ofChange fnExactVerdictOfSpec)

/-- ITS FALSE NEIGHBOUR: 'it returns false'. Refute it at one input. -/
def fnExactVerdictOfWrong : ChangeSpec := { name := "fnExactVerdictOf", fn := fun _ => fun
  | [d1, d2] => { results := [.lit (.bool false)], args := [d1, d2] }
  | _ => none }
def FnExactVerdictOfWrongFalsely : Prop := fnExactVerdictOfRow.holds Try.pinned (OpenSpec.ofChange fnExactVerdictOfWrong)

/-- 'laws.FnExactIsPoll': WHATEVER THE INPUT: true; the input reads as it did. -/
def fnExactIsPollSpec : ChangeSpec := { name := "fnExactIsPoll", fn := fun _ => fun
  | [d1, d2] => { results := [.lit (.bool true)], args := [d1, d2] }
  | _ => none }
def fnExactIsPollRow : OpenClaim := { program := "ytinpkihmkfiidaa", sum := "c1233e0e533079dec01e7f92e94537c8021c7198913b6203f08d24cd144c3504", func := "loop.example/g01027/laws.FnExactIsPoll", spec := "fnExactIsPoll", unfollowed := true, recurses := true, apart := false }
def FnExactIsPollSaid : Prop := fnExactIsPollRow.holds Try.pinned (OpenSpec.ofChange fnExactIsPollSpec)

/-- ITS FALSE NEIGHBOUR: 'it returns false'. Refute it at one input. -/
def fnExactIsPollWrong : ChangeSpec := { name := "fnExactIsPoll", fn := fun _ => fun
  | [d1, d2] => { results := [.lit (.bool false)], args := [d1, d2] }
  | _ => none }
def FnExactIsPollWrongFalsely : Prop := fnExactIsPollRow.holds Try.pinned (OpenSpec.ofChange fnExactIsPollWrong)

/-- 'laws.FnExactWayOf': WHATEVER THE INPUT: true; the input reads as it did. -/
def fnExactWayOfSpec : ChangeSpec := { name := "fnExactWayOf", fn := fun _ => fun
  | [d1, d2] => { results := [.lit (.bool true)], args := [d1, d2] }
  | _ => none }
def fnExactWayOfRow : OpenClaim := { program := "ytinpkihmkfiidaa", sum := "c1233e0e533079dec01e7f92e94537c8021c7198913b6203f08d24cd144c3504", func := "loop.example/g01027/laws.FnExactWayOf", spec := "fnExactWayOf", unfollowed := true, recurses := true, apart := false }
def FnExactWayOfSaid : Prop := fnExactWayOfRow.holds Try.pinned (OpenSpec.ofChange fnExactWayOfSpec)

/-- ITS FALSE NEIGHBOUR: 'it returns false'. Refute it at one input. -/
def fnExactWayOfWrong : ChangeSpec := { name := "fnExactWayOf", fn := fun _ => fun
  | [d1, d2] => { results := [.lit (.bool false)], args := [d1, d2] }
  | _ => none }
def FnExactWayOfWrongFalsely : Prop := fnExactWayOfRow.holds Try.pinned (OpenSpec.ofChange fnExactWayOfWrong)

/-- 'laws.FnExactAnswersFor': WHATEVER THE INPUT: true; the input reads as it did. -/
def fnExactAnswersForSpec : ChangeSpec := { name := "fnExactAnswersFor", fn := fun _ => fun
  | [d1, d2] => { results := [.lit (.bool true)], args := [d1, d2] }
  | _ => none }
def fnExactAnswersForRow : OpenClaim := { program := "ytinpkihmkfiidaa", sum := "c1233e0e533079dec01e7f92e94537c8021c7198913b6203f08d24cd144c3504", func := "loop.example/g01027/laws.FnExactAnswersFor", spec := "fnExactAnswersFor", unfollowed := true, recurses := true, apart := false }
def FnExactAnswersForSaid : Prop := fnExactAnswersForRow.holds Try.pinned (OpenSpec.ofChange fnExactAnswersForSpec)

/-- ITS FALSE NEIGHBOUR: 'it returns false'. Refute it at one input. -/
def fnExactAnswersForWrong : ChangeSpec := { name := "fnExactAnswersFor", fn := fun _ => fun
  | [d1, d2] => { results := [.lit (.bool false)], args := [d1, d2] }
  | _ => none }
def FnExactAnswersForWrongFalsely : Prop := fnExactAnswersForRow.holds Try.pinned (OpenSpec.ofChange fnExactAnswersForWrong)

/-- 'laws.FnExactIsTidy': WHATEVER THE INPUT: true; the input reads as it did. -/
def fnExactIsTidySpec : ChangeSpec := { name := "fnExactIsTidy", fn := fun _ => fun
  | [d1, d2] => { results := [.lit (.bool true)], args := [d1, d2] }
  | _ => none }
def fnExactIsTidyRow : OpenClaim := { program := "ytinpkihmkfiidaa", sum := "c1233e0e533079dec01e7f92e94537c8021c7198913b6203f08d24cd144c3504", func := "loop.example/g01027/laws.FnExactIsTidy", spec := "fnExactIsTidy", unfollowed := true, recurses := true, apart := false }
def FnExactIsTidySaid : Prop := fnExactIsTidyRow.holds Try.pinned (OpenSpec.ofChange fnExactIsTidySpec)

/-- ITS FALSE NEIGHBOUR: 'it returns false'. Refute it at one input. -/
def fnExactIsTidyWrong : ChangeSpec := { name := "fnExactIsTidy", fn := fun _ => fun
  | [d1, d2] => { results := [.lit (.bool false)], args := [d1, d2] }
  | _ => none }
def FnExactIsTidyWrongFalsely : Prop := fnExactIsTidyRow.holds Try.pinned (OpenSpec.ofChange fnExactIsTidyWrong)

/-- 'laws.FnExactTallyOf': WHATEVER THE INPUT: true; the input reads as it did. -/
def fnExactTallyOfSpec : ChangeSpec := { name := "fnExactTallyOf", fn := fun _ => fun
  | [d1, d2, d3] => { results := [.lit (.bool true)], args := [d1, d2, d3] }
  | _ => none }
def fnExactTallyOfRow : OpenClaim := { program := "ytinpkihmkfiidaa", sum := "c1233e0e533079dec01e7f92e94537c8021c7198913b6203f08d24cd144c3504", func := "loop.example/g01027/laws.FnExactTallyOf", spec := "fnExactTallyOf", unfollowed := true, recurses := true, apart := false }
def FnExactTallyOfSaid : Prop := fnExactTallyOfRow.holds Try.pinned (OpenSpec.ofChange fnExactTallyOfSpec)

/-- ITS FALSE NEIGHBOUR: 'it returns false'. Refute it at one input. -/
def fnExactTallyOfWrong : ChangeSpec := { name := "fnExactTallyOf", fn := fun _ => fun
  | [d1, d2, d3] => { results := [.lit (.bool false)], args := [d1, d2, d3] }
  | _ => none }
def FnExactTallyOfWrongFalsely : Prop := fnExactTallyOfRow.holds Try.pinned (OpenSpec.ofChange fnExactTallyOfWrong)

/-- 'laws.FnExactTidyAnswers': WHATEVER THE INPUT: true; the input reads as it did. -/
def fnExactTidyAnswersSpec : ChangeSpec := { name := "fnExactTidyAnswers", fn := fun _ => fun
  | [d1, d2] => { results := [.lit (.bool true)], args := [d1, d2] }
  | _ => none }
def fnExactTidyAnswersRow : OpenClaim := { program := "ytinpkihmkfiidaa", sum := "c1233e0e533079dec01e7f92e94537c8021c7198913b6203f08d24cd144c3504", func := "loop.example/g01027/laws.FnExactTidyAnswers", spec := "fnExactTidyAnswers", unfollowed := true, recurses := true, apart := false }
def FnExactTidyAnswersSaid : Prop := fnExactTidyAnswersRow.holds Try.pinned (OpenSpec.ofChange fnExactTidyAnswersSpec)

/-- ITS FALSE NEIGHBOUR: 'it returns false'. Refute it at one input. -/
def fnExactTidyAnswersWrong : ChangeSpec := { name := "fnExactTidyAnswers", fn := fun _ => fun
  | [d1, d2] => { results := [.lit (.bool false)], args := [d1, d2] }
  | _ => none }
def FnExactTidyAnswersWrongFalsely : Prop := fnExactTidyAnswersRow.holds Try.pinned (OpenSpec.ofChange fnExactTidyAnswersWrong)

/-- 'laws.FnExactJurorVerdict': WHATEVER THE INPUT: true; the input reads as it did. -/
def fnExactJurorVerdictSpec : ChangeSpec := { name := "fnExactJurorVerdict", fn := fun _ => fun
  | [d1, d2, d3] => { results := [.lit (.bool true)], args := [d1, d2, d3] }
  | _ => none }
def fnExactJurorVerdictRow : OpenClaim := { program := "ytinpkihmkfiidaa", sum := "c1233e0e533079dec01e7f92e94537c8021c7198913b6203f08d24cd144c3504", func := "loop.example/g01027/laws.FnExactJurorVerdict", spec := "fnExactJurorVerdict", unfollowed := true, recurses := true, apart := false }
def FnExactJurorVerdictSaid : Prop := fnExactJurorVerdictRow.holds Try.pinned (OpenSpec.ofChange fnExactJurorVerdictSpec)

/-- ITS FALSE NEIGHBOUR: 'it returns false'. Refute it at one input. -/
def fnExactJurorVerdictWrong : ChangeSpec := { name := "fnExactJurorVerdict", fn := fun _ => fun
  | [d1, d2, d3] => { results := [.lit (.bool false)], args := [d1, d2, d3] }
  | _ => none }
def FnExactJurorVerdictWrongFalsely : Prop := fnExactJurorVerdictRow.holds Try.pinned (OpenSpec.ofChange fnExactJurorVerdictWrong)

/-- 'laws.FnExactHungOn': WHATEVER THE INPUT: true; the input reads as it did. -/
def fnExactHungOnSpec : ChangeSpec := { name := "fnExactHungOn", fn := fun _ => fun
  | [d1, d2] => { results := [.lit (.bool true)], args := [d1, d2] }
  | _ => none }
def fnExactHungOnRow : OpenClaim := { program := "ytinpkihmkfiidaa", sum := "c1233e0e533079dec01e7f92e94537c8021c7198913b6203f08d24cd144c3504", func := "loop.example/g01027/laws.FnExactHungOn", spec := "fnExactHungOn", unfollowed := true, recurses := true, apart := false }
def FnExactHungOnSaid : Prop := fnExactHungOnRow.holds Try.pinned (OpenSpec.ofChange fnExactHungOnSpec)

/-- ITS FALSE NEIGHBOUR: 'it returns false'. Refute it at one input. -/
def fnExactHungOnWrong : ChangeSpec := { name := "fnExactHungOn", fn := fun _ => fun
  | [d1, d2] => { results := [.lit (.bool false)], args := [d1, d2] }
  | _ => none }
def FnExactHungOnWrongFalsely : Prop := fnExactHungOnRow.holds Try.pinned (OpenSpec.ofChange fnExactHungOnWrong)

/-- 'laws.FnExactGreatestNeed': WHATEVER THE INPUT: true; the input reads as it did. -/
def fnExactGreatestNeedSpec : ChangeSpec := { name := "fnExactGreatestNeed", fn := fun _ => fun
  | [d1, d2] => { results := [.lit (.bool true)], args := [d1, d2] }
  | _ => none }
def fnExactGreatestNeedRow : OpenClaim := { program := "ytinpkihmkfiidaa", sum := "c1233e0e533079dec01e7f92e94537c8021c7198913b6203f08d24cd144c3504", func := "loop.example/g01027/laws.FnExactGreatestNeed", spec := "fnExactGreatestNeed", unfollowed := true, recurses := true, apart := false }
def FnExactGreatestNeedSaid : Prop := fnExactGreatestNeedRow.holds Try.pinned (OpenSpec.ofChange fnExactGreatestNeedSpec)

/-- ITS FALSE NEIGHBOUR: 'it returns false'. Refute it at one input. -/
def fnExactGreatestNeedWrong : ChangeSpec := { name := "fnExactGreatestNeed", fn := fun _ => fun
  | [d1, d2] => { results := [.lit (.bool false)], args := [d1, d2] }
  | _ => none }
def FnExactGreatestNeedWrongFalsely : Prop := fnExactGreatestNeedRow.holds Try.pinned (OpenSpec.ofChange fnExactGreatestNeedWrong)

/-- 'laws.FnExactAnswersOf': WHATEVER THE INPUT: true; the input reads as it did. -/
def fnExactAnswersOfSpec : ChangeSpec := { name := "fnExactAnswersOf", fn := fun _ => fun
  | [d1, d2] => { results := [.lit (.bool true)], args := [d1, d2] }
  | _ => none }
def fnExactAnswersOfRow : OpenClaim := { program := "ytinpkihmkfiidaa", sum := "c1233e0e533079dec01e7f92e94537c8021c7198913b6203f08d24cd144c3504", func := "loop.example/g01027/laws.FnExactAnswersOf", spec := "fnExactAnswersOf", unfollowed := true, recurses := true, apart := false }
def FnExactAnswersOfSaid : Prop := fnExactAnswersOfRow.holds Try.pinned (OpenSpec.ofChange fnExactAnswersOfSpec)

/-- ITS FALSE NEIGHBOUR: 'it returns false'. Refute it at one input. -/
def fnExactAnswersOfWrong : ChangeSpec := { name := "fnExactAnswersOf", fn := fun _ => fun
  | [d1, d2] => { results := [.lit (.bool false)], args := [d1, d2] }
  | _ => none }
def FnExactAnswersOfWrongFalsely : Prop := fnExactAnswersOfRow.holds Try.pinned (OpenSpec.ofChange fnExactAnswersOfWrong)

/-- 'laws.FnExactTurnVote': WHATEVER THE INPUT: true; the input reads as it did. -/
def fnExactTurnVoteSpec : ChangeSpec := { name := "fnExactTurnVote", fn := fun _ => fun
  | [d1, d2, d3, d4] => { results := [.lit (.bool true)], args := [d1, d2, d3, d4] }
  | _ => none }
def fnExactTurnVoteRow : OpenClaim := { program := "ytinpkihmkfiidaa", sum := "c1233e0e533079dec01e7f92e94537c8021c7198913b6203f08d24cd144c3504", func := "loop.example/g01027/laws.FnExactTurnVote", spec := "fnExactTurnVote", unfollowed := true, recurses := true, apart := false }
def FnExactTurnVoteSaid : Prop := fnExactTurnVoteRow.holds Try.pinned (OpenSpec.ofChange fnExactTurnVoteSpec)

/-- ITS FALSE NEIGHBOUR: 'it returns false'. Refute it at one input. -/
def fnExactTurnVoteWrong : ChangeSpec := { name := "fnExactTurnVote", fn := fun _ => fun
  | [d1, d2, d3, d4] => { results := [.lit (.bool false)], args := [d1, d2, d3, d4] }
  | _ => none }
def FnExactTurnVoteWrongFalsely : Prop := fnExactTurnVoteRow.holds Try.pinned (OpenSpec.ofChange fnExactTurnVoteWrong)

/-- 'laws.FnForms': WHATEVER THE INPUT: true; the input reads as it did. -/
def fnFormsSpec : ChangeSpec := { name := "fnForms", fn := fun _ => fun
  | [d] => { results := [.lit (.bool true)], args := [d] }
  | _ => none }
def fnFormsRow : OpenClaim := { program := "ytinpkihmkfiidaa", sum := "c1233e0e533079dec01e7f92e94537c8021c7198913b6203f08d24cd144c3504", func := "loop.example/g01027/laws.FnForms", spec := "fnForms", unfollowed := true, recurses := true, apart := false }
def FnFormsSaid : Prop := fnFormsRow.holds Try.pinned (OpenSpec.ofChange fnFormsSpec)

/-- ITS FALSE NEIGHBOUR: 'it returns false'. Refute it at one input. -/
def fnFormsWrong : ChangeSpec := { name := "fnForms", fn := fun _ => fun
  | [d] => { results := [.lit (.bool false)], args := [d] }
  | _ => none }
def FnFormsWrongFalsely : Prop := fnFormsRow.holds Try.pinned (OpenSpec.ofChange fnFormsWrong)

/-- 'laws.FnExactPollVerdict': WHATEVER THE INPUT: true; the input reads as it did. -/
def fnExactPollVerdictSpec : ChangeSpec := { name := "fnExactPollVerdict", fn := fun _ => fun
  | [d1, d2] => { results := [.lit (.bool true)], args := [d1, d2] }
  | _ => none }
def fnExactPollVerdictRow : OpenClaim := { program := "ytinpkihmkfiidaa", sum := "c1233e0e533079dec01e7f92e94537c8021c7198913b6203f08d24cd144c3504", func := "loop.example/g01027/laws.FnExactPollVerdict", spec := "fnExactPollVerdict", unfollowed := true, recurses := true, apart := false }
def FnExactPollVerdictSaid : Prop := fnExactPollVerdictRow.holds Try.pinned (OpenSpec.ofChange fnExactPollVerdictSpec)

/-- ITS FALSE NEIGHBOUR: 'it returns false'. Refute it at one input. -/
def fnExactPollVerdictWrong : ChangeSpec := { name := "fnExactPollVerdict", fn := fun _ => fun
  | [d1, d2] => { results := [.lit (.bool false)], args := [d1, d2] }
  | _ => none }
def FnExactPollVerdictWrongFalsely : Prop := fnExactPollVerdictRow.holds Try.pinned (OpenSpec.ofChange fnExactPollVerdictWrong)

/-- 'laws.FnTallies': WHATEVER THE INPUT: true; the input reads as it did. -/
def fnTalliesSpec : ChangeSpec := { name := "fnTallies", fn := fun _ => fun
  | [d] => { results := [.lit (.bool true)], args := [d] }
  | _ => none }
def fnTalliesRow : OpenClaim := { program := "ytinpkihmkfiidaa", sum := "c1233e0e533079dec01e7f92e94537c8021c7198913b6203f08d24cd144c3504", func := "loop.example/g01027/laws.FnTallies", spec := "fnTallies", unfollowed := true, recurses := true, apart := false }
def FnTalliesSaid : Prop := fnTalliesRow.holds Try.pinned (OpenSpec.ofChange fnTalliesSpec)

/-- ITS FALSE NEIGHBOUR: 'it returns false'. Refute it at one input. -/
def fnTalliesWrong : ChangeSpec := { name := "fnTallies", fn := fun _ => fun
  | [d] => { results := [.lit (.bool false)], args := [d] }
  | _ => none }
def FnTalliesWrongFalsely : Prop := fnTalliesRow.holds Try.pinned (OpenSpec.ofChange fnTalliesWrong)

/-- 'laws.FnExactDissenters': WHATEVER THE INPUT: true; the input reads as it did. -/
def fnExactDissentersSpec : ChangeSpec := { name := "fnExactDissenters", fn := fun _ => fun
  | [d1, d2] => { results := [.lit (.bool true)], args := [d1, d2] }
  | _ => none }
def fnExactDissentersRow : OpenClaim := { program := "ytinpkihmkfiidaa", sum := "c1233e0e533079dec01e7f92e94537c8021c7198913b6203f08d24cd144c3504", func := "loop.example/g01027/laws.FnExactDissenters", spec := "fnExactDissenters", unfollowed := true, recurses := true, apart := false }
def FnExactDissentersSaid : Prop := fnExactDissentersRow.holds Try.pinned (OpenSpec.ofChange fnExactDissentersSpec)

/-- ITS FALSE NEIGHBOUR: 'it returns false'. Refute it at one input. -/
def fnExactDissentersWrong : ChangeSpec := { name := "fnExactDissenters", fn := fun _ => fun
  | [d1, d2] => { results := [.lit (.bool false)], args := [d1, d2] }
  | _ => none }
def FnExactDissentersWrongFalsely : Prop := fnExactDissentersRow.holds Try.pinned (OpenSpec.ofChange fnExactDissentersWrong)

/-- 'laws.FnPolls': WHATEVER THE INPUT: true; the input reads as it did. -/
def fnPollsSpec : ChangeSpec := { name := "fnPolls", fn := fun _ => fun
  | [d] => { results := [.lit (.bool true)], args := [d] }
  | _ => none }
def fnPollsRow : OpenClaim := { program := "ytinpkihmkfiidaa", sum := "c1233e0e533079dec01e7f92e94537c8021c7198913b6203f08d24cd144c3504", func := "loop.example/g01027/laws.FnPolls", spec := "fnPolls", unfollowed := true, recurses := true, apart := false }
def FnPollsSaid : Prop := fnPollsRow.holds Try.pinned (OpenSpec.ofChange fnPollsSpec)

/-- ITS FALSE NEIGHBOUR: 'it returns false'. Refute it at one input. -/
def fnPollsWrong : ChangeSpec := { name := "fnPolls", fn := fun _ => fun
  | [d] => { results := [.lit (.bool false)], args := [d] }
  | _ => none }
def FnPollsWrongFalsely : Prop := fnPollsRow.holds Try.pinned (OpenSpec.ofChange fnPollsWrong)

/-- 'laws.FnExactUnusedQuestions': WHATEVER THE INPUT: true; the input reads as it did. -/
def fnExactUnusedQuestionsSpec : ChangeSpec := { name := "fnExactUnusedQuestions", fn := fun _ => fun
  | [d] => { results := [.lit (.bool true)], args := [d] }
  | _ => none }
def fnExactUnusedQuestionsRow : OpenClaim := { program := "ytinpkihmkfiidaa", sum := "c1233e0e533079dec01e7f92e94537c8021c7198913b6203f08d24cd144c3504", func := "loop.example/g01027/laws.FnExactUnusedQuestions", spec := "fnExactUnusedQuestions", unfollowed := true, recurses := true, apart := false }
def FnExactUnusedQuestionsSaid : Prop := fnExactUnusedQuestionsRow.holds Try.pinned (OpenSpec.ofChange fnExactUnusedQuestionsSpec)

/-- ITS FALSE NEIGHBOUR: 'it returns false'. Refute it at one input. -/
def fnExactUnusedQuestionsWrong : ChangeSpec := { name := "fnExactUnusedQuestions", fn := fun _ => fun
  | [d] => { results := [.lit (.bool false)], args := [d] }
  | _ => none }
def FnExactUnusedQuestionsWrongFalsely : Prop := fnExactUnusedQuestionsRow.holds Try.pinned (OpenSpec.ofChange fnExactUnusedQuestionsWrong)

/-- 'laws.FnExactVerdictsOf': WHATEVER THE INPUT: true; the input reads as it did. -/
def fnExactVerdictsOfSpec : ChangeSpec := { name := "fnExactVerdictsOf", fn := fun _ => fun
  | [d] => { results := [.lit (.bool true)], args := [d] }
  | _ => none }
def fnExactVerdictsOfRow : OpenClaim := { program := "ytinpkihmkfiidaa", sum := "c1233e0e533079dec01e7f92e94537c8021c7198913b6203f08d24cd144c3504", func := "loop.example/g01027/laws.FnExactVerdictsOf", spec := "fnExactVerdictsOf", unfollowed := true, recurses := true, apart := false }
def FnExactVerdictsOfSaid : Prop := fnExactVerdictsOfRow.holds Try.pinned (OpenSpec.ofChange fnExactVerdictsOfSpec)

/-- ITS FALSE NEIGHBOUR: 'it returns false'. Refute it at one input. -/
def fnExactVerdictsOfWrong : ChangeSpec := { name := "fnExactVerdictsOf", fn := fun _ => fun
  | [d] => { results := [.lit (.bool false)], args := [d] }
  | _ => none }
def FnExactVerdictsOfWrongFalsely : Prop := fnExactVerdictsOfRow.holds Try.pinned (OpenSpec.ofChange fnExactVerdictsOfWrong)

/-- 'laws.FnVerdicts': WHATEVER THE INPUT: true; the input reads as it did. -/
def fnVerdictsSpec : ChangeSpec := { name := "fnVerdicts", fn := fun _ => fun
  | [d] => { results := [.lit (.bool true)], args := [d] }
  | _ => none }
def fnVerdictsRow : OpenClaim := { program := "ytinpkihmkfiidaa", sum := "c1233e0e533079dec01e7f92e94537c8021c7198913b6203f08d24cd144c3504", func := "loop.example/g01027/laws.FnVerdicts", spec := "fnVerdicts", unfollowed := true, recurses := true, apart := false }
def FnVerdictsSaid : Prop := fnVerdictsRow.holds Try.pinned (OpenSpec.ofChange fnVerdictsSpec)

/-- ITS FALSE NEIGHBOUR: 'it returns false'. Refute it at one input. -/
def fnVerdictsWrong : ChangeSpec := { name := "fnVerdicts", fn := fun _ => fun
  | [d] => { results := [.lit (.bool false)], args := [d] }
  | _ => none }
def FnVerdictsWrongFalsely : Prop := fnVerdictsRow.holds Try.pinned (OpenSpec.ofChange fnVerdictsWrong)

/- THE SECOND FORM. 'bulk': how many values and letters a reading holds, each counted each time it is reached (what is shared counts as often as it is met; a slice's spare places count too). A statement '..UptoSaid' is the law's where the arguments, and the package variables that the reading takes, are together of bulk at most 1048576: NARROWER than '..Said'. Prove '..Said' where nothing that the law and all that it calls make is longer than what came in: it says more and counts as full. Else prove '..UptoSaid'. A law counts once. -/
mutual
def uptoBulk {H : Type} : DataW H → Nat
  | .lit (.string bytes) => bytes.length + 1
  | .lit _ => 1
  | .nil => 1
  | .ptr d => uptoBulk d + 1
  | .slice elems spare => uptoBulkAll elems + uptoBulkAll spare + 1
  | .agg parts => uptoBulkAll parts + 1
  | .iface _ d => uptoBulk d + 1
  | .map entries => uptoBulkEntries entries + 1
  | .held _ => 1
def uptoBulkAll {H : Type} : List (DataW H) → Nat
  | [] => 0
  | d :: r => uptoBulk d + uptoBulkAll r
def uptoBulkEntries {H : Type} : List (Lit × DataW H) → Nat
  | [] => 0
  | x :: r => uptoBulkEntry x + uptoBulkEntries r
def uptoBulkEntry {H : Type} : Lit × DataW H → Nat
  | (.string bytes, d) => bytes.length + uptoBulk d + 1
  | (_, d) => uptoBulk d + 1
 end
def uptoSmall : (H : Type) → List (DataW H) → Bool := fun _ ds => decide (uptoBulkAll ds ≤ 1048576)
def OpenSpec.upto (s : _root_.Go.ChangeSpec) : _root_.Go.OpenSpec := { _root_.Go.OpenSpec.ofChange s with cond := some uptoSmall }

/-- 'laws.FnExactIsForm', WHERE WHAT IT READS IS OF BULK AT MOST 1048576: true; the input reads as it did. -/
def fnExactIsFormUptoRow : OpenClaim := { program := "ytinpkihmkfiidaa", sum := "c1233e0e533079dec01e7f92e94537c8021c7198913b6203f08d24cd144c3504", func := "loop.example/g01027/laws.FnExactIsForm", spec := "fnExactIsForm", unfollowed := true, recurses := true, apart := false, narrowed := true }
def FnExactIsFormUptoSaid : Prop := fnExactIsFormUptoRow.holds Try.pinned (OpenSpec.upto fnExactIsFormSpec)

/-- 'laws.FnExactCountWays', WHERE WHAT IT READS IS OF BULK AT MOST 1048576: true; the input reads as it did. -/
def fnExactCountWaysUptoRow : OpenClaim := { program := "ytinpkihmkfiidaa", sum := "c1233e0e533079dec01e7f92e94537c8021c7198913b6203f08d24cd144c3504", func := "loop.example/g01027/laws.FnExactCountWays", spec := "fnExactCountWays", unfollowed := true, recurses := true, apart := false, narrowed := true }
def FnExactCountWaysUptoSaid : Prop := fnExactCountWaysUptoRow.holds Try.pinned (OpenSpec.upto fnExactCountWaysSpec)

/-- 'laws.FnExactVerdictOf', WHERE WHAT IT READS IS OF BULK AT MOST 1048576: true; the input reads as it did. -/
def fnExactVerdictOfUptoRow : OpenClaim := { program := "ytinpkihmkfiidaa", sum := "c1233e0e533079dec01e7f92e94537c8021c7198913b6203f08d24cd144c3504", func := "loop.example/g01027/laws.FnExactVerdictOf", spec := "fnExactVerdictOf", unfollowed := true, recurses := true, apart := false, narrowed := true }
def FnExactVerdictOfUptoSaid : Prop := fnExactVerdictOfUptoRow.holds Try.pinned (OpenSpec.upto fnExactVerdictOfSpec)

/-- 'laws.FnExactIsPoll', WHERE WHAT IT READS IS OF BULK AT MOST 1048576: true; the input reads as it did. -/
def fnExactIsPollUptoRow : OpenClaim := { program := "ytinpkihmkfiidaa", sum := "c1233e0e533079dec01e7f92e94537c8021c7198913b6203f08d24cd144c3504", func := "loop.example/g01027/laws.FnExactIsPoll", spec := "fnExactIsPoll", unfollowed := true, recurses := true, apart := false, narrowed := true }
def FnExactIsPollUptoSaid : Prop := fnExactIsPollUptoRow.holds Try.pinned (OpenSpec.upto fnExactIsPollSpec)

/-- 'laws.FnExactWayOf', WHERE WHAT IT READS IS OF BULK AT MOST 1048576: true; the input reads as it did. -/
def fnExactWayOfUptoRow : OpenClaim := { program := "ytinpkihmkfiidaa", sum := "c1233e0e533079dec01e7f92e94537c8021c7198913b6203f08d24cd144c3504", func := "loop.example/g01027/laws.FnExactWayOf", spec := "fnExactWayOf", unfollowed := true, recurses := true, apart := false, narrowed := true }
def FnExactWayOfUptoSaid : Prop := fnExactWayOfUptoRow.holds Try.pinned (OpenSpec.upto fnExactWayOfSpec)

/-- 'laws.FnExactAnswersFor', WHERE WHAT IT READS IS OF BULK AT MOST 1048576: true; the input reads as it did. -/
def fnExactAnswersForUptoRow : OpenClaim := { program := "ytinpkihmkfiidaa", sum := "c1233e0e533079dec01e7f92e94537c8021c7198913b6203f08d24cd144c3504", func := "loop.example/g01027/laws.FnExactAnswersFor", spec := "fnExactAnswersFor", unfollowed := true, recurses := true, apart := false, narrowed := true }
def FnExactAnswersForUptoSaid : Prop := fnExactAnswersForUptoRow.holds Try.pinned (OpenSpec.upto fnExactAnswersForSpec)

/-- 'laws.FnExactIsTidy', WHERE WHAT IT READS IS OF BULK AT MOST 1048576: true; the input reads as it did. -/
def fnExactIsTidyUptoRow : OpenClaim := { program := "ytinpkihmkfiidaa", sum := "c1233e0e533079dec01e7f92e94537c8021c7198913b6203f08d24cd144c3504", func := "loop.example/g01027/laws.FnExactIsTidy", spec := "fnExactIsTidy", unfollowed := true, recurses := true, apart := false, narrowed := true }
def FnExactIsTidyUptoSaid : Prop := fnExactIsTidyUptoRow.holds Try.pinned (OpenSpec.upto fnExactIsTidySpec)

/-- 'laws.FnExactTallyOf', WHERE WHAT IT READS IS OF BULK AT MOST 1048576: true; the input reads as it did. -/
def fnExactTallyOfUptoRow : OpenClaim := { program := "ytinpkihmkfiidaa", sum := "c1233e0e533079dec01e7f92e94537c8021c7198913b6203f08d24cd144c3504", func := "loop.example/g01027/laws.FnExactTallyOf", spec := "fnExactTallyOf", unfollowed := true, recurses := true, apart := false, narrowed := true }
def FnExactTallyOfUptoSaid : Prop := fnExactTallyOfUptoRow.holds Try.pinned (OpenSpec.upto fnExactTallyOfSpec)

/-- 'laws.FnExactTidyAnswers', WHERE WHAT IT READS IS OF BULK AT MOST 1048576: true; the input reads as it did. -/
def fnExactTidyAnswersUptoRow : OpenClaim := { program := "ytinpkihmkfiidaa", sum := "c1233e0e533079dec01e7f92e94537c8021c7198913b6203f08d24cd144c3504", func := "loop.example/g01027/laws.FnExactTidyAnswers", spec := "fnExactTidyAnswers", unfollowed := true, recurses := true, apart := false, narrowed := true }
def FnExactTidyAnswersUptoSaid : Prop := fnExactTidyAnswersUptoRow.holds Try.pinned (OpenSpec.upto fnExactTidyAnswersSpec)

/-- 'laws.FnExactJurorVerdict', WHERE WHAT IT READS IS OF BULK AT MOST 1048576: true; the input reads as it did. -/
def fnExactJurorVerdictUptoRow : OpenClaim := { program := "ytinpkihmkfiidaa", sum := "c1233e0e533079dec01e7f92e94537c8021c7198913b6203f08d24cd144c3504", func := "loop.example/g01027/laws.FnExactJurorVerdict", spec := "fnExactJurorVerdict", unfollowed := true, recurses := true, apart := false, narrowed := true }
def FnExactJurorVerdictUptoSaid : Prop := fnExactJurorVerdictUptoRow.holds Try.pinned (OpenSpec.upto fnExactJurorVerdictSpec)

/-- 'laws.FnExactHungOn', WHERE WHAT IT READS IS OF BULK AT MOST 1048576: true; the input reads as it did. -/
def fnExactHungOnUptoRow : OpenClaim := { program := "ytinpkihmkfiidaa", sum := "c1233e0e533079dec01e7f92e94537c8021c7198913b6203f08d24cd144c3504", func := "loop.example/g01027/laws.FnExactHungOn", spec := "fnExactHungOn", unfollowed := true, recurses := true, apart := false, narrowed := true }
def FnExactHungOnUptoSaid : Prop := fnExactHungOnUptoRow.holds Try.pinned (OpenSpec.upto fnExactHungOnSpec)

/-- 'laws.FnExactGreatestNeed', WHERE WHAT IT READS IS OF BULK AT MOST 1048576: true; the input reads as it did. -/
def fnExactGreatestNeedUptoRow : OpenClaim := { program := "ytinpkihmkfiidaa", sum := "c1233e0e533079dec01e7f92e94537c8021c7198913b6203f08d24cd144c3504", func := "loop.example/g01027/laws.FnExactGreatestNeed", spec := "fnExactGreatestNeed", unfollowed := true, recurses := true, apart := false, narrowed := true }
def FnExactGreatestNeedUptoSaid : Prop := fnExactGreatestNeedUptoRow.holds Try.pinned (OpenSpec.upto fnExactGreatestNeedSpec)

/-- 'laws.FnExactAnswersOf', WHERE WHAT IT READS IS OF BULK AT MOST 1048576: true; the input reads as it did. -/
def fnExactAnswersOfUptoRow : OpenClaim := { program := "ytinpkihmkfiidaa", sum := "c1233e0e533079dec01e7f92e94537c8021c7198913b6203f08d24cd144c3504", func := "loop.example/g01027/laws.FnExactAnswersOf", spec := "fnExactAnswersOf", unfollowed := true, recurses := true, apart := false, narrowed := true }
def FnExactAnswersOfUptoSaid : Prop := fnExactAnswersOfUptoRow.holds Try.pinned (OpenSpec.upto fnExactAnswersOfSpec)

/-- 'laws.FnExactTurnVote', WHERE WHAT IT READS IS OF BULK AT MOST 1048576: true; the input reads as it did. -/
def fnExactTurnVoteUptoRow : OpenClaim := { program := "ytinpkihmkfiidaa", sum := "c1233e0e533079dec01e7f92e94537c8021c7198913b6203f08d24cd144c3504", func := "loop.example/g01027/laws.FnExactTurnVote", spec := "fnExactTurnVote", unfollowed := true, recurses := true, apart := false, narrowed := true }
def FnExactTurnVoteUptoSaid : Prop := fnExactTurnVoteUptoRow.holds Try.pinned (OpenSpec.upto fnExactTurnVoteSpec)

/-- 'laws.FnForms', WHERE WHAT IT READS IS OF BULK AT MOST 1048576: true; the input reads as it did. -/
def fnFormsUptoRow : OpenClaim := { program := "ytinpkihmkfiidaa", sum := "c1233e0e533079dec01e7f92e94537c8021c7198913b6203f08d24cd144c3504", func := "loop.example/g01027/laws.FnForms", spec := "fnForms", unfollowed := true, recurses := true, apart := false, narrowed := true }
def FnFormsUptoSaid : Prop := fnFormsUptoRow.holds Try.pinned (OpenSpec.upto fnFormsSpec)

/-- 'laws.FnExactPollVerdict', WHERE WHAT IT READS IS OF BULK AT MOST 1048576: true; the input reads as it did. -/
def fnExactPollVerdictUptoRow : OpenClaim := { program := "ytinpkihmkfiidaa", sum := "c1233e0e533079dec01e7f92e94537c8021c7198913b6203f08d24cd144c3504", func := "loop.example/g01027/laws.FnExactPollVerdict", spec := "fnExactPollVerdict", unfollowed := true, recurses := true, apart := false, narrowed := true }
def FnExactPollVerdictUptoSaid : Prop := fnExactPollVerdictUptoRow.holds Try.pinned (OpenSpec.upto fnExactPollVerdictSpec)

/-- 'laws.FnTallies', WHERE WHAT IT READS IS OF BULK AT MOST 1048576: true; the input reads as it did. -/
def fnTalliesUptoRow : OpenClaim := { program := "ytinpkihmkfiidaa", sum := "c1233e0e533079dec01e7f92e94537c8021c7198913b6203f08d24cd144c3504", func := "loop.example/g01027/laws.FnTallies", spec := "fnTallies", unfollowed := true, recurses := true, apart := false, narrowed := true }
def FnTalliesUptoSaid : Prop := fnTalliesUptoRow.holds Try.pinned (OpenSpec.upto fnTalliesSpec)

/-- 'laws.FnExactDissenters', WHERE WHAT IT READS IS OF BULK AT MOST 1048576: true; the input reads as it did. -/
def fnExactDissentersUptoRow : OpenClaim := { program := "ytinpkihmkfiidaa", sum := "c1233e0e533079dec01e7f92e94537c8021c7198913b6203f08d24cd144c3504", func := "loop.example/g01027/laws.FnExactDissenters", spec := "fnExactDissenters", unfollowed := true, recurses := true, apart := false, narrowed := true }
def FnExactDissentersUptoSaid : Prop := fnExactDissentersUptoRow.holds Try.pinned (OpenSpec.upto fnExactDissentersSpec)

/-- 'laws.FnPolls', WHERE WHAT IT READS IS OF BULK AT MOST 1048576: true; the input reads as it did. -/
def fnPollsUptoRow : OpenClaim := { program := "ytinpkihmkfiidaa", sum := "c1233e0e533079dec01e7f92e94537c8021c7198913b6203f08d24cd144c3504", func := "loop.example/g01027/laws.FnPolls", spec := "fnPolls", unfollowed := true, recurses := true, apart := false, narrowed := true }
def FnPollsUptoSaid : Prop := fnPollsUptoRow.holds Try.pinned (OpenSpec.upto fnPollsSpec)

/-- 'laws.FnExactUnusedQuestions', WHERE WHAT IT READS IS OF BULK AT MOST 1048576: true; the input reads as it did. -/
def fnExactUnusedQuestionsUptoRow : OpenClaim := { program := "ytinpkihmkfiidaa", sum := "c1233e0e533079dec01e7f92e94537c8021c7198913b6203f08d24cd144c3504", func := "loop.example/g01027/laws.FnExactUnusedQuestions", spec := "fnExactUnusedQuestions", unfollowed := true, recurses := true, apart := false, narrowed := true }
def FnExactUnusedQuestionsUptoSaid : Prop := fnExactUnusedQuestionsUptoRow.holds Try.pinned (OpenSpec.upto fnExactUnusedQuestionsSpec)

/-- 'laws.FnExactVerdictsOf', WHERE WHAT IT READS IS OF BULK AT MOST 1048576: true; the input reads as it did. -/
def fnExactVerdictsOfUptoRow : OpenClaim := { program := "ytinpkihmkfiidaa", sum := "c1233e0e533079dec01e7f92e94537c8021c7198913b6203f08d24cd144c3504", func := "loop.example/g01027/laws.FnExactVerdictsOf", spec := "fnExactVerdictsOf", unfollowed := true, recurses := true, apart := false, narrowed := true }
def FnExactVerdictsOfUptoSaid : Prop := fnExactVerdictsOfUptoRow.holds Try.pinned (OpenSpec.upto fnExactVerdictsOfSpec)

/-- 'laws.FnVerdicts', WHERE WHAT IT READS IS OF BULK AT MOST 1048576: true; the input reads as it did. -/
def fnVerdictsUptoRow : OpenClaim := { program := "ytinpkihmkfiidaa", sum := "c1233e0e533079dec01e7f92e94537c8021c7198913b6203f08d24cd144c3504", func := "loop.example/g01027/laws.FnVerdicts", spec := "fnVerdicts", unfollowed := true, recurses := true, apart := false, narrowed := true }
def FnVerdictsUptoSaid : Prop := fnVerdictsUptoRow.holds Try.pinned (OpenSpec.upto fnVerdictsSpec)

end Rows
end Go.Proofs.Ytinpkihmkfiidaa
