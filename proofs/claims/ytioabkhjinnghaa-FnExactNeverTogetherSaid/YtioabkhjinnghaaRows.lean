/-
  No cell of these rows narrows 'for every input' (looked for: loops, veiled, ifaces, maps, wideKeys, modest, calm, conditions, laid).
  DERIVED. THE GIVEN ROWS OF THIS SEAT. 12 by the template 'for every input the law returns true; each argument reads behind the call as it read before'; 0 by the template 'total and deterministic' (their statements: YtioabkhjinnghaaTotals.lean).
  GIVEN WITH THE SEED: the statements are not yours to turn. If you find one false, say at which input.
  Laid BY PROGRAM, IN A SANDBOX (cutbox-rows.mjs): the forced cells as the released guide's own fill.sh prints them over the translation 95a9b05e7cae70c4… (all of the seat's roots in one cut). By AI agents, Wed Nov 11 2026. No macro, syntax, notation, axiom, sorry.
-/
import Derived.Test.YtioabkhjinnghaaChecked
import GoSem.Claim
import GoSem.ClaimJoined
import GoSem.ClaimMapViews
import Derived.JoinedTies
import Derived.KernelRfl
namespace Go.Proofs.Ytioabkhjinnghaa
/- THE CELL 'sum', in the pinned program and in every row, IS THE sha256 OF THE DUMP (.gsa) THAT YtioabkhjinnghaaProg.lean LOADS. Nothing in Lean hashes anything: it is a label: what it is worth is what the hold of that sum in a sandbox is worth. -/
noncomputable def Try.pinned : Pinned := { name := "ytioabkhjinnghaa", sum := "95a9b05e7cae70c4e3f093b442f4fdcb4fcec536a0a292a6457980a124c31210", checked := Try.checked }
namespace Rows
def none {H : Type} : Left H := { results := [], args := [] }

/-- 'laws.FnExactArePaces': WHATEVER THE INPUT: true; the input reads as it did. -/
def fnExactArePacesSpec : ChangeSpec := { name := "fnExactArePaces", fn := fun _ => fun
  | [d] => { results := [.lit (.bool true)], args := [d] }
  | _ => none }
def fnExactArePacesRow : OpenClaim := { program := "ytioabkhjinnghaa", sum := "95a9b05e7cae70c4e3f093b442f4fdcb4fcec536a0a292a6457980a124c31210", func := "loop.example/g01332/laws.FnExactArePaces", spec := "fnExactArePaces", unfollowed := true, recurses := true, apart := false }
def FnExactArePacesSaid : Prop := fnExactArePacesRow.holds Try.pinned (OpenSpec.ofChange fnExactArePacesSpec)

/-- ITS FALSE NEIGHBOUR: 'it returns false'. Refute it at one input. -/
def fnExactArePacesWrong : ChangeSpec := { name := "fnExactArePaces", fn := fun _ => fun
  | [d] => { results := [.lit (.bool false)], args := [d] }
  | _ => none }
def FnExactArePacesWrongFalsely : Prop := fnExactArePacesRow.holds Try.pinned (OpenSpec.ofChange fnExactArePacesWrong)

/-- 'laws.FnExactStepsIn': WHATEVER THE INPUT: true; the input reads as it did. -/
def fnExactStepsInSpec : ChangeSpec := { name := "fnExactStepsIn", fn := fun _ => fun
  | [d1, d2, d3] => { results := [.lit (.bool true)], args := [d1, d2, d3] }
  | _ => none }
def fnExactStepsInRow : OpenClaim := { program := "ytioabkhjinnghaa", sum := "95a9b05e7cae70c4e3f093b442f4fdcb4fcec536a0a292a6457980a124c31210", func := "loop.example/g01332/laws.FnExactStepsIn", spec := "fnExactStepsIn", unfollowed := true, recurses := true, apart := false }
def FnExactStepsInSaid : Prop := fnExactStepsInRow.holds Try.pinned (OpenSpec.ofChange fnExactStepsInSpec)

/-- ITS FALSE NEIGHBOUR: 'it returns false'. Refute it at one input. -/
def fnExactStepsInWrong : ChangeSpec := { name := "fnExactStepsIn", fn := fun _ => fun
  | [d1, d2, d3] => { results := [.lit (.bool false)], args := [d1, d2, d3] }
  | _ => none }
def FnExactStepsInWrongFalsely : Prop := fnExactStepsInRow.holds Try.pinned (OpenSpec.ofChange fnExactStepsInWrong)

/-- 'laws.FnExactPeriodOf': WHATEVER THE INPUT: true; the input reads as it did. -/
def fnExactPeriodOfSpec : ChangeSpec := { name := "fnExactPeriodOf", fn := fun _ => fun
  | [d] => { results := [.lit (.bool true)], args := [d] }
  | _ => none }
def fnExactPeriodOfRow : OpenClaim := { program := "ytioabkhjinnghaa", sum := "95a9b05e7cae70c4e3f093b442f4fdcb4fcec536a0a292a6457980a124c31210", func := "loop.example/g01332/laws.FnExactPeriodOf", spec := "fnExactPeriodOf", unfollowed := true, recurses := true, apart := false }
def FnExactPeriodOfSaid : Prop := fnExactPeriodOfRow.holds Try.pinned (OpenSpec.ofChange fnExactPeriodOfSpec)

/-- ITS FALSE NEIGHBOUR: 'it returns false'. Refute it at one input. -/
def fnExactPeriodOfWrong : ChangeSpec := { name := "fnExactPeriodOf", fn := fun _ => fun
  | [d] => { results := [.lit (.bool false)], args := [d] }
  | _ => none }
def FnExactPeriodOfWrongFalsely : Prop := fnExactPeriodOfRow.holds Try.pinned (OpenSpec.ofChange fnExactPeriodOfWrong)

/-- 'laws.FnExactAddPace': WHATEVER THE INPUT: true; the input reads as it did. -/
def fnExactAddPaceSpec : ChangeSpec := { name := "fnExactAddPace", fn := fun _ => fun
  | [d1, d2] => { results := [.lit (.bool true)], args := [d1, d2] }
  | _ => none }
def fnExactAddPaceRow : OpenClaim := { program := "ytioabkhjinnghaa", sum := "95a9b05e7cae70c4e3f093b442f4fdcb4fcec536a0a292a6457980a124c31210", func := "loop.example/g01332/laws.FnExactAddPace", spec := "fnExactAddPace", unfollowed := true, recurses := true, apart := false }
def FnExactAddPaceSaid : Prop := fnExactAddPaceRow.holds Try.pinned (OpenSpec.ofChange fnExactAddPaceSpec)

/-- ITS FALSE NEIGHBOUR: 'it returns false'. Refute it at one input. -/
def fnExactAddPaceWrong : ChangeSpec := { name := "fnExactAddPace", fn := fun _ => fun
  | [d1, d2] => { results := [.lit (.bool false)], args := [d1, d2] }
  | _ => none }
def FnExactAddPaceWrongFalsely : Prop := fnExactAddPaceRow.holds Try.pinned (OpenSpec.ofChange fnExactAddPaceWrong)

/-- 'laws.FnExactShiftPaces': WHATEVER THE INPUT: true; the input reads as it did. -/
def fnExactShiftPacesSpec : ChangeSpec := { name := "fnExactShiftPaces", fn := fun _ => fun
  | [d1, d2] => { results := [.lit (.bool true)], args := [d1, d2] }
  | _ => none }
def fnExactShiftPacesRow : OpenClaim := { program := "ytioabkhjinnghaa", sum := "95a9b05e7cae70c4e3f093b442f4fdcb4fcec536a0a292a6457980a124c31210", func := "loop.example/g01332/laws.FnExactShiftPaces", spec := "fnExactShiftPaces", unfollowed := true, recurses := true, apart := false }
def FnExactShiftPacesSaid : Prop := fnExactShiftPacesRow.holds Try.pinned (OpenSpec.ofChange fnExactShiftPacesSpec)

/-- ITS FALSE NEIGHBOUR: 'it returns false'. Refute it at one input. -/
def fnExactShiftPacesWrong : ChangeSpec := { name := "fnExactShiftPaces", fn := fun _ => fun
  | [d1, d2] => { results := [.lit (.bool false)], args := [d1, d2] }
  | _ => none }
def FnExactShiftPacesWrongFalsely : Prop := fnExactShiftPacesRow.holds Try.pinned (OpenSpec.ofChange fnExactShiftPacesWrong)

/-- 'laws.FnExactTimeOfStep': WHATEVER THE INPUT: true; the input reads as it did. -/
def fnExactTimeOfStepSpec : ChangeSpec := { name := "fnExactTimeOfStep", fn := fun _ => fun
  | [d1, d2] => { results := [.lit (.bool true)], args := [d1, d2] }
  | _ => none }
def fnExactTimeOfStepRow : OpenClaim := { program := "ytioabkhjinnghaa", sum := "95a9b05e7cae70c4e3f093b442f4fdcb4fcec536a0a292a6457980a124c31210", func := "loop.example/g01332/laws.FnExactTimeOfStep", spec := "fnExactTimeOfStep", unfollowed := true, recurses := true, apart := false }
def FnExactTimeOfStepSaid : Prop := fnExactTimeOfStepRow.holds Try.pinned (OpenSpec.ofChange fnExactTimeOfStepSpec)

/-- ITS FALSE NEIGHBOUR: 'it returns false'. Refute it at one input. -/
def fnExactTimeOfStepWrong : ChangeSpec := { name := "fnExactTimeOfStep", fn := fun _ => fun
  | [d1, d2] => { results := [.lit (.bool false)], args := [d1, d2] }
  | _ => none }
def FnExactTimeOfStepWrongFalsely : Prop := fnExactTimeOfStepRow.holds Try.pinned (OpenSpec.ofChange fnExactTimeOfStepWrong)

/-- 'laws.FnExactBeatsOf': WHATEVER THE INPUT: true; the input reads as it did. -/
def fnExactBeatsOfSpec : ChangeSpec := { name := "fnExactBeatsOf", fn := fun _ => fun
  | [d1, d2] => { results := [.lit (.bool true)], args := [d1, d2] }
  | _ => none }
def fnExactBeatsOfRow : OpenClaim := { program := "ytioabkhjinnghaa", sum := "95a9b05e7cae70c4e3f093b442f4fdcb4fcec536a0a292a6457980a124c31210", func := "loop.example/g01332/laws.FnExactBeatsOf", spec := "fnExactBeatsOf", unfollowed := true, recurses := true, apart := false }
def FnExactBeatsOfSaid : Prop := fnExactBeatsOfRow.holds Try.pinned (OpenSpec.ofChange fnExactBeatsOfSpec)

/-- ITS FALSE NEIGHBOUR: 'it returns false'. Refute it at one input. -/
def fnExactBeatsOfWrong : ChangeSpec := { name := "fnExactBeatsOf", fn := fun _ => fun
  | [d1, d2] => { results := [.lit (.bool false)], args := [d1, d2] }
  | _ => none }
def FnExactBeatsOfWrongFalsely : Prop := fnExactBeatsOfRow.holds Try.pinned (OpenSpec.ofChange fnExactBeatsOfWrong)

/-- 'laws.FnExactDropPace': WHATEVER THE INPUT: true; the input reads as it did. -/
def fnExactDropPaceSpec : ChangeSpec := { name := "fnExactDropPace", fn := fun _ => fun
  | [d1, d2] => { results := [.lit (.bool true)], args := [d1, d2] }
  | _ => none }
def fnExactDropPaceRow : OpenClaim := { program := "ytioabkhjinnghaa", sum := "95a9b05e7cae70c4e3f093b442f4fdcb4fcec536a0a292a6457980a124c31210", func := "loop.example/g01332/laws.FnExactDropPace", spec := "fnExactDropPace", unfollowed := true, recurses := true, apart := false }
def FnExactDropPaceSaid : Prop := fnExactDropPaceRow.holds Try.pinned (OpenSpec.ofChange fnExactDropPaceSpec)

/-- ITS FALSE NEIGHBOUR: 'it returns false'. Refute it at one input. -/
def fnExactDropPaceWrong : ChangeSpec := { name := "fnExactDropPace", fn := fun _ => fun
  | [d1, d2] => { results := [.lit (.bool false)], args := [d1, d2] }
  | _ => none }
def FnExactDropPaceWrongFalsely : Prop := fnExactDropPaceRow.holds Try.pinned (OpenSpec.ofChange fnExactDropPaceWrong)

/-- 'laws.FnExactFirstTogether': WHATEVER THE INPUT: true; the input reads as it did. -/
def fnExactFirstTogetherSpec : ChangeSpec := { name := "fnExactFirstTogether", fn := fun _ => fun
  | [d] => { results := [.lit (.bool true)], args := [d] }
  | _ => none }
def fnExactFirstTogetherRow : OpenClaim := { program := "ytioabkhjinnghaa", sum := "95a9b05e7cae70c4e3f093b442f4fdcb4fcec536a0a292a6457980a124c31210", func := "loop.example/g01332/laws.FnExactFirstTogether", spec := "fnExactFirstTogether", unfollowed := true, recurses := true, apart := false }
def FnExactFirstTogetherSaid : Prop := fnExactFirstTogetherRow.holds Try.pinned (OpenSpec.ofChange fnExactFirstTogetherSpec)

/-- ITS FALSE NEIGHBOUR: 'it returns false'. Refute it at one input. -/
def fnExactFirstTogetherWrong : ChangeSpec := { name := "fnExactFirstTogether", fn := fun _ => fun
  | [d] => { results := [.lit (.bool false)], args := [d] }
  | _ => none }
def FnExactFirstTogetherWrongFalsely : Prop := fnExactFirstTogetherRow.holds Try.pinned (OpenSpec.ofChange fnExactFirstTogetherWrong)

/-- 'laws.FnExactSteppingAt': WHATEVER THE INPUT: true; the input reads as it did. -/
def fnExactSteppingAtSpec : ChangeSpec := { name := "fnExactSteppingAt", fn := fun _ => fun
  | [d1, d2] => { results := [.lit (.bool true)], args := [d1, d2] }
  | _ => none }
def fnExactSteppingAtRow : OpenClaim := { program := "ytioabkhjinnghaa", sum := "95a9b05e7cae70c4e3f093b442f4fdcb4fcec536a0a292a6457980a124c31210", func := "loop.example/g01332/laws.FnExactSteppingAt", spec := "fnExactSteppingAt", unfollowed := true, recurses := true, apart := false }
def FnExactSteppingAtSaid : Prop := fnExactSteppingAtRow.holds Try.pinned (OpenSpec.ofChange fnExactSteppingAtSpec)

/-- ITS FALSE NEIGHBOUR: 'it returns false'. Refute it at one input. -/
def fnExactSteppingAtWrong : ChangeSpec := { name := "fnExactSteppingAt", fn := fun _ => fun
  | [d1, d2] => { results := [.lit (.bool false)], args := [d1, d2] }
  | _ => none }
def FnExactSteppingAtWrongFalsely : Prop := fnExactSteppingAtRow.holds Try.pinned (OpenSpec.ofChange fnExactSteppingAtWrong)

/-- 'laws.FnExactNeverTogether': WHATEVER THE INPUT: true; the input reads as it did. -/
def fnExactNeverTogetherSpec : ChangeSpec := { name := "fnExactNeverTogether", fn := fun _ => fun
  | [d] => { results := [.lit (.bool true)], args := [d] }
  | _ => none }
def fnExactNeverTogetherRow : OpenClaim := { program := "ytioabkhjinnghaa", sum := "95a9b05e7cae70c4e3f093b442f4fdcb4fcec536a0a292a6457980a124c31210", func := "loop.example/g01332/laws.FnExactNeverTogether", spec := "fnExactNeverTogether", unfollowed := true, recurses := true, apart := false }
def FnExactNeverTogetherSaid : Prop := fnExactNeverTogetherRow.holds Try.pinned (OpenSpec.ofChange fnExactNeverTogetherSpec)

/-- ITS FALSE NEIGHBOUR: 'it returns false'. Refute it at one input. -/
def fnExactNeverTogetherWrong : ChangeSpec := { name := "fnExactNeverTogether", fn := fun _ => fun
  | [d] => { results := [.lit (.bool false)], args := [d] }
  | _ => none }
def FnExactNeverTogetherWrongFalsely : Prop := fnExactNeverTogetherRow.holds Try.pinned (OpenSpec.ofChange fnExactNeverTogetherWrong)

/-- 'laws.FnExactCountAtOnce': WHATEVER THE INPUT: true; the input reads as it did. -/
def fnExactCountAtOnceSpec : ChangeSpec := { name := "fnExactCountAtOnce", fn := fun _ => fun
  | [d1, d2] => { results := [.lit (.bool true)], args := [d1, d2] }
  | _ => none }
def fnExactCountAtOnceRow : OpenClaim := { program := "ytioabkhjinnghaa", sum := "95a9b05e7cae70c4e3f093b442f4fdcb4fcec536a0a292a6457980a124c31210", func := "loop.example/g01332/laws.FnExactCountAtOnce", spec := "fnExactCountAtOnce", unfollowed := true, recurses := true, apart := false }
def FnExactCountAtOnceSaid : Prop := fnExactCountAtOnceRow.holds Try.pinned (OpenSpec.ofChange fnExactCountAtOnceSpec)

/-- ITS FALSE NEIGHBOUR: 'it returns false'. Refute it at one input. -/
def fnExactCountAtOnceWrong : ChangeSpec := { name := "fnExactCountAtOnce", fn := fun _ => fun
  | [d1, d2] => { results := [.lit (.bool false)], args := [d1, d2] }
  | _ => none }
def FnExactCountAtOnceWrongFalsely : Prop := fnExactCountAtOnceRow.holds Try.pinned (OpenSpec.ofChange fnExactCountAtOnceWrong)

/- THE SECOND FORM. 'bulk': how many values and letters a reading holds, each counted each time it is reached (what is shared counts as often as it is met; a slice's spare places count too). A statement '..UptoSaid' is the law's where the arguments, and the package variables that the reading takes, are together of bulk at most 1048576: NARROWER than '..Said'. Prove '..Said' where nothing that the law and all that it calls make is longer than what came in: it says more and counts as full. Else prove '..UptoSaid'. A law counts once. -/
mutual
def uptoBulk {H : Type} : DataW H → Nat
  | .lit (.string bytes) => bytes.length + 1
  | .lit _ => 1
  | .nil => 1
  | .ptr d => uptoBulk d + 1
  | .slice elems spare => uptoBulkAll elems + uptoBulkAll spare + 1
  | .agg parts => uptoBulkAll parts + 1
  | .iface _ d => uptoBulk d + 1
  | .map entries => uptoBulkEntries entries + 1
  | .held _ => 1
def uptoBulkAll {H : Type} : List (DataW H) → Nat
  | [] => 0
  | d :: r => uptoBulk d + uptoBulkAll r
def uptoBulkEntries {H : Type} : List (Lit × DataW H) → Nat
  | [] => 0
  | x :: r => uptoBulkEntry x + uptoBulkEntries r
def uptoBulkEntry {H : Type} : Lit × DataW H → Nat
  | (.string bytes, d) => bytes.length + uptoBulk d + 1
  | (_, d) => uptoBulk d + 1
 end
def uptoSmall : (H : Type) → List (DataW H) → Bool := fun _ ds => decide (uptoBulkAll ds ≤ 1048576)
def OpenSpec.upto (s : _root_.Go.ChangeSpec) : _root_.Go.OpenSpec := { _root_.Go.OpenSpec.ofChange s with cond := some uptoSmall }

/-- 'laws.FnExactArePaces', WHERE WHAT IT READS IS OF BULK AT MOST 1048576: true; the input reads as it did. -/
def fnExactArePacesUptoRow : OpenClaim := { program := "ytioabkhjinnghaa", sum := "95a9b05e7cae70c4e3f093b442f4fdcb4fcec536a0a292a6457980a124c31210", func := "loop.example/g01332/laws.FnExactArePaces", spec := "fnExactArePaces", unfollowed := true, recurses := true, apart := false, narrowed := true }
def FnExactArePacesUptoSaid : Prop := fnExactArePacesUptoRow.holds Try.pinned (OpenSpec.upto fnExactArePacesSpec)

/-- 'laws.FnExactStepsIn', WHERE WHAT IT READS IS OF BULK AT MOST 1048576: true; the input reads as it did. -/
def fnExactStepsInUptoRow : OpenClaim := { program := "ytioabkhjinnghaa", sum := "95a9b05e7cae70c4e3f093b442f4fdcb4fcec536a0a292a6457980a124c31210", func := "loop.example/g01332/laws.FnExactStepsIn", spec := "fnExactStepsIn", unfollowed := true, recurses := true, apart := false, narrowed := true }
def FnExactStepsInUptoSaid : Prop := fnExactStepsInUptoRow.holds Try.pinned (OpenSpec.upto fnExactStepsInSpec)

/-- 'laws.FnExactPeriodOf', WHERE WHAT IT READS IS OF BULK AT MOST 1048576: true; the input reads as it did. -/
def fnExactPeriodOfUptoRow : OpenClaim := { program := "ytioabkhjinnghaa", sum := "95a9b05e7cae70c4e3f093b442f4fdcb4fcec536a0a292a6457980a124c31210", func := "loop.example/g01332/laws.FnExactPeriodOf", spec := "fnExactPeriodOf", unfollowed := true, recurses := true, apart := false, narrowed := true }
def FnExactPeriodOfUptoSaid : Prop := fnExactPeriodOfUptoRow.holds Try.pinned (OpenSpec.upto fnExactPeriodOfSpec)

/-- 'laws.FnExactAddPace', WHERE WHAT IT READS IS OF BULK AT MOST 1048576: true; the input reads as it did. -/
def fnExactAddPaceUptoRow : OpenClaim := { program := "ytioabkhjinnghaa", sum := "95a9b05e7cae70c4e3f093b442f4fdcb4fcec536a0a292a6457980a124c31210", func := "loop.example/g01332/laws.FnExactAddPace", spec := "fnExactAddPace", unfollowed := true, recurses := true, apart := false, narrowed := true }
def FnExactAddPaceUptoSaid : Prop := fnExactAddPaceUptoRow.holds Try.pinned (OpenSpec.upto fnExactAddPaceSpec)

/-- 'laws.FnExactShiftPaces', WHERE WHAT IT READS IS OF BULK AT MOST 1048576: true; the input reads as it did. -/
def fnExactShiftPacesUptoRow : OpenClaim := { program := "ytioabkhjinnghaa", sum := "95a9b05e7cae70c4e3f093b442f4fdcb4fcec536a0a292a6457980a124c31210", func := "loop.example/g01332/laws.FnExactShiftPaces", spec := "fnExactShiftPaces", unfollowed := true, recurses := true, apart := false, narrowed := true }
def FnExactShiftPacesUptoSaid : Prop := fnExactShiftPacesUptoRow.holds Try.pinned (OpenSpec.upto fnExactShiftPacesSpec)

/-- 'laws.FnExactTimeOfStep', WHERE WHAT IT READS IS OF BULK AT MOST 1048576: true; the input reads as it did. -/
def fnExactTimeOfStepUptoRow : OpenClaim := { program := "ytioabkhjinnghaa", sum := "95a9b05e7cae70c4e3f093b442f4fdcb4fcec536a0a292a6457980a124c31210", func := "loop.example/g01332/laws.FnExactTimeOfStep", spec := "fnExactTimeOfStep", unfollowed := true, recurses := true, apart := false, narrowed := true }
def FnExactTimeOfStepUptoSaid : Prop := fnExactTimeOfStepUptoRow.holds Try.pinned (OpenSpec.upto fnExactTimeOfStepSpec)

/-- 'laws.FnExactBeatsOf', WHERE WHAT IT READS IS OF BULK AT MOST 1048576: true; the input reads as it did. -/
def fnExactBeatsOfUptoRow : OpenClaim := { program := "ytioabkhjinnghaa", sum := "95a9b05e7cae70c4e3f093b442f4fdcb4fcec536a0a292a6457980a124c31210", func := "loop.example/g01332/laws.FnExactBeatsOf", spec := "fnExactBeatsOf", unfollowed := true, recurses := true, apart := false, narrowed := true }
def FnExactBeatsOfUptoSaid : Prop := fnExactBeatsOfUptoRow.holds Try.pinned (OpenSpec.upto fnExactBeatsOfSpec)

/-- 'laws.FnExactDropPace', WHERE WHAT IT READS IS OF BULK AT MOST 1048576: true; the input reads as it did. -/
def fnExactDropPaceUptoRow : OpenClaim := { program := "ytioabkhjinnghaa", sum := "95a9b05e7cae70c4e3f093b442f4fdcb4fcec536a0a292a6457980a124c31210", func := "loop.example/g01332/laws.FnExactDropPace", spec := "fnExactDropPace", unfollowed := true, recurses := true, apart := false, narrowed := true }
def FnExactDropPaceUptoSaid : Prop := fnExactDropPaceUptoRow.holds Try.pinned (OpenSpec.upto fnExactDropPaceSpec)

/-- 'laws.FnExactFirstTogether', WHERE WHAT IT READS IS OF BULK AT MOST 1048576: true; the input reads as it did. -/
def fnExactFirstTogetherUptoRow : OpenClaim := { program := "ytioabkhjinnghaa", sum := "95a9b05e7cae70c4e3f093b442f4fdcb4fcec536a0a292a6457980a124c31210", func := "loop.example/g01332/laws.FnExactFirstTogether", spec := "fnExactFirstTogether", unfollowed := true, recurses := true, apart := false, narrowed := true }
def FnExactFirstTogetherUptoSaid : Prop := fnExactFirstTogetherUptoRow.holds Try.pinned (OpenSpec.upto fnExactFirstTogetherSpec)

/-- 'laws.FnExactSteppingAt', WHERE WHAT IT READS IS OF BULK AT MOST 1048576: true; the input reads as it did. -/
def fnExactSteppingAtUptoRow : OpenClaim := { program := "ytioabkhjinnghaa", sum := "95a9b05e7cae70c4e3f093b442f4fdcb4fcec536a0a292a6457980a124c31210", func := "loop.example/g01332/laws.FnExactSteppingAt", spec := "fnExactSteppingAt", unfollowed := true, recurses := true, apart := false, narrowed := true }
def FnExactSteppingAtUptoSaid : Prop := fnExactSteppingAtUptoRow.holds Try.pinned (OpenSpec.upto fnExactSteppingAtSpec)

/-- 'laws.FnExactNeverTogether', WHERE WHAT IT READS IS OF BULK AT MOST 1048576: true; the input reads as it did. -/
def fnExactNeverTogetherUptoRow : OpenClaim := { program := "ytioabkhjinnghaa", sum := "95a9b05e7cae70c4e3f093b442f4fdcb4fcec536a0a292a6457980a124c31210", func := "loop.example/g01332/laws.FnExactNeverTogether", spec := "fnExactNeverTogether", unfollowed := true, recurses := true, apart := false, narrowed := true }
def FnExactNeverTogetherUptoSaid : Prop := fnExactNeverTogetherUptoRow.holds Try.pinned (OpenSpec.upto fnExactNeverTogetherSpec)

/-- 'laws.FnExactCountAtOnce', WHERE WHAT IT READS IS OF BULK AT MOST 1048576: true; the input reads as it did. -/
def fnExactCountAtOnceUptoRow : OpenClaim := { program := "ytioabkhjinnghaa", sum := "95a9b05e7cae70c4e3f093b442f4fdcb4fcec536a0a292a6457980a124c31210", func := "loop.example/g01332/laws.FnExactCountAtOnce", spec := "fnExactCountAtOnce", unfollowed := true, recurses := true, apart := false, narrowed := true }
def FnExactCountAtOnceUptoSaid : Prop := fnExactCountAtOnceUptoRow.holds Try.pinned (OpenSpec.upto fnExactCountAtOnceSpec)

end Rows
end Go.Proofs.Ytioabkhjinnghaa
