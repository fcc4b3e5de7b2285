/-
  No cell of these rows narrows 'for every input' (looked for: loops, veiled, ifaces, maps, wideKeys, modest, calm, conditions, laid).
  DERIVED. THE GIVEN ROWS OF THIS SEAT. 11 by the template 'for every input the law returns true; each argument reads behind the call as it read before'; 0 by the template 'total and deterministic' (their statements: YtollpomnfpkaeaaTotals.lean).
  GIVEN WITH THE SEED: the statements are not yours to turn. If you find one false, say at which input.
  Laid BY PROGRAM, IN A SANDBOX (cutbox-rows.mjs): the forced cells as the released guide's own fill.sh prints them over the translation 563dd3bf6a9befdf… (all of the seat's roots in one cut). By AI agents, Wed Nov 11 2026. No macro, syntax, notation, axiom, sorry.
-/
import Derived.Test.YtollpomnfpkaeaaChecked
import GoSem.Claim
import GoSem.ClaimJoined
import GoSem.ClaimMapViews
import Derived.JoinedTies
import Derived.KernelRfl
namespace Go.Proofs.Ytollpomnfpkaeaa
/- THE CELL 'sum', in the pinned program and in every row, IS THE sha256 OF THE DUMP (.gsa) THAT YtollpomnfpkaeaaProg.lean LOADS. Nothing in Lean hashes anything: it is a label: what it is worth is what the hold of that sum in a sandbox is worth. -/
noncomputable def Try.pinned : Pinned := { name := "ytollpomnfpkaeaa", sum := "563dd3bf6a9befdff943babaf0f0333e5297d13b60cdd008f93ca98f8b8e05bb", checked := Try.checked }
namespace Rows
def none {H : Type} : Left H := { results := [], args := [] }

/-- 'laws.FnExactCountCommandWords': WHATEVER THE INPUT: true; the input reads as it did. -/
def fnExactCountCommandWordsSpec : ChangeSpec := { name := "fnExactCountCommandWords", fn := fun _ => fun
  | [d1, d2] => { results := [.lit (.bool true)], args := [d1, d2] }
  | _ => none }
def fnExactCountCommandWordsRow : OpenClaim := { program := "ytollpomnfpkaeaa", sum := "563dd3bf6a9befdff943babaf0f0333e5297d13b60cdd008f93ca98f8b8e05bb", func := "loop.example/g01332/laws.FnExactCountCommandWords", spec := "fnExactCountCommandWords", apart := false }
def FnExactCountCommandWordsSaid : Prop := fnExactCountCommandWordsRow.holds Try.pinned (OpenSpec.ofChange fnExactCountCommandWordsSpec)

/-- ITS FALSE NEIGHBOUR: 'it returns false'. Refute it at one input. -/
def fnExactCountCommandWordsWrong : ChangeSpec := { name := "fnExactCountCommandWords", fn := fun _ => fun
  | [d1, d2] => { results := [.lit (.bool false)], args := [d1, d2] }
  | _ => none }
def FnExactCountCommandWordsWrongFalsely : Prop := fnExactCountCommandWordsRow.holds Try.pinned (OpenSpec.ofChange fnExactCountCommandWordsWrong)

/-- 'laws.FnExactTurnFormation': WHATEVER THE INPUT: true; the input reads as it did. -/
def fnExactTurnFormationSpec : ChangeSpec := { name := "fnExactTurnFormation", fn := fun _ => fun
  | [d1, d2] => { results := [.lit (.bool true)], args := [d1, d2] }
  | _ => none }
def fnExactTurnFormationRow : OpenClaim := { program := "ytollpomnfpkaeaa", sum := "563dd3bf6a9befdff943babaf0f0333e5297d13b60cdd008f93ca98f8b8e05bb", func := "loop.example/g01332/laws.FnExactTurnFormation", spec := "fnExactTurnFormation", apart := false }
def FnExactTurnFormationSaid : Prop := fnExactTurnFormationRow.holds Try.pinned (OpenSpec.ofChange fnExactTurnFormationSpec)

/-- ITS FALSE NEIGHBOUR: 'it returns false'. Refute it at one input. -/
def fnExactTurnFormationWrong : ChangeSpec := { name := "fnExactTurnFormation", fn := fun _ => fun
  | [d1, d2] => { results := [.lit (.bool false)], args := [d1, d2] }
  | _ => none }
def FnExactTurnFormationWrongFalsely : Prop := fnExactTurnFormationRow.holds Try.pinned (OpenSpec.ofChange fnExactTurnFormationWrong)

/-- 'laws.FnExactTimesTurned': WHATEVER THE INPUT: true; the input reads as it did. -/
def fnExactTimesTurnedSpec : ChangeSpec := { name := "fnExactTimesTurned", fn := fun _ => fun
  | [d1, d2] => { results := [.lit (.bool true)], args := [d1, d2] }
  | _ => none }
def fnExactTimesTurnedRow : OpenClaim := { program := "ytollpomnfpkaeaa", sum := "563dd3bf6a9befdff943babaf0f0333e5297d13b60cdd008f93ca98f8b8e05bb", func := "loop.example/g01332/laws.FnExactTimesTurned", spec := "fnExactTimesTurned", apart := false }
def FnExactTimesTurnedSaid : Prop := fnExactTimesTurnedRow.holds Try.pinned (OpenSpec.ofChange fnExactTimesTurnedSpec)

/-- ITS FALSE NEIGHBOUR: 'it returns false'. Refute it at one input. -/
def fnExactTimesTurnedWrong : ChangeSpec := { name := "fnExactTimesTurned", fn := fun _ => fun
  | [d1, d2] => { results := [.lit (.bool false)], args := [d1, d2] }
  | _ => none }
def FnExactTimesTurnedWrongFalsely : Prop := fnExactTimesTurnedRow.holds Try.pinned (OpenSpec.ofChange fnExactTimesTurnedWrong)

/-- 'laws.FnExactSquareTriangles': WHATEVER THE INPUT: true; the input reads as it did. -/
def fnExactSquareTrianglesSpec : ChangeSpec := { name := "fnExactSquareTriangles", fn := fun _ => fun
  | [d] => { results := [.lit (.bool true)], args := [d] }
  | _ => none }
def fnExactSquareTrianglesRow : OpenClaim := { program := "ytollpomnfpkaeaa", sum := "563dd3bf6a9befdff943babaf0f0333e5297d13b60cdd008f93ca98f8b8e05bb", func := "loop.example/g01332/laws.FnExactSquareTriangles", spec := "fnExactSquareTriangles", apart := false }
def FnExactSquareTrianglesSaid : Prop := fnExactSquareTrianglesRow.holds Try.pinned (OpenSpec.ofChange fnExactSquareTrianglesSpec)

/-- ITS FALSE NEIGHBOUR: 'it returns false'. Refute it at one input. -/
def fnExactSquareTrianglesWrong : ChangeSpec := { name := "fnExactSquareTriangles", fn := fun _ => fun
  | [d] => { results := [.lit (.bool false)], args := [d] }
  | _ => none }
def FnExactSquareTrianglesWrongFalsely : Prop := fnExactSquareTrianglesRow.holds Try.pinned (OpenSpec.ofChange fnExactSquareTrianglesWrong)

/-- 'laws.FnExactRectanglesOf': WHATEVER THE INPUT: true; the input reads as it did. -/
def fnExactRectanglesOfSpec : ChangeSpec := { name := "fnExactRectanglesOf", fn := fun _ => fun
  | [d] => { results := [.lit (.bool true)], args := [d] }
  | _ => none }
def fnExactRectanglesOfRow : OpenClaim := { program := "ytollpomnfpkaeaa", sum := "563dd3bf6a9befdff943babaf0f0333e5297d13b60cdd008f93ca98f8b8e05bb", func := "loop.example/g01332/laws.FnExactRectanglesOf", spec := "fnExactRectanglesOf", apart := false }
def FnExactRectanglesOfSaid : Prop := fnExactRectanglesOfRow.holds Try.pinned (OpenSpec.ofChange fnExactRectanglesOfSpec)

/-- ITS FALSE NEIGHBOUR: 'it returns false'. Refute it at one input. -/
def fnExactRectanglesOfWrong : ChangeSpec := { name := "fnExactRectanglesOf", fn := fun _ => fun
  | [d] => { results := [.lit (.bool false)], args := [d] }
  | _ => none }
def FnExactRectanglesOfWrongFalsely : Prop := fnExactRectanglesOfRow.holds Try.pinned (OpenSpec.ofChange fnExactRectanglesOfWrong)

/-- 'laws.FnExactTwoSquares': WHATEVER THE INPUT: true; the input reads as it did. -/
def fnExactTwoSquaresSpec : ChangeSpec := { name := "fnExactTwoSquares", fn := fun _ => fun
  | [d] => { results := [.lit (.bool true)], args := [d] }
  | _ => none }
def fnExactTwoSquaresRow : OpenClaim := { program := "ytollpomnfpkaeaa", sum := "563dd3bf6a9befdff943babaf0f0333e5297d13b60cdd008f93ca98f8b8e05bb", func := "loop.example/g01332/laws.FnExactTwoSquares", spec := "fnExactTwoSquares", apart := false }
def FnExactTwoSquaresSaid : Prop := fnExactTwoSquaresRow.holds Try.pinned (OpenSpec.ofChange fnExactTwoSquaresSpec)

/-- ITS FALSE NEIGHBOUR: 'it returns false'. Refute it at one input. -/
def fnExactTwoSquaresWrong : ChangeSpec := { name := "fnExactTwoSquares", fn := fun _ => fun
  | [d] => { results := [.lit (.bool false)], args := [d] }
  | _ => none }
def FnExactTwoSquaresWrongFalsely : Prop := fnExactTwoSquaresRow.holds Try.pinned (OpenSpec.ofChange fnExactTwoSquaresWrong)

/-- 'laws.FnExactRemaindersOf': WHATEVER THE INPUT: true; the input reads as it did. -/
def fnExactRemaindersOfSpec : ChangeSpec := { name := "fnExactRemaindersOf", fn := fun _ => fun
  | [d1, d2] => { results := [.lit (.bool true)], args := [d1, d2] }
  | _ => none }
def fnExactRemaindersOfRow : OpenClaim := { program := "ytollpomnfpkaeaa", sum := "563dd3bf6a9befdff943babaf0f0333e5297d13b60cdd008f93ca98f8b8e05bb", func := "loop.example/g01332/laws.FnExactRemaindersOf", spec := "fnExactRemaindersOf", unfollowed := true, recurses := true, apart := false }
def FnExactRemaindersOfSaid : Prop := fnExactRemaindersOfRow.holds Try.pinned (OpenSpec.ofChange fnExactRemaindersOfSpec)

/-- ITS FALSE NEIGHBOUR: 'it returns false'. Refute it at one input. -/
def fnExactRemaindersOfWrong : ChangeSpec := { name := "fnExactRemaindersOf", fn := fun _ => fun
  | [d1, d2] => { results := [.lit (.bool false)], args := [d1, d2] }
  | _ => none }
def FnExactRemaindersOfWrongFalsely : Prop := fnExactRemaindersOfRow.holds Try.pinned (OpenSpec.ofChange fnExactRemaindersOfWrong)

/-- 'laws.FnExactStepOf': WHATEVER THE INPUT: true; the input reads as it did. -/
def fnExactStepOfSpec : ChangeSpec := { name := "fnExactStepOf", fn := fun _ => fun
  | [d] => { results := [.lit (.bool true)], args := [d] }
  | _ => none }
def fnExactStepOfRow : OpenClaim := { program := "ytollpomnfpkaeaa", sum := "563dd3bf6a9befdff943babaf0f0333e5297d13b60cdd008f93ca98f8b8e05bb", func := "loop.example/g01332/laws.FnExactStepOf", spec := "fnExactStepOf", unfollowed := true, recurses := true, apart := false }
def FnExactStepOfSaid : Prop := fnExactStepOfRow.holds Try.pinned (OpenSpec.ofChange fnExactStepOfSpec)

/-- ITS FALSE NEIGHBOUR: 'it returns false'. Refute it at one input. -/
def fnExactStepOfWrong : ChangeSpec := { name := "fnExactStepOf", fn := fun _ => fun
  | [d] => { results := [.lit (.bool false)], args := [d] }
  | _ => none }
def FnExactStepOfWrongFalsely : Prop := fnExactStepOfRow.holds Try.pinned (OpenSpec.ofChange fnExactStepOfWrong)

/-- 'laws.FnExactCanBeLeft': WHATEVER THE INPUT: true; the input reads as it did. -/
def fnExactCanBeLeftSpec : ChangeSpec := { name := "fnExactCanBeLeft", fn := fun _ => fun
  | [d1, d2] => { results := [.lit (.bool true)], args := [d1, d2] }
  | _ => none }
def fnExactCanBeLeftRow : OpenClaim := { program := "ytollpomnfpkaeaa", sum := "563dd3bf6a9befdff943babaf0f0333e5297d13b60cdd008f93ca98f8b8e05bb", func := "loop.example/g01332/laws.FnExactCanBeLeft", spec := "fnExactCanBeLeft", unfollowed := true, recurses := true, apart := false }
def FnExactCanBeLeftSaid : Prop := fnExactCanBeLeftRow.holds Try.pinned (OpenSpec.ofChange fnExactCanBeLeftSpec)

/-- ITS FALSE NEIGHBOUR: 'it returns false'. Refute it at one input. -/
def fnExactCanBeLeftWrong : ChangeSpec := { name := "fnExactCanBeLeft", fn := fun _ => fun
  | [d1, d2] => { results := [.lit (.bool false)], args := [d1, d2] }
  | _ => none }
def FnExactCanBeLeftWrongFalsely : Prop := fnExactCanBeLeftRow.holds Try.pinned (OpenSpec.ofChange fnExactCanBeLeftWrong)

/-- 'laws.FnExactLeastWith': WHATEVER THE INPUT: true; the input reads as it did. -/
def fnExactLeastWithSpec : ChangeSpec := { name := "fnExactLeastWith", fn := fun _ => fun
  | [d1, d2] => { results := [.lit (.bool true)], args := [d1, d2] }
  | _ => none }
def fnExactLeastWithRow : OpenClaim := { program := "ytollpomnfpkaeaa", sum := "563dd3bf6a9befdff943babaf0f0333e5297d13b60cdd008f93ca98f8b8e05bb", func := "loop.example/g01332/laws.FnExactLeastWith", spec := "fnExactLeastWith", unfollowed := true, recurses := true, apart := false }
def FnExactLeastWithSaid : Prop := fnExactLeastWithRow.holds Try.pinned (OpenSpec.ofChange fnExactLeastWithSpec)

/-- ITS FALSE NEIGHBOUR: 'it returns false'. Refute it at one input. -/
def fnExactLeastWithWrong : ChangeSpec := { name := "fnExactLeastWith", fn := fun _ => fun
  | [d1, d2] => { results := [.lit (.bool false)], args := [d1, d2] }
  | _ => none }
def FnExactLeastWithWrongFalsely : Prop := fnExactLeastWithRow.holds Try.pinned (OpenSpec.ofChange fnExactLeastWithWrong)

/-- 'laws.FnExactCountWith': WHATEVER THE INPUT: true; the input reads as it did. -/
def fnExactCountWithSpec : ChangeSpec := { name := "fnExactCountWith", fn := fun _ => fun
  | [d1, d2, d3] => { results := [.lit (.bool true)], args := [d1, d2, d3] }
  | _ => none }
def fnExactCountWithRow : OpenClaim := { program := "ytollpomnfpkaeaa", sum := "563dd3bf6a9befdff943babaf0f0333e5297d13b60cdd008f93ca98f8b8e05bb", func := "loop.example/g01332/laws.FnExactCountWith", spec := "fnExactCountWith", unfollowed := true, recurses := true, apart := false }
def FnExactCountWithSaid : Prop := fnExactCountWithRow.holds Try.pinned (OpenSpec.ofChange fnExactCountWithSpec)

/-- ITS FALSE NEIGHBOUR: 'it returns false'. Refute it at one input. -/
def fnExactCountWithWrong : ChangeSpec := { name := "fnExactCountWith", fn := fun _ => fun
  | [d1, d2, d3] => { results := [.lit (.bool false)], args := [d1, d2, d3] }
  | _ => none }
def FnExactCountWithWrongFalsely : Prop := fnExactCountWithRow.holds Try.pinned (OpenSpec.ofChange fnExactCountWithWrong)

/- THE SECOND FORM. 'bulk': how many values and letters a reading holds, each counted each time it is reached (what is shared counts as often as it is met; a slice's spare places count too). A statement '..UptoSaid' is the law's where the arguments, and the package variables that the reading takes, are together of bulk at most 1048576: NARROWER than '..Said'. Prove '..Said' where nothing that the law and all that it calls make is longer than what came in: it says more and counts as full. Else prove '..UptoSaid'. A law counts once. -/
mutual
def uptoBulk {H : Type} : DataW H → Nat
  | .lit (.string bytes) => bytes.length + 1
  | .lit _ => 1
  | .nil => 1
  | .ptr d => uptoBulk d + 1
  | .slice elems spare => uptoBulkAll elems + uptoBulkAll spare + 1
  | .agg parts => uptoBulkAll parts + 1
  | .iface _ d => uptoBulk d + 1
  | .map entries => uptoBulkEntries entries + 1
  | .held _ => 1
def uptoBulkAll {H : Type} : List (DataW H) → Nat
  | [] => 0
  | d :: r => uptoBulk d + uptoBulkAll r
def uptoBulkEntries {H : Type} : List (Lit × DataW H) → Nat
  | [] => 0
  | x :: r => uptoBulkEntry x + uptoBulkEntries r
def uptoBulkEntry {H : Type} : Lit × DataW H → Nat
  | (.string bytes, d) => bytes.length + uptoBulk d + 1
  | (_, d) => uptoBulk d + 1
 end
def uptoSmall : (H : Type) → List (DataW H) → Bool := fun _ ds => decide (uptoBulkAll ds ≤ 1048576)
def OpenSpec.upto (s : _root_.Go.ChangeSpec) : _root_.Go.OpenSpec := { _root_.Go.OpenSpec.ofChange s with cond := some uptoSmall }

/-- 'laws.FnExactCountCommandWords', WHERE WHAT IT READS IS OF BULK AT MOST 1048576: true; the input reads as it did. -/
def fnExactCountCommandWordsUptoRow : OpenClaim := { program := "ytollpomnfpkaeaa", sum := "563dd3bf6a9befdff943babaf0f0333e5297d13b60cdd008f93ca98f8b8e05bb", func := "loop.example/g01332/laws.FnExactCountCommandWords", spec := "fnExactCountCommandWords", apart := false, narrowed := true }
def FnExactCountCommandWordsUptoSaid : Prop := fnExactCountCommandWordsUptoRow.holds Try.pinned (OpenSpec.upto fnExactCountCommandWordsSpec)

/-- 'laws.FnExactTurnFormation', WHERE WHAT IT READS IS OF BULK AT MOST 1048576: true; the input reads as it did. -/
def fnExactTurnFormationUptoRow : OpenClaim := { program := "ytollpomnfpkaeaa", sum := "563dd3bf6a9befdff943babaf0f0333e5297d13b60cdd008f93ca98f8b8e05bb", func := "loop.example/g01332/laws.FnExactTurnFormation", spec := "fnExactTurnFormation", apart := false, narrowed := true }
def FnExactTurnFormationUptoSaid : Prop := fnExactTurnFormationUptoRow.holds Try.pinned (OpenSpec.upto fnExactTurnFormationSpec)

/-- 'laws.FnExactTimesTurned', WHERE WHAT IT READS IS OF BULK AT MOST 1048576: true; the input reads as it did. -/
def fnExactTimesTurnedUptoRow : OpenClaim := { program := "ytollpomnfpkaeaa", sum := "563dd3bf6a9befdff943babaf0f0333e5297d13b60cdd008f93ca98f8b8e05bb", func := "loop.example/g01332/laws.FnExactTimesTurned", spec := "fnExactTimesTurned", apart := false, narrowed := true }
def FnExactTimesTurnedUptoSaid : Prop := fnExactTimesTurnedUptoRow.holds Try.pinned (OpenSpec.upto fnExactTimesTurnedSpec)

/-- 'laws.FnExactSquareTriangles', WHERE WHAT IT READS IS OF BULK AT MOST 1048576: true; the input reads as it did. -/
def fnExactSquareTrianglesUptoRow : OpenClaim := { program := "ytollpomnfpkaeaa", sum := "563dd3bf6a9befdff943babaf0f0333e5297d13b60cdd008f93ca98f8b8e05bb", func := "loop.example/g01332/laws.FnExactSquareTriangles", spec := "fnExactSquareTriangles", apart := false, narrowed := true }
def FnExactSquareTrianglesUptoSaid : Prop := fnExactSquareTrianglesUptoRow.holds Try.pinned (OpenSpec.upto fnExactSquareTrianglesSpec)

/-- 'laws.FnExactRectanglesOf', WHERE WHAT IT READS IS OF BULK AT MOST 1048576: true; the input reads as it did. -/
def fnExactRectanglesOfUptoRow : OpenClaim := { program := "ytollpomnfpkaeaa", sum := "563dd3bf6a9befdff943babaf0f0333e5297d13b60cdd008f93ca98f8b8e05bb", func := "loop.example/g01332/laws.FnExactRectanglesOf", spec := "fnExactRectanglesOf", apart := false, narrowed := true }
def FnExactRectanglesOfUptoSaid : Prop := fnExactRectanglesOfUptoRow.holds Try.pinned (OpenSpec.upto fnExactRectanglesOfSpec)

/-- 'laws.FnExactTwoSquares', WHERE WHAT IT READS IS OF BULK AT MOST 1048576: true; the input reads as it did. -/
def fnExactTwoSquaresUptoRow : OpenClaim := { program := "ytollpomnfpkaeaa", sum := "563dd3bf6a9befdff943babaf0f0333e5297d13b60cdd008f93ca98f8b8e05bb", func := "loop.example/g01332/laws.FnExactTwoSquares", spec := "fnExactTwoSquares", apart := false, narrowed := true }
def FnExactTwoSquaresUptoSaid : Prop := fnExactTwoSquaresUptoRow.holds Try.pinned (OpenSpec.upto fnExactTwoSquaresSpec)

/-- 'laws.FnExactRemaindersOf', WHERE WHAT IT READS IS OF BULK AT MOST 1048576: true; the input reads as it did. -/
def fnExactRemaindersOfUptoRow : OpenClaim := { program := "ytollpomnfpkaeaa", sum := "563dd3bf6a9befdff943babaf0f0333e5297d13b60cdd008f93ca98f8b8e05bb", func := "loop.example/g01332/laws.FnExactRemaindersOf", spec := "fnExactRemaindersOf", unfollowed := true, recurses := true, apart := false, narrowed := true }
def FnExactRemaindersOfUptoSaid : Prop := fnExactRemaindersOfUptoRow.holds Try.pinned (OpenSpec.upto fnExactRemaindersOfSpec)

/-- 'laws.FnExactStepOf', WHERE WHAT IT READS IS OF BULK AT MOST 1048576: true; the input reads as it did. -/
def fnExactStepOfUptoRow : OpenClaim := { program := "ytollpomnfpkaeaa", sum := "563dd3bf6a9befdff943babaf0f0333e5297d13b60cdd008f93ca98f8b8e05bb", func := "loop.example/g01332/laws.FnExactStepOf", spec := "fnExactStepOf", unfollowed := true, recurses := true, apart := false, narrowed := true }
def FnExactStepOfUptoSaid : Prop := fnExactStepOfUptoRow.holds Try.pinned (OpenSpec.upto fnExactStepOfSpec)

/-- 'laws.FnExactCanBeLeft', WHERE WHAT IT READS IS OF BULK AT MOST 1048576: true; the input reads as it did. -/
def fnExactCanBeLeftUptoRow : OpenClaim := { program := "ytollpomnfpkaeaa", sum := "563dd3bf6a9befdff943babaf0f0333e5297d13b60cdd008f93ca98f8b8e05bb", func := "loop.example/g01332/laws.FnExactCanBeLeft", spec := "fnExactCanBeLeft", unfollowed := true, recurses := true, apart := false, narrowed := true }
def FnExactCanBeLeftUptoSaid : Prop := fnExactCanBeLeftUptoRow.holds Try.pinned (OpenSpec.upto fnExactCanBeLeftSpec)

/-- 'laws.FnExactLeastWith', WHERE WHAT IT READS IS OF BULK AT MOST 1048576: true; the input reads as it did. -/
def fnExactLeastWithUptoRow : OpenClaim := { program := "ytollpomnfpkaeaa", sum := "563dd3bf6a9befdff943babaf0f0333e5297d13b60cdd008f93ca98f8b8e05bb", func := "loop.example/g01332/laws.FnExactLeastWith", spec := "fnExactLeastWith", unfollowed := true, recurses := true, apart := false, narrowed := true }
def FnExactLeastWithUptoSaid : Prop := fnExactLeastWithUptoRow.holds Try.pinned (OpenSpec.upto fnExactLeastWithSpec)

/-- 'laws.FnExactCountWith', WHERE WHAT IT READS IS OF BULK AT MOST 1048576: true; the input reads as it did. -/
def fnExactCountWithUptoRow : OpenClaim := { program := "ytollpomnfpkaeaa", sum := "563dd3bf6a9befdff943babaf0f0333e5297d13b60cdd008f93ca98f8b8e05bb", func := "loop.example/g01332/laws.FnExactCountWith", spec := "fnExactCountWith", unfollowed := true, recurses := true, apart := false, narrowed := true }
def FnExactCountWithUptoSaid : Prop := fnExactCountWithUptoRow.holds Try.pinned (OpenSpec.upto fnExactCountWithSpec)

end Rows
end Go.Proofs.Ytollpomnfpkaeaa
