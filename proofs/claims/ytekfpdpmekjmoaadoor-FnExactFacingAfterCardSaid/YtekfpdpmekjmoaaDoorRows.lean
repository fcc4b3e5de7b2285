/-
  NARROWER THAN 'FOR EVERY INPUT', by the rows' own cells (each row's printed sentence says how): FnExactPaceOfBeats: laid · FnExactAreFacing: laid · FnExactAreCommands: laid · FnExactCommandsBetween: laid · FnExactNetTurn: laid · FnExactShortCommands: laid · FnExactRepeatsToFront: laid · FnExactFacingAfter: laid · FnExactWaysToFace: laid · FnExactMostFaced: laid.
  DERIVED. THE GIVEN ROWS OF THIS SEAT. 10 by the template 'for every input the law returns true; each argument reads behind the call as it read before'; 0 by the template 'total and deterministic' (their statements: YtekfpdpmekjmoaaDoorTotals.lean).
  GIVEN WITH THE SEED: the statements are not yours to turn. If you find one false, say at which input.
  Laid BY PROGRAM, IN A SANDBOX (cutbox-rows.mjs): the forced cells as the released guide's own fill.sh prints them over the translation 4c515427c53bcbe9… (all of the seat's roots in one cut). By AI agents, Wed Nov 11 2026. No macro, syntax, notation, axiom, sorry.
-/
import Derived.Test.YtekfpdpmekjmoaaDoorChecked
import GoSem.PinnedTables
import GoSem.Claim
import GoSem.ClaimJoined
import GoSem.ClaimMapViews
import Derived.JoinedTies
import Derived.KernelRfl
namespace Go.Proofs.YtekfpdpmekjmoaaDoor
/- THE CELL 'sum', in the pinned program and in every row, IS THE sha256 OF THE DUMP (.gsa) THAT YtekfpdpmekjmoaaDoorProg.lean LOADS. Nothing in Lean hashes anything: it is a label: what it is worth is what the hold of that sum in a sandbox is worth. -/
noncomputable def Tryd.pinned : Pinned := { name := "ytekfpdpmekjmoaadoor", sum := "4c515427c53bcbe948c8fd80b982993cbe008a14f854f28875544ee7b9dbb824", checked := Tryd.checked }
namespace Rows
def none {H : Type} : Left H := { results := [], args := [] }

/- WHAT THE LISTED PACKAGE-LEVEL VARIABLES READ AS WHEN THE CALL BEGINS. Each datum BY PROGRAM (the guide's laid-datum.mjs) off the statement by which the dump's own 'gosem.cut.vars' lays the variable. In a bare row this is a premise. The card (YtekfpdpmekjmoaaDoorCards.lean) ties it to the program's text. -/
def laid_unicode_utf8_acceptRanges {H : Type} : DataW H := .agg [.agg [.lit (.int .u8 128), .lit (.int .u8 191)], .agg [.lit (.int .u8 160), .lit (.int .u8 191)], .agg [.lit (.int .u8 128), .lit (.int .u8 159)], .agg [.lit (.int .u8 144), .lit (.int .u8 191)], .agg [.lit (.int .u8 128), .lit (.int .u8 143)], .agg [.lit (.int .u8 0), .lit (.int .u8 0)], .agg [.lit (.int .u8 0), .lit (.int .u8 0)], .agg [.lit (.int .u8 0), .lit (.int .u8 0)], .agg [.lit (.int .u8 0), .lit (.int .u8 0)], .agg [.lit (.int .u8 0), .lit (.int .u8 0)], .agg [.lit (.int .u8 0), .lit (.int .u8 0)], .agg [.lit (.int .u8 0), .lit (.int .u8 0)], .agg [.lit (.int .u8 0), .lit (.int .u8 0)], .agg [.lit (.int .u8 0), .lit (.int .u8 0)], .agg [.lit (.int .u8 0), .lit (.int .u8 0)], .agg [.lit (.int .u8 0), .lit (.int .u8 0)]]
/-- One of Go's own tables, pinned by name: the form's constant. -/
def laid_unicode_utf8_first : DataW Unit := Go.Pinned.utf8First

/-- 'laws.FnExactPaceOfBeats': WHATEVER THE INPUT: true; the input reads as it did. -/
def fnExactPaceOfBeatsSpec : ChangeSpec := { name := "fnExactPaceOfBeats", fn := fun _ => fun
  | [d] => { results := [.lit (.bool true)], args := [d] }
  | _ => none }
def fnExactPaceOfBeatsRow : OpenClaim := { program := "ytekfpdpmekjmoaadoor", sum := "4c515427c53bcbe948c8fd80b982993cbe008a14f854f28875544ee7b9dbb824", func := "loop.example/g01332/laws.FnExactPaceOfBeats", spec := "fnExactPaceOfBeats", inPlace := ["internal/bytealg.IndexByteString", "internal/bytealg.IndexString"], recurses := true, named := ["unicode/utf8.first", "unicode/utf8.acceptRanges", "internal/bytealg.MaxLen"], apart := false, laid := [("unicode/utf8.acceptRanges", laid_unicode_utf8_acceptRanges), ("unicode/utf8.first", laid_unicode_utf8_first)] }
def FnExactPaceOfBeatsSaid : Prop := fnExactPaceOfBeatsRow.holds Tryd.pinned (OpenSpec.ofChange fnExactPaceOfBeatsSpec)

/-- ITS FALSE NEIGHBOUR: 'it returns false'. Refute it at one input. -/
def fnExactPaceOfBeatsWrong : ChangeSpec := { name := "fnExactPaceOfBeats", fn := fun _ => fun
  | [d] => { results := [.lit (.bool false)], args := [d] }
  | _ => none }
def FnExactPaceOfBeatsWrongFalsely : Prop := fnExactPaceOfBeatsRow.holds Tryd.pinned (OpenSpec.ofChange fnExactPaceOfBeatsWrong)

/-- 'laws.FnExactAreFacing': WHATEVER THE INPUT: true; the input reads as it did. -/
def fnExactAreFacingSpec : ChangeSpec := { name := "fnExactAreFacing", fn := fun _ => fun
  | [d] => { results := [.lit (.bool true)], args := [d] }
  | _ => none }
def fnExactAreFacingRow : OpenClaim := { program := "ytekfpdpmekjmoaadoor", sum := "4c515427c53bcbe948c8fd80b982993cbe008a14f854f28875544ee7b9dbb824", func := "loop.example/g01332/laws.FnExactAreFacing", spec := "fnExactAreFacing", inPlace := ["internal/bytealg.IndexByteString", "internal/bytealg.IndexString"], named := ["unicode/utf8.first", "unicode/utf8.acceptRanges", "internal/bytealg.MaxLen"], apart := false, laid := [("unicode/utf8.acceptRanges", laid_unicode_utf8_acceptRanges), ("unicode/utf8.first", laid_unicode_utf8_first)] }
def FnExactAreFacingSaid : Prop := fnExactAreFacingRow.holds Tryd.pinned (OpenSpec.ofChange fnExactAreFacingSpec)

/-- ITS FALSE NEIGHBOUR: 'it returns false'. Refute it at one input. -/
def fnExactAreFacingWrong : ChangeSpec := { name := "fnExactAreFacing", fn := fun _ => fun
  | [d] => { results := [.lit (.bool false)], args := [d] }
  | _ => none }
def FnExactAreFacingWrongFalsely : Prop := fnExactAreFacingRow.holds Tryd.pinned (OpenSpec.ofChange fnExactAreFacingWrong)

/-- 'laws.FnExactAreCommands': WHATEVER THE INPUT: true; the input reads as it did. -/
def fnExactAreCommandsSpec : ChangeSpec := { name := "fnExactAreCommands", fn := fun _ => fun
  | [d] => { results := [.lit (.bool true)], args := [d] }
  | _ => none }
def fnExactAreCommandsRow : OpenClaim := { program := "ytekfpdpmekjmoaadoor", sum := "4c515427c53bcbe948c8fd80b982993cbe008a14f854f28875544ee7b9dbb824", func := "loop.example/g01332/laws.FnExactAreCommands", spec := "fnExactAreCommands", inPlace := ["internal/bytealg.IndexByteString", "internal/bytealg.IndexString"], named := ["unicode/utf8.first", "unicode/utf8.acceptRanges", "internal/bytealg.MaxLen"], apart := false, laid := [("unicode/utf8.acceptRanges", laid_unicode_utf8_acceptRanges), ("unicode/utf8.first", laid_unicode_utf8_first)] }
def FnExactAreCommandsSaid : Prop := fnExactAreCommandsRow.holds Tryd.pinned (OpenSpec.ofChange fnExactAreCommandsSpec)

/-- ITS FALSE NEIGHBOUR: 'it returns false'. Refute it at one input. -/
def fnExactAreCommandsWrong : ChangeSpec := { name := "fnExactAreCommands", fn := fun _ => fun
  | [d] => { results := [.lit (.bool false)], args := [d] }
  | _ => none }
def FnExactAreCommandsWrongFalsely : Prop := fnExactAreCommandsRow.holds Tryd.pinned (OpenSpec.ofChange fnExactAreCommandsWrong)

/-- 'laws.FnExactCommandsBetween': WHATEVER THE INPUT: true; the input reads as it did. -/
def fnExactCommandsBetweenSpec : ChangeSpec := { name := "fnExactCommandsBetween", fn := fun _ => fun
  | [d1, d2] => { results := [.lit (.bool true)], args := [d1, d2] }
  | _ => none }
def fnExactCommandsBetweenRow : OpenClaim := { program := "ytekfpdpmekjmoaadoor", sum := "4c515427c53bcbe948c8fd80b982993cbe008a14f854f28875544ee7b9dbb824", func := "loop.example/g01332/laws.FnExactCommandsBetween", spec := "fnExactCommandsBetween", inPlace := ["internal/bytealg.IndexByteString", "internal/bytealg.IndexString"], named := ["unicode/utf8.first", "unicode/utf8.acceptRanges", "internal/bytealg.MaxLen"], apart := false, laid := [("unicode/utf8.acceptRanges", laid_unicode_utf8_acceptRanges), ("unicode/utf8.first", laid_unicode_utf8_first)] }
def FnExactCommandsBetweenSaid : Prop := fnExactCommandsBetweenRow.holds Tryd.pinned (OpenSpec.ofChange fnExactCommandsBetweenSpec)

/-- ITS FALSE NEIGHBOUR: 'it returns false'. Refute it at one input. -/
def fnExactCommandsBetweenWrong : ChangeSpec := { name := "fnExactCommandsBetween", fn := fun _ => fun
  | [d1, d2] => { results := [.lit (.bool false)], args := [d1, d2] }
  | _ => none }
def FnExactCommandsBetweenWrongFalsely : Prop := fnExactCommandsBetweenRow.holds Tryd.pinned (OpenSpec.ofChange fnExactCommandsBetweenWrong)

/-- 'laws.FnExactNetTurn': WHATEVER THE INPUT: true; the input reads as it did. -/
def fnExactNetTurnSpec : ChangeSpec := { name := "fnExactNetTurn", fn := fun _ => fun
  | [d] => { results := [.lit (.bool true)], args := [d] }
  | _ => none }
def fnExactNetTurnRow : OpenClaim := { program := "ytekfpdpmekjmoaadoor", sum := "4c515427c53bcbe948c8fd80b982993cbe008a14f854f28875544ee7b9dbb824", func := "loop.example/g01332/laws.FnExactNetTurn", spec := "fnExactNetTurn", inPlace := ["internal/bytealg.IndexByteString", "internal/bytealg.IndexString"], named := ["unicode/utf8.first", "unicode/utf8.acceptRanges", "internal/bytealg.MaxLen"], apart := false, laid := [("unicode/utf8.acceptRanges", laid_unicode_utf8_acceptRanges), ("unicode/utf8.first", laid_unicode_utf8_first)] }
def FnExactNetTurnSaid : Prop := fnExactNetTurnRow.holds Tryd.pinned (OpenSpec.ofChange fnExactNetTurnSpec)

/-- ITS FALSE NEIGHBOUR: 'it returns false'. Refute it at one input. -/
def fnExactNetTurnWrong : ChangeSpec := { name := "fnExactNetTurn", fn := fun _ => fun
  | [d] => { results := [.lit (.bool false)], args := [d] }
  | _ => none }
def FnExactNetTurnWrongFalsely : Prop := fnExactNetTurnRow.holds Tryd.pinned (OpenSpec.ofChange fnExactNetTurnWrong)

/-- 'laws.FnExactShortCommands': WHATEVER THE INPUT: true; the input reads as it did. -/
def fnExactShortCommandsSpec : ChangeSpec := { name := "fnExactShortCommands", fn := fun _ => fun
  | [d] => { results := [.lit (.bool true)], args := [d] }
  | _ => none }
def fnExactShortCommandsRow : OpenClaim := { program := "ytekfpdpmekjmoaadoor", sum := "4c515427c53bcbe948c8fd80b982993cbe008a14f854f28875544ee7b9dbb824", func := "loop.example/g01332/laws.FnExactShortCommands", spec := "fnExactShortCommands", inPlace := ["internal/bytealg.IndexByteString", "internal/bytealg.IndexString"], named := ["unicode/utf8.first", "unicode/utf8.acceptRanges", "internal/bytealg.MaxLen"], apart := false, laid := [("unicode/utf8.acceptRanges", laid_unicode_utf8_acceptRanges), ("unicode/utf8.first", laid_unicode_utf8_first)] }
def FnExactShortCommandsSaid : Prop := fnExactShortCommandsRow.holds Tryd.pinned (OpenSpec.ofChange fnExactShortCommandsSpec)

/-- ITS FALSE NEIGHBOUR: 'it returns false'. Refute it at one input. -/
def fnExactShortCommandsWrong : ChangeSpec := { name := "fnExactShortCommands", fn := fun _ => fun
  | [d] => { results := [.lit (.bool false)], args := [d] }
  | _ => none }
def FnExactShortCommandsWrongFalsely : Prop := fnExactShortCommandsRow.holds Tryd.pinned (OpenSpec.ofChange fnExactShortCommandsWrong)

/-- 'laws.FnExactRepeatsToFront': WHATEVER THE INPUT: true; the input reads as it did. -/
def fnExactRepeatsToFrontSpec : ChangeSpec := { name := "fnExactRepeatsToFront", fn := fun _ => fun
  | [d] => { results := [.lit (.bool true)], args := [d] }
  | _ => none }
def fnExactRepeatsToFrontRow : OpenClaim := { program := "ytekfpdpmekjmoaadoor", sum := "4c515427c53bcbe948c8fd80b982993cbe008a14f854f28875544ee7b9dbb824", func := "loop.example/g01332/laws.FnExactRepeatsToFront", spec := "fnExactRepeatsToFront", inPlace := ["internal/bytealg.IndexByteString", "internal/bytealg.IndexString"], named := ["unicode/utf8.first", "unicode/utf8.acceptRanges", "internal/bytealg.MaxLen"], apart := false, laid := [("unicode/utf8.acceptRanges", laid_unicode_utf8_acceptRanges), ("unicode/utf8.first", laid_unicode_utf8_first)] }
def FnExactRepeatsToFrontSaid : Prop := fnExactRepeatsToFrontRow.holds Tryd.pinned (OpenSpec.ofChange fnExactRepeatsToFrontSpec)

/-- ITS FALSE NEIGHBOUR: 'it returns false'. Refute it at one input. -/
def fnExactRepeatsToFrontWrong : ChangeSpec := { name := "fnExactRepeatsToFront", fn := fun _ => fun
  | [d] => { results := [.lit (.bool false)], args := [d] }
  | _ => none }
def FnExactRepeatsToFrontWrongFalsely : Prop := fnExactRepeatsToFrontRow.holds Tryd.pinned (OpenSpec.ofChange fnExactRepeatsToFrontWrong)

/-- 'laws.FnExactFacingAfter': WHATEVER THE INPUT: true; the input reads as it did. -/
def fnExactFacingAfterSpec : ChangeSpec := { name := "fnExactFacingAfter", fn := fun _ => fun
  | [d1, d2] => { results := [.lit (.bool true)], args := [d1, d2] }
  | _ => none }
def fnExactFacingAfterRow : OpenClaim := { program := "ytekfpdpmekjmoaadoor", sum := "4c515427c53bcbe948c8fd80b982993cbe008a14f854f28875544ee7b9dbb824", func := "loop.example/g01332/laws.FnExactFacingAfter", spec := "fnExactFacingAfter", inPlace := ["internal/bytealg.IndexByteString", "internal/bytealg.IndexString"], unfollowed := true, recurses := true, named := ["unicode/utf8.first", "unicode/utf8.acceptRanges", "internal/bytealg.MaxLen"], apart := false, laid := [("unicode/utf8.acceptRanges", laid_unicode_utf8_acceptRanges), ("unicode/utf8.first", laid_unicode_utf8_first)] }
def FnExactFacingAfterSaid : Prop := fnExactFacingAfterRow.holds Tryd.pinned (OpenSpec.ofChange fnExactFacingAfterSpec)

/-- ITS FALSE NEIGHBOUR: 'it returns false'. Refute it at one input. -/
def fnExactFacingAfterWrong : ChangeSpec := { name := "fnExactFacingAfter", fn := fun _ => fun
  | [d1, d2] => { results := [.lit (.bool false)], args := [d1, d2] }
  | _ => none }
def FnExactFacingAfterWrongFalsely : Prop := fnExactFacingAfterRow.holds Tryd.pinned (OpenSpec.ofChange fnExactFacingAfterWrong)

/-- 'laws.FnExactWaysToFace': WHATEVER THE INPUT: true; the input reads as it did. -/
def fnExactWaysToFaceSpec : ChangeSpec := { name := "fnExactWaysToFace", fn := fun _ => fun
  | [d1, d2, d3] => { results := [.lit (.bool true)], args := [d1, d2, d3] }
  | _ => none }
def fnExactWaysToFaceRow : OpenClaim := { program := "ytekfpdpmekjmoaadoor", sum := "4c515427c53bcbe948c8fd80b982993cbe008a14f854f28875544ee7b9dbb824", func := "loop.example/g01332/laws.FnExactWaysToFace", spec := "fnExactWaysToFace", inPlace := ["internal/bytealg.IndexByteString", "internal/bytealg.IndexString"], named := ["unicode/utf8.first", "unicode/utf8.acceptRanges", "internal/bytealg.MaxLen"], apart := false, laid := [("unicode/utf8.acceptRanges", laid_unicode_utf8_acceptRanges), ("unicode/utf8.first", laid_unicode_utf8_first)] }
def FnExactWaysToFaceSaid : Prop := fnExactWaysToFaceRow.holds Tryd.pinned (OpenSpec.ofChange fnExactWaysToFaceSpec)

/-- ITS FALSE NEIGHBOUR: 'it returns false'. Refute it at one input. -/
def fnExactWaysToFaceWrong : ChangeSpec := { name := "fnExactWaysToFace", fn := fun _ => fun
  | [d1, d2, d3] => { results := [.lit (.bool false)], args := [d1, d2, d3] }
  | _ => none }
def FnExactWaysToFaceWrongFalsely : Prop := fnExactWaysToFaceRow.holds Tryd.pinned (OpenSpec.ofChange fnExactWaysToFaceWrong)

/-- 'laws.FnExactMostFaced': WHATEVER THE INPUT: true; the input reads as it did. -/
def fnExactMostFacedSpec : ChangeSpec := { name := "fnExactMostFaced", fn := fun _ => fun
  | [d] => { results := [.lit (.bool true)], args := [d] }
  | _ => none }
def fnExactMostFacedRow : OpenClaim := { program := "ytekfpdpmekjmoaadoor", sum := "4c515427c53bcbe948c8fd80b982993cbe008a14f854f28875544ee7b9dbb824", func := "loop.example/g01332/laws.FnExactMostFaced", spec := "fnExactMostFaced", inPlace := ["internal/bytealg.IndexByteString", "internal/bytealg.IndexString", "internal/bytealg.CountString"], named := ["unicode/utf8.first", "unicode/utf8.acceptRanges", "internal/bytealg.MaxLen"], apart := false, laid := [("unicode/utf8.acceptRanges", laid_unicode_utf8_acceptRanges), ("unicode/utf8.first", laid_unicode_utf8_first)] }
def FnExactMostFacedSaid : Prop := fnExactMostFacedRow.holds Tryd.pinned (OpenSpec.ofChange fnExactMostFacedSpec)

/-- ITS FALSE NEIGHBOUR: 'it returns false'. Refute it at one input. -/
def fnExactMostFacedWrong : ChangeSpec := { name := "fnExactMostFaced", fn := fun _ => fun
  | [d] => { results := [.lit (.bool false)], args := [d] }
  | _ => none }
def FnExactMostFacedWrongFalsely : Prop := fnExactMostFacedRow.holds Tryd.pinned (OpenSpec.ofChange fnExactMostFacedWrong)

/- THE SECOND FORM. 'bulk': how many values and letters a reading holds, each counted each time it is reached (what is shared counts as often as it is met; a slice's spare places count too). A statement '..UptoSaid' is the law's where the arguments, and the package variables that the reading takes, are together of bulk at most 1048576: NARROWER than '..Said'. Prove '..Said' where nothing that the law and all that it calls make is longer than what came in: it says more and counts as full. Else prove '..UptoSaid'. A law counts once. -/
mutual
def uptoBulk {H : Type} : DataW H → Nat
  | .lit (.string bytes) => bytes.length + 1
  | .lit _ => 1
  | .nil => 1
  | .ptr d => uptoBulk d + 1
  | .slice elems spare => uptoBulkAll elems + uptoBulkAll spare + 1
  | .agg parts => uptoBulkAll parts + 1
  | .iface _ d => uptoBulk d + 1
  | .map entries => uptoBulkEntries entries + 1
  | .held _ => 1
def uptoBulkAll {H : Type} : List (DataW H) → Nat
  | [] => 0
  | d :: r => uptoBulk d + uptoBulkAll r
def uptoBulkEntries {H : Type} : List (Lit × DataW H) → Nat
  | [] => 0
  | x :: r => uptoBulkEntry x + uptoBulkEntries r
def uptoBulkEntry {H : Type} : Lit × DataW H → Nat
  | (.string bytes, d) => bytes.length + uptoBulk d + 1
  | (_, d) => uptoBulk d + 1
 end
def uptoSmall : (H : Type) → List (DataW H) → Bool := fun _ ds => decide (uptoBulkAll ds ≤ 1048576)
def OpenSpec.upto (s : _root_.Go.ChangeSpec) : _root_.Go.OpenSpec := { _root_.Go.OpenSpec.ofChange s with cond := some uptoSmall }

/-- 'laws.FnExactPaceOfBeats', WHERE WHAT IT READS IS OF BULK AT MOST 1048576: true; the input reads as it did. -/
def fnExactPaceOfBeatsUptoRow : OpenClaim := { program := "ytekfpdpmekjmoaadoor", sum := "4c515427c53bcbe948c8fd80b982993cbe008a14f854f28875544ee7b9dbb824", func := "loop.example/g01332/laws.FnExactPaceOfBeats", spec := "fnExactPaceOfBeats", inPlace := ["internal/bytealg.IndexByteString", "internal/bytealg.IndexString"], recurses := true, named := ["unicode/utf8.first", "unicode/utf8.acceptRanges", "internal/bytealg.MaxLen"], apart := false, laid := [("unicode/utf8.acceptRanges", laid_unicode_utf8_acceptRanges), ("unicode/utf8.first", laid_unicode_utf8_first)], narrowed := true }
def FnExactPaceOfBeatsUptoSaid : Prop := fnExactPaceOfBeatsUptoRow.holds Tryd.pinned (OpenSpec.upto fnExactPaceOfBeatsSpec)

/-- 'laws.FnExactAreFacing', WHERE WHAT IT READS IS OF BULK AT MOST 1048576: true; the input reads as it did. -/
def fnExactAreFacingUptoRow : OpenClaim := { program := "ytekfpdpmekjmoaadoor", sum := "4c515427c53bcbe948c8fd80b982993cbe008a14f854f28875544ee7b9dbb824", func := "loop.example/g01332/laws.FnExactAreFacing", spec := "fnExactAreFacing", inPlace := ["internal/bytealg.IndexByteString", "internal/bytealg.IndexString"], named := ["unicode/utf8.first", "unicode/utf8.acceptRanges", "internal/bytealg.MaxLen"], apart := false, laid := [("unicode/utf8.acceptRanges", laid_unicode_utf8_acceptRanges), ("unicode/utf8.first", laid_unicode_utf8_first)], narrowed := true }
def FnExactAreFacingUptoSaid : Prop := fnExactAreFacingUptoRow.holds Tryd.pinned (OpenSpec.upto fnExactAreFacingSpec)

/-- 'laws.FnExactAreCommands', WHERE WHAT IT READS IS OF BULK AT MOST 1048576: true; the input reads as it did. -/
def fnExactAreCommandsUptoRow : OpenClaim := { program := "ytekfpdpmekjmoaadoor", sum := "4c515427c53bcbe948c8fd80b982993cbe008a14f854f28875544ee7b9dbb824", func := "loop.example/g01332/laws.FnExactAreCommands", spec := "fnExactAreCommands", inPlace := ["internal/bytealg.IndexByteString", "internal/bytealg.IndexString"], named := ["unicode/utf8.first", "unicode/utf8.acceptRanges", "internal/bytealg.MaxLen"], apart := false, laid := [("unicode/utf8.acceptRanges", laid_unicode_utf8_acceptRanges), ("unicode/utf8.first", laid_unicode_utf8_first)], narrowed := true }
def FnExactAreCommandsUptoSaid : Prop := fnExactAreCommandsUptoRow.holds Tryd.pinned (OpenSpec.upto fnExactAreCommandsSpec)

/-- 'laws.FnExactCommandsBetween', WHERE WHAT IT READS IS OF BULK AT MOST 1048576: true; the input reads as it did. -/
def fnExactCommandsBetweenUptoRow : OpenClaim := { program := "ytekfpdpmekjmoaadoor", sum := "4c515427c53bcbe948c8fd80b982993cbe008a14f854f28875544ee7b9dbb824", func := "loop.example/g01332/laws.FnExactCommandsBetween", spec := "fnExactCommandsBetween", inPlace := ["internal/bytealg.IndexByteString", "internal/bytealg.IndexString"], named := ["unicode/utf8.first", "unicode/utf8.acceptRanges", "internal/bytealg.MaxLen"], apart := false, laid := [("unicode/utf8.acceptRanges", laid_unicode_utf8_acceptRanges), ("unicode/utf8.first", laid_unicode_utf8_first)], narrowed := true }
def FnExactCommandsBetweenUptoSaid : Prop := fnExactCommandsBetweenUptoRow.holds Tryd.pinned (OpenSpec.upto fnExactCommandsBetweenSpec)

/-- 'laws.FnExactNetTurn', WHERE WHAT IT READS IS OF BULK AT MOST 1048576: true; the input reads as it did. -/
def fnExactNetTurnUptoRow : OpenClaim := { program := "ytekfpdpmekjmoaadoor", sum := "4c515427c53bcbe948c8fd80b982993cbe008a14f854f28875544ee7b9dbb824", func := "loop.example/g01332/laws.FnExactNetTurn", spec := "fnExactNetTurn", inPlace := ["internal/bytealg.IndexByteString", "internal/bytealg.IndexString"], named := ["unicode/utf8.first", "unicode/utf8.acceptRanges", "internal/bytealg.MaxLen"], apart := false, laid := [("unicode/utf8.acceptRanges", laid_unicode_utf8_acceptRanges), ("unicode/utf8.first", laid_unicode_utf8_first)], narrowed := true }
def FnExactNetTurnUptoSaid : Prop := fnExactNetTurnUptoRow.holds Tryd.pinned (OpenSpec.upto fnExactNetTurnSpec)

/-- 'laws.FnExactShortCommands', WHERE WHAT IT READS IS OF BULK AT MOST 1048576: true; the input reads as it did. -/
def fnExactShortCommandsUptoRow : OpenClaim := { program := "ytekfpdpmekjmoaadoor", sum := "4c515427c53bcbe948c8fd80b982993cbe008a14f854f28875544ee7b9dbb824", func := "loop.example/g01332/laws.FnExactShortCommands", spec := "fnExactShortCommands", inPlace := ["internal/bytealg.IndexByteString", "internal/bytealg.IndexString"], named := ["unicode/utf8.first", "unicode/utf8.acceptRanges", "internal/bytealg.MaxLen"], apart := false, laid := [("unicode/utf8.acceptRanges", laid_unicode_utf8_acceptRanges), ("unicode/utf8.first", laid_unicode_utf8_first)], narrowed := true }
def FnExactShortCommandsUptoSaid : Prop := fnExactShortCommandsUptoRow.holds Tryd.pinned (OpenSpec.upto fnExactShortCommandsSpec)

/-- 'laws.FnExactRepeatsToFront', WHERE WHAT IT READS IS OF BULK AT MOST 1048576: true; the input reads as it did. -/
def fnExactRepeatsToFrontUptoRow : OpenClaim := { program := "ytekfpdpmekjmoaadoor", sum := "4c515427c53bcbe948c8fd80b982993cbe008a14f854f28875544ee7b9dbb824", func := "loop.example/g01332/laws.FnExactRepeatsToFront", spec := "fnExactRepeatsToFront", inPlace := ["internal/bytealg.IndexByteString", "internal/bytealg.IndexString"], named := ["unicode/utf8.first", "unicode/utf8.acceptRanges", "internal/bytealg.MaxLen"], apart := false, laid := [("unicode/utf8.acceptRanges", laid_unicode_utf8_acceptRanges), ("unicode/utf8.first", laid_unicode_utf8_first)], narrowed := true }
def FnExactRepeatsToFrontUptoSaid : Prop := fnExactRepeatsToFrontUptoRow.holds Tryd.pinned (OpenSpec.upto fnExactRepeatsToFrontSpec)

/-- 'laws.FnExactFacingAfter', WHERE WHAT IT READS IS OF BULK AT MOST 1048576: true; the input reads as it did. -/
def fnExactFacingAfterUptoRow : OpenClaim := { program := "ytekfpdpmekjmoaadoor", sum := "4c515427c53bcbe948c8fd80b982993cbe008a14f854f28875544ee7b9dbb824", func := "loop.example/g01332/laws.FnExactFacingAfter", spec := "fnExactFacingAfter", inPlace := ["internal/bytealg.IndexByteString", "internal/bytealg.IndexString"], unfollowed := true, recurses := true, named := ["unicode/utf8.first", "unicode/utf8.acceptRanges", "internal/bytealg.MaxLen"], apart := false, laid := [("unicode/utf8.acceptRanges", laid_unicode_utf8_acceptRanges), ("unicode/utf8.first", laid_unicode_utf8_first)], narrowed := true }
def FnExactFacingAfterUptoSaid : Prop := fnExactFacingAfterUptoRow.holds Tryd.pinned (OpenSpec.upto fnExactFacingAfterSpec)

/-- 'laws.FnExactWaysToFace', WHERE WHAT IT READS IS OF BULK AT MOST 1048576: true; the input reads as it did. -/
def fnExactWaysToFaceUptoRow : OpenClaim := { program := "ytekfpdpmekjmoaadoor", sum := "4c515427c53bcbe948c8fd80b982993cbe008a14f854f28875544ee7b9dbb824", func := "loop.example/g01332/laws.FnExactWaysToFace", spec := "fnExactWaysToFace", inPlace := ["internal/bytealg.IndexByteString", "internal/bytealg.IndexString"], named := ["unicode/utf8.first", "unicode/utf8.acceptRanges", "internal/bytealg.MaxLen"], apart := false, laid := [("unicode/utf8.acceptRanges", laid_unicode_utf8_acceptRanges), ("unicode/utf8.first", laid_unicode_utf8_first)], narrowed := true }
def FnExactWaysToFaceUptoSaid : Prop := fnExactWaysToFaceUptoRow.holds Tryd.pinned (OpenSpec.upto fnExactWaysToFaceSpec)

/-- 'laws.FnExactMostFaced', WHERE WHAT IT READS IS OF BULK AT MOST 1048576: true; the input reads as it did. -/
def fnExactMostFacedUptoRow : OpenClaim := { program := "ytekfpdpmekjmoaadoor", sum := "4c515427c53bcbe948c8fd80b982993cbe008a14f854f28875544ee7b9dbb824", func := "loop.example/g01332/laws.FnExactMostFaced", spec := "fnExactMostFaced", inPlace := ["internal/bytealg.IndexByteString", "internal/bytealg.IndexString", "internal/bytealg.CountString"], named := ["unicode/utf8.first", "unicode/utf8.acceptRanges", "internal/bytealg.MaxLen"], apart := false, laid := [("unicode/utf8.acceptRanges", laid_unicode_utf8_acceptRanges), ("unicode/utf8.first", laid_unicode_utf8_first)], narrowed := true }
def FnExactMostFacedUptoSaid : Prop := fnExactMostFacedUptoRow.holds Tryd.pinned (OpenSpec.upto fnExactMostFacedSpec)

end Rows
end Go.Proofs.YtekfpdpmekjmoaaDoor
