/-
  NARROWER THAN 'FOR EVERY INPUT', by the rows' own cells (each row's printed sentence says how): FnExactBestCommand: laid · FnExactAreMistakes: laid · FnExactMirrorCommands: laid · FnExactBackCommands: laid · FnExactFacingWithMistakes: laid · FnExactCorrectionsOf: laid · FnExactWrongSoldiers: laid.
  DERIVED. THE GIVEN ROWS OF THIS SEAT. 7 by the template 'for every input the law returns true; each argument reads behind the call as it read before'; 0 by the template 'total and deterministic' (their statements: YtddenfnnnloagaaDoorTotals.lean).
  GIVEN WITH THE SEED: the statements are not yours to turn. If you find one false, say at which input.
  Laid BY PROGRAM, IN A SANDBOX (cutbox-rows.mjs): the forced cells as the released guide's own fill.sh prints them over the translation 758307de2b239d26… (all of the seat's roots in one cut). By AI agents, Wed Nov 11 2026. No macro, syntax, notation, axiom, sorry.
-/
import Derived.Test.YtddenfnnnloagaaDoorChecked
import GoSem.PinnedTables
import GoSem.Claim
import GoSem.ClaimJoined
import GoSem.ClaimMapViews
import Derived.JoinedTies
import Derived.KernelRfl
namespace Go.Proofs.YtddenfnnnloagaaDoor
/- THE CELL 'sum', in the pinned program and in every row, IS THE sha256 OF THE DUMP (.gsa) THAT YtddenfnnnloagaaDoorProg.lean LOADS. Nothing in Lean hashes anything: it is a label: what it is worth is what the hold of that sum in a sandbox is worth. -/
noncomputable def Tryd.pinned : Pinned := { name := "ytddenfnnnloagaadoor", sum := "758307de2b239d26d19f390619f0d1fea2601f46cd9b4b63fd0d2ff365b43b1d", checked := Tryd.checked }
namespace Rows
def none {H : Type} : Left H := { results := [], args := [] }

/- WHAT THE LISTED PACKAGE-LEVEL VARIABLES READ AS WHEN THE CALL BEGINS. Each datum BY PROGRAM (the guide's laid-datum.mjs) off the statement by which the dump's own 'gosem.cut.vars' lays the variable. In a bare row this is a premise. The card (YtddenfnnnloagaaDoorCards.lean) ties it to the program's text. -/
def laid_unicode_utf8_acceptRanges {H : Type} : DataW H := .agg [.agg [.lit (.int .u8 128), .lit (.int .u8 191)], .agg [.lit (.int .u8 160), .lit (.int .u8 191)], .agg [.lit (.int .u8 128), .lit (.int .u8 159)], .agg [.lit (.int .u8 144), .lit (.int .u8 191)], .agg [.lit (.int .u8 128), .lit (.int .u8 143)], .agg [.lit (.int .u8 0), .lit (.int .u8 0)], .agg [.lit (.int .u8 0), .lit (.int .u8 0)], .agg [.lit (.int .u8 0), .lit (.int .u8 0)], .agg [.lit (.int .u8 0), .lit (.int .u8 0)], .agg [.lit (.int .u8 0), .lit (.int .u8 0)], .agg [.lit (.int .u8 0), .lit (.int .u8 0)], .agg [.lit (.int .u8 0), .lit (.int .u8 0)], .agg [.lit (.int .u8 0), .lit (.int .u8 0)], .agg [.lit (.int .u8 0), .lit (.int .u8 0)], .agg [.lit (.int .u8 0), .lit (.int .u8 0)], .agg [.lit (.int .u8 0), .lit (.int .u8 0)]]
/-- One of Go's own tables, pinned by name: the form's constant. -/
def laid_unicode_utf8_first : DataW Unit := Go.Pinned.utf8First

/-- 'laws.FnExactBestCommand': WHATEVER THE INPUT: true; the input reads as it did. -/
def fnExactBestCommandSpec : ChangeSpec := { name := "fnExactBestCommand", fn := fun _ => fun
  | [d1, d2] => { results := [.lit (.bool true)], args := [d1, d2] }
  | _ => none }
def fnExactBestCommandRow : OpenClaim := { program := "ytddenfnnnloagaadoor", sum := "758307de2b239d26d19f390619f0d1fea2601f46cd9b4b63fd0d2ff365b43b1d", func := "loop.example/g01332/laws.FnExactBestCommand", spec := "fnExactBestCommand", inPlace := ["internal/bytealg.IndexByteString", "internal/bytealg.IndexString", "internal/bytealg.CountString"], named := ["unicode/utf8.first", "unicode/utf8.acceptRanges", "internal/bytealg.MaxLen"], apart := false, laid := [("unicode/utf8.acceptRanges", laid_unicode_utf8_acceptRanges), ("unicode/utf8.first", laid_unicode_utf8_first)] }
def FnExactBestCommandSaid : Prop := fnExactBestCommandRow.holds Tryd.pinned (OpenSpec.ofChange fnExactBestCommandSpec)

/-- ITS FALSE NEIGHBOUR: 'it returns false'. Refute it at one input. -/
def fnExactBestCommandWrong : ChangeSpec := { name := "fnExactBestCommand", fn := fun _ => fun
  | [d1, d2] => { results := [.lit (.bool false)], args := [d1, d2] }
  | _ => none }
def FnExactBestCommandWrongFalsely : Prop := fnExactBestCommandRow.holds Tryd.pinned (OpenSpec.ofChange fnExactBestCommandWrong)

/-- 'laws.FnExactAreMistakes': WHATEVER THE INPUT: true; the input reads as it did. -/
def fnExactAreMistakesSpec : ChangeSpec := { name := "fnExactAreMistakes", fn := fun _ => fun
  | [d1, d2, d3] => { results := [.lit (.bool true)], args := [d1, d2, d3] }
  | _ => none }
def fnExactAreMistakesRow : OpenClaim := { program := "ytddenfnnnloagaadoor", sum := "758307de2b239d26d19f390619f0d1fea2601f46cd9b4b63fd0d2ff365b43b1d", func := "loop.example/g01332/laws.FnExactAreMistakes", spec := "fnExactAreMistakes", inPlace := ["internal/bytealg.IndexByteString", "internal/bytealg.IndexString"], unfollowed := true, recurses := true, named := ["internal/bytealg.MaxLen", "unicode/utf8.first", "unicode/utf8.acceptRanges"], apart := false, laid := [("unicode/utf8.acceptRanges", laid_unicode_utf8_acceptRanges), ("unicode/utf8.first", laid_unicode_utf8_first)] }
def FnExactAreMistakesSaid : Prop := fnExactAreMistakesRow.holds Tryd.pinned (OpenSpec.ofChange fnExactAreMistakesSpec)

/-- ITS FALSE NEIGHBOUR: 'it returns false'. Refute it at one input. -/
def fnExactAreMistakesWrong : ChangeSpec := { name := "fnExactAreMistakes", fn := fun _ => fun
  | [d1, d2, d3] => { results := [.lit (.bool false)], args := [d1, d2, d3] }
  | _ => none }
def FnExactAreMistakesWrongFalsely : Prop := fnExactAreMistakesRow.holds Tryd.pinned (OpenSpec.ofChange fnExactAreMistakesWrong)

/-- 'laws.FnExactMirrorCommands': WHATEVER THE INPUT: true; the input reads as it did. -/
def fnExactMirrorCommandsSpec : ChangeSpec := { name := "fnExactMirrorCommands", fn := fun _ => fun
  | [d] => { results := [.lit (.bool true)], args := [d] }
  | _ => none }
def fnExactMirrorCommandsRow : OpenClaim := { program := "ytddenfnnnloagaadoor", sum := "758307de2b239d26d19f390619f0d1fea2601f46cd9b4b63fd0d2ff365b43b1d", func := "loop.example/g01332/laws.FnExactMirrorCommands", spec := "fnExactMirrorCommands", inPlace := ["internal/bytealg.IndexByteString", "internal/bytealg.IndexString", "sync/atomic.LoadUint32", "(*internal/sync.Mutex).Lock", "internal/race.Disable", "sync/atomic.CompareAndSwapInt32", "internal/race.Enable", "internal/race.Acquire", "(*internal/sync.Mutex).lockSlow", "internal/sync.runtime_canSpin", "internal/sync.runtime_doSpin", "internal/sync.throw", "internal/sync.runtime_nanotime", "internal/sync.runtime_SemacquireMutex", "sync/atomic.AddInt32", "(*internal/sync.Mutex).Unlock", "internal/race.ReleaseMerge", "(*internal/sync.Mutex).unlockSlow", "internal/sync.fatal", "internal/sync.runtime_Semrelease", "sync/atomic.StoreUint32"], unfollowed := true, recurses := true, named := ["unicode/utf8.first", "unicode/utf8.acceptRanges", "internal/bytealg.MaxLen"], apart := false, laid := [("unicode/utf8.acceptRanges", laid_unicode_utf8_acceptRanges), ("unicode/utf8.first", laid_unicode_utf8_first)] }
def FnExactMirrorCommandsSaid : Prop := fnExactMirrorCommandsRow.holds Tryd.pinned (OpenSpec.ofChange fnExactMirrorCommandsSpec)

/-- ITS FALSE NEIGHBOUR: 'it returns false'. Refute it at one input. -/
def fnExactMirrorCommandsWrong : ChangeSpec := { name := "fnExactMirrorCommands", fn := fun _ => fun
  | [d] => { results := [.lit (.bool false)], args := [d] }
  | _ => none }
def FnExactMirrorCommandsWrongFalsely : Prop := fnExactMirrorCommandsRow.holds Tryd.pinned (OpenSpec.ofChange fnExactMirrorCommandsWrong)

/-- 'laws.FnExactBackCommands': WHATEVER THE INPUT: true; the input reads as it did. -/
def fnExactBackCommandsSpec : ChangeSpec := { name := "fnExactBackCommands", fn := fun _ => fun
  | [d] => { results := [.lit (.bool true)], args := [d] }
  | _ => none }
def fnExactBackCommandsRow : OpenClaim := { program := "ytddenfnnnloagaadoor", sum := "758307de2b239d26d19f390619f0d1fea2601f46cd9b4b63fd0d2ff365b43b1d", func := "loop.example/g01332/laws.FnExactBackCommands", spec := "fnExactBackCommands", inPlace := ["internal/bytealg.IndexByteString", "internal/bytealg.IndexString", "sync/atomic.LoadUint32", "(*internal/sync.Mutex).Lock", "internal/race.Disable", "sync/atomic.CompareAndSwapInt32", "internal/race.Enable", "internal/race.Acquire", "(*internal/sync.Mutex).lockSlow", "internal/sync.runtime_canSpin", "internal/sync.runtime_doSpin", "internal/sync.throw", "internal/sync.runtime_nanotime", "internal/sync.runtime_SemacquireMutex", "sync/atomic.AddInt32", "(*internal/sync.Mutex).Unlock", "internal/race.ReleaseMerge", "(*internal/sync.Mutex).unlockSlow", "internal/sync.fatal", "internal/sync.runtime_Semrelease", "sync/atomic.StoreUint32"], unfollowed := true, recurses := true, named := ["unicode/utf8.first", "unicode/utf8.acceptRanges", "internal/bytealg.MaxLen"], apart := false, laid := [("unicode/utf8.acceptRanges", laid_unicode_utf8_acceptRanges), ("unicode/utf8.first", laid_unicode_utf8_first)] }
def FnExactBackCommandsSaid : Prop := fnExactBackCommandsRow.holds Tryd.pinned (OpenSpec.ofChange fnExactBackCommandsSpec)

/-- ITS FALSE NEIGHBOUR: 'it returns false'. Refute it at one input. -/
def fnExactBackCommandsWrong : ChangeSpec := { name := "fnExactBackCommands", fn := fun _ => fun
  | [d] => { results := [.lit (.bool false)], args := [d] }
  | _ => none }
def FnExactBackCommandsWrongFalsely : Prop := fnExactBackCommandsRow.holds Tryd.pinned (OpenSpec.ofChange fnExactBackCommandsWrong)

/-- 'laws.FnExactFacingWithMistakes': WHATEVER THE INPUT: true; the input reads as it did. -/
def fnExactFacingWithMistakesSpec : ChangeSpec := { name := "fnExactFacingWithMistakes", fn := fun _ => fun
  | [d1, d2, d3] => { results := [.lit (.bool true)], args := [d1, d2, d3] }
  | _ => none }
def fnExactFacingWithMistakesRow : OpenClaim := { program := "ytddenfnnnloagaadoor", sum := "758307de2b239d26d19f390619f0d1fea2601f46cd9b4b63fd0d2ff365b43b1d", func := "loop.example/g01332/laws.FnExactFacingWithMistakes", spec := "fnExactFacingWithMistakes", inPlace := ["internal/bytealg.IndexByteString", "internal/bytealg.IndexString"], unfollowed := true, recurses := true, named := ["unicode/utf8.first", "unicode/utf8.acceptRanges", "internal/bytealg.MaxLen"], apart := false, laid := [("unicode/utf8.acceptRanges", laid_unicode_utf8_acceptRanges), ("unicode/utf8.first", laid_unicode_utf8_first)] }
def FnExactFacingWithMistakesSaid : Prop := fnExactFacingWithMistakesRow.holds Tryd.pinned (OpenSpec.ofChange fnExactFacingWithMistakesSpec)

/-- ITS FALSE NEIGHBOUR: 'it returns false'. Refute it at one input. -/
def fnExactFacingWithMistakesWrong : ChangeSpec := { name := "fnExactFacingWithMistakes", fn := fun _ => fun
  | [d1, d2, d3] => { results := [.lit (.bool false)], args := [d1, d2, d3] }
  | _ => none }
def FnExactFacingWithMistakesWrongFalsely : Prop := fnExactFacingWithMistakesRow.holds Tryd.pinned (OpenSpec.ofChange fnExactFacingWithMistakesWrong)

/-- 'laws.FnExactCorrectionsOf': WHATEVER THE INPUT: true; the input reads as it did. -/
def fnExactCorrectionsOfSpec : ChangeSpec := { name := "fnExactCorrectionsOf", fn := fun _ => fun
  | [d1, d2, d3] => { results := [.lit (.bool true)], args := [d1, d2, d3] }
  | _ => none }
def fnExactCorrectionsOfRow : OpenClaim := { program := "ytddenfnnnloagaadoor", sum := "758307de2b239d26d19f390619f0d1fea2601f46cd9b4b63fd0d2ff365b43b1d", func := "loop.example/g01332/laws.FnExactCorrectionsOf", spec := "fnExactCorrectionsOf", inPlace := ["internal/bytealg.IndexByteString", "internal/bytealg.IndexString"], unfollowed := true, recurses := true, named := ["unicode/utf8.first", "unicode/utf8.acceptRanges", "internal/bytealg.MaxLen"], apart := false, laid := [("unicode/utf8.acceptRanges", laid_unicode_utf8_acceptRanges), ("unicode/utf8.first", laid_unicode_utf8_first)] }
def FnExactCorrectionsOfSaid : Prop := fnExactCorrectionsOfRow.holds Tryd.pinned (OpenSpec.ofChange fnExactCorrectionsOfSpec)

/-- ITS FALSE NEIGHBOUR: 'it returns false'. Refute it at one input. -/
def fnExactCorrectionsOfWrong : ChangeSpec := { name := "fnExactCorrectionsOf", fn := fun _ => fun
  | [d1, d2, d3] => { results := [.lit (.bool false)], args := [d1, d2, d3] }
  | _ => none }
def FnExactCorrectionsOfWrongFalsely : Prop := fnExactCorrectionsOfRow.holds Tryd.pinned (OpenSpec.ofChange fnExactCorrectionsOfWrong)

/-- 'laws.FnExactWrongSoldiers': WHATEVER THE INPUT: true; the input reads as it did. -/
def fnExactWrongSoldiersSpec : ChangeSpec := { name := "fnExactWrongSoldiers", fn := fun _ => fun
  | [d1, d2, d3] => { results := [.lit (.bool true)], args := [d1, d2, d3] }
  | _ => none }
def fnExactWrongSoldiersRow : OpenClaim := { program := "ytddenfnnnloagaadoor", sum := "758307de2b239d26d19f390619f0d1fea2601f46cd9b4b63fd0d2ff365b43b1d", func := "loop.example/g01332/laws.FnExactWrongSoldiers", spec := "fnExactWrongSoldiers", inPlace := ["internal/bytealg.IndexByteString", "internal/bytealg.IndexString"], unfollowed := true, recurses := true, named := ["unicode/utf8.first", "unicode/utf8.acceptRanges", "internal/bytealg.MaxLen"], apart := false, laid := [("unicode/utf8.acceptRanges", laid_unicode_utf8_acceptRanges), ("unicode/utf8.first", laid_unicode_utf8_first)] }
def FnExactWrongSoldiersSaid : Prop := fnExactWrongSoldiersRow.holds Tryd.pinned (OpenSpec.ofChange fnExactWrongSoldiersSpec)

/-- ITS FALSE NEIGHBOUR: 'it returns false'. Refute it at one input. -/
def fnExactWrongSoldiersWrong : ChangeSpec := { name := "fnExactWrongSoldiers", fn := fun _ => fun
  | [d1, d2, d3] => { results := [.lit (.bool false)], args := [d1, d2, d3] }
  | _ => none }
def FnExactWrongSoldiersWrongFalsely : Prop := fnExactWrongSoldiersRow.holds Tryd.pinned (OpenSpec.ofChange fnExactWrongSoldiersWrong)

/- THE SECOND FORM. 'bulk': how many values and letters a reading holds, each counted each time it is reached (what is shared counts as often as it is met; a slice's spare places count too). A statement '..UptoSaid' is the law's where the arguments, and the package variables that the reading takes, are together of bulk at most 1048576: NARROWER than '..Said'. Prove '..Said' where nothing that the law and all that it calls make is longer than what came in: it says more and counts as full. Else prove '..UptoSaid'. A law counts once. -/
mutual
def uptoBulk {H : Type} : DataW H → Nat
  | .lit (.string bytes) => bytes.length + 1
  | .lit _ => 1
  | .nil => 1
  | .ptr d => uptoBulk d + 1
  | .slice elems spare => uptoBulkAll elems + uptoBulkAll spare + 1
  | .agg parts => uptoBulkAll parts + 1
  | .iface _ d => uptoBulk d + 1
  | .map entries => uptoBulkEntries entries + 1
  | .held _ => 1
def uptoBulkAll {H : Type} : List (DataW H) → Nat
  | [] => 0
  | d :: r => uptoBulk d + uptoBulkAll r
def uptoBulkEntries {H : Type} : List (Lit × DataW H) → Nat
  | [] => 0
  | x :: r => uptoBulkEntry x + uptoBulkEntries r
def uptoBulkEntry {H : Type} : Lit × DataW H → Nat
  | (.string bytes, d) => bytes.length + uptoBulk d + 1
  | (_, d) => uptoBulk d + 1
 end
def uptoSmall : (H : Type) → List (DataW H) → Bool := fun _ ds => decide (uptoBulkAll ds ≤ 1048576)
def OpenSpec.upto (s : _root_.Go.ChangeSpec) : _root_.Go.OpenSpec := { _root_.Go.OpenSpec.ofChange s with cond := some uptoSmall }

/-- 'laws.FnExactBestCommand', WHERE WHAT IT READS IS OF BULK AT MOST 1048576: true; the input reads as it did. -/
def fnExactBestCommandUptoRow : OpenClaim := { program := "ytddenfnnnloagaadoor", sum := "758307de2b239d26d19f390619f0d1fea2601f46cd9b4b63fd0d2ff365b43b1d", func := "loop.example/g01332/laws.FnExactBestCommand", spec := "fnExactBestCommand", inPlace := ["internal/bytealg.IndexByteString", "internal/bytealg.IndexString", "internal/bytealg.CountString"], named := ["unicode/utf8.first", "unicode/utf8.acceptRanges", "internal/bytealg.MaxLen"], apart := false, laid := [("unicode/utf8.acceptRanges", laid_unicode_utf8_acceptRanges), ("unicode/utf8.first", laid_unicode_utf8_first)], narrowed := true }
def FnExactBestCommandUptoSaid : Prop := fnExactBestCommandUptoRow.holds Tryd.pinned (OpenSpec.upto fnExactBestCommandSpec)

/-- 'laws.FnExactAreMistakes', WHERE WHAT IT READS IS OF BULK AT MOST 1048576: true; the input reads as it did. -/
def fnExactAreMistakesUptoRow : OpenClaim := { program := "ytddenfnnnloagaadoor", sum := "758307de2b239d26d19f390619f0d1fea2601f46cd9b4b63fd0d2ff365b43b1d", func := "loop.example/g01332/laws.FnExactAreMistakes", spec := "fnExactAreMistakes", inPlace := ["internal/bytealg.IndexByteString", "internal/bytealg.IndexString"], unfollowed := true, recurses := true, named := ["internal/bytealg.MaxLen", "unicode/utf8.first", "unicode/utf8.acceptRanges"], apart := false, laid := [("unicode/utf8.acceptRanges", laid_unicode_utf8_acceptRanges), ("unicode/utf8.first", laid_unicode_utf8_first)], narrowed := true }
def FnExactAreMistakesUptoSaid : Prop := fnExactAreMistakesUptoRow.holds Tryd.pinned (OpenSpec.upto fnExactAreMistakesSpec)

/-- 'laws.FnExactMirrorCommands', WHERE WHAT IT READS IS OF BULK AT MOST 1048576: true; the input reads as it did. -/
def fnExactMirrorCommandsUptoRow : OpenClaim := { program := "ytddenfnnnloagaadoor", sum := "758307de2b239d26d19f390619f0d1fea2601f46cd9b4b63fd0d2ff365b43b1d", func := "loop.example/g01332/laws.FnExactMirrorCommands", spec := "fnExactMirrorCommands", inPlace := ["internal/bytealg.IndexByteString", "internal/bytealg.IndexString", "sync/atomic.LoadUint32", "(*internal/sync.Mutex).Lock", "internal/race.Disable", "sync/atomic.CompareAndSwapInt32", "internal/race.Enable", "internal/race.Acquire", "(*internal/sync.Mutex).lockSlow", "internal/sync.runtime_canSpin", "internal/sync.runtime_doSpin", "internal/sync.throw", "internal/sync.runtime_nanotime", "internal/sync.runtime_SemacquireMutex", "sync/atomic.AddInt32", "(*internal/sync.Mutex).Unlock", "internal/race.ReleaseMerge", "(*internal/sync.Mutex).unlockSlow", "internal/sync.fatal", "internal/sync.runtime_Semrelease", "sync/atomic.StoreUint32"], unfollowed := true, recurses := true, named := ["unicode/utf8.first", "unicode/utf8.acceptRanges", "internal/bytealg.MaxLen"], apart := false, laid := [("unicode/utf8.acceptRanges", laid_unicode_utf8_acceptRanges), ("unicode/utf8.first", laid_unicode_utf8_first)], narrowed := true }
def FnExactMirrorCommandsUptoSaid : Prop := fnExactMirrorCommandsUptoRow.holds Tryd.pinned (OpenSpec.upto fnExactMirrorCommandsSpec)

/-- 'laws.FnExactBackCommands', WHERE WHAT IT READS IS OF BULK AT MOST 1048576: true; the input reads as it did. -/
def fnExactBackCommandsUptoRow : OpenClaim := { program := "ytddenfnnnloagaadoor", sum := "758307de2b239d26d19f390619f0d1fea2601f46cd9b4b63fd0d2ff365b43b1d", func := "loop.example/g01332/laws.FnExactBackCommands", spec := "fnExactBackCommands", inPlace := ["internal/bytealg.IndexByteString", "internal/bytealg.IndexString", "sync/atomic.LoadUint32", "(*internal/sync.Mutex).Lock", "internal/race.Disable", "sync/atomic.CompareAndSwapInt32", "internal/race.Enable", "internal/race.Acquire", "(*internal/sync.Mutex).lockSlow", "internal/sync.runtime_canSpin", "internal/sync.runtime_doSpin", "internal/sync.throw", "internal/sync.runtime_nanotime", "internal/sync.runtime_SemacquireMutex", "sync/atomic.AddInt32", "(*internal/sync.Mutex).Unlock", "internal/race.ReleaseMerge", "(*internal/sync.Mutex).unlockSlow", "internal/sync.fatal", "internal/sync.runtime_Semrelease", "sync/atomic.StoreUint32"], unfollowed := true, recurses := true, named := ["unicode/utf8.first", "unicode/utf8.acceptRanges", "internal/bytealg.MaxLen"], apart := false, laid := [("unicode/utf8.acceptRanges", laid_unicode_utf8_acceptRanges), ("unicode/utf8.first", laid_unicode_utf8_first)], narrowed := true }
def FnExactBackCommandsUptoSaid : Prop := fnExactBackCommandsUptoRow.holds Tryd.pinned (OpenSpec.upto fnExactBackCommandsSpec)

/-- 'laws.FnExactFacingWithMistakes', WHERE WHAT IT READS IS OF BULK AT MOST 1048576: true; the input reads as it did. -/
def fnExactFacingWithMistakesUptoRow : OpenClaim := { program := "ytddenfnnnloagaadoor", sum := "758307de2b239d26d19f390619f0d1fea2601f46cd9b4b63fd0d2ff365b43b1d", func := "loop.example/g01332/laws.FnExactFacingWithMistakes", spec := "fnExactFacingWithMistakes", inPlace := ["internal/bytealg.IndexByteString", "internal/bytealg.IndexString"], unfollowed := true, recurses := true, named := ["unicode/utf8.first", "unicode/utf8.acceptRanges", "internal/bytealg.MaxLen"], apart := false, laid := [("unicode/utf8.acceptRanges", laid_unicode_utf8_acceptRanges), ("unicode/utf8.first", laid_unicode_utf8_first)], narrowed := true }
def FnExactFacingWithMistakesUptoSaid : Prop := fnExactFacingWithMistakesUptoRow.holds Tryd.pinned (OpenSpec.upto fnExactFacingWithMistakesSpec)

/-- 'laws.FnExactCorrectionsOf', WHERE WHAT IT READS IS OF BULK AT MOST 1048576: true; the input reads as it did. -/
def fnExactCorrectionsOfUptoRow : OpenClaim := { program := "ytddenfnnnloagaadoor", sum := "758307de2b239d26d19f390619f0d1fea2601f46cd9b4b63fd0d2ff365b43b1d", func := "loop.example/g01332/laws.FnExactCorrectionsOf", spec := "fnExactCorrectionsOf", inPlace := ["internal/bytealg.IndexByteString", "internal/bytealg.IndexString"], unfollowed := true, recurses := true, named := ["unicode/utf8.first", "unicode/utf8.acceptRanges", "internal/bytealg.MaxLen"], apart := false, laid := [("unicode/utf8.acceptRanges", laid_unicode_utf8_acceptRanges), ("unicode/utf8.first", laid_unicode_utf8_first)], narrowed := true }
def FnExactCorrectionsOfUptoSaid : Prop := fnExactCorrectionsOfUptoRow.holds Tryd.pinned (OpenSpec.upto fnExactCorrectionsOfSpec)

/-- 'laws.FnExactWrongSoldiers', WHERE WHAT IT READS IS OF BULK AT MOST 1048576: true; the input reads as it did. -/
def fnExactWrongSoldiersUptoRow : OpenClaim := { program := "ytddenfnnnloagaadoor", sum := "758307de2b239d26d19f390619f0d1fea2601f46cd9b4b63fd0d2ff365b43b1d", func := "loop.example/g01332/laws.FnExactWrongSoldiers", spec := "fnExactWrongSoldiers", inPlace := ["internal/bytealg.IndexByteString", "internal/bytealg.IndexString"], unfollowed := true, recurses := true, named := ["unicode/utf8.first", "unicode/utf8.acceptRanges", "internal/bytealg.MaxLen"], apart := false, laid := [("unicode/utf8.acceptRanges", laid_unicode_utf8_acceptRanges), ("unicode/utf8.first", laid_unicode_utf8_first)], narrowed := true }
def FnExactWrongSoldiersUptoSaid : Prop := fnExactWrongSoldiersUptoRow.holds Tryd.pinned (OpenSpec.upto fnExactWrongSoldiersSpec)

end Rows
end Go.Proofs.YtddenfnnnloagaaDoor
