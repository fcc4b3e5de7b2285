-- Written by a program of this session's (pg.py) over the kit's print.
import Derived.Test.YtgdmbhldabeelaaRGreatDoorProg
import Derived.Below
import Derived.Deep.Draws
import Derived.Deep.AppendLies
import Derived.Maps.AppendAt
import Derived.OwnWalk
import Derived.Laws.BytesArg
import Derived.Laws.MakeOwn
import Derived.Laws.OwnMore
import Derived.Deep.OwnRows
import Derived.Tactics
import Derived.Lib.ConvBytes
import Derived.Laws.Slices
import Derived.WalkKit
import Derived.KernelRfl
import Derived.RowKit3
import Derived.Deep.LoopGhost
import Derived.Deep.QuietTactic
import Derived.BigQuiet
import Derived.WideLaws
import Derived.Deep.DeepCutAuto
import Derived.Deep.CutBlock
import Derived.Deep.RegionHeld3
import Derived.Laws.Rows
import Derived.Lib.AppendStr
import Derived.ArgAppend
import Derived.Laws.IdiomCopy
import Derived.OrdersHeld
import Derived.Laws.BitsLemmas
import Derived.RowKit
import Derived.Lib.SliceRun
import Derived.StillTailTactics
import Derived.Laws.CopyOwn
import Derived.Test.YtgdmbhldabeelaaRGreatDoorLays
import Derived.Shelf.Slices.Reverse
import Derived.Tactics
import Derived.Tactics2
import Derived.Defers
import Derived.Laws.Pointers
import Derived.Laws.LoneSync
import Derived.RegionTactic
import Derived.RegionCalls
import Derived.ChangeAlike
import Derived.Laws.NewBlocks
import Derived.Laws.Rows
import Derived.Laws.Tables
import Derived.Deep.OwnRows
import Derived.Deep.WholeRow
import Derived.Lib.Hide
import Derived.Handy
import Derived.Lib.LazyBuf
import Derived.Lib.OthersKept
import Derived.Test.YtgdmbhldabeelaaRGreatDoorWWords
import Derived.Test.YtgdmbhldabeelaaRGreatDoorWLast
import Derived.Test.YtgdmbhldabeelaaRGreatDoorWTab
import Derived.Test.YtgdmbhldabeelaaRGreatDoorWFour
import Derived.Test.YtgdmbhldabeelaaRGreatDoorWQPut
import Derived.Test.YtgdmbhldabeelaaRGreatDoorWApart
import Derived.Test.YtgdmbhldabeelaaRGreatDoorWArr
import Derived.Test.YtgdmbhldabeelaaRGreatDoorWZeros
import Derived.Test.YtgdmbhldabeelaaRGreatDoorWFoot
import Derived.Test.YtgdmbhldabeelaaRGreatDoorWKept
import Derived.Test.YtgdmbhldabeelaaRGreatDoorWShare
import Derived.Test.YtgdmbhldabeelaaRGreatDoorWN
import Derived.Test.YtgdmbhldabeelaaRGreatDoorWFootNe
import Derived.Test.YtgdmbhldabeelaaRGreatDoorWAt
import Derived.Test.YtgdmbhldabeelaaRGreatDoorWEqStruct
import Derived.Test.YtgdmbhldabeelaaRGreatDoorWRepsOne
import Derived.Test.YtgdmbhldabeelaaRGreatDoorWInv
import Derived.Test.YtgdmbhldabeelaaRGreatDoorWInvWords
import Derived.Test.YtgdmbhldabeelaaRGreatDoorWGuard
import Derived.Test.YtgdmbhldabeelaaRGreatDoorWNEv
import Derived.Test.YtgdmbhldabeelaaRGreatDoorWMore
namespace Go.Proofs.YtgdmbhldabeelaaRGreatDoor.PFnDrillsTurn
open Go.RowKit Go.Proofs.YtgdmbhldabeelaaRGreatDoorW.PrintWords Go.Proofs.YtgdmbhldabeelaaRGreatDoorW.PrintLast Go.Proofs.YtgdmbhldabeelaaRGreatDoorW.PrintMore
attribute [local go_sem] max2_int min2_int max_two min_two max_three min_three max_four min_four   -- for this text's walks alone
set_option linter.unusedVariables false
set_option linter.unusedSimpArgs false



def errW : Option Int → Value
  | none => .nilIface
  | some c => .iface 0 (.int .i64 c)
theorem errW_none : errW none = .nilIface := rfl
theorem errW_some (c : Int) : errW (some c) = .iface 0 (.int .i64 c) := rfl

theorem info5 : (Tryz.prog.info? 5).map (fun i => (i.zero, i.size, i.bytes)) = some (some (.int .u8 0), 1, 1) := by kernel_rfl
theorem info9 : (Tryz.prog.info? 9).map (fun i => (i.zero, i.size, i.bytes)) = some (some (.string ⟨#[]⟩), 1, 16) := by kernel_rfl
-- the values' own types

end Go.Proofs.YtgdmbhldabeelaaRGreatDoor.PFnDrillsTurn
