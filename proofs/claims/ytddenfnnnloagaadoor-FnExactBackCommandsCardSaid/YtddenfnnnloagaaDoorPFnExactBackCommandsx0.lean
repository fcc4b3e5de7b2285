-- Written by a program of this session's (pg.py) over the kit's print.
import Derived.Test.YtddenfnnnloagaaDoorProg
import Derived.Below
import Derived.Deep.Draws
import Derived.Deep.AppendLies
import Derived.Maps.AppendAt
import Derived.OwnWalk
import Derived.Laws.BytesArg
import Derived.Laws.MakeOwn
import Derived.Laws.OwnMore
import Derived.Deep.OwnRows
import Derived.Tactics
import Derived.Lib.ConvBytes
import Derived.Laws.Slices
import Derived.WalkKit
import Derived.KernelRfl
import Derived.RowKit3
import Derived.Deep.LoopGhost
import Derived.Deep.QuietTactic
import Derived.BigQuiet
import Derived.WideLaws
import Derived.Deep.DeepCutAuto
import Derived.Deep.CutBlock
import Derived.Deep.RegionHeld3
import Derived.Laws.Rows
import Derived.Lib.AppendStr
import Derived.ArgAppend
import Derived.Laws.IdiomCopy
import Derived.OrdersHeld
import Derived.Laws.BitsLemmas
import Derived.RowKit
import Derived.Lib.SliceRun
import Derived.StillTailTactics
import Derived.Laws.CopyOwn
import Derived.Test.YtddenfnnnloagaaDoorLays
import Derived.Shelf.Slices.Reverse
import Derived.Tactics
import Derived.Tactics2
import Derived.Defers
import Derived.Laws.Pointers
import Derived.Laws.LoneSync
import Derived.RegionTactic
import Derived.RegionCalls
import Derived.ChangeAlike
import Derived.Laws.NewBlocks
import Derived.Laws.Rows
import Derived.Laws.Tables
import Derived.Deep.OwnRows
import Derived.Deep.WholeRow
import Derived.Lib.Hide
import Derived.Handy
import Derived.Lib.LazyBuf
import Derived.Test.YtddenfnnnloagaaDoorWWords
import Derived.Test.YtddenfnnnloagaaDoorWLast
import Derived.Test.YtddenfnnnloagaaDoorWTab
import Derived.Test.YtddenfnnnloagaaDoorWFour
import Derived.Test.YtddenfnnnloagaaDoorWQPut
import Derived.Test.YtddenfnnnloagaaDoorWApart
import Derived.Test.YtddenfnnnloagaaDoorWArr
import Derived.Test.YtddenfnnnloagaaDoorWZeros
import Derived.Test.YtddenfnnnloagaaDoorWFoot
import Derived.Test.YtddenfnnnloagaaDoorWKept
import Derived.Test.YtddenfnnnloagaaDoorWShare
import Derived.Test.YtddenfnnnloagaaDoorWN
import Derived.Test.YtddenfnnnloagaaDoorWFootNe
import Derived.Test.YtddenfnnnloagaaDoorWAt
import Derived.Test.YtddenfnnnloagaaDoorWEqStruct
import Derived.Test.YtddenfnnnloagaaDoorWRepsOne
import Derived.Test.YtddenfnnnloagaaDoorWInv
import Derived.Test.YtddenfnnnloagaaDoorWInvWords
import Derived.Test.YtddenfnnnloagaaDoorWGuard
import Derived.Test.YtddenfnnnloagaaDoorWNEv
import Derived.Test.YtddenfnnnloagaaDoorWMore
namespace Go.Proofs.YtddenfnnnloagaaDoor.PFnExactBackCommands
open Go.RowKit Go.Proofs.YtddenfnnnloagaaDoorW.PrintWords Go.Proofs.YtddenfnnnloagaaDoorW.PrintLast Go.Proofs.YtddenfnnnloagaaDoorW.PrintMore
attribute [local go_sem] max2_int min2_int max_two min_two max_three min_three max_four min_four   -- for this text's walks alone
set_option linter.unusedVariables false
set_option linter.unusedSimpArgs false



def errW : Option Int → Value
  | none => .nilIface
  | some c => .iface 0 (.int .i64 c)
theorem errW_none : errW none = .nilIface := rfl
theorem errW_some (c : Int) : errW (some c) = .iface 0 (.int .i64 c) := rfl

-- the values' own types

end Go.Proofs.YtddenfnnnloagaaDoor.PFnExactBackCommands
