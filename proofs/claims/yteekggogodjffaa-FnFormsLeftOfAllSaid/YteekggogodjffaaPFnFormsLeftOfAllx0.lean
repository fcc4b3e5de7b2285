-- Written by a program of this session's (pg.py) over the kit's print.
import Derived.Test.YteekggogodjffaaProg
import Derived.Below
import Derived.Deep.Draws
import Derived.Deep.AppendLies
import Derived.Maps.AppendAt
import Derived.OwnWalk
import Derived.Laws.BytesArg
import Derived.Laws.MakeOwn
import Derived.Laws.OwnMore
import Derived.Deep.OwnRows
import Derived.Tactics
import Derived.Lib.ConvBytes
import Derived.Laws.Slices
import Derived.WalkKit
import Derived.KernelRfl
import Derived.RowKit3
import Derived.Deep.LoopGhost
import Derived.Deep.QuietTactic
import Derived.BigQuiet
import Derived.WideLaws
import Derived.Deep.DeepCutAuto
import Derived.Deep.CutBlock
import Derived.Deep.RegionHeld3
import Derived.Laws.Rows
import Derived.Lib.AppendStr
import Derived.ArgAppend
import Derived.Laws.IdiomCopy
import Derived.OrdersHeld
import Derived.Laws.BitsLemmas
import Derived.RowKit
import Derived.Lib.SliceRun
import Derived.StillTailTactics
import Derived.Laws.CopyOwn
import Derived.Test.YteekggogodjffaaLays
import Derived.Test.YteekggogodjffaaWWords
import Derived.Test.YteekggogodjffaaWLast
import Derived.Test.YteekggogodjffaaWTab
import Derived.Test.YteekggogodjffaaWFour
import Derived.Test.YteekggogodjffaaWQPut
import Derived.Test.YteekggogodjffaaWApart
import Derived.Test.YteekggogodjffaaWArr
import Derived.Test.YteekggogodjffaaWZeros
import Derived.Test.YteekggogodjffaaWFoot
import Derived.Test.YteekggogodjffaaWKept
import Derived.Test.YteekggogodjffaaWShare
import Derived.Test.YteekggogodjffaaWN
import Derived.Test.YteekggogodjffaaWFootNe
import Derived.Test.YteekggogodjffaaWAt
import Derived.Test.YteekggogodjffaaWEqStruct
import Derived.Test.YteekggogodjffaaWRepsOne
import Derived.Test.YteekggogodjffaaWInv
import Derived.Test.YteekggogodjffaaWInvWords
import Derived.Test.YteekggogodjffaaWGuard
import Derived.Test.YteekggogodjffaaWNEv
import Derived.Test.YteekggogodjffaaWMore
namespace Go.Proofs.Yteekggogodjffaa.PFnFormsLeftOfAll
open Go.RowKit Go.Proofs.YteekggogodjffaaW.PrintWords Go.Proofs.YteekggogodjffaaW.PrintLast Go.Proofs.YteekggogodjffaaW.PrintMore
attribute [local go_sem] max2_int min2_int max_two min_two max_three min_three max_four min_four   -- for this text's walks alone
set_option linter.unusedVariables false
set_option linter.unusedSimpArgs false



def errW : Option Int → Value
  | none => .nilIface
  | some c => .iface 0 (.int .i64 c)
theorem errW_none : errW none = .nilIface := rfl
theorem errW_some (c : Int) : errW (some c) = .iface 0 (.int .i64 c) := rfl

theorem info3 : (Try.prog.info? 3).map (fun i => (i.zero, i.size, i.bytes)) = some (some (.int .i64 0), 1, 8) := by kernel_rfl
theorem info4 : (Try.prog.info? 4).map (fun i => (i.zero, i.size, i.bytes)) = some (some (.bool false), 1, 1) := by kernel_rfl
-- the values' own types

end Go.Proofs.Yteekggogodjffaa.PFnFormsLeftOfAll
