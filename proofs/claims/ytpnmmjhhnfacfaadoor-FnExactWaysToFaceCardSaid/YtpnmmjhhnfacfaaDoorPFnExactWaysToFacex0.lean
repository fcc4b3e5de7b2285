-- Written by a program of this session's (pg.py) over the kit's print.
import Derived.Test.YtpnmmjhhnfacfaaDoorProg
import Derived.Below
import Derived.Deep.Draws
import Derived.Deep.AppendLies
import Derived.Maps.AppendAt
import Derived.OwnWalk
import Derived.Laws.BytesArg
import Derived.Laws.MakeOwn
import Derived.Laws.OwnMore
import Derived.Deep.OwnRows
import Derived.Tactics
import Derived.Lib.ConvBytes
import Derived.Laws.Slices
import Derived.WalkKit
import Derived.KernelRfl
import Derived.RowKit3
import Derived.Deep.LoopGhost
import Derived.Deep.QuietTactic
import Derived.BigQuiet
import Derived.WideLaws
import Derived.Deep.DeepCutAuto
import Derived.Deep.CutBlock
import Derived.Deep.RegionHeld3
import Derived.Laws.Rows
import Derived.Lib.AppendStr
import Derived.ArgAppend
import Derived.Laws.IdiomCopy
import Derived.OrdersHeld
import Derived.Laws.BitsLemmas
import Derived.RowKit
import Derived.Lib.SliceRun
import Derived.StillTailTactics
import Derived.Laws.CopyOwn
import Derived.Test.YtpnmmjhhnfacfaaDoorLays
import Derived.Laws.Rows
import Derived.Laws.Tables
import Derived.Deep.OwnRows
import Derived.Deep.WholeRow
import Derived.Test.YtpnmmjhhnfacfaaDoorWWords
import Derived.Test.YtpnmmjhhnfacfaaDoorWLast
import Derived.Test.YtpnmmjhhnfacfaaDoorWTab
import Derived.Test.YtpnmmjhhnfacfaaDoorWFour
import Derived.Test.YtpnmmjhhnfacfaaDoorWQPut
import Derived.Test.YtpnmmjhhnfacfaaDoorWApart
import Derived.Test.YtpnmmjhhnfacfaaDoorWArr
import Derived.Test.YtpnmmjhhnfacfaaDoorWZeros
import Derived.Test.YtpnmmjhhnfacfaaDoorWFoot
import Derived.Test.YtpnmmjhhnfacfaaDoorWKept
import Derived.Test.YtpnmmjhhnfacfaaDoorWShare
import Derived.Test.YtpnmmjhhnfacfaaDoorWN
import Derived.Test.YtpnmmjhhnfacfaaDoorWFootNe
import Derived.Test.YtpnmmjhhnfacfaaDoorWAt
import Derived.Test.YtpnmmjhhnfacfaaDoorWEqStruct
import Derived.Test.YtpnmmjhhnfacfaaDoorWRepsOne
import Derived.Test.YtpnmmjhhnfacfaaDoorWInv
import Derived.Test.YtpnmmjhhnfacfaaDoorWInvWords
import Derived.Test.YtpnmmjhhnfacfaaDoorWGuard
import Derived.Test.YtpnmmjhhnfacfaaDoorWNEv
import Derived.Test.YtpnmmjhhnfacfaaDoorWMore
namespace Go.Proofs.YtpnmmjhhnfacfaaDoor.PFnExactWaysToFace
open Go.RowKit Go.Proofs.YtpnmmjhhnfacfaaDoorW.PrintWords Go.Proofs.YtpnmmjhhnfacfaaDoorW.PrintLast Go.Proofs.YtpnmmjhhnfacfaaDoorW.PrintMore
attribute [local go_sem] max2_int min2_int max_two min_two max_three min_three max_four min_four   -- for this text's walks alone
set_option linter.unusedVariables false
set_option linter.unusedSimpArgs false



def errW : Option Int → Value
  | none => .nilIface
  | some c => .iface 0 (.int .i64 c)
theorem errW_none : errW none = .nilIface := rfl
theorem errW_some (c : Int) : errW (some c) = .iface 0 (.int .i64 c) := rfl

theorem info3 : (Tryd.prog.info? 3).map (fun i => (i.zero, i.size, i.bytes)) = some (some (.int .i64 0), 1, 8) := by kernel_rfl
-- the values' own types

end Go.Proofs.YtpnmmjhhnfacfaaDoor.PFnExactWaysToFace
