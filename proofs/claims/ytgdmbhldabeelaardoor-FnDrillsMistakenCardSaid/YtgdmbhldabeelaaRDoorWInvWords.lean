/- Words of the print: those that this claim uses. -/
import Derived.Test.YtgdmbhldabeelaaRDoorWInv
import Derived.Test.YtgdmbhldabeelaaRDoorWFootNe
namespace Go.Proofs.YtgdmbhldabeelaaRDoorW.PrintWords
open Go.RowKit
end Go.Proofs.YtgdmbhldabeelaaRDoorW.PrintWords
namespace Go.Proofs.YtgdmbhldabeelaaRDoorW.PrintLast
section
variable {ops : Array Oper} {a : Act} {o og : Oper} {g : Nat} {t : Tmp} {u : Bool}
end
end Go.Proofs.YtgdmbhldabeelaaRDoorW.PrintLast
