/- Words of the print: those that this claim uses. -/
import Derived.Test.YtgdmbhldabeelaaRGreatDoorWInv
import Derived.Test.YtgdmbhldabeelaaRGreatDoorWFootNe
namespace Go.Proofs.YtgdmbhldabeelaaRGreatDoorW.PrintWords
open Go.RowKit
end Go.Proofs.YtgdmbhldabeelaaRGreatDoorW.PrintWords
namespace Go.Proofs.YtgdmbhldabeelaaRGreatDoorW.PrintLast
section
variable {ops : Array Oper} {a : Act} {o og : Oper} {g : Nat} {t : Tmp} {u : Bool}
end
end Go.Proofs.YtgdmbhldabeelaaRGreatDoorW.PrintLast
