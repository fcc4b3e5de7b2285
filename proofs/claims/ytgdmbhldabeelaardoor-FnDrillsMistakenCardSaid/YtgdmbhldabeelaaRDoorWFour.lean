/- Words of the print: those that this claim uses. -/
import Derived.Test.YtgdmbhldabeelaaRDoorWTab
namespace Go.Proofs.YtgdmbhldabeelaaRDoorW.PrintLast
section
variable {P : Program} {ops : Array Oper} {Q : Exit → Act → World → Prop} {md : Region.Mode} {S : World → Prop} {ds : List Nat} {T : Bool × List (List Nat × List Nat)}
end
end Go.Proofs.YtgdmbhldabeelaaRDoorW.PrintLast
