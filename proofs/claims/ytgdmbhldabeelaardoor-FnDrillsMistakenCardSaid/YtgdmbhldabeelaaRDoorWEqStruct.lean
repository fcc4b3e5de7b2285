/- Words of the print: those that this claim uses. -/
import Derived.Test.YtgdmbhldabeelaaRDoorWWords
import Derived.Laws.StructEq
namespace Go.Proofs.YtgdmbhldabeelaaRDoorW.PrintWords
open Go.RowKit
section
variable {P : Program} {d : Nat} {xs ys : Array Value} {f : Field} {fs : List Field} {a b : Value} {r s : Bool} {w : World}
end
end Go.Proofs.YtgdmbhldabeelaaRDoorW.PrintWords
