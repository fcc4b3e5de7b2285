-- Written by a program of this session's (pg.py) over the kit's print.
import Derived.Test.YtgdmbhldabeelaaRDoorPFnDrillsMistakenOfAllx0
import Derived.Test.YtgdmbhldabeelaaRDoorPFnDrillsMistakenOfAllx3
import Derived.Test.YtgdmbhldabeelaaRDoorPFnDrillsMistakenOfAllx6
import Derived.Test.YtgdmbhldabeelaaRDoorPFnDrillsMistakenOfAllx7
import Derived.Test.YtgdmbhldabeelaaRDoorPFnDrillsMistakenOfAllx8
import Derived.Test.YtgdmbhldabeelaaRDoorPFnDrillsMistakenOfAllx9
import Derived.Test.YtgdmbhldabeelaaRDoorPFnDrillsMistakenOfAllx10
import Derived.Deep.CutRange
import Derived.Test.YtgdmbhldabeelaaRDoorPFnDrillsMistakenOfAllx11
import Derived.Test.YtgdmbhldabeelaaRDoorPFnDrillsMistakenOfAllx12
import Derived.Test.YtgdmbhldabeelaaRDoorPFnDrillsMistakenOfAllx13
import Derived.Test.YtgdmbhldabeelaaRDoorPFnDrillsMistakenOfAllx14
namespace Go.Proofs.YtgdmbhldabeelaaRDoor.PFnDrillsMistakenOfAll
open Go.RowKit Go.Proofs.YtgdmbhldabeelaaRDoorW.PrintWords Go.Proofs.YtgdmbhldabeelaaRDoorW.PrintLast Go.Proofs.YtgdmbhldabeelaaRDoorW.PrintMore
attribute [local go_sem] max2_int min2_int max_two min_two max_three min_three max_four min_four   -- for this text's walks alone
set_option linter.unusedVariables false
set_option linter.unusedSimpArgs false


theorem laws_FnDrillsMistakenOfAll.calls (k : Nat) (a0 : ByteArray) (a1 : ByteArray) (A2 : Option Addr) (c2 : Nat) (l2 : List (S34)) (a3 : ByteArray) (a4 : Int) (a5 : Int) (a6 : Int) (a7 : ByteArray) (A8 : Option Addr) (c8 : Nat) (l8 : List (S34)) (r : Bool) (w : World) (hr2 : Kd.C k34 w A2 l2.length l2) (hc2 : l2.length ≤ c2) (hr8 : Kd.C k34 w A8 l8.length l8) (hc8 : l8.length ≤ c8) (h : laws_FnDrillsMistakenOfAll.f k a0 a1 l2 a3 a4 a5 a6 a7 l8 = some r) (he_ : r = true) :
  Calls Tryd.prog 3 #[.string a0, .string a1, .slice A2 l2.length c2, .string a3, .int .i64 a4, .int .i64 a5, .int .i64 a6, .string a7, .slice A8 l8.length c8] w fun e w' => e = .returned (.bool r) ∧ Below w.heap.size w w' :=
  (laws_FnDrillsMistakenOfAll.part0.2.2 ⟨laws_FnDrillsMistakenOfAll.part1⟩ ⟨(laws_FnDrillsMistakenOfAll.part2.2.2 ⟨laws_FnDrillsMistakenOfAll.part3⟩ ⟨(laws_FnDrillsMistakenOfAll.part4.2.2 ⟨(laws_FnDrillsMistakenOfAll.part5.2.2 ⟨laws_FnDrillsMistakenOfAll.part6⟩ ⟨laws_FnDrillsMistakenOfAll.part7⟩)⟩ ⟨(laws_FnDrillsMistakenOfAll.part8.2.2 ⟨laws_FnDrillsMistakenOfAll.part9⟩ ⟨(laws_FnDrillsMistakenOfAll.part10.2.2 ⟨laws_FnDrillsMistakenOfAll.part11⟩ ⟨(laws_FnDrillsMistakenOfAll.part12.2 ⟨(laws_FnDrillsMistakenOfAll.part13.2 ⟨(laws_FnDrillsMistakenOfAll.part14.2 ⟨(laws_FnDrillsMistakenOfAll.part15.2.2 ⟨laws_FnDrillsMistakenOfAll.part16⟩ ⟨laws_FnDrillsMistakenOfAll.part17⟩)⟩)⟩)⟩)⟩)⟩)⟩)⟩)⟩) k a0 a1 A2 c2 l2 a3 a4 a5 a6 a7 A8 c8 l8 r w hr2 hc2 hr8 hc8 h he_
end Go.Proofs.YtgdmbhldabeelaaRDoor.PFnDrillsMistakenOfAll
