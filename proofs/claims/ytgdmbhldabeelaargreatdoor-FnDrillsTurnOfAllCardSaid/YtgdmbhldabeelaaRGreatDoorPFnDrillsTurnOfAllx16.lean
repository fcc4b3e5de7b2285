-- Written by a program of this session's (pg.py) over the kit's print.
import Derived.Test.YtgdmbhldabeelaaRGreatDoorPFnDrillsTurnOfAllx0
import Derived.Test.YtgdmbhldabeelaaRGreatDoorPFnDrillsTurnOfAllx1
import Derived.Test.YtgdmbhldabeelaaRGreatDoorPFnDrillsTurnOfAllx2
import Derived.Test.YtgdmbhldabeelaaRGreatDoorPFnDrillsTurnOfAllx3
import Derived.Test.YtgdmbhldabeelaaRGreatDoorPFnDrillsTurnOfAllx4
import Derived.Test.YtgdmbhldabeelaaRGreatDoorPFnDrillsTurnOfAllx5
import Derived.Test.YtgdmbhldabeelaaRGreatDoorPFnDrillsTurnOfAllx6
import Derived.Test.YtgdmbhldabeelaaRGreatDoorPFnDrillsTurnOfAllx7
import Derived.Test.YtgdmbhldabeelaaRGreatDoorPFnDrillsTurnOfAllx8
import Derived.Deep.CutRange
import Derived.Test.YtgdmbhldabeelaaRGreatDoorPFnDrillsTurnOfAllx9
import Derived.Test.YtgdmbhldabeelaaRGreatDoorPFnDrillsTurnOfAllx10
import Derived.Test.YtgdmbhldabeelaaRGreatDoorPFnDrillsTurnOfAllx11
import Derived.Test.YtgdmbhldabeelaaRGreatDoorPFnDrillsTurnOfAllx12
import Derived.Test.YtgdmbhldabeelaaRGreatDoorPFnDrillsTurnOfAllx13
import Derived.Test.YtgdmbhldabeelaaRGreatDoorPFnDrillsTurnOfAllx14
import Derived.Test.YtgdmbhldabeelaaRGreatDoorPFnDrillsTurnOfAllx15
namespace Go.Proofs.YtgdmbhldabeelaaRGreatDoor.PFnDrillsTurnOfAll
open Go.RowKit Go.Proofs.YtgdmbhldabeelaaRGreatDoorW.PrintWords Go.Proofs.YtgdmbhldabeelaaRGreatDoorW.PrintLast Go.Proofs.YtgdmbhldabeelaaRGreatDoorW.PrintMore
attribute [local go_sem] max2_int min2_int max_two min_two max_three min_three max_four min_four   -- for this text's walks alone
set_option linter.unusedVariables false
set_option linter.unusedSimpArgs false


theorem laws_FnDrillsTurnOfAll.calls (k : Nat) (a0 : ByteArray) (a1 : ByteArray) (a2 : Int) (a3 : Int) (a4 : ByteArray) (a5 : ByteArray) (a6 : ByteArray) (a7 : Int) (a8 : ByteArray) (r : Bool) (w : World) (h : laws_FnDrillsTurnOfAll.f k a0 a1 a2 a3 a4 a5 a6 a7 a8 = some r) (he_ : r = true) :
  Calls Tryz.prog 3 #[.string a0, .string a1, .int .i64 a2, .int .i64 a3, .string a4, .string a5, .string a6, .int .i64 a7, .string a8] w fun e w' => e = .returned (.bool r) ∧ Below w.heap.size w w' :=
  (laws_FnDrillsTurnOfAll.part0.2.2 ⟨laws_FnDrillsTurnOfAll.part1⟩ ⟨(laws_FnDrillsTurnOfAll.part2.2.2 ⟨laws_FnDrillsTurnOfAll.part3⟩ ⟨(laws_FnDrillsTurnOfAll.part4.2.2 ⟨laws_FnDrillsTurnOfAll.part5⟩ ⟨(laws_FnDrillsTurnOfAll.part6.2.2 ⟨(laws_FnDrillsTurnOfAll.part7.2.2 ⟨laws_FnDrillsTurnOfAll.part8⟩ ⟨laws_FnDrillsTurnOfAll.part9⟩)⟩ ⟨(laws_FnDrillsTurnOfAll.part10.2.2 ⟨laws_FnDrillsTurnOfAll.part11⟩ ⟨(laws_FnDrillsTurnOfAll.part12.2.2 ⟨(laws_FnDrillsTurnOfAll.part13.2 ⟨laws_FnDrillsTurnOfAll.part14⟩)⟩ ⟨laws_FnDrillsTurnOfAll.part15⟩)⟩)⟩)⟩)⟩)⟩) k a0 a1 a2 a3 a4 a5 a6 a7 a8 r w h he_
/-- THE ONE PURE STATEMENT of laws_FnDrillsTurnOfAll: yours. -/
def laws_FnDrillsTurnOfAll.Pure : Prop := ∀ (a0 : ByteArray) (a1 : ByteArray) (a2 : Int) (a3 : Int) (a4 : ByteArray) (a5 : ByteArray) (a6 : ByteArray) (a7 : Int) (a8 : ByteArray), a0.size ≤ 140737488351232 → a1.size ≤ 140737488351232 → (Lit.int .i64 a2).wf = true → (Lit.int .i64 a3).wf = true → a4.size ≤ 140737488351232 → a5.size ≤ 140737488351232 → a6.size ≤ 140737488351232 → (Lit.int .i64 a7).wf = true → a8.size ≤ 140737488351232 → ∃ k, laws_FnDrillsTurnOfAll.f k a0 a1 a2 a3 a4 a5 a6 a7 a8 = some true
theorem laws_FnDrillsTurnOfAll.walk (P : laws_FnDrillsTurnOfAll.Pure) (a0 : ByteArray) (a1 : ByteArray) (a2 : Int) (a3 : Int) (a4 : ByteArray) (a5 : ByteArray) (a6 : ByteArray) (a7 : Int) (a8 : ByteArray) (w : World) (w0 : a0.size ≤ 140737488351232) (w1 : a1.size ≤ 140737488351232) (w2 : (Lit.int .i64 a2).wf = true) (w3 : (Lit.int .i64 a3).wf = true) (w4 : a4.size ≤ 140737488351232) (w5 : a5.size ≤ 140737488351232) (w6 : a6.size ≤ 140737488351232) (w7 : (Lit.int .i64 a7).wf = true) (w8 : a8.size ≤ 140737488351232) :
    Calls Tryz.prog 3 #[.string a0, .string a1, .int .i64 a2, .int .i64 a3, .string a4, .string a5, .string a6, .int .i64 a7, .string a8] w fun e w' => e = .returned (.bool true) ∧ Below w.heap.size w w' := by
  obtain ⟨k, h⟩ := P a0 a1 a2 a3 a4 a5 a6 a7 a8 w0 w1 w2 w3 w4 w5 w6 w7 w8
  refine (laws_FnDrillsTurnOfAll.calls k a0 a1 a2 a3 a4 a5 a6 a7 a8 true w h rfl).mono ?_
  rintro e w' ⟨rfl, hd⟩
  exact ⟨rfl, hd⟩

end Go.Proofs.YtgdmbhldabeelaaRGreatDoor.PFnDrillsTurnOfAll
