-- Written by a program of this session's (pg.py) over the kit's print.
import Derived.Test.YtgdmbhldabeelaaRDoorPFnDrillsMistakenx0
import Derived.Test.YtgdmbhldabeelaaRDoorPFnDrillsMistakenx3
import Derived.Test.YtgdmbhldabeelaaRDoorPFnDrillsMistakenx6
import Derived.Test.YtgdmbhldabeelaaRDoorPFnDrillsMistakenx7
import Derived.Test.YtgdmbhldabeelaaRDoorPFnDrillsMistakenx8
import Derived.Test.YtgdmbhldabeelaaRDoorPFnDrillsMistakenx9
import Derived.Test.YtgdmbhldabeelaaRDoorPFnDrillsMistakenx10
import Derived.Test.YtgdmbhldabeelaaRDoorPFnDrillsMistakenx13
import Derived.Test.YtgdmbhldabeelaaRDoorPFnDrillsMistakenx14
import Derived.Deep.CutRange
import Derived.Test.YtgdmbhldabeelaaRDoorPFnDrillsMistakenx15
import Derived.Test.YtgdmbhldabeelaaRDoorPFnDrillsMistakenx16
import Derived.Test.YtgdmbhldabeelaaRDoorPFnDrillsMistakenx17
import Derived.Test.YtgdmbhldabeelaaRDoorPFnDrillsMistakenx18
namespace Go.Proofs.YtgdmbhldabeelaaRDoor.PFnDrillsMistaken
open Go.RowKit Go.Proofs.YtgdmbhldabeelaaRDoorW.PrintWords Go.Proofs.YtgdmbhldabeelaaRDoorW.PrintLast Go.Proofs.YtgdmbhldabeelaaRDoorW.PrintMore
attribute [local go_sem] max2_int min2_int max_two min_two max_three min_three max_four min_four   -- for this text's walks alone
set_option linter.unusedVariables false
set_option linter.unusedSimpArgs false


theorem laws_FnDrillsMistaken.calls (k : Nat) (A0 : Option Addr) (c0 : Nat) (l0 : List Int) (A1 : Option Addr) (c1 : Nat) (l1 : List Int) (r : Bool) (w : World) (hr0 : Kd.C (Kd.int .u8) w A0 l0.length l0) (hc0 : l0.length ≤ c0) (hr1 : Kd.C (Kd.int .u8) w A1 l1.length l1) (hc1 : l1.length ≤ c1) (h : laws_FnDrillsMistaken.f k l0 l1 = some r) (he_ : r = true) :
  Calls Tryd.prog 4 #[.slice A0 l0.length c0, .slice A1 l1.length c1] w fun e w' => e = .returned (.bool r) ∧ Below w.heap.size w w' :=
  (laws_FnDrillsMistaken.part0.2.2 ⟨laws_FnDrillsMistaken.part1⟩ ⟨(laws_FnDrillsMistaken.part2.2.2 ⟨(laws_FnDrillsMistaken.part3.2.2 ⟨laws_FnDrillsMistaken.part4⟩ ⟨laws_FnDrillsMistaken.part5⟩)⟩ ⟨(laws_FnDrillsMistaken.part6.2.2 ⟨laws_FnDrillsMistaken.part7⟩ ⟨(laws_FnDrillsMistaken.part8.2.2 ⟨laws_FnDrillsMistaken.part9⟩ ⟨(laws_FnDrillsMistaken.part10.2 ⟨(laws_FnDrillsMistaken.part11.2 ⟨(laws_FnDrillsMistaken.part12.2 ⟨(laws_FnDrillsMistaken.part13.2.2 ⟨laws_FnDrillsMistaken.part14⟩ ⟨laws_FnDrillsMistaken.part15⟩)⟩)⟩)⟩)⟩)⟩)⟩)⟩) k A0 c0 l0 A1 c1 l1 r w hr0 hc0 hr1 hc1 h he_
/-- THE ONE PURE STATEMENT of laws_FnDrillsMistaken: yours. -/
def laws_FnDrillsMistaken.Pure : Prop := ∀ (l0 : List Int) (l1 : List Int), l0.length ≤ maxLen → l0.length * 1 ≤ 140737488351232 → (∀ x ∈ l0, (Lit.int .u8 x).wf = true) → l1.length ≤ maxLen → l1.length * 1 ≤ 140737488351232 → (∀ x ∈ l1, (Lit.int .u8 x).wf = true) → ∃ k, laws_FnDrillsMistaken.f k l0 l1 = some true
theorem laws_FnDrillsMistaken.walk (P : laws_FnDrillsMistaken.Pure) (a0 : Option Addr) (len0 cap0 : Nat) (z0 : List Int) (a1 : Option Addr) (len1 cap1 : Nat) (z1 : List Int) (w : World) (w0 : (a0 = none ∧ len0 = 0 ∧ cap0 = 0 ∧ z0 = []) ∨ ∃ x, a0 = some x ∧ len0 ≤ cap0 ∧ cap0 ≤ maxLen ∧ z0.length = cap0 ∧ (∀ i, i < z0.length → w.cell? (x.add i) = some (.int .u8 (z0.getD i 0))) ∧ ∀ n ∈ z0, (Lit.int .u8 n).wf = true) (y0 : len0 * 1 ≤ 140737488351232) (w1 : (a1 = none ∧ len1 = 0 ∧ cap1 = 0 ∧ z1 = []) ∨ ∃ x, a1 = some x ∧ len1 ≤ cap1 ∧ cap1 ≤ maxLen ∧ z1.length = cap1 ∧ (∀ i, i < z1.length → w.cell? (x.add i) = some (.int .u8 (z1.getD i 0))) ∧ ∀ n ∈ z1, (Lit.int .u8 n).wf = true) (y1 : len1 * 1 ≤ 140737488351232) :
    Calls Tryd.prog 4 #[.slice a0 len0 cap0, .slice a1 len1 cap1] w fun e w' => e = .returned (.bool true) ∧ Below w.heap.size w w' := by
  obtain ⟨l0, rfl, hr0, hm0, hw0, hc0⟩ := ReadsInt.ofRowC w0
  obtain ⟨l1, rfl, hr1, hm1, hw1, hc1⟩ := ReadsInt.ofRowC w1
  obtain ⟨k, h⟩ := P l0 l1 hm0 y0 hw0 hm1 y1 hw1
  refine (laws_FnDrillsMistaken.calls k _ _ l0 _ _ l1 true w (Kd.C_of_reads (d := (0 : Int)) (h1 := fun _ => rfl) hr0) hc0 (Kd.C_of_reads (d := (0 : Int)) (h1 := fun _ => rfl) hr1) hc1 h rfl).mono ?_
  rintro e w' ⟨rfl, hd⟩
  exact ⟨rfl, hd⟩

end Go.Proofs.YtgdmbhldabeelaaRDoor.PFnDrillsMistaken
