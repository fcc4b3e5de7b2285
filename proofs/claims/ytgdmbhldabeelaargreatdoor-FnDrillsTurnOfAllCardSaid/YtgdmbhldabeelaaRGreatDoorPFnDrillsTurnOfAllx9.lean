-- Written by a program of this session's (pg.py) over the kit's print.
import Derived.Test.YtgdmbhldabeelaaRGreatDoorPFnDrillsTurnOfAllx0
import Derived.Test.YtgdmbhldabeelaaRGreatDoorPFnDrillsTurnOfAllx1
import Derived.Test.YtgdmbhldabeelaaRGreatDoorPFnDrillsTurnOfAllx2
import Derived.Test.YtgdmbhldabeelaaRGreatDoorPFnDrillsTurnOfAllx3
import Derived.Test.YtgdmbhldabeelaaRGreatDoorPFnDrillsTurnOfAllx4
import Derived.Test.YtgdmbhldabeelaaRGreatDoorPFnDrillsTurnOfAllx5
import Derived.Test.YtgdmbhldabeelaaRGreatDoorPFnDrillsTurnOfAllx6
import Derived.Test.YtgdmbhldabeelaaRGreatDoorPFnDrillsTurnOfAllx7
import Derived.Test.YtgdmbhldabeelaaRGreatDoorPFnDrillsTurnOfAllx8
import Derived.Deep.CutRange
namespace Go.Proofs.YtgdmbhldabeelaaRGreatDoor.PFnDrillsTurnOfAll
open Go.RowKit Go.Proofs.YtgdmbhldabeelaaRGreatDoorW.PrintWords Go.Proofs.YtgdmbhldabeelaaRGreatDoorW.PrintLast Go.Proofs.YtgdmbhldabeelaaRGreatDoorW.PrintMore
attribute [local go_sem] max2_int min2_int max_two min_two max_three min_three max_four min_four   -- for this text's walks alone
set_option linter.unusedVariables false
set_option linter.unusedSimpArgs false


set_option maxHeartbeats 8000000 in
set_option maxRecDepth 100000 in
def laws_FnDrillsTurnOfAll.part0 : Σ' (R1 R2 : Prop), PLift R1 → PLift R2 → (∀ (k : Nat) (a0 : ByteArray) (a1 : ByteArray) (a2 : Int) (a3 : Int) (a4 : ByteArray) (a5 : ByteArray) (a6 : ByteArray) (a7 : Int) (a8 : ByteArray) (r : Bool) (w : World) (h : laws_FnDrillsTurnOfAll.f k a0 a1 a2 a3 a4 a5 a6 a7 a8 = some r) (he_ : r = true),
  Calls Tryz.prog 3 #[.string a0, .string a1, .int .i64 a2, .int .i64 a3, .string a4, .string a5, .string a6, .int .i64 a7, .string a8] w fun e w' => e = .returned (.bool r) ∧ Below w.heap.size w w') := by
 refine' ⟨_, _, fun hole1 hole2 => _⟩
 rotate_left 2
 ·
  intro k a0 a1 a2 a3 a4 a5 a6 a7 a8 r w h he_
  have HB := Aside0.mk (Below.refl w.heap.size w)
  have H : (if (a0.size : Int) > 1048576 then (laws_FnDrillsTurnOfAll.j0 k a0 a1 a2 a3 a4 a5 a6 a7 a8 true) else (if (a1.size : Int) > 1048576 then (laws_FnDrillsTurnOfAll.j0 k a0 a1 a2 a3 a4 a5 a6 a7 a8 true) else (if (a4.size : Int) > 1048576 then (laws_FnDrillsTurnOfAll.j0 k a0 a1 a2 a3 a4 a5 a6 a7 a8 true) else (if (a5.size : Int) > 1048576 then (laws_FnDrillsTurnOfAll.j0 k a0 a1 a2 a3 a4 a5 a6 a7 a8 true) else (if (a6.size : Int) > 1048576 then (laws_FnDrillsTurnOfAll.j0 k a0 a1 a2 a3 a4 a5 a6 a7 a8 true) else (laws_FnDrillsTurnOfAll.j0 k a0 a1 a2 a3 a4 a5 a6 a7 a8 (decide ((a8.size : Int) > 1048576)))))))) = some r := h
  clear h
  have HE_ := Aside0.mk he_
  clear he_
  have HC10 := Aside0.mk H
  clear H
  go_enter Tryz.func3, Tryz.ntmps3
  go_upto_region 1 with (fail)
  go_cut [118] from 118 to 118 (fun v118 wc => ∃ (kq : Nat) (x118_9 : Bool), v118 = .bool x118_9 ∧ Aside0 (laws_FnDrillsTurnOfAll.j0 kq a0 a1 a2 a3 a4 a5 a6 a7 a8 x118_9 = some r) ∧ Aside0 (kq ≤ k) ∧ Aside0 (Below w.heap.size w wc))
  case first =>
   -- part 1
   (repeat revert ‹World›)
   (repeat revert ‹Value›)
   (repeat revert ‹Nat → Act → World → Prop›)
   (repeat revert ‹Act → World → Prop›)
   (repeat revert ‹Int›)
   (repeat revert ‹Nat›)
   (repeat revert ‹Bool›)
   (repeat revert ‹List (List Int)›)
   (repeat revert ‹List Int›)
   (repeat revert ‹Addr›)
   (repeat revert ‹Option Addr›)
   (repeat revert ‹ByteArray›)
   (repeat revert ‹List ByteArray›)
   exact hole1.down
  case rest =>
   -- part 2
   (repeat revert ‹World›)
   (repeat revert ‹Value›)
   (repeat revert ‹Nat → Act → World → Prop›)
   (repeat revert ‹Act → World → Prop›)
   (repeat revert ‹Int›)
   (repeat revert ‹Nat›)
   (repeat revert ‹Bool›)
   (repeat revert ‹List (List Int)›)
   (repeat revert ‹List Int›)
   (repeat revert ‹Addr›)
   (repeat revert ‹Option Addr›)
   (repeat revert ‹ByteArray›)
   (repeat revert ‹List ByteArray›)
   exact hole2.down

set_option maxHeartbeats 8000000 in
set_option maxRecDepth 100000 in
theorem laws_FnDrillsTurnOfAll.part1 : laws_FnDrillsTurnOfAll.part0.1 := by
 conv => whnf
 intro a0 a1 a4 a5 a6 a8 r HE_ k a2 a3 a7 HC10 K K J K' a w HB Q' a a a
 have H := HC10.out
 clear HC10
 by_cases c11 : (a0.size : Int) > 1048576
 ·
  rw [if_pos c11] at H
  have c11b0 : decide (1048576 < (a0.size : Int)) = true := decide_eq_true c11
  have c11b1 : decide (1048576 < a0.size) = true := decide_eq_true (by omega)
  clear c11
  (first | rw [c11b0] | (simp only [i64_w, i32_w]; rw [c11b0]) | skip)
  have H' := Aside0.mk H
  clear H
  go_wp2
  go_meet
  case rel => exact ⟨_, (true), (by first | rfl | (simp; done) | (simp [*]; done)), H', ⟨by first | omega | exact Nat.le_refl _⟩, ⟨by repeat (first | (with_reducible first | exact HB.out | apply below_alloc | apply pw_below_drewN | apply below_drew1) | exact HB.out)⟩⟩
 ·
  rw [if_neg c11] at H
  have c11b0 : decide (1048576 < (a0.size : Int)) = false := decide_eq_false c11
  have c11b1 : decide (1048576 < a0.size) = false := decide_eq_false (by omega)
  clear c11
  (first | rw [c11b0] | (simp only [i64_w, i32_w]; rw [c11b0]) | skip)
  by_cases c12 : (a1.size : Int) > 1048576
  ·
   rw [if_pos c12] at H
   have c12b0 : decide (1048576 < (a1.size : Int)) = true := decide_eq_true c12
   have c12b1 : decide (1048576 < a1.size) = true := decide_eq_true (by omega)
   clear c12
   have H' := Aside0.mk H
   clear H
   go_wp2
   go_meet
   case rel => exact ⟨_, (true), (by first | rfl | (simp; done) | (simp [*]; done)), H', ⟨by first | omega | exact Nat.le_refl _⟩, ⟨by repeat (first | (with_reducible first | exact HB.out | apply below_alloc | apply pw_below_drewN | apply below_drew1) | exact HB.out)⟩⟩
  ·
   rw [if_neg c12] at H
   have c12b0 : decide (1048576 < (a1.size : Int)) = false := decide_eq_false c12
   have c12b1 : decide (1048576 < a1.size) = false := decide_eq_false (by omega)
   clear c12
   by_cases c13 : (a4.size : Int) > 1048576
   ·
    rw [if_pos c13] at H
    have c13b0 : decide (1048576 < (a4.size : Int)) = true := decide_eq_true c13
    have c13b1 : decide (1048576 < a4.size) = true := decide_eq_true (by omega)
    clear c13
    have H' := Aside0.mk H
    clear H
    go_wp2
    go_meet
    case rel => exact ⟨_, (true), (by first | rfl | (simp; done) | (simp [*]; done)), H', ⟨by first | omega | exact Nat.le_refl _⟩, ⟨by repeat (first | (with_reducible first | exact HB.out | apply below_alloc | apply pw_below_drewN | apply below_drew1) | exact HB.out)⟩⟩
   ·
    rw [if_neg c13] at H
    have c13b0 : decide (1048576 < (a4.size : Int)) = false := decide_eq_false c13
    have c13b1 : decide (1048576 < a4.size) = false := decide_eq_false (by omega)
    clear c13
    by_cases c14 : (a5.size : Int) > 1048576
    ·
     rw [if_pos c14] at H
     have c14b0 : decide (1048576 < (a5.size : Int)) = true := decide_eq_true c14
     have c14b1 : decide (1048576 < a5.size) = true := decide_eq_true (by omega)
     clear c14
     have H' := Aside0.mk H
     clear H
     go_wp2
     go_meet
     case rel => exact ⟨_, (true), (by first | rfl | (simp; done) | (simp [*]; done)), H', ⟨by first | omega | exact Nat.le_refl _⟩, ⟨by repeat (first | (with_reducible first | exact HB.out | apply below_alloc | apply pw_below_drewN | apply below_drew1) | exact HB.out)⟩⟩
    ·
     rw [if_neg c14] at H
     have c14b0 : decide (1048576 < (a5.size : Int)) = false := decide_eq_false c14
     have c14b1 : decide (1048576 < a5.size) = false := decide_eq_false (by omega)
     clear c14
     by_cases c15 : (a6.size : Int) > 1048576
     ·
      rw [if_pos c15] at H
      have c15b0 : decide (1048576 < (a6.size : Int)) = true := decide_eq_true c15
      have c15b1 : decide (1048576 < a6.size) = true := decide_eq_true (by omega)
      clear c15
      have H' := Aside0.mk H
      clear H
      go_wp2
      go_meet
      case rel => exact ⟨_, (true), (by first | rfl | (simp; done) | (simp [*]; done)), H', ⟨by first | omega | exact Nat.le_refl _⟩, ⟨by repeat (first | (with_reducible first | exact HB.out | apply below_alloc | apply pw_below_drewN | apply below_drew1) | exact HB.out)⟩⟩
     ·
      rw [if_neg c15] at H
      have c15b0 : decide (1048576 < (a6.size : Int)) = false := decide_eq_false c15
      have c15b1 : decide (1048576 < a6.size) = false := decide_eq_false (by omega)
      clear c15
      have H' := Aside0.mk H
      clear H
      go_wp2
      go_meet
      case rel => exact ⟨_, (decide ((a8.size : Int) > 1048576)), (by first | rfl | (simp; done) | (simp [*]; done)), H', ⟨by first | omega | exact Nat.le_refl _⟩, ⟨by repeat (first | (with_reducible first | exact HB.out | apply below_alloc | apply pw_below_drewN | apply below_drew1) | exact HB.out)⟩⟩
end Go.Proofs.YtgdmbhldabeelaaRGreatDoor.PFnDrillsTurnOfAll
