-- Written by a program of this session's (pg.py) over the kit's print.
import Derived.Test.YtgdmbhldabeelaaRDoorPFnDrillsMistakenOfAllx0
import Derived.Test.YtgdmbhldabeelaaRDoorPFnDrillsMistakenOfAllx3
import Derived.Test.YtgdmbhldabeelaaRDoorPFnDrillsMistakenOfAllx6
import Derived.Test.YtgdmbhldabeelaaRDoorPFnDrillsMistakenOfAllx7
import Derived.Test.YtgdmbhldabeelaaRDoorPFnDrillsMistakenOfAllx8
import Derived.Test.YtgdmbhldabeelaaRDoorPFnDrillsMistakenOfAllx9
import Derived.Test.YtgdmbhldabeelaaRDoorPFnDrillsMistakenOfAllx10
import Derived.Deep.CutRange
namespace Go.Proofs.YtgdmbhldabeelaaRDoor.PFnDrillsMistakenOfAll
open Go.RowKit Go.Proofs.YtgdmbhldabeelaaRDoorW.PrintWords Go.Proofs.YtgdmbhldabeelaaRDoorW.PrintLast Go.Proofs.YtgdmbhldabeelaaRDoorW.PrintMore
attribute [local go_sem] max2_int min2_int max_two min_two max_three min_three max_four min_four   -- for this text's walks alone
set_option linter.unusedVariables false
set_option linter.unusedSimpArgs false


set_option maxHeartbeats 8000000 in
set_option maxRecDepth 100000 in
def laws_FnDrillsMistakenOfAll.part0 : Σ' (R1 R2 : Prop), PLift R1 → PLift R2 → (∀ (k : Nat) (a0 : ByteArray) (a1 : ByteArray) (A2 : Option Addr) (c2 : Nat) (l2 : List (S34)) (a3 : ByteArray) (a4 : Int) (a5 : Int) (a6 : Int) (a7 : ByteArray) (A8 : Option Addr) (c8 : Nat) (l8 : List (S34)) (r : Bool) (w : World) (hr2 : Kd.C k34 w A2 l2.length l2) (hc2 : l2.length ≤ c2) (hr8 : Kd.C k34 w A8 l8.length l8) (hc8 : l8.length ≤ c8) (h : laws_FnDrillsMistakenOfAll.f k a0 a1 l2 a3 a4 a5 a6 a7 l8 = some r) (he_ : r = true),
  Calls Tryd.prog 3 #[.string a0, .string a1, .slice A2 l2.length c2, .string a3, .int .i64 a4, .int .i64 a5, .int .i64 a6, .string a7, .slice A8 l8.length c8] w fun e w' => e = .returned (.bool r) ∧ Below w.heap.size w w') := by
 refine' ⟨_, _, fun hole1 hole2 => _⟩
 rotate_left 2
 ·
  intro k a0 a1 A2 c2 l2 a3 a4 a5 a6 a7 A8 c8 l8 r w hr2 hc2 hr8 hc8 h he_
  have hu34 := Tryd.underlying34
  have HR2 := Aside0.mk hr2
  have HC2 := Aside0.mk hc2
  clear hr2 hc2
  have HR8 := Aside0.mk hr8
  have HC8 := Aside0.mk hc8
  clear hr8 hc8
  have HB := Aside0.mk (Below.refl w.heap.size w)
  have H : (if (a0.size : Int) > 1048576 then (laws_FnDrillsMistakenOfAll.j0 k a0 a1 l2 a3 a4 a5 a6 a7 l8 true) else (if (a1.size : Int) > 1048576 then (laws_FnDrillsMistakenOfAll.j0 k a0 a1 l2 a3 a4 a5 a6 a7 l8 true) else (if (l2.length : Int) > 10000 then (laws_FnDrillsMistakenOfAll.j0 k a0 a1 l2 a3 a4 a5 a6 a7 l8 true) else (if (a3.size : Int) > 1048576 then (laws_FnDrillsMistakenOfAll.j0 k a0 a1 l2 a3 a4 a5 a6 a7 l8 true) else (if (a7.size : Int) > 1048576 then (laws_FnDrillsMistakenOfAll.j0 k a0 a1 l2 a3 a4 a5 a6 a7 l8 true) else (laws_FnDrillsMistakenOfAll.j0 k a0 a1 l2 a3 a4 a5 a6 a7 l8 (decide ((l8.length : Int) > 10000)))))))) = some r := h
  clear h
  have HE_ := Aside0.mk he_
  clear he_
  have HC10 := Aside0.mk H
  clear H
  go_enter Tryd.func3, Tryd.ntmps3
  go_upto_region 1 with (fail)
  go_cut [80] from 80 to 80 (fun v80 wc => ∃ (kq : Nat) (x80_9 : Bool), v80 = .bool x80_9 ∧ Aside0 (laws_FnDrillsMistakenOfAll.j0 kq a0 a1 l2 a3 a4 a5 a6 a7 l8 x80_9 = some r) ∧ Aside0 (kq ≤ k) ∧ Aside0 (Below w.heap.size w wc))
  case first =>
   -- part 1
   (repeat revert ‹World›)
   (repeat revert ‹Value›)
   (repeat revert ‹Nat → Act → World → Prop›)
   (repeat revert ‹Act → World → Prop›)
   (repeat revert ‹Int›)
   (repeat revert ‹Nat›)
   (repeat revert ‹Bool›)
   (repeat revert ‹List (List Int)›)
   (repeat revert ‹List Int›)
   (repeat revert ‹Addr›)
   (repeat revert ‹Option Addr›)
   (repeat revert ‹ByteArray›)
   (repeat revert ‹List ByteArray›)
   (repeat revert ‹List (S34)›)
   exact hole1.down
  case rest =>
   -- part 2
   (repeat revert ‹World›)
   (repeat revert ‹Value›)
   (repeat revert ‹Nat → Act → World → Prop›)
   (repeat revert ‹Act → World → Prop›)
   (repeat revert ‹Int›)
   (repeat revert ‹Nat›)
   (repeat revert ‹Bool›)
   (repeat revert ‹List (List Int)›)
   (repeat revert ‹List Int›)
   (repeat revert ‹Addr›)
   (repeat revert ‹Option Addr›)
   (repeat revert ‹ByteArray›)
   (repeat revert ‹List ByteArray›)
   (repeat revert ‹List (S34)›)
   exact hole2.down

set_option maxHeartbeats 8000000 in
set_option maxRecDepth 100000 in
theorem laws_FnDrillsMistakenOfAll.part1 : laws_FnDrillsMistakenOfAll.part0.1 := by
 conv => whnf
 intro l2 l8 a0 a1 a3 a7 A2 A8 r HE_ k c2 HC2 c8 HC8 a4 a5 a6 HC10 K K J K' a w HR2 HR8 HB Q' a a a
 have H := HC10.out
 clear HC10
 by_cases c11 : (a0.size : Int) > 1048576
 ·
  rw [if_pos c11] at H
  have c11b0 : decide (1048576 < (a0.size : Int)) = true := decide_eq_true c11
  have c11b1 : decide (1048576 < a0.size) = true := decide_eq_true (by omega)
  clear c11
  (first | rw [c11b0] | (simp only [i64_w, i32_w]; rw [c11b0]) | skip)
  have H' := Aside0.mk H
  clear H
  go_wp2
  go_meet
  case rel => exact ⟨_, (true), (by first | rfl | (simp; done) | (simp [*]; done)), H', ⟨by first | omega | exact Nat.le_refl _⟩, ⟨by repeat (first | (with_reducible first | exact HB.out | apply below_alloc | apply pw_below_drewN | apply below_drew1) | exact HB.out)⟩⟩
 ·
  rw [if_neg c11] at H
  have c11b0 : decide (1048576 < (a0.size : Int)) = false := decide_eq_false c11
  have c11b1 : decide (1048576 < a0.size) = false := decide_eq_false (by omega)
  clear c11
  (first | rw [c11b0] | (simp only [i64_w, i32_w]; rw [c11b0]) | skip)
  by_cases c12 : (a1.size : Int) > 1048576
  ·
   rw [if_pos c12] at H
   have c12b0 : decide (1048576 < (a1.size : Int)) = true := decide_eq_true c12
   have c12b1 : decide (1048576 < a1.size) = true := decide_eq_true (by omega)
   clear c12
   have H' := Aside0.mk H
   clear H
   go_wp2
   go_meet
   case rel => exact ⟨_, (true), (by first | rfl | (simp; done) | (simp [*]; done)), H', ⟨by first | omega | exact Nat.le_refl _⟩, ⟨by repeat (first | (with_reducible first | exact HB.out | apply below_alloc | apply pw_below_drewN | apply below_drew1) | exact HB.out)⟩⟩
  ·
   rw [if_neg c12] at H
   have c12b0 : decide (1048576 < (a1.size : Int)) = false := decide_eq_false c12
   have c12b1 : decide (1048576 < a1.size) = false := decide_eq_false (by omega)
   clear c12
   by_cases c13 : (l2.length : Int) > 10000
   ·
    rw [if_pos c13] at H
    have c13b0 : decide (10000 < (l2.length : Int)) = true := decide_eq_true c13
    have c13b1 : decide (10000 < l2.length) = true := decide_eq_true (by omega)
    clear c13
    have H' := Aside0.mk H
    clear H
    go_wp2
    go_meet
    case rel => exact ⟨_, (true), (by first | rfl | (simp; done) | (simp [*]; done)), H', ⟨by first | omega | exact Nat.le_refl _⟩, ⟨by repeat (first | (with_reducible first | exact HB.out | apply below_alloc | apply pw_below_drewN | apply below_drew1) | exact HB.out)⟩⟩
   ·
    rw [if_neg c13] at H
    have c13b0 : decide (10000 < (l2.length : Int)) = false := decide_eq_false c13
    have c13b1 : decide (10000 < l2.length) = false := decide_eq_false (by omega)
    clear c13
    by_cases c14 : (a3.size : Int) > 1048576
    ·
     rw [if_pos c14] at H
     have c14b0 : decide (1048576 < (a3.size : Int)) = true := decide_eq_true c14
     have c14b1 : decide (1048576 < a3.size) = true := decide_eq_true (by omega)
     clear c14
     have H' := Aside0.mk H
     clear H
     go_wp2
     go_meet
     case rel => exact ⟨_, (true), (by first | rfl | (simp; done) | (simp [*]; done)), H', ⟨by first | omega | exact Nat.le_refl _⟩, ⟨by repeat (first | (with_reducible first | exact HB.out | apply below_alloc | apply pw_below_drewN | apply below_drew1) | exact HB.out)⟩⟩
    ·
     rw [if_neg c14] at H
     have c14b0 : decide (1048576 < (a3.size : Int)) = false := decide_eq_false c14
     have c14b1 : decide (1048576 < a3.size) = false := decide_eq_false (by omega)
     clear c14
     by_cases c15 : (a7.size : Int) > 1048576
     ·
      rw [if_pos c15] at H
      have c15b0 : decide (1048576 < (a7.size : Int)) = true := decide_eq_true c15
      have c15b1 : decide (1048576 < a7.size) = true := decide_eq_true (by omega)
      clear c15
      have H' := Aside0.mk H
      clear H
      go_wp2
      go_meet
      case rel => exact ⟨_, (true), (by first | rfl | (simp; done) | (simp [*]; done)), H', ⟨by first | omega | exact Nat.le_refl _⟩, ⟨by repeat (first | (with_reducible first | exact HB.out | apply below_alloc | apply pw_below_drewN | apply below_drew1) | exact HB.out)⟩⟩
     ·
      rw [if_neg c15] at H
      have c15b0 : decide (1048576 < (a7.size : Int)) = false := decide_eq_false c15
      have c15b1 : decide (1048576 < a7.size) = false := decide_eq_false (by omega)
      clear c15
      have H' := Aside0.mk H
      clear H
      go_wp2
      go_meet
      case rel => exact ⟨_, (decide ((l8.length : Int) > 10000)), (by first | rfl | (simp; done) | (simp [*]; done)), H', ⟨by first | omega | exact Nat.le_refl _⟩, ⟨by repeat (first | (with_reducible first | exact HB.out | apply below_alloc | apply pw_below_drewN | apply below_drew1) | exact HB.out)⟩⟩

set_option maxHeartbeats 8000000 in
set_option maxRecDepth 100000 in
def laws_FnDrillsMistakenOfAll.part2 : Σ' (R1 R2 : Prop), PLift R1 → PLift R2 → (laws_FnDrillsMistakenOfAll.part0.2.1) := by
 refine' ⟨_, _, fun hole1 hole2 => _⟩
 rotate_left 2
 ·
  conv => whnf
  intro l2 l8 a0 a1 a3 a7 A2 A8 r HE_ k c2 HC2 c8 HC8 a4 a5 a6 HC10 K K u53 u54 u55 u56 u57 u58 u59 u60 u61 u62 u63 u64 u65 u66 u67 u68 u69 u70 u71 u72 u73 u74 u75 u76 u77 u78 u79 u80 w HR2 HR8 HB Q' a a wc hcut
  clear HC10
  try clear c2
  try clear c8
  obtain ⟨kq, x80_9, rfl, HA, HJ9, HB⟩ := hcut
  cases kq with
  | zero => exact absurd HA.out (by simp [laws_FnDrillsMistakenOfAll.j0])
  | succ kj9 =>
   have H := HA.out
   clear HA
   simp only [laws_FnDrillsMistakenOfAll.j0] at H
   by_cases c16 : x80_9 = true
   ·
    subst c16
    have H1 : (some true) = some r := by rw [if_pos rfl] at H; exact H
    clear H
    have H := H1
    clear H1
    obtain rfl := Option.some.inj H
    go_wp2
    go_ret
    exact ⟨by first | rfl | (simp [errW_none, errW_some] <;> rfl) | (simp [*, errW_none, errW_some] <;> rfl), by repeat (first | (with_reducible first | exact HB.out | apply below_alloc | apply pw_below_drewN | apply below_drew1) | exact HB.out)⟩
   ·
    replace c16 := Bool.eq_false_iff.mpr c16
    subst c16
    have H1 : ((impl_FacingWithMistakes.f kj9 a0 a1 l2).bind fun bt233 => ((spec_FacingWithMistakes.f kj9 a0 a1 l2).bind fun bt235 => ((impl_WrongSoldiers.f kj9 a0 a1 l2).bind fun bt237 => ((spec_WrongSoldiers.f kj9 a0 a1 l2).bind fun bt241 => ((impl_CorrectionsOf.f kj9 a0 a1 l2).bind fun bt245 => ((spec_CorrectionsOf.f kj9 a0 a1 l2).bind fun bt247 => (if (bt233.2 != bt235.2) = true then (laws_FnDrillsMistakenOfAll.j1 kj9 a0 a1 l2 a3 a4 a5 a6 a7 l8 bt233.1 bt233.2 bt237.1 bt245.1 true) else (if bt233.1.toList = bt235.1.toList then (if (bt237.2 != bt241.2) = true then (laws_FnDrillsMistakenOfAll.j1 kj9 a0 a1 l2 a3 a4 a5 a6 a7 l8 bt233.1 bt233.2 bt237.1 bt245.1 true) else ((laws_vSame.f kj9 bt237.1 bt241.1).bind fun t249 => (if t249 = true then (if (bt245.2 != bt247.2) = true then (laws_FnDrillsMistakenOfAll.j1 kj9 a0 a1 l2 a3 a4 a5 a6 a7 l8 bt233.1 bt233.2 bt237.1 bt245.1 true) else (if bt245.1.toList = bt247.1.toList then (if (bt237.2 != bt233.2) = true then (laws_FnDrillsMistakenOfAll.j1 kj9 a0 a1 l2 a3 a4 a5 a6 a7 l8 bt233.1 bt233.2 bt237.1 bt245.1 true) else (laws_FnDrillsMistakenOfAll.j1 kj9 a0 a1 l2 a3 a4 a5 a6 a7 l8 bt233.1 bt233.2 bt237.1 bt245.1 (bt245.2 != bt233.2))) else (laws_FnDrillsMistakenOfAll.j1 kj9 a0 a1 l2 a3 a4 a5 a6 a7 l8 bt233.1 bt233.2 bt237.1 bt245.1 true))) else (laws_FnDrillsMistakenOfAll.j1 kj9 a0 a1 l2 a3 a4 a5 a6 a7 l8 bt233.1 bt233.2 bt237.1 bt245.1 true)))) else (laws_FnDrillsMistakenOfAll.j1 kj9 a0 a1 l2 a3 a4 a5 a6 a7 l8 bt233.1 bt233.2 bt237.1 bt245.1 true))))))))) = some r := by rw [if_neg (show ¬ (false = true) by decide)] at H; exact H
    clear H
    have H := H1
    clear H1
    replace H := Option.bind_eq_some_iff.mp H
    obtain ⟨⟨t233, t234⟩, A170, H⟩ := H
    replace H : ((spec_FacingWithMistakes.f kj9 a0 a1 l2).bind fun bt235 => ((impl_WrongSoldiers.f kj9 a0 a1 l2).bind fun bt237 => ((spec_WrongSoldiers.f kj9 a0 a1 l2).bind fun bt241 => ((impl_CorrectionsOf.f kj9 a0 a1 l2).bind fun bt245 => ((spec_CorrectionsOf.f kj9 a0 a1 l2).bind fun bt247 => (if (t234 != bt235.2) = true then (laws_FnDrillsMistakenOfAll.j1 kj9 a0 a1 l2 a3 a4 a5 a6 a7 l8 t233 t234 bt237.1 bt245.1 true) else (if t233.toList = bt235.1.toList then (if (bt237.2 != bt241.2) = true then (laws_FnDrillsMistakenOfAll.j1 kj9 a0 a1 l2 a3 a4 a5 a6 a7 l8 t233 t234 bt237.1 bt245.1 true) else ((laws_vSame.f kj9 bt237.1 bt241.1).bind fun t249 => (if t249 = true then (if (bt245.2 != bt247.2) = true then (laws_FnDrillsMistakenOfAll.j1 kj9 a0 a1 l2 a3 a4 a5 a6 a7 l8 t233 t234 bt237.1 bt245.1 true) else (if bt245.1.toList = bt247.1.toList then (if (bt237.2 != t234) = true then (laws_FnDrillsMistakenOfAll.j1 kj9 a0 a1 l2 a3 a4 a5 a6 a7 l8 t233 t234 bt237.1 bt245.1 true) else (laws_FnDrillsMistakenOfAll.j1 kj9 a0 a1 l2 a3 a4 a5 a6 a7 l8 t233 t234 bt237.1 bt245.1 (bt245.2 != t234))) else (laws_FnDrillsMistakenOfAll.j1 kj9 a0 a1 l2 a3 a4 a5 a6 a7 l8 t233 t234 bt237.1 bt245.1 true))) else (laws_FnDrillsMistakenOfAll.j1 kj9 a0 a1 l2 a3 a4 a5 a6 a7 l8 t233 t234 bt237.1 bt245.1 true)))) else (laws_FnDrillsMistakenOfAll.j1 kj9 a0 a1 l2 a3 a4 a5 a6 a7 l8 t233 t234 bt237.1 bt245.1 true)))))))) = some r := H
    have A17 := Aside0.mk A170
    clear A170
    replace H := Option.bind_eq_some_iff.mp H
    obtain ⟨⟨t235, t236⟩, A180, H⟩ := H
    replace H : ((impl_WrongSoldiers.f kj9 a0 a1 l2).bind fun bt237 => ((spec_WrongSoldiers.f kj9 a0 a1 l2).bind fun bt241 => ((impl_CorrectionsOf.f kj9 a0 a1 l2).bind fun bt245 => ((spec_CorrectionsOf.f kj9 a0 a1 l2).bind fun bt247 => (if (t234 != t236) = true then (laws_FnDrillsMistakenOfAll.j1 kj9 a0 a1 l2 a3 a4 a5 a6 a7 l8 t233 t234 bt237.1 bt245.1 true) else (if t233.toList = t235.toList then (if (bt237.2 != bt241.2) = true then (laws_FnDrillsMistakenOfAll.j1 kj9 a0 a1 l2 a3 a4 a5 a6 a7 l8 t233 t234 bt237.1 bt245.1 true) else ((laws_vSame.f kj9 bt237.1 bt241.1).bind fun t249 => (if t249 = true then (if (bt245.2 != bt247.2) = true then (laws_FnDrillsMistakenOfAll.j1 kj9 a0 a1 l2 a3 a4 a5 a6 a7 l8 t233 t234 bt237.1 bt245.1 true) else (if bt245.1.toList = bt247.1.toList then (if (bt237.2 != t234) = true then (laws_FnDrillsMistakenOfAll.j1 kj9 a0 a1 l2 a3 a4 a5 a6 a7 l8 t233 t234 bt237.1 bt245.1 true) else (laws_FnDrillsMistakenOfAll.j1 kj9 a0 a1 l2 a3 a4 a5 a6 a7 l8 t233 t234 bt237.1 bt245.1 (bt245.2 != t234))) else (laws_FnDrillsMistakenOfAll.j1 kj9 a0 a1 l2 a3 a4 a5 a6 a7 l8 t233 t234 bt237.1 bt245.1 true))) else (laws_FnDrillsMistakenOfAll.j1 kj9 a0 a1 l2 a3 a4 a5 a6 a7 l8 t233 t234 bt237.1 bt245.1 true)))) else (laws_FnDrillsMistakenOfAll.j1 kj9 a0 a1 l2 a3 a4 a5 a6 a7 l8 t233 t234 bt237.1 bt245.1 true))))))) = some r := H
    have A18 := Aside0.mk A180
    clear A180
    replace H := Option.bind_eq_some_iff.mp H
    obtain ⟨⟨t237, t238⟩, A190, H⟩ := H
    replace H : ((spec_WrongSoldiers.f kj9 a0 a1 l2).bind fun bt241 => ((impl_CorrectionsOf.f kj9 a0 a1 l2).bind fun bt245 => ((spec_CorrectionsOf.f kj9 a0 a1 l2).bind fun bt247 => (if (t234 != t236) = true then (laws_FnDrillsMistakenOfAll.j1 kj9 a0 a1 l2 a3 a4 a5 a6 a7 l8 t233 t234 t237 bt245.1 true) else (if t233.toList = t235.toList then (if (t238 != bt241.2) = true then (laws_FnDrillsMistakenOfAll.j1 kj9 a0 a1 l2 a3 a4 a5 a6 a7 l8 t233 t234 t237 bt245.1 true) else ((laws_vSame.f kj9 t237 bt241.1).bind fun t249 => (if t249 = true then (if (bt245.2 != bt247.2) = true then (laws_FnDrillsMistakenOfAll.j1 kj9 a0 a1 l2 a3 a4 a5 a6 a7 l8 t233 t234 t237 bt245.1 true) else (if bt245.1.toList = bt247.1.toList then (if (t238 != t234) = true then (laws_FnDrillsMistakenOfAll.j1 kj9 a0 a1 l2 a3 a4 a5 a6 a7 l8 t233 t234 t237 bt245.1 true) else (laws_FnDrillsMistakenOfAll.j1 kj9 a0 a1 l2 a3 a4 a5 a6 a7 l8 t233 t234 t237 bt245.1 (bt245.2 != t234))) else (laws_FnDrillsMistakenOfAll.j1 kj9 a0 a1 l2 a3 a4 a5 a6 a7 l8 t233 t234 t237 bt245.1 true))) else (laws_FnDrillsMistakenOfAll.j1 kj9 a0 a1 l2 a3 a4 a5 a6 a7 l8 t233 t234 t237 bt245.1 true)))) else (laws_FnDrillsMistakenOfAll.j1 kj9 a0 a1 l2 a3 a4 a5 a6 a7 l8 t233 t234 t237 bt245.1 true)))))) = some r := H
    have A19 := Aside0.mk A190
    clear A190
    replace H := Option.bind_eq_some_iff.mp H
    obtain ⟨⟨t241, t242⟩, A200, H⟩ := H
    replace H : ((impl_CorrectionsOf.f kj9 a0 a1 l2).bind fun bt245 => ((spec_CorrectionsOf.f kj9 a0 a1 l2).bind fun bt247 => (if (t234 != t236) = true then (laws_FnDrillsMistakenOfAll.j1 kj9 a0 a1 l2 a3 a4 a5 a6 a7 l8 t233 t234 t237 bt245.1 true) else (if t233.toList = t235.toList then (if (t238 != t242) = true then (laws_FnDrillsMistakenOfAll.j1 kj9 a0 a1 l2 a3 a4 a5 a6 a7 l8 t233 t234 t237 bt245.1 true) else ((laws_vSame.f kj9 t237 t241).bind fun t249 => (if t249 = true then (if (bt245.2 != bt247.2) = true then (laws_FnDrillsMistakenOfAll.j1 kj9 a0 a1 l2 a3 a4 a5 a6 a7 l8 t233 t234 t237 bt245.1 true) else (if bt245.1.toList = bt247.1.toList then (if (t238 != t234) = true then (laws_FnDrillsMistakenOfAll.j1 kj9 a0 a1 l2 a3 a4 a5 a6 a7 l8 t233 t234 t237 bt245.1 true) else (laws_FnDrillsMistakenOfAll.j1 kj9 a0 a1 l2 a3 a4 a5 a6 a7 l8 t233 t234 t237 bt245.1 (bt245.2 != t234))) else (laws_FnDrillsMistakenOfAll.j1 kj9 a0 a1 l2 a3 a4 a5 a6 a7 l8 t233 t234 t237 bt245.1 true))) else (laws_FnDrillsMistakenOfAll.j1 kj9 a0 a1 l2 a3 a4 a5 a6 a7 l8 t233 t234 t237 bt245.1 true)))) else (laws_FnDrillsMistakenOfAll.j1 kj9 a0 a1 l2 a3 a4 a5 a6 a7 l8 t233 t234 t237 bt245.1 true))))) = some r := H
    have A20 := Aside0.mk A200
    clear A200
    replace H := Option.bind_eq_some_iff.mp H
    obtain ⟨⟨t245, t246⟩, A210, H⟩ := H
    replace H : ((spec_CorrectionsOf.f kj9 a0 a1 l2).bind fun bt247 => (if (t234 != t236) = true then (laws_FnDrillsMistakenOfAll.j1 kj9 a0 a1 l2 a3 a4 a5 a6 a7 l8 t233 t234 t237 t245 true) else (if t233.toList = t235.toList then (if (t238 != t242) = true then (laws_FnDrillsMistakenOfAll.j1 kj9 a0 a1 l2 a3 a4 a5 a6 a7 l8 t233 t234 t237 t245 true) else ((laws_vSame.f kj9 t237 t241).bind fun t249 => (if t249 = true then (if (t246 != bt247.2) = true then (laws_FnDrillsMistakenOfAll.j1 kj9 a0 a1 l2 a3 a4 a5 a6 a7 l8 t233 t234 t237 t245 true) else (if t245.toList = bt247.1.toList then (if (t238 != t234) = true then (laws_FnDrillsMistakenOfAll.j1 kj9 a0 a1 l2 a3 a4 a5 a6 a7 l8 t233 t234 t237 t245 true) else (laws_FnDrillsMistakenOfAll.j1 kj9 a0 a1 l2 a3 a4 a5 a6 a7 l8 t233 t234 t237 t245 (t246 != t234))) else (laws_FnDrillsMistakenOfAll.j1 kj9 a0 a1 l2 a3 a4 a5 a6 a7 l8 t233 t234 t237 t245 true))) else (laws_FnDrillsMistakenOfAll.j1 kj9 a0 a1 l2 a3 a4 a5 a6 a7 l8 t233 t234 t237 t245 true)))) else (laws_FnDrillsMistakenOfAll.j1 kj9 a0 a1 l2 a3 a4 a5 a6 a7 l8 t233 t234 t237 t245 true)))) = some r := H
    have A21 := Aside0.mk A210
    clear A210
    replace H := Option.bind_eq_some_iff.mp H
    obtain ⟨⟨t247, t248⟩, A220, H⟩ := H
    replace H : (if (t234 != t236) = true then (laws_FnDrillsMistakenOfAll.j1 kj9 a0 a1 l2 a3 a4 a5 a6 a7 l8 t233 t234 t237 t245 true) else (if t233.toList = t235.toList then (if (t238 != t242) = true then (laws_FnDrillsMistakenOfAll.j1 kj9 a0 a1 l2 a3 a4 a5 a6 a7 l8 t233 t234 t237 t245 true) else ((laws_vSame.f kj9 t237 t241).bind fun t249 => (if t249 = true then (if (t246 != t248) = true then (laws_FnDrillsMistakenOfAll.j1 kj9 a0 a1 l2 a3 a4 a5 a6 a7 l8 t233 t234 t237 t245 true) else (if t245.toList = t247.toList then (if (t238 != t234) = true then (laws_FnDrillsMistakenOfAll.j1 kj9 a0 a1 l2 a3 a4 a5 a6 a7 l8 t233 t234 t237 t245 true) else (laws_FnDrillsMistakenOfAll.j1 kj9 a0 a1 l2 a3 a4 a5 a6 a7 l8 t233 t234 t237 t245 (t246 != t234))) else (laws_FnDrillsMistakenOfAll.j1 kj9 a0 a1 l2 a3 a4 a5 a6 a7 l8 t233 t234 t237 t245 true))) else (laws_FnDrillsMistakenOfAll.j1 kj9 a0 a1 l2 a3 a4 a5 a6 a7 l8 t233 t234 t237 t245 true)))) else (laws_FnDrillsMistakenOfAll.j1 kj9 a0 a1 l2 a3 a4 a5 a6 a7 l8 t233 t234 t237 t245 true))) = some r := H
    have A22 := Aside0.mk A220
    clear A220
    have HC23 := Aside0.mk H
    clear H
    go_upto_region 9 with (first | ((with_reducible refine gate_callee (f := 5) rfl ?_); refine goesL_ (some 85) rfl rfl Tryd.func5 (by kernel_rfl) rfl #[.string a0, .string a1, .slice A2 l2.length c2] rfl (by (try simp only [List.map_toArray, List.map_cons, List.map_nil]); first | done | rfl | (simp only [List.length_drop, List.length_take]; rfl)) ?_; (with_reducible refine (impl_FacingWithMistakes.calls kj9 a0 a1 _ _ l2 t233 t234 _ ?side1 ?side2 A17.out).mono ?_); (case side1 => repeat (first | exact (Kd.C_below HR2.out HB.out) | (with_reducible refine Kd.C_alloc ?_ _) | (with_reducible refine Kd.C_drewN ?_ _) | (with_reducible refine Kd.C_drew ?_))); (case side2 => exact HC2.out); rintro e w24 ⟨rfl, hb⟩; refine ⟨_, rfl, ?_⟩; have n0_ := Aside0.mk (below_step (by repeat (first | (with_reducible first | exact HB.out | apply below_alloc | apply pw_below_drewN | apply below_drew1) | exact HB.out)) hb); clear HB; have HB := n0_; clear n0_; (try clear hb); (try clear hb2); (try clear hk); (try clear hi)) | ((with_reducible refine gate_callee (f := 6) rfl ?_); refine goesL_ (some 92) rfl rfl Tryd.func6 (by kernel_rfl) rfl #[.string a0, .string a1, .slice A2 l2.length c2] rfl (by (try simp only [List.map_toArray, List.map_cons, List.map_nil]); first | done | rfl | (simp only [List.length_drop, List.length_take]; rfl)) ?_; (with_reducible refine (spec_FacingWithMistakes.calls kj9 a0 a1 _ _ l2 t235 t236 _ ?side1 ?side2 A18.out).mono ?_); (case side1 => repeat (first | exact (Kd.C_below HR2.out HB.out) | (with_reducible refine Kd.C_alloc ?_ _) | (with_reducible refine Kd.C_drewN ?_ _) | (with_reducible refine Kd.C_drew ?_))); (case side2 => exact HC2.out); rintro e w25 ⟨rfl, hb⟩; refine ⟨_, rfl, ?_⟩; have n0_ := Aside0.mk (below_step (by repeat (first | (with_reducible first | exact HB.out | apply below_alloc | apply pw_below_drewN | apply below_drew1) | exact HB.out)) hb); clear HB; have HB := n0_; clear n0_; (try clear hb); (try clear hb2); (try clear hk); (try clear hi)) | ((with_reducible refine gate_callee (f := 7) rfl ?_); refine goesL_ (some 99) rfl rfl Tryd.func7 (by kernel_rfl) rfl #[.string a0, .string a1, .slice A2 l2.length c2] rfl (by (try simp only [List.map_toArray, List.map_cons, List.map_nil]); first | done | rfl | (simp only [List.length_drop, List.length_take]; rfl)) ?_; (with_reducible refine (impl_WrongSoldiers.calls kj9 a0 a1 _ _ l2 t237 t238 _ ?side1 ?side2 A19.out).mono ?_); (case side1 => repeat (first | exact (Kd.C_below HR2.out HB.out) | (with_reducible refine Kd.C_alloc ?_ _) | (with_reducible refine Kd.C_drewN ?_ _) | (with_reducible refine Kd.C_drew ?_))); (case side2 => exact HC2.out); rintro e w26 ⟨v239, rfl, ho0, hb⟩; refine ⟨_, rfl, ?_⟩; have n0_ := Aside0.mk (Kd.R_lower ho0 (below_size (by repeat (first | (with_reducible first | exact HB.out | apply below_alloc | apply pw_below_drewN | apply below_drew1) | exact HB.out)))); have n1_ := Aside0.mk (below_step (by repeat (first | (with_reducible first | exact HB.out | apply below_alloc | apply pw_below_drewN | apply below_drew1) | exact HB.out)) hb); clear HB; have HO240 := n0_; have HB := n1_; clear n0_ n1_; (try clear hb); (try clear hb2); (try clear hk); (try clear hi); (try clear ho0)) | ((with_reducible refine gate_callee (f := 8) rfl ?_); refine goesL_ (some 106) rfl rfl Tryd.func8 (by kernel_rfl) rfl #[.string a0, .string a1, .slice A2 l2.length c2] rfl (by (try simp only [List.map_toArray, List.map_cons, List.map_nil]); first | done | rfl | (simp only [List.length_drop, List.length_take]; rfl)) ?_; (with_reducible refine (spec_WrongSoldiers.calls kj9 a0 a1 _ _ l2 t241 t242 _ ?side1 ?side2 A20.out).mono ?_); (case side1 => repeat (first | exact (Kd.C_below HR2.out HB.out) | (with_reducible refine Kd.C_alloc ?_ _) | (with_reducible refine Kd.C_drewN ?_ _) | (with_reducible refine Kd.C_drew ?_))); (case side2 => exact HC2.out); rintro e w27 ⟨v243, rfl, ho0, hb⟩; refine ⟨_, rfl, ?_⟩; have n0_ := Aside0.mk (Kd.R_elder' (by (with_reducible repeat (first | apply Kd.R_alloc | apply Kd.R_drewN | apply Kd.R_drew)); exact HO240.out) (Kd.R_base ho0) hb); have n1_ := Aside0.mk (Kd.R_lower (Kd.R_new' ho0 (Kd.R_lt (by (with_reducible repeat (first | apply Kd.R_alloc | apply Kd.R_drewN | apply Kd.R_drew)); exact HO240.out))) (below_size (by repeat (first | (with_reducible first | exact HB.out | apply below_alloc | apply pw_below_drewN | apply below_drew1) | exact HB.out)))); have n2_ := Aside0.mk (below_step (by repeat (first | (with_reducible first | exact HB.out | apply below_alloc | apply pw_below_drewN | apply below_drew1) | exact HB.out)) hb); clear HO240; clear HB; have HO240 := n0_; have HO244 := n1_; have HB := n2_; clear n0_ n1_ n2_; (try clear hb); (try clear hb2); (try clear hk); (try clear hi); (try clear ho0)) | ((with_reducible refine gate_callee (f := 9) rfl ?_); refine goesL_ (some 113) rfl rfl Tryd.func9 (by kernel_rfl) rfl #[.string a0, .string a1, .slice A2 l2.length c2] rfl (by (try simp only [List.map_toArray, List.map_cons, List.map_nil]); first | done | rfl | (simp only [List.length_drop, List.length_take]; rfl)) ?_; (with_reducible refine (impl_CorrectionsOf.calls kj9 a0 a1 _ _ l2 t245 t246 _ ?side1 ?side2 A21.out).mono ?_); (case side1 => repeat (first | exact (Kd.C_below HR2.out HB.out) | (with_reducible refine Kd.C_alloc ?_ _) | (with_reducible refine Kd.C_drewN ?_ _) | (with_reducible refine Kd.C_drew ?_))); (case side2 => exact HC2.out); rintro e w28 ⟨rfl, hb⟩; refine ⟨_, rfl, ?_⟩; have n0_ := Aside0.mk (Kd.R_below (by (with_reducible repeat (first | apply Kd.R_alloc | apply Kd.R_drewN | apply Kd.R_drew)); exact HO240.out) hb); have n1_ := Aside0.mk (Kd.R_below (by (with_reducible repeat (first | apply Kd.R_alloc | apply Kd.R_drewN | apply Kd.R_drew)); exact HO244.out) hb); have n2_ := Aside0.mk (below_step (by repeat (first | (with_reducible first | exact HB.out | apply below_alloc | apply pw_below_drewN | apply below_drew1) | exact HB.out)) hb); clear HO240; clear HO244; clear HB; have HO240 := n0_; have HO244 := n1_; have HB := n2_; clear n0_ n1_ n2_; (try clear hb); (try clear hb2); (try clear hk); (try clear hi)) | ((with_reducible refine gate_callee (f := 10) rfl ?_); refine goesL_ (some 120) rfl rfl Tryd.func10 (by kernel_rfl) rfl #[.string a0, .string a1, .slice A2 l2.length c2] rfl (by (try simp only [List.map_toArray, List.map_cons, List.map_nil]); first | done | rfl | (simp only [List.length_drop, List.length_take]; rfl)) ?_; (with_reducible refine (spec_CorrectionsOf.calls kj9 a0 a1 _ _ l2 t247 t248 _ ?side1 ?side2 A22.out).mono ?_); (case side1 => repeat (first | exact (Kd.C_below HR2.out HB.out) | (with_reducible refine Kd.C_alloc ?_ _) | (with_reducible refine Kd.C_drewN ?_ _) | (with_reducible refine Kd.C_drew ?_))); (case side2 => exact HC2.out); rintro e w29 ⟨rfl, hb⟩; refine ⟨_, rfl, ?_⟩; have n0_ := Aside0.mk (Kd.R_below (by (with_reducible repeat (first | apply Kd.R_alloc | apply Kd.R_drewN | apply Kd.R_drew)); exact HO240.out) hb); have n1_ := Aside0.mk (Kd.R_below (by (with_reducible repeat (first | apply Kd.R_alloc | apply Kd.R_drewN | apply Kd.R_drew)); exact HO244.out) hb); have n2_ := Aside0.mk (below_step (by repeat (first | (with_reducible first | exact HB.out | apply below_alloc | apply pw_below_drewN | apply below_drew1) | exact HB.out)) hb); clear HO240; clear HO244; clear HB; have HO240 := n0_; have HO244 := n1_; have HB := n2_; clear n0_ n1_ n2_; (try clear hb); (try clear hb2); (try clear hk); (try clear hi)))
    (try simp only [Act.put, List.setIfInBounds_toArray, List.set_cons_zero, List.set_cons_succ])
    go_cut [161] from 80 to 161 (fun v161 wc => ∃ (kq : Nat) (x161_22 : Bool), v161 = .bool x161_22 ∧ Aside0 (laws_FnDrillsMistakenOfAll.j1 kq a0 a1 l2 a3 a4 a5 a6 a7 l8 t233 t234 t237 t245 x161_22 = some r) ∧ Aside0 (kq ≤ kj9) ∧ Aside0 (Kd.R (Kd.int .i64) 3 wc w.heap.size (fun _ => True) v239 t237) ∧ Aside0 (Below w.heap.size w wc))
    case first =>
     -- part 3
     (repeat revert ‹World›)
     (repeat revert ‹Value›)
     (repeat revert ‹Nat → Act → World → Prop›)
     (repeat revert ‹Act → World → Prop›)
     (repeat revert ‹Int›)
     (repeat revert ‹Nat›)
     (repeat revert ‹Bool›)
     (repeat revert ‹List (List Int)›)
     (repeat revert ‹List Int›)
     (repeat revert ‹Addr›)
     (repeat revert ‹Option Addr›)
     (repeat revert ‹ByteArray›)
     (repeat revert ‹List ByteArray›)
     (repeat revert ‹List (S34)›)
     exact hole1.down
    case rest =>
     -- part 4
     (repeat revert ‹World›)
     (repeat revert ‹Value›)
     (repeat revert ‹Nat → Act → World → Prop›)
     (repeat revert ‹Act → World → Prop›)
     (repeat revert ‹Int›)
     (repeat revert ‹Nat›)
     (repeat revert ‹Bool›)
     (repeat revert ‹List (List Int)›)
     (repeat revert ‹List Int›)
     (repeat revert ‹Addr›)
     (repeat revert ‹Option Addr›)
     (repeat revert ‹ByteArray›)
     (repeat revert ‹List ByteArray›)
     (repeat revert ‹List (S34)›)
     exact hole2.down

set_option maxHeartbeats 8000000 in
set_option maxRecDepth 100000 in
theorem laws_FnDrillsMistakenOfAll.part3 : laws_FnDrillsMistakenOfAll.part2.1 := by
 conv => whnf
 intro l2 l8 a0 a1 a3 a7 t233 t235 t245 t247 A2 A8 t237 t241 r HE_ t234 t236 t238 t242 t246 t248 k c2 HC2 c8 HC8 kj9 HJ9 A17 A18 A19 A20 A21 A22 a4 a5 a6 HC23 K K J K' a u53 u54 u55 u56 u57 u58 u59 u60 u61 u62 u63 u64 u65 u66 u67 u68 u69 u70 u71 u72 u73 u74 u75 u76 u77 u78 u79 v239 v243 w HR2 HR8 HB Q' a a a wc w24 w25 w26 w27 w28 w29 HO240 HO244 HB
 have H := HC23.out
 clear HC23
 by_cases c30 : (t234 != t236) = true
 ·
  rw [if_pos c30] at H
  exact (laws_FnDrillsMistakenOfAll.j1_no _ _ _ _ _ _ _ _ _ _ _ _ _ _ (H.trans (congrArg some HE_.out))).elim
 ·
  rw [if_neg c30] at H
  have c30b0 : (t234 != t236) = false := by simpa using c30
  (try (have c30b1 : decide (t234 = t236) = true := by simpa using c30))
  (try (have c30b2 : (t234 == t236) = true := by simpa using c30))
  clear c30
  (first | rw [c30b0] | (simp only [i64_w, i32_w]; rw [c30b0]) | skip)
  by_cases c31 : t233.toList = t235.toList
  ·
   rw [if_pos c31] at H
   have c31b0 : (t233.toList == t235.toList) = true := beq_iff_eq.mpr c31
   have c31b1 : (t233.toList != t235.toList) = false := bne_eq_false_iff_eq.mpr c31
   clear c31
   by_cases c32 : (t238 != t242) = true
   ·
    rw [if_pos c32] at H
    exact (laws_FnDrillsMistakenOfAll.j1_no _ _ _ _ _ _ _ _ _ _ _ _ _ _ (H.trans (congrArg some HE_.out))).elim
   ·
    rw [if_neg c32] at H
    have c32b0 : (t238 != t242) = false := by simpa using c32
    (try (have c32b1 : decide (t238 = t242) = true := by simpa using c32))
    (try (have c32b2 : (t238 == t242) = true := by simpa using c32))
    clear c32
    replace H := Option.bind_eq_some_iff.mp H
    obtain ⟨t249, A330, H⟩ := H
    replace H : (if t249 = true then (if (t246 != t248) = true then (laws_FnDrillsMistakenOfAll.j1 kj9 a0 a1 l2 a3 a4 a5 a6 a7 l8 t233 t234 t237 t245 true) else (if t245.toList = t247.toList then (if (t238 != t234) = true then (laws_FnDrillsMistakenOfAll.j1 kj9 a0 a1 l2 a3 a4 a5 a6 a7 l8 t233 t234 t237 t245 true) else (laws_FnDrillsMistakenOfAll.j1 kj9 a0 a1 l2 a3 a4 a5 a6 a7 l8 t233 t234 t237 t245 (t246 != t234))) else (laws_FnDrillsMistakenOfAll.j1 kj9 a0 a1 l2 a3 a4 a5 a6 a7 l8 t233 t234 t237 t245 true))) else (laws_FnDrillsMistakenOfAll.j1 kj9 a0 a1 l2 a3 a4 a5 a6 a7 l8 t233 t234 t237 t245 true)) = some r := H
    have A33 := Aside0.mk A330
    clear A330
    by_cases c34 : t249 = true
    ·
     subst c34
     have H1 : (if (t246 != t248) = true then (laws_FnDrillsMistakenOfAll.j1 kj9 a0 a1 l2 a3 a4 a5 a6 a7 l8 t233 t234 t237 t245 true) else (if t245.toList = t247.toList then (if (t238 != t234) = true then (laws_FnDrillsMistakenOfAll.j1 kj9 a0 a1 l2 a3 a4 a5 a6 a7 l8 t233 t234 t237 t245 true) else (laws_FnDrillsMistakenOfAll.j1 kj9 a0 a1 l2 a3 a4 a5 a6 a7 l8 t233 t234 t237 t245 (t246 != t234))) else (laws_FnDrillsMistakenOfAll.j1 kj9 a0 a1 l2 a3 a4 a5 a6 a7 l8 t233 t234 t237 t245 true))) = some r := by rw [if_pos rfl] at H; exact H
     clear H
     have H := H1
     clear H1
     by_cases c35 : (t246 != t248) = true
     ·
      rw [if_pos c35] at H
      exact (laws_FnDrillsMistakenOfAll.j1_no _ _ _ _ _ _ _ _ _ _ _ _ _ _ (H.trans (congrArg some HE_.out))).elim
     ·
      rw [if_neg c35] at H
      have c35b0 : (t246 != t248) = false := by simpa using c35
      (try (have c35b1 : decide (t246 = t248) = true := by simpa using c35))
      (try (have c35b2 : (t246 == t248) = true := by simpa using c35))
      clear c35
      by_cases c36 : t245.toList = t247.toList
      ·
       rw [if_pos c36] at H
       have c36b0 : (t245.toList == t247.toList) = true := beq_iff_eq.mpr c36
       have c36b1 : (t245.toList != t247.toList) = false := bne_eq_false_iff_eq.mpr c36
       clear c36
       by_cases c37 : (t238 != t234) = true
       ·
        rw [if_pos c37] at H
        exact (laws_FnDrillsMistakenOfAll.j1_no _ _ _ _ _ _ _ _ _ _ _ _ _ _ (H.trans (congrArg some HE_.out))).elim
       ·
        rw [if_neg c37] at H
        have c37b0 : (t238 != t234) = false := by simpa using c37
        (try (have c37b1 : decide (t238 = t234) = true := by simpa using c37))
        (try (have c37b2 : (t238 == t234) = true := by simpa using c37))
        clear c37
        have H' := Aside0.mk H
        clear H
        obtain ⟨Ao38, co38, eo38⟩ := Kd.R_slice HO240.out
        subst eo38
        obtain ⟨Ao39, co39, eo39⟩ := Kd.R_slice HO244.out
        subst eo39
        go_wp2_with (first | (go_at_call 11; (with_reducible refine (laws_vSame.calls kj9 _ _ t237 _ _ t241 true _ ?side1 ?side2 ?side3 ?side4 A33.out).mono ?_); (case side1 => repeat (first | exact (Kd.R_reads' HO240.out).2.2 | (with_reducible refine Kd.C_alloc ?_ _) | (with_reducible refine Kd.C_drewN ?_ _) | (with_reducible refine Kd.C_drew ?_))); (case side2 => exact (Kd.R_reads' HO240.out).2.1); (case side3 => repeat (first | exact (Kd.R_reads' HO244.out).2.2 | (with_reducible refine Kd.C_alloc ?_ _) | (with_reducible refine Kd.C_drewN ?_ _) | (with_reducible refine Kd.C_drew ?_))); (case side4 => exact (Kd.R_reads' HO244.out).2.1); rintro e w' ⟨rfl, ⟨nd, rfl⟩⟩))
        go_meet
        case rel => exact ⟨_, ((t246 != t234)), (by first | rfl | (simp; done) | (simp [*]; done)), H', ⟨by have := HJ9.out; first | omega | exact Nat.le_refl _⟩, ⟨by (with_reducible repeat (first | apply Kd.R_alloc | apply Kd.R_drewN | apply Kd.R_drew)); exact Kd.R_mono HO240.out (fun _ hk => trivial)⟩, ⟨by repeat (first | (with_reducible first | exact HB.out | apply below_alloc | apply pw_below_drewN | apply below_drew1) | exact HB.out)⟩⟩
      ·
       rw [if_neg c36] at H
       exact (laws_FnDrillsMistakenOfAll.j1_no _ _ _ _ _ _ _ _ _ _ _ _ _ _ (H.trans (congrArg some HE_.out))).elim
    ·
     replace c34 := Bool.eq_false_iff.mpr c34
     subst c34
     have H1 : (laws_FnDrillsMistakenOfAll.j1 kj9 a0 a1 l2 a3 a4 a5 a6 a7 l8 t233 t234 t237 t245 true) = some r := by rw [if_neg (show ¬ (false = true) by decide)] at H; exact H
     clear H
     have H := H1
     clear H1
     exact (laws_FnDrillsMistakenOfAll.j1_no _ _ _ _ _ _ _ _ _ _ _ _ _ _ (H.trans (congrArg some HE_.out))).elim
  ·
   rw [if_neg c31] at H
   exact (laws_FnDrillsMistakenOfAll.j1_no _ _ _ _ _ _ _ _ _ _ _ _ _ _ (H.trans (congrArg some HE_.out))).elim

set_option maxHeartbeats 8000000 in
set_option maxRecDepth 100000 in
def laws_FnDrillsMistakenOfAll.part4 : Σ' (R1 R2 : Prop), PLift R1 → PLift R2 → (laws_FnDrillsMistakenOfAll.part2.2.1) := by
 refine' ⟨_, _, fun hole1 hole2 => _⟩
 rotate_left 2
 ·
  conv => whnf
  intro l2 l8 a0 a1 a3 a7 t233 t235 t245 t247 A2 A8 t237 t241 r HE_ t234 t236 t238 t242 t246 t248 k c2 HC2 c8 HC8 kj9 HJ9 A17 A18 A19 A20 A21 A22 a4 a5 a6 HC23 K K u53 u54 u55 u56 u57 u58 u59 u60 u61 u62 u63 u64 u65 u66 u67 u68 u69 u70 u71 u72 u73 u74 u75 u76 u77 u78 u79 v239 v243 u80 u81 u82 u83 u84 u85 u86 u87 u88 u89 u90 u91 u92 u93 u94 u95 u96 u97 u98 u99 u100 u101 u102 u103 u104 u105 u106 u107 u108 u109 u110 u111 u112 u113 u114 u115 u116 u117 u118 u119 u120 u121 u122 u123 u124 u125 u126 u127 u128 u129 u130 u131 u132 u133 u134 u135 u136 u137 u138 u139 u140 u141 u142 u143 u144 u145 u146 u147 u148 u149 u150 u151 u152 u153 u154 u155 u156 u157 u158 u159 u160 u161 w HR2 HR8 HB Q' a a wc w24 w25 w26 w27 w28 w29 HO240 HO244 HB wc hcut
  clear HC23
  try clear c2
  try clear c8
  try clear c16
  obtain ⟨kq, x161_22, rfl, HA, HJ22, HO_23, HB⟩ := hcut
  cases kq with
  | zero => exact absurd HA.out (by simp [laws_FnDrillsMistakenOfAll.j1])
  | succ kj22 =>
   have H := HA.out
   clear HA
   simp only [laws_FnDrillsMistakenOfAll.j1] at H
   by_cases c40 : x161_22 = true
   ·
    subst c40
    have H1 : (some false) = some r := by rw [if_pos rfl] at H; exact H
    clear H
    have H := H1
    clear H1
    exact absurd (H.trans (congrArg some HE_.out)) (by simp)
   ·
    replace c40 := Bool.eq_false_iff.mpr c40
    subst c40
    have H1 : (if t234 = true then ((impl_FacingAfter.f kj22 a0 a1).bind fun bt250 => (if bt250.2 = true then (if (t233.size : Int) = (a0.size : Int) then (if (t245.size : Int) = (a0.size : Int) then ((laws_vRises.f kj22 t237).bind fun t252 => (if t252 = true then ((impl_AreMistakes.f kj22 (a0.size : Int) a1 l2).bind fun t253 => (laws_FnDrillsMistakenOfAll.j2 kj22 a0 l2 a3 a4 a5 a6 a7 l8 t233 t237 t245 bt250.1 (!t253))) else (laws_FnDrillsMistakenOfAll.j2 kj22 a0 l2 a3 a4 a5 a6 a7 l8 t233 t237 t245 bt250.1 true))) else (laws_FnDrillsMistakenOfAll.j2 kj22 a0 l2 a3 a4 a5 a6 a7 l8 t233 t237 t245 bt250.1 true)) else (laws_FnDrillsMistakenOfAll.j2 kj22 a0 l2 a3 a4 a5 a6 a7 l8 t233 t237 t245 bt250.1 true)) else (laws_FnDrillsMistakenOfAll.j2 kj22 a0 l2 a3 a4 a5 a6 a7 l8 t233 t237 t245 bt250.1 true))) else (laws_FnDrillsMistakenOfAll.j4 kj22 a3 a4 a5 a6 a7 l8)) = some r := by rw [if_neg (show ¬ (false = true) by decide)] at H; exact H
    clear H
    have H := H1
    clear H1
    have HC41 := Aside0.mk H
    clear H
    go_upto_if 162 with (fail)
    go_cut [] from 80 to 197 (fun wc => ∃ (kq : Nat), Aside0 (laws_FnDrillsMistakenOfAll.j4 kq a3 a4 a5 a6 a7 l8 = some r) ∧ Aside0 (kq ≤ kj22) ∧ Aside0 (Below w.heap.size w wc))
    case first =>
     -- part 5
     (repeat revert ‹World›)
     (repeat revert ‹Value›)
     (repeat revert ‹Nat → Act → World → Prop›)
     (repeat revert ‹Act → World → Prop›)
     (repeat revert ‹Int›)
     (repeat revert ‹Nat›)
     (repeat revert ‹Bool›)
     (repeat revert ‹List (List Int)›)
     (repeat revert ‹List Int›)
     (repeat revert ‹Addr›)
     (repeat revert ‹Option Addr›)
     (repeat revert ‹ByteArray›)
     (repeat revert ‹List ByteArray›)
     (repeat revert ‹List (S34)›)
     exact hole1.down
    case rest =>
     -- part 8
     (repeat revert ‹World›)
     (repeat revert ‹Value›)
     (repeat revert ‹Nat → Act → World → Prop›)
     (repeat revert ‹Act → World → Prop›)
     (repeat revert ‹Int›)
     (repeat revert ‹Nat›)
     (repeat revert ‹Bool›)
     (repeat revert ‹List (List Int)›)
     (repeat revert ‹List Int›)
     (repeat revert ‹Addr›)
     (repeat revert ‹Option Addr›)
     (repeat revert ‹ByteArray›)
     (repeat revert ‹List ByteArray›)
     (repeat revert ‹List (S34)›)
     exact hole2.down
end Go.Proofs.YtgdmbhldabeelaaRDoor.PFnDrillsMistakenOfAll
