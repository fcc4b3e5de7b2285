-- Written by a program of this session's (pg.py) over the kit's print.
import Derived.Test.YteekggogodjffaaPFnFormsLeftOfAllx0
import Derived.Test.YteekggogodjffaaPFnFormsLeftOfAllx1
import Derived.Test.YteekggogodjffaaPFnFormsLeftOfAllx3
import Derived.Test.YteekggogodjffaaPFnFormsLeftOfAllx4
import Derived.Test.YteekggogodjffaaPFnFormsLeftOfAllx5
import Derived.Test.YteekggogodjffaaPFnFormsLeftOfAllx6
import Derived.Deep.CutRange
namespace Go.Proofs.Yteekggogodjffaa.PFnFormsLeftOfAll
open Go.RowKit Go.Proofs.YteekggogodjffaaW.PrintWords Go.Proofs.YteekggogodjffaaW.PrintLast Go.Proofs.YteekggogodjffaaW.PrintMore
attribute [local go_sem] max2_int min2_int max_two min_two max_three min_three max_four min_four   -- for this text's walks alone
set_option linter.unusedVariables false
set_option linter.unusedSimpArgs false

set_option maxHeartbeats 8000000 in
set_option maxRecDepth 100000 in
theorem laws_FnFormsLeftOfAll.calls (k : Nat) (A0 : Option Addr) (c0 : Nat) (l0 : List Int) (A1 : Option Addr) (c1 : Nat) (l1 : List Int) (A2 : Option Addr) (c2 : Nat) (l2 : List Int) (A3 : Option Addr) (c3 : Nat) (l3 : List Int) (a4 : Int) (a5 : Int) (A6 : Option Addr) (c6 : Nat) (l6 : List Int) (a7 : Int) (a8 : Int) (r : Bool) (w : World) (hr0 : Kd.C (Kd.int .i64) w A0 l0.length l0) (hc0 : l0.length ≤ c0) (hr1 : Kd.C (Kd.int .i64) w A1 l1.length l1) (hc1 : l1.length ≤ c1) (hr2 : Kd.C (Kd.int .i64) w A2 l2.length l2) (hc2 : l2.length ≤ c2) (hr3 : Kd.C (Kd.int .i64) w A3 l3.length l3) (hc3 : l3.length ≤ c3) (hr6 : Kd.C (Kd.int .i64) w A6 l6.length l6) (hc6 : l6.length ≤ c6) (h : laws_FnFormsLeftOfAll.f k l0 l1 l2 l3 a4 a5 l6 a7 a8 = some r) (he_ : r = true) :
  Calls Try.prog 4 #[.slice A0 l0.length c0, .slice A1 l1.length c1, .slice A2 l2.length c2, .slice A3 l3.length c3, .int .i64 a4, .int .i64 a5, .slice A6 l6.length c6, .int .i64 a7, .int .i64 a8] w fun e w' => e = .returned (.bool r) ∧ Below w.heap.size w w' := by
 have HR0 := Aside0.mk hr0
 have HC0 := Aside0.mk hc0
 clear hr0 hc0
 have HR1 := Aside0.mk hr1
 have HC1 := Aside0.mk hc1
 clear hr1 hc1
 have HR2 := Aside0.mk hr2
 have HC2 := Aside0.mk hc2
 clear hr2 hc2
 have HR3 := Aside0.mk hr3
 have HC3 := Aside0.mk hc3
 clear hr3 hc3
 have HR6 := Aside0.mk hr6
 have HC6 := Aside0.mk hc6
 clear hr6 hc6
 have HB := Aside0.mk (Below.refl w.heap.size w)
 have H : (if (l0.length : Int) > 10000 then (laws_FnFormsLeftOfAll.j0 k l0 l1 l2 l3 a4 a5 l6 a7 a8 true) else (if (l1.length : Int) > 10000 then (laws_FnFormsLeftOfAll.j0 k l0 l1 l2 l3 a4 a5 l6 a7 a8 true) else (if (l2.length : Int) > 10000 then (laws_FnFormsLeftOfAll.j0 k l0 l1 l2 l3 a4 a5 l6 a7 a8 true) else (if (l3.length : Int) > 10000 then (laws_FnFormsLeftOfAll.j0 k l0 l1 l2 l3 a4 a5 l6 a7 a8 true) else (laws_FnFormsLeftOfAll.j0 k l0 l1 l2 l3 a4 a5 l6 a7 a8 (decide ((l6.length : Int) > 10000))))))) = some r := h
 clear h
 have HE_ := Aside0.mk he_
 clear he_
 have HC10 := Aside0.mk H
 clear H
 go_enter Try.func4, Try.ntmps4
 go_upto_region 1 with (fail)
 repeat (go_quiet (fail); go_upto_region 1 with (fail))
 go_cut [98] from 98 to 98 (fun v98 wc => ∃ (kq : Nat) (x98_9 : Bool), v98 = .bool x98_9 ∧ Aside0 (laws_FnFormsLeftOfAll.j0 kq l0 l1 l2 l3 a4 a5 l6 a7 a8 x98_9 = some r) ∧ Aside0 (kq ≤ k) ∧ Aside0 (Below w.heap.size w wc))
 case first => as_aux_lemma =>
  have H := HC10.out
  clear HC10
  by_cases c11 : (l0.length : Int) > 10000
  ·
   rw [if_pos c11] at H
   have c11b0 : decide (10000 < (l0.length : Int)) = true := decide_eq_true c11
   have c11b1 : decide (10000 < l0.length) = true := decide_eq_true (by omega)
   clear c11
   (first | rw [c11b0] | (simp only [i64_w, i32_w]; rw [c11b0]) | skip)
   have H' := Aside0.mk H
   clear H
   go_wp2
   repeat (go_quiet (fail); try go_wp2)
   go_meet
   case rel => exact ⟨_, (true), (by first | rfl | (simp; done) | (simp [*]; done)), H', ⟨by first | omega | exact Nat.le_refl _⟩, ⟨by repeat (first | (with_reducible first | exact HB.out | apply below_alloc | apply pw_below_drewN | apply below_drew1) | exact HB.out)⟩⟩
  ·
   rw [if_neg c11] at H
   have c11b0 : decide (10000 < (l0.length : Int)) = false := decide_eq_false c11
   have c11b1 : decide (10000 < l0.length) = false := decide_eq_false (by omega)
   clear c11
   (first | rw [c11b0] | (simp only [i64_w, i32_w]; rw [c11b0]) | skip)
   by_cases c12 : (l1.length : Int) > 10000
   ·
    rw [if_pos c12] at H
    have c12b0 : decide (10000 < (l1.length : Int)) = true := decide_eq_true c12
    have c12b1 : decide (10000 < l1.length) = true := decide_eq_true (by omega)
    clear c12
    have H' := Aside0.mk H
    clear H
    go_wp2
    repeat (go_quiet (fail); try go_wp2)
    go_meet
    case rel => exact ⟨_, (true), (by first | rfl | (simp; done) | (simp [*]; done)), H', ⟨by first | omega | exact Nat.le_refl _⟩, ⟨by repeat (first | (with_reducible first | exact HB.out | apply below_alloc | apply pw_below_drewN | apply below_drew1) | exact HB.out)⟩⟩
   ·
    rw [if_neg c12] at H
    have c12b0 : decide (10000 < (l1.length : Int)) = false := decide_eq_false c12
    have c12b1 : decide (10000 < l1.length) = false := decide_eq_false (by omega)
    clear c12
    by_cases c13 : (l2.length : Int) > 10000
    ·
     rw [if_pos c13] at H
     have c13b0 : decide (10000 < (l2.length : Int)) = true := decide_eq_true c13
     have c13b1 : decide (10000 < l2.length) = true := decide_eq_true (by omega)
     clear c13
     have H' := Aside0.mk H
     clear H
     go_wp2
     repeat (go_quiet (fail); try go_wp2)
     go_meet
     case rel => exact ⟨_, (true), (by first | rfl | (simp; done) | (simp [*]; done)), H', ⟨by first | omega | exact Nat.le_refl _⟩, ⟨by repeat (first | (with_reducible first | exact HB.out | apply below_alloc | apply pw_below_drewN | apply below_drew1) | exact HB.out)⟩⟩
    ·
     rw [if_neg c13] at H
     have c13b0 : decide (10000 < (l2.length : Int)) = false := decide_eq_false c13
     have c13b1 : decide (10000 < l2.length) = false := decide_eq_false (by omega)
     clear c13
     by_cases c14 : (l3.length : Int) > 10000
     ·
      rw [if_pos c14] at H
      have c14b0 : decide (10000 < (l3.length : Int)) = true := decide_eq_true c14
      have c14b1 : decide (10000 < l3.length) = true := decide_eq_true (by omega)
      clear c14
      have H' := Aside0.mk H
      clear H
      go_wp2
      repeat (go_quiet (fail); try go_wp2)
      go_meet
      case rel => exact ⟨_, (true), (by first | rfl | (simp; done) | (simp [*]; done)), H', ⟨by first | omega | exact Nat.le_refl _⟩, ⟨by repeat (first | (with_reducible first | exact HB.out | apply below_alloc | apply pw_below_drewN | apply below_drew1) | exact HB.out)⟩⟩
     ·
      rw [if_neg c14] at H
      have c14b0 : decide (10000 < (l3.length : Int)) = false := decide_eq_false c14
      have c14b1 : decide (10000 < l3.length) = false := decide_eq_false (by omega)
      clear c14
      have H' := Aside0.mk H
      clear H
      go_wp2
      repeat (go_quiet (fail); try go_wp2)
      go_meet
      case rel => exact ⟨_, (decide ((l6.length : Int) > 10000)), (by first | rfl | (simp; done) | (simp [*]; done)), H', ⟨by first | omega | exact Nat.le_refl _⟩, ⟨by repeat (first | (with_reducible first | exact HB.out | apply below_alloc | apply pw_below_drewN | apply below_drew1) | exact HB.out)⟩⟩
 case rest => as_aux_lemma =>
  clear HC10
  try clear c1
  try clear c2
  try clear c3
  try clear c6
  obtain ⟨kq, x98_9, rfl, HA, HJ9, HB⟩ := hcut
  cases kq with
  | zero => exact absurd HA.out (by simp [laws_FnFormsLeftOfAll.j0])
  | succ kj9 =>
   have H := HA.out
   clear HA
   simp only [laws_FnFormsLeftOfAll.j0] at H
   by_cases c15 : x98_9 = true
   ·
    subst c15
    have H1 : (some true) = some r := by rw [if_pos rfl] at H; exact H
    clear H
    have H := H1
    clear H1
    obtain rfl := Option.some.inj H
    go_wp2
    repeat (go_quiet (fail); try go_wp2)
    go_ret
    exact ⟨by first | rfl | (simp [errW_none, errW_some] <;> rfl) | (simp [*, errW_none, errW_some] <;> rfl), by repeat (first | (with_reducible first | exact HB.out | apply below_alloc | apply pw_below_drewN | apply below_drew1) | exact HB.out)⟩
   ·
    replace c15 := Bool.eq_false_iff.mpr c15
    subst c15
    have H1 : ((impl_LeastWith.f kj9 l0 l1).bind fun bt215 => ((spec_LeastWith.f kj9 l0 l1).bind fun bt217 => ((impl_CanBeLeft.f kj9 l0 l1).bind fun bt219 => ((spec_CanBeLeft.f kj9 l0 l1).bind fun bt221 => ((impl_StepOf.f kj9 l0).bind fun bt223 => ((spec_StepOf.f kj9 l0).bind fun bt225 => (if (bt215.2 != bt217.2) = true then (laws_FnFormsLeftOfAll.j1 kj9 l0 l1 l2 l3 a4 a5 l6 a7 a8 bt215.1 bt215.2 bt223.1 bt223.2 true) else (if bt215.1 = bt217.1 then (if (bt219.2 != bt221.2) = true then (laws_FnFormsLeftOfAll.j1 kj9 l0 l1 l2 l3 a4 a5 l6 a7 a8 bt215.1 bt215.2 bt223.1 bt223.2 true) else (if (bt219.1 != bt221.1) = true then (laws_FnFormsLeftOfAll.j1 kj9 l0 l1 l2 l3 a4 a5 l6 a7 a8 bt215.1 bt215.2 bt223.1 bt223.2 true) else (if (bt223.2 != bt225.2) = true then (laws_FnFormsLeftOfAll.j1 kj9 l0 l1 l2 l3 a4 a5 l6 a7 a8 bt215.1 bt215.2 bt223.1 bt223.2 true) else (if bt223.1 = bt225.1 then (if bt219.2 = true then (laws_FnFormsLeftOfAll.j1 kj9 l0 l1 l2 l3 a4 a5 l6 a7 a8 bt215.1 bt215.2 bt223.1 bt223.2 (bt215.2 != bt219.1)) else (laws_FnFormsLeftOfAll.j1 kj9 l0 l1 l2 l3 a4 a5 l6 a7 a8 bt215.1 bt215.2 bt223.1 bt223.2 (bt215.2 != false))) else (laws_FnFormsLeftOfAll.j1 kj9 l0 l1 l2 l3 a4 a5 l6 a7 a8 bt215.1 bt215.2 bt223.1 bt223.2 true))))) else (laws_FnFormsLeftOfAll.j1 kj9 l0 l1 l2 l3 a4 a5 l6 a7 a8 bt215.1 bt215.2 bt223.1 bt223.2 true))))))))) = some r := by rw [if_neg (show ¬ (false = true) by decide)] at H; exact H
    clear H
    have H := H1
    clear H1
    replace H := Option.bind_eq_some_iff.mp H
    obtain ⟨⟨t215, t216⟩, A160, H⟩ := H
    replace H : ((spec_LeastWith.f kj9 l0 l1).bind fun bt217 => ((impl_CanBeLeft.f kj9 l0 l1).bind fun bt219 => ((spec_CanBeLeft.f kj9 l0 l1).bind fun bt221 => ((impl_StepOf.f kj9 l0).bind fun bt223 => ((spec_StepOf.f kj9 l0).bind fun bt225 => (if (t216 != bt217.2) = true then (laws_FnFormsLeftOfAll.j1 kj9 l0 l1 l2 l3 a4 a5 l6 a7 a8 t215 t216 bt223.1 bt223.2 true) else (if t215 = bt217.1 then (if (bt219.2 != bt221.2) = true then (laws_FnFormsLeftOfAll.j1 kj9 l0 l1 l2 l3 a4 a5 l6 a7 a8 t215 t216 bt223.1 bt223.2 true) else (if (bt219.1 != bt221.1) = true then (laws_FnFormsLeftOfAll.j1 kj9 l0 l1 l2 l3 a4 a5 l6 a7 a8 t215 t216 bt223.1 bt223.2 true) else (if (bt223.2 != bt225.2) = true then (laws_FnFormsLeftOfAll.j1 kj9 l0 l1 l2 l3 a4 a5 l6 a7 a8 t215 t216 bt223.1 bt223.2 true) else (if bt223.1 = bt225.1 then (if bt219.2 = true then (laws_FnFormsLeftOfAll.j1 kj9 l0 l1 l2 l3 a4 a5 l6 a7 a8 t215 t216 bt223.1 bt223.2 (t216 != bt219.1)) else (laws_FnFormsLeftOfAll.j1 kj9 l0 l1 l2 l3 a4 a5 l6 a7 a8 t215 t216 bt223.1 bt223.2 (t216 != false))) else (laws_FnFormsLeftOfAll.j1 kj9 l0 l1 l2 l3 a4 a5 l6 a7 a8 t215 t216 bt223.1 bt223.2 true))))) else (laws_FnFormsLeftOfAll.j1 kj9 l0 l1 l2 l3 a4 a5 l6 a7 a8 t215 t216 bt223.1 bt223.2 true)))))))) = some r := H
    have A16 := Aside0.mk A160
    clear A160
    replace H := Option.bind_eq_some_iff.mp H
    obtain ⟨⟨t217, t218⟩, A170, H⟩ := H
    replace H : ((impl_CanBeLeft.f kj9 l0 l1).bind fun bt219 => ((spec_CanBeLeft.f kj9 l0 l1).bind fun bt221 => ((impl_StepOf.f kj9 l0).bind fun bt223 => ((spec_StepOf.f kj9 l0).bind fun bt225 => (if (t216 != t218) = true then (laws_FnFormsLeftOfAll.j1 kj9 l0 l1 l2 l3 a4 a5 l6 a7 a8 t215 t216 bt223.1 bt223.2 true) else (if t215 = t217 then (if (bt219.2 != bt221.2) = true then (laws_FnFormsLeftOfAll.j1 kj9 l0 l1 l2 l3 a4 a5 l6 a7 a8 t215 t216 bt223.1 bt223.2 true) else (if (bt219.1 != bt221.1) = true then (laws_FnFormsLeftOfAll.j1 kj9 l0 l1 l2 l3 a4 a5 l6 a7 a8 t215 t216 bt223.1 bt223.2 true) else (if (bt223.2 != bt225.2) = true then (laws_FnFormsLeftOfAll.j1 kj9 l0 l1 l2 l3 a4 a5 l6 a7 a8 t215 t216 bt223.1 bt223.2 true) else (if bt223.1 = bt225.1 then (if bt219.2 = true then (laws_FnFormsLeftOfAll.j1 kj9 l0 l1 l2 l3 a4 a5 l6 a7 a8 t215 t216 bt223.1 bt223.2 (t216 != bt219.1)) else (laws_FnFormsLeftOfAll.j1 kj9 l0 l1 l2 l3 a4 a5 l6 a7 a8 t215 t216 bt223.1 bt223.2 (t216 != false))) else (laws_FnFormsLeftOfAll.j1 kj9 l0 l1 l2 l3 a4 a5 l6 a7 a8 t215 t216 bt223.1 bt223.2 true))))) else (laws_FnFormsLeftOfAll.j1 kj9 l0 l1 l2 l3 a4 a5 l6 a7 a8 t215 t216 bt223.1 bt223.2 true))))))) = some r := H
    have A17 := Aside0.mk A170
    clear A170
    replace H := Option.bind_eq_some_iff.mp H
    obtain ⟨⟨t219, t220⟩, A180, H⟩ := H
    replace H : ((spec_CanBeLeft.f kj9 l0 l1).bind fun bt221 => ((impl_StepOf.f kj9 l0).bind fun bt223 => ((spec_StepOf.f kj9 l0).bind fun bt225 => (if (t216 != t218) = true then (laws_FnFormsLeftOfAll.j1 kj9 l0 l1 l2 l3 a4 a5 l6 a7 a8 t215 t216 bt223.1 bt223.2 true) else (if t215 = t217 then (if (t220 != bt221.2) = true then (laws_FnFormsLeftOfAll.j1 kj9 l0 l1 l2 l3 a4 a5 l6 a7 a8 t215 t216 bt223.1 bt223.2 true) else (if (t219 != bt221.1) = true then (laws_FnFormsLeftOfAll.j1 kj9 l0 l1 l2 l3 a4 a5 l6 a7 a8 t215 t216 bt223.1 bt223.2 true) else (if (bt223.2 != bt225.2) = true then (laws_FnFormsLeftOfAll.j1 kj9 l0 l1 l2 l3 a4 a5 l6 a7 a8 t215 t216 bt223.1 bt223.2 true) else (if bt223.1 = bt225.1 then (if t220 = true then (laws_FnFormsLeftOfAll.j1 kj9 l0 l1 l2 l3 a4 a5 l6 a7 a8 t215 t216 bt223.1 bt223.2 (t216 != t219)) else (laws_FnFormsLeftOfAll.j1 kj9 l0 l1 l2 l3 a4 a5 l6 a7 a8 t215 t216 bt223.1 bt223.2 (t216 != false))) else (laws_FnFormsLeftOfAll.j1 kj9 l0 l1 l2 l3 a4 a5 l6 a7 a8 t215 t216 bt223.1 bt223.2 true))))) else (laws_FnFormsLeftOfAll.j1 kj9 l0 l1 l2 l3 a4 a5 l6 a7 a8 t215 t216 bt223.1 bt223.2 true)))))) = some r := H
    have A18 := Aside0.mk A180
    clear A180
    replace H := Option.bind_eq_some_iff.mp H
    obtain ⟨⟨t221, t222⟩, A190, H⟩ := H
    replace H : ((impl_StepOf.f kj9 l0).bind fun bt223 => ((spec_StepOf.f kj9 l0).bind fun bt225 => (if (t216 != t218) = true then (laws_FnFormsLeftOfAll.j1 kj9 l0 l1 l2 l3 a4 a5 l6 a7 a8 t215 t216 bt223.1 bt223.2 true) else (if t215 = t217 then (if (t220 != t222) = true then (laws_FnFormsLeftOfAll.j1 kj9 l0 l1 l2 l3 a4 a5 l6 a7 a8 t215 t216 bt223.1 bt223.2 true) else (if (t219 != t221) = true then (laws_FnFormsLeftOfAll.j1 kj9 l0 l1 l2 l3 a4 a5 l6 a7 a8 t215 t216 bt223.1 bt223.2 true) else (if (bt223.2 != bt225.2) = true then (laws_FnFormsLeftOfAll.j1 kj9 l0 l1 l2 l3 a4 a5 l6 a7 a8 t215 t216 bt223.1 bt223.2 true) else (if bt223.1 = bt225.1 then (if t220 = true then (laws_FnFormsLeftOfAll.j1 kj9 l0 l1 l2 l3 a4 a5 l6 a7 a8 t215 t216 bt223.1 bt223.2 (t216 != t219)) else (laws_FnFormsLeftOfAll.j1 kj9 l0 l1 l2 l3 a4 a5 l6 a7 a8 t215 t216 bt223.1 bt223.2 (t216 != false))) else (laws_FnFormsLeftOfAll.j1 kj9 l0 l1 l2 l3 a4 a5 l6 a7 a8 t215 t216 bt223.1 bt223.2 true))))) else (laws_FnFormsLeftOfAll.j1 kj9 l0 l1 l2 l3 a4 a5 l6 a7 a8 t215 t216 bt223.1 bt223.2 true))))) = some r := H
    have A19 := Aside0.mk A190
    clear A190
    replace H := Option.bind_eq_some_iff.mp H
    obtain ⟨⟨t223, t224⟩, A200, H⟩ := H
    replace H : ((spec_StepOf.f kj9 l0).bind fun bt225 => (if (t216 != t218) = true then (laws_FnFormsLeftOfAll.j1 kj9 l0 l1 l2 l3 a4 a5 l6 a7 a8 t215 t216 t223 t224 true) else (if t215 = t217 then (if (t220 != t222) = true then (laws_FnFormsLeftOfAll.j1 kj9 l0 l1 l2 l3 a4 a5 l6 a7 a8 t215 t216 t223 t224 true) else (if (t219 != t221) = true then (laws_FnFormsLeftOfAll.j1 kj9 l0 l1 l2 l3 a4 a5 l6 a7 a8 t215 t216 t223 t224 true) else (if (t224 != bt225.2) = true then (laws_FnFormsLeftOfAll.j1 kj9 l0 l1 l2 l3 a4 a5 l6 a7 a8 t215 t216 t223 t224 true) else (if t223 = bt225.1 then (if t220 = true then (laws_FnFormsLeftOfAll.j1 kj9 l0 l1 l2 l3 a4 a5 l6 a7 a8 t215 t216 t223 t224 (t216 != t219)) else (laws_FnFormsLeftOfAll.j1 kj9 l0 l1 l2 l3 a4 a5 l6 a7 a8 t215 t216 t223 t224 (t216 != false))) else (laws_FnFormsLeftOfAll.j1 kj9 l0 l1 l2 l3 a4 a5 l6 a7 a8 t215 t216 t223 t224 true))))) else (laws_FnFormsLeftOfAll.j1 kj9 l0 l1 l2 l3 a4 a5 l6 a7 a8 t215 t216 t223 t224 true)))) = some r := H
    have A20 := Aside0.mk A200
    clear A200
    replace H := Option.bind_eq_some_iff.mp H
    obtain ⟨⟨t225, t226⟩, A210, H⟩ := H
    replace H : (if (t216 != t218) = true then (laws_FnFormsLeftOfAll.j1 kj9 l0 l1 l2 l3 a4 a5 l6 a7 a8 t215 t216 t223 t224 true) else (if t215 = t217 then (if (t220 != t222) = true then (laws_FnFormsLeftOfAll.j1 kj9 l0 l1 l2 l3 a4 a5 l6 a7 a8 t215 t216 t223 t224 true) else (if (t219 != t221) = true then (laws_FnFormsLeftOfAll.j1 kj9 l0 l1 l2 l3 a4 a5 l6 a7 a8 t215 t216 t223 t224 true) else (if (t224 != t226) = true then (laws_FnFormsLeftOfAll.j1 kj9 l0 l1 l2 l3 a4 a5 l6 a7 a8 t215 t216 t223 t224 true) else (if t223 = t225 then (if t220 = true then (laws_FnFormsLeftOfAll.j1 kj9 l0 l1 l2 l3 a4 a5 l6 a7 a8 t215 t216 t223 t224 (t216 != t219)) else (laws_FnFormsLeftOfAll.j1 kj9 l0 l1 l2 l3 a4 a5 l6 a7 a8 t215 t216 t223 t224 (t216 != false))) else (laws_FnFormsLeftOfAll.j1 kj9 l0 l1 l2 l3 a4 a5 l6 a7 a8 t215 t216 t223 t224 true))))) else (laws_FnFormsLeftOfAll.j1 kj9 l0 l1 l2 l3 a4 a5 l6 a7 a8 t215 t216 t223 t224 true))) = some r := H
    have A21 := Aside0.mk A210
    clear A210
    have HC22 := Aside0.mk H
    clear H
    go_upto_region 9 with (first | (go_at_call 11; (with_reducible refine (impl_LeastWith.calls kj9 _ _ l0 _ _ l1 t215 t216 _ ?side1 ?side2 ?side3 ?side4 A16.out).mono ?_); (case side1 => repeat (first | exact (Kd.C_below HR0.out HB.out) | (with_reducible refine Kd.C_alloc ?_ _) | (with_reducible refine Kd.C_drewN ?_ _) | (with_reducible refine Kd.C_drew ?_))); (case side2 => exact HC0.out); (case side3 => repeat (first | exact (Kd.C_below HR1.out HB.out) | (with_reducible refine Kd.C_alloc ?_ _) | (with_reducible refine Kd.C_drewN ?_ _) | (with_reducible refine Kd.C_drew ?_))); (case side4 => exact HC1.out); rintro e w' ⟨rfl, ⟨nd, rfl⟩⟩; (try first | exact ⟨rfl, _, World.drewN_drewN _ _ _⟩ | exact ⟨rfl, _, Eq.trans (World.drewN_drewN _ _ _) (congrArg (World.drewN _) (Nat.add_assoc _ _ _))⟩)) | (go_at_call 12; (with_reducible refine (spec_LeastWith.calls kj9 _ _ l0 _ _ l1 t217 t218 _ ?side1 ?side2 ?side3 ?side4 A17.out).mono ?_); (case side1 => repeat (first | exact (Kd.C_below HR0.out (by repeat (first | (with_reducible first | exact HB.out | apply below_alloc | apply pw_below_drewN | apply below_drew1) | exact HB.out))) | (with_reducible refine Kd.C_alloc ?_ _) | (with_reducible refine Kd.C_drewN ?_ _) | (with_reducible refine Kd.C_drew ?_))); (case side2 => exact HC0.out); (case side3 => repeat (first | exact (Kd.C_below HR1.out (by repeat (first | (with_reducible first | exact HB.out | apply below_alloc | apply pw_below_drewN | apply below_drew1) | exact HB.out))) | (with_reducible refine Kd.C_alloc ?_ _) | (with_reducible refine Kd.C_drewN ?_ _) | (with_reducible refine Kd.C_drew ?_))); (case side4 => exact HC1.out); rintro e w' ⟨rfl, ⟨nd, rfl⟩⟩; (try first | exact ⟨rfl, _, World.drewN_drewN _ _ _⟩ | exact ⟨rfl, _, Eq.trans (World.drewN_drewN _ _ _) (congrArg (World.drewN _) (Nat.add_assoc _ _ _))⟩)) | (go_at_call 13; (with_reducible refine (impl_CanBeLeft.calls kj9 _ _ l0 _ _ l1 t219 t220 _ ?side1 ?side2 ?side3 ?side4 A18.out).mono ?_); (case side1 => repeat (first | exact (Kd.C_below HR0.out (by repeat (first | (with_reducible first | exact HB.out | apply below_alloc | apply pw_below_drewN | apply below_drew1) | exact HB.out))) | (with_reducible refine Kd.C_alloc ?_ _) | (with_reducible refine Kd.C_drewN ?_ _) | (with_reducible refine Kd.C_drew ?_))); (case side2 => exact HC0.out); (case side3 => repeat (first | exact (Kd.C_below HR1.out (by repeat (first | (with_reducible first | exact HB.out | apply below_alloc | apply pw_below_drewN | apply below_drew1) | exact HB.out))) | (with_reducible refine Kd.C_alloc ?_ _) | (with_reducible refine Kd.C_drewN ?_ _) | (with_reducible refine Kd.C_drew ?_))); (case side4 => exact HC1.out); rintro e w' ⟨rfl, ⟨nd, rfl⟩⟩; (try first | exact ⟨rfl, _, World.drewN_drewN _ _ _⟩ | exact ⟨rfl, _, Eq.trans (World.drewN_drewN _ _ _) (congrArg (World.drewN _) (Nat.add_assoc _ _ _))⟩)) | (go_at_call 14; (with_reducible refine (spec_CanBeLeft.calls kj9 _ _ l0 _ _ l1 t221 t222 _ ?side1 ?side2 ?side3 ?side4 A19.out).mono ?_); (case side1 => repeat (first | exact (Kd.C_below HR0.out (by repeat (first | (with_reducible first | exact HB.out | apply below_alloc | apply pw_below_drewN | apply below_drew1) | exact HB.out))) | (with_reducible refine Kd.C_alloc ?_ _) | (with_reducible refine Kd.C_drewN ?_ _) | (with_reducible refine Kd.C_drew ?_))); (case side2 => exact HC0.out); (case side3 => repeat (first | exact (Kd.C_below HR1.out (by repeat (first | (with_reducible first | exact HB.out | apply below_alloc | apply pw_below_drewN | apply below_drew1) | exact HB.out))) | (with_reducible refine Kd.C_alloc ?_ _) | (with_reducible refine Kd.C_drewN ?_ _) | (with_reducible refine Kd.C_drew ?_))); (case side4 => exact HC1.out); rintro e w' ⟨rfl, ⟨nd, rfl⟩⟩; (try first | exact ⟨rfl, _, World.drewN_drewN _ _ _⟩ | exact ⟨rfl, _, Eq.trans (World.drewN_drewN _ _ _) (congrArg (World.drewN _) (Nat.add_assoc _ _ _))⟩)) | (go_at_call 15; (with_reducible refine (impl_StepOf.calls kj9 _ _ l0 t223 t224 _ ?side1 ?side2 A20.out).mono ?_); (case side1 => repeat (first | exact (Kd.C_below HR0.out (by repeat (first | (with_reducible first | exact HB.out | apply below_alloc | apply pw_below_drewN | apply below_drew1) | exact HB.out))) | (with_reducible refine Kd.C_alloc ?_ _) | (with_reducible refine Kd.C_drewN ?_ _) | (with_reducible refine Kd.C_drew ?_))); (case side2 => exact HC0.out); rintro e w23 ⟨rfl, hb⟩; have n0_ := Aside0.mk (below_step (by repeat (first | (with_reducible first | exact HB.out | apply below_alloc | apply pw_below_drewN | apply below_drew1) | exact HB.out)) hb); clear HB; have HB := n0_; clear n0_; (try clear hb); (try clear hb2); (try clear hk); (try clear hi)) | (go_at_call 16; (with_reducible refine (spec_StepOf.calls kj9 _ _ l0 t225 t226 _ ?side1 ?side2 A21.out).mono ?_); (case side1 => repeat (first | exact (Kd.C_below HR0.out HB.out) | (with_reducible refine Kd.C_alloc ?_ _) | (with_reducible refine Kd.C_drewN ?_ _) | (with_reducible refine Kd.C_drew ?_))); (case side2 => exact HC0.out); rintro e w' ⟨rfl, ⟨nd, rfl⟩⟩; (try first | exact ⟨rfl, _, World.drewN_drewN _ _ _⟩ | exact ⟨rfl, _, Eq.trans (World.drewN_drewN _ _ _) (congrArg (World.drewN _) (Nat.add_assoc _ _ _))⟩)))
    repeat (go_quiet (first | (go_at_call 11; (with_reducible refine (impl_LeastWith.calls kj9 _ _ l0 _ _ l1 t215 t216 _ ?side1 ?side2 ?side3 ?side4 A16.out).mono ?_); (case side1 => repeat (first | exact (Kd.C_below HR0.out HB.out) | (with_reducible refine Kd.C_alloc ?_ _) | (with_reducible refine Kd.C_drewN ?_ _) | (with_reducible refine Kd.C_drew ?_))); (case side2 => exact HC0.out); (case side3 => repeat (first | exact (Kd.C_below HR1.out HB.out) | (with_reducible refine Kd.C_alloc ?_ _) | (with_reducible refine Kd.C_drewN ?_ _) | (with_reducible refine Kd.C_drew ?_))); (case side4 => exact HC1.out); rintro e w' ⟨rfl, ⟨nd, rfl⟩⟩; (try first | exact ⟨rfl, _, World.drewN_drewN _ _ _⟩ | exact ⟨rfl, _, Eq.trans (World.drewN_drewN _ _ _) (congrArg (World.drewN _) (Nat.add_assoc _ _ _))⟩)) | (go_at_call 12; (with_reducible refine (spec_LeastWith.calls kj9 _ _ l0 _ _ l1 t217 t218 _ ?side1 ?side2 ?side3 ?side4 A17.out).mono ?_); (case side1 => repeat (first | exact (Kd.C_below HR0.out (by repeat (first | (with_reducible first | exact HB.out | apply below_alloc | apply pw_below_drewN | apply below_drew1) | exact HB.out))) | (with_reducible refine Kd.C_alloc ?_ _) | (with_reducible refine Kd.C_drewN ?_ _) | (with_reducible refine Kd.C_drew ?_))); (case side2 => exact HC0.out); (case side3 => repeat (first | exact (Kd.C_below HR1.out (by repeat (first | (with_reducible first | exact HB.out | apply below_alloc | apply pw_below_drewN | apply below_drew1) | exact HB.out))) | (with_reducible refine Kd.C_alloc ?_ _) | (with_reducible refine Kd.C_drewN ?_ _) | (with_reducible refine Kd.C_drew ?_))); (case side4 => exact HC1.out); rintro e w' ⟨rfl, ⟨nd, rfl⟩⟩; (try first | exact ⟨rfl, _, World.drewN_drewN _ _ _⟩ | exact ⟨rfl, _, Eq.trans (World.drewN_drewN _ _ _) (congrArg (World.drewN _) (Nat.add_assoc _ _ _))⟩)) | (go_at_call 13; (with_reducible refine (impl_CanBeLeft.calls kj9 _ _ l0 _ _ l1 t219 t220 _ ?side1 ?side2 ?side3 ?side4 A18.out).mono ?_); (case side1 => repeat (first | exact (Kd.C_below HR0.out (by repeat (first | (with_reducible first | exact HB.out | apply below_alloc | apply pw_below_drewN | apply below_drew1) | exact HB.out))) | (with_reducible refine Kd.C_alloc ?_ _) | (with_reducible refine Kd.C_drewN ?_ _) | (with_reducible refine Kd.C_drew ?_))); (case side2 => exact HC0.out); (case side3 => repeat (first | exact (Kd.C_below HR1.out (by repeat (first | (with_reducible first | exact HB.out | apply below_alloc | apply pw_below_drewN | apply below_drew1) | exact HB.out))) | (with_reducible refine Kd.C_alloc ?_ _) | (with_reducible refine Kd.C_drewN ?_ _) | (with_reducible refine Kd.C_drew ?_))); (case side4 => exact HC1.out); rintro e w' ⟨rfl, ⟨nd, rfl⟩⟩; (try first | exact ⟨rfl, _, World.drewN_drewN _ _ _⟩ | exact ⟨rfl, _, Eq.trans (World.drewN_drewN _ _ _) (congrArg (World.drewN _) (Nat.add_assoc _ _ _))⟩)) | (go_at_call 14; (with_reducible refine (spec_CanBeLeft.calls kj9 _ _ l0 _ _ l1 t221 t222 _ ?side1 ?side2 ?side3 ?side4 A19.out).mono ?_); (case side1 => repeat (first | exact (Kd.C_below HR0.out (by repeat (first | (with_reducible first | exact HB.out | apply below_alloc | apply pw_below_drewN | apply below_drew1) | exact HB.out))) | (with_reducible refine Kd.C_alloc ?_ _) | (with_reducible refine Kd.C_drewN ?_ _) | (with_reducible refine Kd.C_drew ?_))); (case side2 => exact HC0.out); (case side3 => repeat (first | exact (Kd.C_below HR1.out (by repeat (first | (with_reducible first | exact HB.out | apply below_alloc | apply pw_below_drewN | apply below_drew1) | exact HB.out))) | (with_reducible refine Kd.C_alloc ?_ _) | (with_reducible refine Kd.C_drewN ?_ _) | (with_reducible refine Kd.C_drew ?_))); (case side4 => exact HC1.out); rintro e w' ⟨rfl, ⟨nd, rfl⟩⟩; (try first | exact ⟨rfl, _, World.drewN_drewN _ _ _⟩ | exact ⟨rfl, _, Eq.trans (World.drewN_drewN _ _ _) (congrArg (World.drewN _) (Nat.add_assoc _ _ _))⟩)) | (go_at_call 15; (with_reducible refine (impl_StepOf.calls kj9 _ _ l0 t223 t224 _ ?side1 ?side2 A20.out).mono ?_); (case side1 => repeat (first | exact (Kd.C_below HR0.out (by repeat (first | (with_reducible first | exact HB.out | apply below_alloc | apply pw_below_drewN | apply below_drew1) | exact HB.out))) | (with_reducible refine Kd.C_alloc ?_ _) | (with_reducible refine Kd.C_drewN ?_ _) | (with_reducible refine Kd.C_drew ?_))); (case side2 => exact HC0.out); rintro e w23 ⟨rfl, hb⟩; have n0_ := Aside0.mk (below_step (by repeat (first | (with_reducible first | exact HB.out | apply below_alloc | apply pw_below_drewN | apply below_drew1) | exact HB.out)) hb); clear HB; have HB := n0_; clear n0_; (try clear hb); (try clear hb2); (try clear hk); (try clear hi)) | (go_at_call 16; (with_reducible refine (spec_StepOf.calls kj9 _ _ l0 t225 t226 _ ?side1 ?side2 A21.out).mono ?_); (case side1 => repeat (first | exact (Kd.C_below HR0.out HB.out) | (with_reducible refine Kd.C_alloc ?_ _) | (with_reducible refine Kd.C_drewN ?_ _) | (with_reducible refine Kd.C_drew ?_))); (case side2 => exact HC0.out); rintro e w' ⟨rfl, ⟨nd, rfl⟩⟩; (try first | exact ⟨rfl, _, World.drewN_drewN _ _ _⟩ | exact ⟨rfl, _, Eq.trans (World.drewN_drewN _ _ _) (congrArg (World.drewN _) (Nat.add_assoc _ _ _))⟩))); go_upto_region 9 with (first | (go_at_call 11; (with_reducible refine (impl_LeastWith.calls kj9 _ _ l0 _ _ l1 t215 t216 _ ?side1 ?side2 ?side3 ?side4 A16.out).mono ?_); (case side1 => repeat (first | exact (Kd.C_below HR0.out HB.out) | (with_reducible refine Kd.C_alloc ?_ _) | (with_reducible refine Kd.C_drewN ?_ _) | (with_reducible refine Kd.C_drew ?_))); (case side2 => exact HC0.out); (case side3 => repeat (first | exact (Kd.C_below HR1.out HB.out) | (with_reducible refine Kd.C_alloc ?_ _) | (with_reducible refine Kd.C_drewN ?_ _) | (with_reducible refine Kd.C_drew ?_))); (case side4 => exact HC1.out); rintro e w' ⟨rfl, ⟨nd, rfl⟩⟩; (try first | exact ⟨rfl, _, World.drewN_drewN _ _ _⟩ | exact ⟨rfl, _, Eq.trans (World.drewN_drewN _ _ _) (congrArg (World.drewN _) (Nat.add_assoc _ _ _))⟩)) | (go_at_call 12; (with_reducible refine (spec_LeastWith.calls kj9 _ _ l0 _ _ l1 t217 t218 _ ?side1 ?side2 ?side3 ?side4 A17.out).mono ?_); (case side1 => repeat (first | exact (Kd.C_below HR0.out (by repeat (first | (with_reducible first | exact HB.out | apply below_alloc | apply pw_below_drewN | apply below_drew1) | exact HB.out))) | (with_reducible refine Kd.C_alloc ?_ _) | (with_reducible refine Kd.C_drewN ?_ _) | (with_reducible refine Kd.C_drew ?_))); (case side2 => exact HC0.out); (case side3 => repeat (first | exact (Kd.C_below HR1.out (by repeat (first | (with_reducible first | exact HB.out | apply below_alloc | apply pw_below_drewN | apply below_drew1) | exact HB.out))) | (with_reducible refine Kd.C_alloc ?_ _) | (with_reducible refine Kd.C_drewN ?_ _) | (with_reducible refine Kd.C_drew ?_))); (case side4 => exact HC1.out); rintro e w' ⟨rfl, ⟨nd, rfl⟩⟩; (try first | exact ⟨rfl, _, World.drewN_drewN _ _ _⟩ | exact ⟨rfl, _, Eq.trans (World.drewN_drewN _ _ _) (congrArg (World.drewN _) (Nat.add_assoc _ _ _))⟩)) | (go_at_call 13; (with_reducible refine (impl_CanBeLeft.calls kj9 _ _ l0 _ _ l1 t219 t220 _ ?side1 ?side2 ?side3 ?side4 A18.out).mono ?_); (case side1 => repeat (first | exact (Kd.C_below HR0.out (by repeat (first | (with_reducible first | exact HB.out | apply below_alloc | apply pw_below_drewN | apply below_drew1) | exact HB.out))) | (with_reducible refine Kd.C_alloc ?_ _) | (with_reducible refine Kd.C_drewN ?_ _) | (with_reducible refine Kd.C_drew ?_))); (case side2 => exact HC0.out); (case side3 => repeat (first | exact (Kd.C_below HR1.out (by repeat (first | (with_reducible first | exact HB.out | apply below_alloc | apply pw_below_drewN | apply below_drew1) | exact HB.out))) | (with_reducible refine Kd.C_alloc ?_ _) | (with_reducible refine Kd.C_drewN ?_ _) | (with_reducible refine Kd.C_drew ?_))); (case side4 => exact HC1.out); rintro e w' ⟨rfl, ⟨nd, rfl⟩⟩; (try first | exact ⟨rfl, _, World.drewN_drewN _ _ _⟩ | exact ⟨rfl, _, Eq.trans (World.drewN_drewN _ _ _) (congrArg (World.drewN _) (Nat.add_assoc _ _ _))⟩)) | (go_at_call 14; (with_reducible refine (spec_CanBeLeft.calls kj9 _ _ l0 _ _ l1 t221 t222 _ ?side1 ?side2 ?side3 ?side4 A19.out).mono ?_); (case side1 => repeat (first | exact (Kd.C_below HR0.out (by repeat (first | (with_reducible first | exact HB.out | apply below_alloc | apply pw_below_drewN | apply below_drew1) | exact HB.out))) | (with_reducible refine Kd.C_alloc ?_ _) | (with_reducible refine Kd.C_drewN ?_ _) | (with_reducible refine Kd.C_drew ?_))); (case side2 => exact HC0.out); (case side3 => repeat (first | exact (Kd.C_below HR1.out (by repeat (first | (with_reducible first | exact HB.out | apply below_alloc | apply pw_below_drewN | apply below_drew1) | exact HB.out))) | (with_reducible refine Kd.C_alloc ?_ _) | (with_reducible refine Kd.C_drewN ?_ _) | (with_reducible refine Kd.C_drew ?_))); (case side4 => exact HC1.out); rintro e w' ⟨rfl, ⟨nd, rfl⟩⟩; (try first | exact ⟨rfl, _, World.drewN_drewN _ _ _⟩ | exact ⟨rfl, _, Eq.trans (World.drewN_drewN _ _ _) (congrArg (World.drewN _) (Nat.add_assoc _ _ _))⟩)) | (go_at_call 15; (with_reducible refine (impl_StepOf.calls kj9 _ _ l0 t223 t224 _ ?side1 ?side2 A20.out).mono ?_); (case side1 => repeat (first | exact (Kd.C_below HR0.out (by repeat (first | (with_reducible first | exact HB.out | apply below_alloc | apply pw_below_drewN | apply below_drew1) | exact HB.out))) | (with_reducible refine Kd.C_alloc ?_ _) | (with_reducible refine Kd.C_drewN ?_ _) | (with_reducible refine Kd.C_drew ?_))); (case side2 => exact HC0.out); rintro e w23 ⟨rfl, hb⟩; have n0_ := Aside0.mk (below_step (by repeat (first | (with_reducible first | exact HB.out | apply below_alloc | apply pw_below_drewN | apply below_drew1) | exact HB.out)) hb); clear HB; have HB := n0_; clear n0_; (try clear hb); (try clear hb2); (try clear hk); (try clear hi)) | (go_at_call 16; (with_reducible refine (spec_StepOf.calls kj9 _ _ l0 t225 t226 _ ?side1 ?side2 A21.out).mono ?_); (case side1 => repeat (first | exact (Kd.C_below HR0.out HB.out) | (with_reducible refine Kd.C_alloc ?_ _) | (with_reducible refine Kd.C_drewN ?_ _) | (with_reducible refine Kd.C_drew ?_))); (case side2 => exact HC0.out); rintro e w' ⟨rfl, ⟨nd, rfl⟩⟩; (try first | exact ⟨rfl, _, World.drewN_drewN _ _ _⟩ | exact ⟨rfl, _, Eq.trans (World.drewN_drewN _ _ _) (congrArg (World.drewN _) (Nat.add_assoc _ _ _))⟩))))
    (try simp only [Act.put, List.setIfInBounds_toArray, List.set_cons_zero, List.set_cons_succ])
    go_cut [168] from 98 to 168 (fun v168 wc => ∃ (kq : Nat) (x168_21 : Bool), v168 = .bool x168_21 ∧ Aside0 (laws_FnFormsLeftOfAll.j1 kq l0 l1 l2 l3 a4 a5 l6 a7 a8 t215 t216 t223 t224 x168_21 = some r) ∧ Aside0 (kq ≤ kj9) ∧ Aside0 (Below w.heap.size w wc))
    case first => as_aux_lemma =>
     have H := HC22.out
     clear HC22
     by_cases c24 : (t216 != t218) = true
     ·
      rw [if_pos c24] at H
      exact (laws_FnFormsLeftOfAll.j1_no _ _ _ _ _ _ _ _ _ _ _ _ _ _ (H.trans (congrArg some HE_.out))).elim
     ·
      rw [if_neg c24] at H
      have c24b0 : (t216 != t218) = false := by simpa using c24
      (try (have c24b1 : decide (t216 = t218) = true := by simpa using c24))
      (try (have c24b2 : (t216 == t218) = true := by simpa using c24))
      clear c24
      (first | rw [c24b0] | (simp only [i64_w, i32_w]; rw [c24b0]) | skip)
      by_cases c25 : t215 = t217
      ·
       rw [if_pos c25] at H
       have c25b0 : (t215 == t217) = true := beq_iff_eq.mpr c25
       have c25b1 : (t215 != t217) = false := bne_eq_false_iff_eq.mpr c25
       clear c25
       by_cases c26 : (t220 != t222) = true
       ·
        rw [if_pos c26] at H
        exact (laws_FnFormsLeftOfAll.j1_no _ _ _ _ _ _ _ _ _ _ _ _ _ _ (H.trans (congrArg some HE_.out))).elim
       ·
        rw [if_neg c26] at H
        have c26b0 : (t220 != t222) = false := by simpa using c26
        (try (have c26b1 : decide (t220 = t222) = true := by simpa using c26))
        (try (have c26b2 : (t220 == t222) = true := by simpa using c26))
        clear c26
        by_cases c27 : (t219 != t221) = true
        ·
         rw [if_pos c27] at H
         exact (laws_FnFormsLeftOfAll.j1_no _ _ _ _ _ _ _ _ _ _ _ _ _ _ (H.trans (congrArg some HE_.out))).elim
        ·
         rw [if_neg c27] at H
         have c27b0 : (t219 != t221) = false := by simpa using c27
         (try (have c27b1 : decide (t219 = t221) = true := by simpa using c27))
         (try (have c27b2 : (t219 == t221) = true := by simpa using c27))
         clear c27
         by_cases c28 : (t224 != t226) = true
         ·
          rw [if_pos c28] at H
          exact (laws_FnFormsLeftOfAll.j1_no _ _ _ _ _ _ _ _ _ _ _ _ _ _ (H.trans (congrArg some HE_.out))).elim
         ·
          rw [if_neg c28] at H
          have c28b0 : (t224 != t226) = false := by simpa using c28
          (try (have c28b1 : decide (t224 = t226) = true := by simpa using c28))
          (try (have c28b2 : (t224 == t226) = true := by simpa using c28))
          clear c28
          by_cases c29 : t223 = t225
          ·
           rw [if_pos c29] at H
           have c29b0 : (t223 == t225) = true := beq_iff_eq.mpr c29
           have c29b1 : (t223 != t225) = false := bne_eq_false_iff_eq.mpr c29
           clear c29
           by_cases c30 : t220 = true
           ·
            subst c30
            have H1 : (laws_FnFormsLeftOfAll.j1 kj9 l0 l1 l2 l3 a4 a5 l6 a7 a8 t215 t216 t223 t224 (t216 != t219)) = some r := by rw [if_pos rfl] at H; exact H
            clear H
            have H := H1
            clear H1
            have H' := Aside0.mk H
            clear H
            go_wp2
            repeat (go_quiet (fail); try go_wp2)
            go_meet
            case rel => exact ⟨_, ((t216 != t219)), (by first | rfl | (simp; done) | (simp [*]; done)), H', ⟨by have := HJ9.out; first | omega | exact Nat.le_refl _⟩, ⟨by repeat (first | (with_reducible first | exact HB.out | apply below_alloc | apply pw_below_drewN | apply below_drew1) | exact HB.out)⟩⟩
           ·
            replace c30 := Bool.eq_false_iff.mpr c30
            subst c30
            have H1 : (laws_FnFormsLeftOfAll.j1 kj9 l0 l1 l2 l3 a4 a5 l6 a7 a8 t215 t216 t223 t224 (t216 != false)) = some r := by rw [if_neg (show ¬ (false = true) by decide)] at H; exact H
            clear H
            have H := H1
            clear H1
            have H' := Aside0.mk H
            clear H
            go_wp2
            repeat (go_quiet (fail); try go_wp2)
            go_meet
            case rel => exact ⟨_, ((t216 != false)), (by first | rfl | (simp; done) | (simp [*]; done)), H', ⟨by have := HJ9.out; first | omega | exact Nat.le_refl _⟩, ⟨by repeat (first | (with_reducible first | exact HB.out | apply below_alloc | apply pw_below_drewN | apply below_drew1) | exact HB.out)⟩⟩
          ·
           rw [if_neg c29] at H
           exact (laws_FnFormsLeftOfAll.j1_no _ _ _ _ _ _ _ _ _ _ _ _ _ _ (H.trans (congrArg some HE_.out))).elim
      ·
       rw [if_neg c25] at H
       exact (laws_FnFormsLeftOfAll.j1_no _ _ _ _ _ _ _ _ _ _ _ _ _ _ (H.trans (congrArg some HE_.out))).elim
    case rest => as_aux_lemma =>
     clear HC22
     try clear c1
     try clear c2
     try clear c3
     try clear c6
     try clear c15
     obtain ⟨kq, x168_21, rfl, HA, HJ21, HB⟩ := hcut
     cases kq with
     | zero => exact absurd HA.out (by simp [laws_FnFormsLeftOfAll.j1])
     | succ kj21 =>
      have H := HA.out
      clear HA
      simp only [laws_FnFormsLeftOfAll.j1] at H
      by_cases c31 : x168_21 = true
      ·
       subst c31
       have H1 : (some false) = some r := by rw [if_pos rfl] at H; exact H
       clear H
       have H := H1
       clear H1
       exact absurd (H.trans (congrArg some HE_.out)) (by simp)
      ·
       replace c31 := Bool.eq_false_iff.mpr c31
       subst c31
       have H1 : (if t216 = true then (laws_FnFormsLeftOfAll.l0 kj21 l0 l1 l2 l3 a4 a5 l6 a7 a8 t215 t223 t224 l0 (l0.length : Int) 0) else (laws_FnFormsLeftOfAll.j9 kj21 l0 l2 l3 a4 a5 l6 a7 a8 t223 t224)) = some r := by rw [if_neg (show ¬ (false = true) by decide)] at H; exact H
       clear H
       have H := H1
       clear H1
       have HC32 := Aside0.mk H
       clear H
       go_upto_if 169 with (fail)
       repeat (go_quiet (fail); go_upto_if 169 with (fail))
       go_cut [] from 98 to 195 (fun wc => ∃ (kq : Nat), Aside0 (laws_FnFormsLeftOfAll.j9 kq l0 l2 l3 a4 a5 l6 a7 a8 t223 t224 = some r) ∧ Aside0 (kq ≤ kj21) ∧ Aside0 (Below w.heap.size w wc))
       case first => as_aux_lemma =>
        have H := HC32.out
        clear HC32
        by_cases c33 : t216 = true
        ·
         subst c33
         have H1 : (laws_FnFormsLeftOfAll.l0 kj21 l0 l1 l2 l3 a4 a5 l6 a7 a8 t215 t223 t224 l0 (l0.length : Int) 0) = some r := by rw [if_pos rfl] at H; exact H
         clear H
         have H := H1
         clear H1
         have H' := Aside0.mk H
         clear H
         go_wp2
         repeat (go_quiet (fail); try go_wp2)
         go_loopg [172] kj21 (fun kq v172 w' => ∃ (x172_3 : Int), v172 = .int .i64 x172_3 ∧ Aside0 (laws_FnFormsLeftOfAll.l0 kq l0 l1 l2 l3 a4 a5 l6 a7 a8 t215 t223 t224 l0 (l0.length : Int) x172_3 = some r) ∧ Aside0 (kq ≤ kj21) ∧ Aside0 (Below w.heap.size w w'))
         case atStart => exact ⟨(0), (by first | rfl | (simp; done) | (simp [*]; done)), H', ⟨Nat.le_refl _⟩, ⟨by repeat (first | (with_reducible first | exact HB.out | apply below_alloc | apply pw_below_drewN | apply below_drew1) | exact HB.out)⟩⟩
         case round =>
          clear H'
          try clear c1
          try clear c2
          try clear c3
          try clear c6
          try clear c15
          try clear c31
          try clear c33
          obtain ⟨x172_3, rfl, HA, HK3, HB⟩ := hrel
          cases gk with
          | zero => exact absurd HA.out (by simp [laws_FnFormsLeftOfAll.l0])
          | succ k3 =>
           have H := HA.out
           clear HA
           simp only [laws_FnFormsLeftOfAll.l0] at H
           by_cases c34 : x172_3 < (l0.length : Int)
           ·
            rw [if_pos c34] at H
            have c34b0 : decide (x172_3 < (l0.length : Int)) = true := decide_eq_true c34
            clear c34
            (first | rw [c34b0] | (simp only [i64_w, i32_w]; rw [c34b0]) | skip)
            by_cases c35 : 0 ≤ x172_3
            ·
             rw [if_pos c35] at H
             have c35b0 : decide (0 ≤ x172_3) = true := decide_eq_true c35
             clear c35
             by_cases c36 : x172_3 < (l0.length : Int)
             ·
              rw [if_pos c36] at H
              have c36b0 : decide (x172_3 < (l0.length : Int)) = true := decide_eq_true c36
              clear c36
              by_cases c37 : (rd l0 x172_3) = 0
              ·
               rw [if_pos c37] at H
               exact absurd H (by simp)
              ·
               rw [if_neg c37] at H
               have c37b0 : ((rd l0 x172_3) == 0) = false := beq_eq_false_iff_ne.mpr c37
               have c37b1 : ((rd l0 x172_3) != 0) = true := bne_iff_ne.mpr c37
               by_cases c38 : x172_3 < (l1.length : Int)
               ·
                rw [if_pos c38] at H
                have c38b0 : decide (x172_3 < (l1.length : Int)) = true := decide_eq_true c38
                clear c38
                by_cases c39 : (Int.tmod t215 (rd l0 x172_3)) = (rd l1 x172_3)
                ·
                 rw [if_pos c39] at H
                 have c39b0 : ((Int.tmod t215 (rd l0 x172_3)) == (rd l1 x172_3)) = true := beq_iff_eq.mpr c39
                 have c39b1 : ((Int.tmod t215 (rd l0 x172_3)) != (rd l1 x172_3)) = false := bne_eq_false_iff_eq.mpr c39
                 clear c39
                 have H' := Aside0.mk H
                 clear H
                 have p227 : 0 ≤ (x172_3 : Int) := of_decide_eq_true (by first | (with_reducible assumption) | assumption)
                 have q227 : x172_3 < (l0.length : Int) := of_decide_eq_true (by first | (with_reducible assumption) | assumption)
                 obtain ⟨ad227, e227, hx227_0⟩ := Kd.at_int HR0.out x172_3 p227 q227
                 cases e227
                 replace hx227_0 := (HB.out.cell (World.block_lt_of_cell? w _ hx227_0)).trans hx227_0
                 replace p227 := eq_true p227
                 replace q227 := eq_true q227
                 have p228 : 0 ≤ (x172_3 : Int) := of_decide_eq_true (by first | (with_reducible assumption) | assumption)
                 have q228 : x172_3 < (l1.length : Int) := of_decide_eq_true (by first | (with_reducible assumption) | assumption)
                 obtain ⟨ad228, e228, hx228_0⟩ := Kd.at_int HR1.out x172_3 p228 q228
                 cases e228
                 replace hx228_0 := (HB.out.cell (World.block_lt_of_cell? w _ hx228_0)).trans hx228_0
                 replace p228 := eq_true p228
                 replace q228 := eq_true q228
                 go_wp2
                 repeat (go_quiet (fail); try go_wp2)
                 go_roundg k3
                 case measure => have := HJ9.out; have := HJ21.out; have := HK3.out; omega
                 case rel => exact ⟨(wrap64 (x172_3 + 1)), (by first | rfl | (simp; done) | (simp [*]; done)), H', ⟨by have := HJ9.out; have := HJ21.out; have := HK3.out; omega⟩, ⟨by repeat (first | (with_reducible first | exact HB.out | apply below_alloc | apply pw_below_drewN | apply below_drew1) | exact HB.out)⟩⟩
                ·
                 rw [if_neg c39] at H
                 exact absurd (H.trans (congrArg some HE_.out)) (by simp)
               ·
                rw [if_neg c38] at H
                exact absurd H (by simp)
             ·
              rw [if_neg c36] at H
              exact absurd H (by simp)
            ·
             rw [if_neg c35] at H
             exact absurd H (by simp)
           ·
            rw [if_neg c34] at H
            have c34b0 : decide (x172_3 < (l0.length : Int)) = false := decide_eq_false c34
            clear c34
            (first | rw [c34b0] | (simp only [i64_w, i32_w]; rw [c34b0]) | skip)
            have HC40 := Aside0.mk H
            clear H
            go_upto_region 18 with (fail)
            repeat (go_quiet (fail); go_upto_region 18 with (fail))
            go_cut [195] from 168 to 195 (fun v195 wc => ∃ (kq : Nat) (x195_39 : Bool), v195 = .bool x195_39 ∧ Aside0 (laws_FnFormsLeftOfAll.j3 kq l0 l1 l2 l3 a4 a5 l6 a7 a8 t215 t223 t224 x195_39 = some r) ∧ Aside0 (kq ≤ k3) ∧ Aside0 (Below w.heap.size w wc))
            case first => as_aux_lemma =>
             have H := HC40.out
             clear HC40
             by_cases c41 : t215 < 0
             ·
              rw [if_pos c41] at H
              exact (laws_FnFormsLeftOfAll.j3_no _ _ _ _ _ _ _ _ _ _ _ _ _ (H.trans (congrArg some HE_.out))).elim
             ·
              rw [if_neg c41] at H
              have c41b0 : decide (t215 < 0) = false := decide_eq_false c41
              clear c41
              (first | rw [c41b0] | (simp only [i64_w, i32_w]; rw [c41b0]) | skip)
              by_cases c42 : t224 = true
              ·
               subst c42
               have H1 : (laws_FnFormsLeftOfAll.j3 k3 l0 l1 l2 l3 a4 a5 l6 a7 a8 t215 t223 true (decide (t215 ≥ t223))) = some r := by rw [if_pos rfl] at H; exact H
               clear H
               have H := H1
               clear H1
               have H' := Aside0.mk H
               clear H
               go_wp2
               repeat (go_quiet (fail); try go_wp2)
               go_meet
               case rel => exact ⟨_, (decide (t215 ≥ t223)), (by first | rfl | (simp; done) | (simp [*]; done)), H', ⟨by have := HJ9.out; have := HJ21.out; have := HK3.out; first | omega | exact Nat.le_refl _⟩, ⟨by repeat (first | (with_reducible first | exact HB.out | apply below_alloc | apply pw_below_drewN | apply below_drew1) | exact HB.out)⟩⟩
              ·
               replace c42 := Bool.eq_false_iff.mpr c42
               subst c42
               have H1 : (laws_FnFormsLeftOfAll.j3 k3 l0 l1 l2 l3 a4 a5 l6 a7 a8 t215 t223 false false) = some r := by rw [if_neg (show ¬ (false = true) by decide)] at H; exact H
               clear H
               have H := H1
               clear H1
               have H' := Aside0.mk H
               clear H
               go_wp2
               repeat (go_quiet (fail); try go_wp2)
               go_meet
               case rel => exact ⟨_, (false), (by first | rfl | (simp; done) | (simp [*]; done)), H', ⟨by have := HJ9.out; have := HJ21.out; have := HK3.out; first | omega | exact Nat.le_refl _⟩, ⟨by repeat (first | (with_reducible first | exact HB.out | apply below_alloc | apply pw_below_drewN | apply below_drew1) | exact HB.out)⟩⟩
            case rest => as_aux_lemma =>
             clear HC40
             try clear c1
             try clear c2
             try clear c3
             try clear c6
             try clear c15
             try clear c31
             try clear c33
             try clear c34
             try clear c34b0
             obtain ⟨kq, x195_39, rfl, HA, HJ39, HB⟩ := hcut
             cases kq with
             | zero => exact absurd HA.out (by simp [laws_FnFormsLeftOfAll.j3])
             | succ kj39 =>
              have H := HA.out
              clear HA
              simp only [laws_FnFormsLeftOfAll.j3] at H
              by_cases c43 : x195_39 = true
              ·
               subst c43
               have H1 : (some false) = some r := by rw [if_pos rfl] at H; exact H
               clear H
               have H := H1
               clear H1
               exact absurd (H.trans (congrArg some HE_.out)) (by simp)
              ·
               replace c43 := Bool.eq_false_iff.mpr c43
               subst c43
               have H1 : (if t215 ≤ 1000000000 then ((impl_CountWith.f kj39 l0 l1 t215).bind fun bt229 => (if bt229.2 = true then (laws_FnFormsLeftOfAll.j4 kj39 l0 l1 l2 l3 a4 a5 l6 a7 a8 t215 t223 t224 (bt229.1 != 1)) else (laws_FnFormsLeftOfAll.j4 kj39 l0 l1 l2 l3 a4 a5 l6 a7 a8 t215 t223 t224 true))) else (laws_FnFormsLeftOfAll.j7 kj39 l0 l1 l2 l3 a4 a5 l6 a7 a8 t215 t223 t224)) = some r := by rw [if_neg (show ¬ (false = true) by decide)] at H; exact H
               clear H
               have H := H1
               clear H1
               have HC44 := Aside0.mk H
               clear H
               go_upto_if 197 with (fail)
               repeat (go_quiet (fail); go_upto_if 197 with (fail))
               go_cut [] from 168 to 210 (fun wc => ∃ (kq : Nat), Aside0 (laws_FnFormsLeftOfAll.j7 kq l0 l1 l2 l3 a4 a5 l6 a7 a8 t215 t223 t224 = some r) ∧ Aside0 (kq ≤ kj39) ∧ Aside0 (Below w.heap.size w wc))
               case first => as_aux_lemma =>
                have H := HC44.out
                clear HC44
                by_cases c45 : t215 ≤ 1000000000
                ·
                 rw [if_pos c45] at H
                 have c45b0 : decide (t215 ≤ 1000000000) = true := decide_eq_true c45
                 clear c45
                 (first | rw [c45b0] | (simp only [i64_w, i32_w]; rw [c45b0]) | skip)
                 replace H := Option.bind_eq_some_iff.mp H
                 obtain ⟨⟨t229, t230⟩, A460, H⟩ := H
                 replace H : (if t230 = true then (laws_FnFormsLeftOfAll.j4 kj39 l0 l1 l2 l3 a4 a5 l6 a7 a8 t215 t223 t224 (t229 != 1)) else (laws_FnFormsLeftOfAll.j4 kj39 l0 l1 l2 l3 a4 a5 l6 a7 a8 t215 t223 t224 true)) = some r := H
                 have A46 := Aside0.mk A460
                 clear A460
                 have HC47 := Aside0.mk H
                 clear H
                 go_upto_region 22 with (first | (go_at_call 17; (with_reducible refine (impl_CountWith.calls kj39 _ _ l0 _ _ l1 t215 t229 t230 _ ?side1 ?side2 ?side3 ?side4 A46.out).mono ?_); (case side1 => repeat (first | exact (Kd.C_below HR0.out HB.out) | (with_reducible refine Kd.C_alloc ?_ _) | (with_reducible refine Kd.C_drewN ?_ _) | (with_reducible refine Kd.C_drew ?_))); (case side2 => exact HC0.out); (case side3 => repeat (first | exact (Kd.C_below HR1.out HB.out) | (with_reducible refine Kd.C_alloc ?_ _) | (with_reducible refine Kd.C_drewN ?_ _) | (with_reducible refine Kd.C_drew ?_))); (case side4 => exact HC1.out); rintro e w' ⟨rfl, ⟨nd, rfl⟩⟩; (try first | exact ⟨rfl, _, World.drewN_drewN _ _ _⟩ | exact ⟨rfl, _, Eq.trans (World.drewN_drewN _ _ _) (congrArg (World.drewN _) (Nat.add_assoc _ _ _))⟩)))
                 repeat (go_quiet (first | (go_at_call 17; (with_reducible refine (impl_CountWith.calls kj39 _ _ l0 _ _ l1 t215 t229 t230 _ ?side1 ?side2 ?side3 ?side4 A46.out).mono ?_); (case side1 => repeat (first | exact (Kd.C_below HR0.out HB.out) | (with_reducible refine Kd.C_alloc ?_ _) | (with_reducible refine Kd.C_drewN ?_ _) | (with_reducible refine Kd.C_drew ?_))); (case side2 => exact HC0.out); (case side3 => repeat (first | exact (Kd.C_below HR1.out HB.out) | (with_reducible refine Kd.C_alloc ?_ _) | (with_reducible refine Kd.C_drewN ?_ _) | (with_reducible refine Kd.C_drew ?_))); (case side4 => exact HC1.out); rintro e w' ⟨rfl, ⟨nd, rfl⟩⟩; (try first | exact ⟨rfl, _, World.drewN_drewN _ _ _⟩ | exact ⟨rfl, _, Eq.trans (World.drewN_drewN _ _ _) (congrArg (World.drewN _) (Nat.add_assoc _ _ _))⟩))); go_upto_region 22 with (first | (go_at_call 17; (with_reducible refine (impl_CountWith.calls kj39 _ _ l0 _ _ l1 t215 t229 t230 _ ?side1 ?side2 ?side3 ?side4 A46.out).mono ?_); (case side1 => repeat (first | exact (Kd.C_below HR0.out HB.out) | (with_reducible refine Kd.C_alloc ?_ _) | (with_reducible refine Kd.C_drewN ?_ _) | (with_reducible refine Kd.C_drew ?_))); (case side2 => exact HC0.out); (case side3 => repeat (first | exact (Kd.C_below HR1.out HB.out) | (with_reducible refine Kd.C_alloc ?_ _) | (with_reducible refine Kd.C_drewN ?_ _) | (with_reducible refine Kd.C_drew ?_))); (case side4 => exact HC1.out); rintro e w' ⟨rfl, ⟨nd, rfl⟩⟩; (try first | exact ⟨rfl, _, World.drewN_drewN _ _ _⟩ | exact ⟨rfl, _, Eq.trans (World.drewN_drewN _ _ _) (congrArg (World.drewN _) (Nat.add_assoc _ _ _))⟩))))
                 (try simp only [Act.put, List.setIfInBounds_toArray, List.set_cons_zero, List.set_cons_succ])
                 go_cut [210] from 195 to 210 (fun v210 wc => ∃ (kq : Nat) (x210_46 : Bool), v210 = .bool x210_46 ∧ Aside0 (laws_FnFormsLeftOfAll.j4 kq l0 l1 l2 l3 a4 a5 l6 a7 a8 t215 t223 t224 x210_46 = some r) ∧ Aside0 (kq ≤ kj39) ∧ Aside0 (Below w.heap.size w wc))
                 case first => as_aux_lemma =>
                  have H := HC47.out
                  clear HC47
                  by_cases c48 : t230 = true
                  ·
                   subst c48
                   have H1 : (laws_FnFormsLeftOfAll.j4 kj39 l0 l1 l2 l3 a4 a5 l6 a7 a8 t215 t223 t224 (t229 != 1)) = some r := by rw [if_pos rfl] at H; exact H
                   clear H
                   have H := H1
                   clear H1
                   have H' := Aside0.mk H
                   clear H
                   go_wp2
                   repeat (go_quiet (fail); try go_wp2)
                   go_meet
                   case rel => exact ⟨_, ((t229 != 1)), (by first | rfl | (simp; done) | (simp [*]; done)), H', ⟨by have := HJ9.out; have := HJ21.out; have := HK3.out; have := HJ39.out; first | omega | exact Nat.le_refl _⟩, ⟨by repeat (first | (with_reducible first | exact HB.out | apply below_alloc | apply pw_below_drewN | apply below_drew1) | exact HB.out)⟩⟩
                  ·
                   replace c48 := Bool.eq_false_iff.mpr c48
                   subst c48
                   have H1 : (laws_FnFormsLeftOfAll.j4 kj39 l0 l1 l2 l3 a4 a5 l6 a7 a8 t215 t223 t224 true) = some r := by rw [if_neg (show ¬ (false = true) by decide)] at H; exact H
                   clear H
                   have H := H1
                   clear H1
                   exact (laws_FnFormsLeftOfAll.j4_no _ _ _ _ _ _ _ _ _ _ _ _ _ (H.trans (congrArg some HE_.out))).elim
                 case rest => as_aux_lemma =>
                  clear HC47
                  try clear c1
                  try clear c2
                  try clear c3
                  try clear c6
                  try clear c15
                  try clear c31
                  try clear c33
                  try clear c34
                  try clear c34b0
                  try clear c43
                  try clear c45
                  try clear c45b0
                  obtain ⟨kq, x210_46, rfl, HA, HJ46, HB⟩ := hcut
                  cases kq with
                  | zero => exact absurd HA.out (by simp [laws_FnFormsLeftOfAll.j4])
                  | succ kj46 =>
                   have H := HA.out
                   clear HA
                   simp only [laws_FnFormsLeftOfAll.j4] at H
                   by_cases c49 : x210_46 = true
                   ·
                    subst c49
                    have H1 : (some false) = some r := by rw [if_pos rfl] at H; exact H
                    clear H
                    have H := H1
                    clear H1
                    exact absurd (H.trans (congrArg some HE_.out)) (by simp)
                   ·
                    replace c49 := Bool.eq_false_iff.mpr c49
                    subst c49
                    have H1 : (if t215 > 0 then ((impl_CountWith.f kj46 l0 l1 (wrap64 (t215 - 1))).bind fun bt231 => (if bt231.2 = true then (if bt231.1 = 0 then (laws_FnFormsLeftOfAll.j5 kj46 l0 l1 l2 l3 a4 a5 l6 a7 a8 t215 t223 t224) else (some false)) else (some false))) else (laws_FnFormsLeftOfAll.j5 kj46 l0 l1 l2 l3 a4 a5 l6 a7 a8 t215 t223 t224)) = some r := by rw [if_neg (show ¬ (false = true) by decide)] at H; exact H
                    clear H
                    have H := H1
                    clear H1
                    have HC50 := Aside0.mk H
                    clear H
                    go_upto_if 212 with (fail)
                    repeat (go_quiet (fail); go_upto_if 212 with (fail))
                    go_cut [] from 195 to 233 (fun wc => ∃ (kq : Nat), Aside0 (laws_FnFormsLeftOfAll.j5 kq l0 l1 l2 l3 a4 a5 l6 a7 a8 t215 t223 t224 = some r) ∧ Aside0 (kq ≤ kj46) ∧ Aside0 (Below w.heap.size w wc))
                    case first => as_aux_lemma =>
                     have H := HC50.out
                     clear HC50
                     by_cases c51 : t215 > 0
                     ·
                      rw [if_pos c51] at H
                      have c51b0 : decide (0 < t215) = true := decide_eq_true c51
                      clear c51
                      (first | rw [c51b0] | (simp only [i64_w, i32_w]; rw [c51b0]) | skip)
                      replace H := Option.bind_eq_some_iff.mp H
                      obtain ⟨⟨t231, t232⟩, A520, H⟩ := H
                      replace H : (if t232 = true then (if t231 = 0 then (laws_FnFormsLeftOfAll.j5 kj46 l0 l1 l2 l3 a4 a5 l6 a7 a8 t215 t223 t224) else (some false)) else (some false)) = some r := H
                      have A52 := Aside0.mk A520
                      clear A520
                      by_cases c53 : t232 = true
                      ·
                       subst c53
                       have H1 : (if t231 = 0 then (laws_FnFormsLeftOfAll.j5 kj46 l0 l1 l2 l3 a4 a5 l6 a7 a8 t215 t223 t224) else (some false)) = some r := by rw [if_pos rfl] at H; exact H
                       clear H
                       have H := H1
                       clear H1
                       by_cases c54 : t231 = 0
                       ·
                        rw [if_pos c54] at H
                        have c54b0 : (t231 == 0) = true := beq_iff_eq.mpr c54
                        have c54b1 : (t231 != 0) = false := bne_eq_false_iff_eq.mpr c54
                        clear c54
                        have H' := Aside0.mk H
                        clear H
                        go_wp2_with (first | (go_at_call 17; (with_reducible refine (impl_CountWith.calls kj46 _ _ l0 _ _ l1 (wrap64 (t215 - 1)) t231 true _ ?side1 ?side2 ?side3 ?side4 A52.out).mono ?_); (case side1 => repeat (first | exact (Kd.C_below HR0.out HB.out) | (with_reducible refine Kd.C_alloc ?_ _) | (with_reducible refine Kd.C_drewN ?_ _) | (with_reducible refine Kd.C_drew ?_))); (case side2 => exact HC0.out); (case side3 => repeat (first | exact (Kd.C_below HR1.out HB.out) | (with_reducible refine Kd.C_alloc ?_ _) | (with_reducible refine Kd.C_drewN ?_ _) | (with_reducible refine Kd.C_drew ?_))); (case side4 => exact HC1.out); rintro e w' ⟨rfl, ⟨nd, rfl⟩⟩; (try first | exact ⟨rfl, _, World.drewN_drewN _ _ _⟩ | exact ⟨rfl, _, Eq.trans (World.drewN_drewN _ _ _) (congrArg (World.drewN _) (Nat.add_assoc _ _ _))⟩)))
                        repeat (go_quiet (first | (go_at_call 17; (with_reducible refine (impl_CountWith.calls kj46 _ _ l0 _ _ l1 (wrap64 (t215 - 1)) t231 true _ ?side1 ?side2 ?side3 ?side4 A52.out).mono ?_); (case side1 => repeat (first | exact (Kd.C_below HR0.out HB.out) | (with_reducible refine Kd.C_alloc ?_ _) | (with_reducible refine Kd.C_drewN ?_ _) | (with_reducible refine Kd.C_drew ?_))); (case side2 => exact HC0.out); (case side3 => repeat (first | exact (Kd.C_below HR1.out HB.out) | (with_reducible refine Kd.C_alloc ?_ _) | (with_reducible refine Kd.C_drewN ?_ _) | (with_reducible refine Kd.C_drew ?_))); (case side4 => exact HC1.out); rintro e w' ⟨rfl, ⟨nd, rfl⟩⟩; (try first | exact ⟨rfl, _, World.drewN_drewN _ _ _⟩ | exact ⟨rfl, _, Eq.trans (World.drewN_drewN _ _ _) (congrArg (World.drewN _) (Nat.add_assoc _ _ _))⟩))); try go_wp2_with (first | (go_at_call 17; (with_reducible refine (impl_CountWith.calls kj46 _ _ l0 _ _ l1 (wrap64 (t215 - 1)) t231 true _ ?side1 ?side2 ?side3 ?side4 A52.out).mono ?_); (case side1 => repeat (first | exact (Kd.C_below HR0.out HB.out) | (with_reducible refine Kd.C_alloc ?_ _) | (with_reducible refine Kd.C_drewN ?_ _) | (with_reducible refine Kd.C_drew ?_))); (case side2 => exact HC0.out); (case side3 => repeat (first | exact (Kd.C_below HR1.out HB.out) | (with_reducible refine Kd.C_alloc ?_ _) | (with_reducible refine Kd.C_drewN ?_ _) | (with_reducible refine Kd.C_drew ?_))); (case side4 => exact HC1.out); rintro e w' ⟨rfl, ⟨nd, rfl⟩⟩; (try first | exact ⟨rfl, _, World.drewN_drewN _ _ _⟩ | exact ⟨rfl, _, Eq.trans (World.drewN_drewN _ _ _) (congrArg (World.drewN _) (Nat.add_assoc _ _ _))⟩))))
                        go_meet
                        case rel => exact ⟨_, H', ⟨by have := HJ9.out; have := HJ21.out; have := HK3.out; have := HJ39.out; have := HJ46.out; first | omega | exact Nat.le_refl _⟩, ⟨by repeat (first | (with_reducible first | exact HB.out | apply below_alloc | apply pw_below_drewN | apply below_drew1) | exact HB.out)⟩⟩
                       ·
                        rw [if_neg c54] at H
                        exact absurd (H.trans (congrArg some HE_.out)) (by simp)
                      ·
                       replace c53 := Bool.eq_false_iff.mpr c53
                       subst c53
                       have H1 : (some false) = some r := by rw [if_neg (show ¬ (false = true) by decide)] at H; exact H
                       clear H
                       have H := H1
                       clear H1
                       exact absurd (H.trans (congrArg some HE_.out)) (by simp)
                     ·
                      rw [if_neg c51] at H
                      have c51b0 : decide (0 < t215) = false := decide_eq_false c51
                      clear c51
                      (first | rw [c51b0] | (simp only [i64_w, i32_w]; rw [c51b0]) | skip)
                      have H' := Aside0.mk H
                      clear H
                      go_wp2
                      repeat (go_quiet (fail); try go_wp2)
                      go_meet
                      case rel => exact ⟨_, H', ⟨by have := HJ9.out; have := HJ21.out; have := HK3.out; have := HJ39.out; have := HJ46.out; first | omega | exact Nat.le_refl _⟩, ⟨by repeat (first | (with_reducible first | exact HB.out | apply below_alloc | apply pw_below_drewN | apply below_drew1) | exact HB.out)⟩⟩
                    case rest => as_aux_lemma =>
                     clear HC50
                     try clear c1
                     try clear c2
                     try clear c3
                     try clear c6
                     try clear c15
                     try clear c31
                     try clear c33
                     try clear c34
                     try clear c34b0
                     try clear c43
                     try clear c45
                     try clear c45b0
                     try clear c49
                     obtain ⟨kq, HA, HJ49, HB⟩ := hcut
                     cases kq with
                     | zero => exact absurd HA.out (by simp [laws_FnFormsLeftOfAll.j5])
                     | succ kj49 =>
                      have H := HA.out
                      clear HA
                      simp only [laws_FnFormsLeftOfAll.j5] at H
                      have HC55 := Aside0.mk H
                      clear H
                      go_upto_region 28 with (fail)
                      repeat (go_quiet (fail); go_upto_region 28 with (fail))
                      go_cut [233] from 210 to 233 (fun v233 wc => ∃ (kq : Nat) (x233_54 : Bool), v233 = .bool x233_54 ∧ Aside0 (laws_FnFormsLeftOfAll.j6 kq l0 l1 l2 l3 a4 a5 l6 a7 a8 t215 t223 t224 x233_54 = some r) ∧ Aside0 (kq ≤ kj49) ∧ Aside0 (Below w.heap.size w wc))
                      case first => as_aux_lemma =>
                       have H := HC55.out
                       clear HC55
                       by_cases c56 : t224 = true
                       ·
                        subst c56
                        have H1 : (laws_FnFormsLeftOfAll.j6 kj49 l0 l1 l2 l3 a4 a5 l6 a7 a8 t215 t223 true (decide ((wrap64 (t215 + t223)) ≤ 1000000000))) = some r := by rw [if_pos rfl] at H; exact H
                        clear H
                        have H := H1
                        clear H1
                        have H' := Aside0.mk H
                        clear H
                        go_wp2
                        repeat (go_quiet (fail); try go_wp2)
                        go_meet
                        case rel => exact ⟨_, (decide ((wrap64 (t215 + t223)) ≤ 1000000000)), (by first | rfl | (simp; done) | (simp [*]; done)), H', ⟨by have := HJ9.out; have := HJ21.out; have := HK3.out; have := HJ39.out; have := HJ46.out; have := HJ49.out; first | omega | exact Nat.le_refl _⟩, ⟨by repeat (first | (with_reducible first | exact HB.out | apply below_alloc | apply pw_below_drewN | apply below_drew1) | exact HB.out)⟩⟩
                       ·
                        replace c56 := Bool.eq_false_iff.mpr c56
                        subst c56
                        have H1 : (laws_FnFormsLeftOfAll.j6 kj49 l0 l1 l2 l3 a4 a5 l6 a7 a8 t215 t223 false false) = some r := by rw [if_neg (show ¬ (false = true) by decide)] at H; exact H
                        clear H
                        have H := H1
                        clear H1
                        have H' := Aside0.mk H
                        clear H
                        go_wp2
                        repeat (go_quiet (fail); try go_wp2)
                        go_meet
                        case rel => exact ⟨_, (false), (by first | rfl | (simp; done) | (simp [*]; done)), H', ⟨by have := HJ9.out; have := HJ21.out; have := HK3.out; have := HJ39.out; have := HJ46.out; have := HJ49.out; first | omega | exact Nat.le_refl _⟩, ⟨by repeat (first | (with_reducible first | exact HB.out | apply below_alloc | apply pw_below_drewN | apply below_drew1) | exact HB.out)⟩⟩
                      case rest => as_aux_lemma =>
                       clear HC55
                       try clear c1
                       try clear c2
                       try clear c3
                       try clear c6
                       try clear c15
                       try clear c31
                       try clear c33
                       try clear c34
                       try clear c34b0
                       try clear c43
                       try clear c45
                       try clear c45b0
                       try clear c49
                       obtain ⟨kq, x233_54, rfl, HA, HJ54, HB⟩ := hcut
                       cases kq with
                       | zero => exact absurd HA.out (by simp [laws_FnFormsLeftOfAll.j6])
                       | succ kj54 =>
                        have H := HA.out
                        clear HA
                        simp only [laws_FnFormsLeftOfAll.j6] at H
                        by_cases c57 : x233_54 = true
                        ·
                         subst c57
                         have H1 : ((impl_CountWith.f kj54 l0 l1 (wrap64 (t215 + t223))).bind fun bt233 => (if bt233.2 = true then (if bt233.1 = 2 then (laws_FnFormsLeftOfAll.j7 kj54 l0 l1 l2 l3 a4 a5 l6 a7 a8 t215 t223 t224) else (some false)) else (some false))) = some r := by rw [if_pos rfl] at H; exact H
                         clear H
                         have H := H1
                         clear H1
                         replace H := Option.bind_eq_some_iff.mp H
                         obtain ⟨⟨t233, t234⟩, A580, H⟩ := H
                         replace H : (if t234 = true then (if t233 = 2 then (laws_FnFormsLeftOfAll.j7 kj54 l0 l1 l2 l3 a4 a5 l6 a7 a8 t215 t223 t224) else (some false)) else (some false)) = some r := H
                         have A58 := Aside0.mk A580
                         clear A580
                         by_cases c59 : t234 = true
                         ·
                          subst c59
                          have H1 : (if t233 = 2 then (laws_FnFormsLeftOfAll.j7 kj54 l0 l1 l2 l3 a4 a5 l6 a7 a8 t215 t223 t224) else (some false)) = some r := by rw [if_pos rfl] at H; exact H
                          clear H
                          have H := H1
                          clear H1
                          by_cases c60 : t233 = 2
                          ·
                           rw [if_pos c60] at H
                           have c60b0 : (t233 == 2) = true := beq_iff_eq.mpr c60
                           have c60b1 : (t233 != 2) = false := bne_eq_false_iff_eq.mpr c60
                           clear c60
                           have H' := Aside0.mk H
                           clear H
                           go_wp2_with (first | (go_at_call 17; (with_reducible refine (impl_CountWith.calls kj54 _ _ l0 _ _ l1 (wrap64 (t215 + t223)) t233 true _ ?side1 ?side2 ?side3 ?side4 A58.out).mono ?_); (case side1 => repeat (first | exact (Kd.C_below HR0.out HB.out) | (with_reducible refine Kd.C_alloc ?_ _) | (with_reducible refine Kd.C_drewN ?_ _) | (with_reducible refine Kd.C_drew ?_))); (case side2 => exact HC0.out); (case side3 => repeat (first | exact (Kd.C_below HR1.out HB.out) | (with_reducible refine Kd.C_alloc ?_ _) | (with_reducible refine Kd.C_drewN ?_ _) | (with_reducible refine Kd.C_drew ?_))); (case side4 => exact HC1.out); rintro e w' ⟨rfl, ⟨nd, rfl⟩⟩; (try first | exact ⟨rfl, _, World.drewN_drewN _ _ _⟩ | exact ⟨rfl, _, Eq.trans (World.drewN_drewN _ _ _) (congrArg (World.drewN _) (Nat.add_assoc _ _ _))⟩)))
                           repeat (go_quiet (first | (go_at_call 17; (with_reducible refine (impl_CountWith.calls kj54 _ _ l0 _ _ l1 (wrap64 (t215 + t223)) t233 true _ ?side1 ?side2 ?side3 ?side4 A58.out).mono ?_); (case side1 => repeat (first | exact (Kd.C_below HR0.out HB.out) | (with_reducible refine Kd.C_alloc ?_ _) | (with_reducible refine Kd.C_drewN ?_ _) | (with_reducible refine Kd.C_drew ?_))); (case side2 => exact HC0.out); (case side3 => repeat (first | exact (Kd.C_below HR1.out HB.out) | (with_reducible refine Kd.C_alloc ?_ _) | (with_reducible refine Kd.C_drewN ?_ _) | (with_reducible refine Kd.C_drew ?_))); (case side4 => exact HC1.out); rintro e w' ⟨rfl, ⟨nd, rfl⟩⟩; (try first | exact ⟨rfl, _, World.drewN_drewN _ _ _⟩ | exact ⟨rfl, _, Eq.trans (World.drewN_drewN _ _ _) (congrArg (World.drewN _) (Nat.add_assoc _ _ _))⟩))); try go_wp2_with (first | (go_at_call 17; (with_reducible refine (impl_CountWith.calls kj54 _ _ l0 _ _ l1 (wrap64 (t215 + t223)) t233 true _ ?side1 ?side2 ?side3 ?side4 A58.out).mono ?_); (case side1 => repeat (first | exact (Kd.C_below HR0.out HB.out) | (with_reducible refine Kd.C_alloc ?_ _) | (with_reducible refine Kd.C_drewN ?_ _) | (with_reducible refine Kd.C_drew ?_))); (case side2 => exact HC0.out); (case side3 => repeat (first | exact (Kd.C_below HR1.out HB.out) | (with_reducible refine Kd.C_alloc ?_ _) | (with_reducible refine Kd.C_drewN ?_ _) | (with_reducible refine Kd.C_drew ?_))); (case side4 => exact HC1.out); rintro e w' ⟨rfl, ⟨nd, rfl⟩⟩; (try first | exact ⟨rfl, _, World.drewN_drewN _ _ _⟩ | exact ⟨rfl, _, Eq.trans (World.drewN_drewN _ _ _) (congrArg (World.drewN _) (Nat.add_assoc _ _ _))⟩))))
                           go_meet
                           case rel => exact ⟨_, H', ⟨by have := HJ9.out; have := HJ21.out; have := HK3.out; have := HJ39.out; have := HJ46.out; have := HJ49.out; have := HJ54.out; first | omega | exact Nat.le_refl _⟩, ⟨by repeat (first | (with_reducible first | exact HB.out | apply below_alloc | apply pw_below_drewN | apply below_drew1) | exact HB.out)⟩⟩
                          ·
                           rw [if_neg c60] at H
                           exact absurd (H.trans (congrArg some HE_.out)) (by simp)
                         ·
                          replace c59 := Bool.eq_false_iff.mpr c59
                          subst c59
                          have H1 : (some false) = some r := by rw [if_neg (show ¬ (false = true) by decide)] at H; exact H
                          clear H
                          have H := H1
                          clear H1
                          exact absurd (H.trans (congrArg some HE_.out)) (by simp)
                        ·
                         replace c57 := Bool.eq_false_iff.mpr c57
                         subst c57
                         have H1 : (laws_FnFormsLeftOfAll.j7 kj54 l0 l1 l2 l3 a4 a5 l6 a7 a8 t215 t223 t224) = some r := by rw [if_neg (show ¬ (false = true) by decide)] at H; exact H
                         clear H
                         have H := H1
                         clear H1
                         have H' := Aside0.mk H
                         clear H
                         go_wp2
                         repeat (go_quiet (fail); try go_wp2)
                         go_meet
                         case rel => exact ⟨_, H', ⟨by have := HJ9.out; have := HJ21.out; have := HK3.out; have := HJ39.out; have := HJ46.out; have := HJ49.out; have := HJ54.out; first | omega | exact Nat.le_refl _⟩, ⟨by repeat (first | (with_reducible first | exact HB.out | apply below_alloc | apply pw_below_drewN | apply below_drew1) | exact HB.out)⟩⟩
                ·
                 rw [if_neg c45] at H
                 have c45b0 : decide (t215 ≤ 1000000000) = false := decide_eq_false c45
                 clear c45
                 (first | rw [c45b0] | (simp only [i64_w, i32_w]; rw [c45b0]) | skip)
                 have H' := Aside0.mk H
                 clear H
                 go_wp2
                 repeat (go_quiet (fail); try go_wp2)
                 go_meet
                 case rel => exact ⟨_, H', ⟨by have := HJ9.out; have := HJ21.out; have := HK3.out; have := HJ39.out; first | omega | exact Nat.le_refl _⟩, ⟨by repeat (first | (with_reducible first | exact HB.out | apply below_alloc | apply pw_below_drewN | apply below_drew1) | exact HB.out)⟩⟩
               case rest => as_aux_lemma =>
                clear HC44
                try clear c1
                try clear c2
                try clear c3
                try clear c6
                try clear c15
                try clear c31
                try clear c33
                try clear c34
                try clear c34b0
                try clear c43
                obtain ⟨kq, HA, HJ43, HB⟩ := hcut
                cases kq with
                | zero => exact absurd HA.out (by simp [laws_FnFormsLeftOfAll.j7])
                | succ kj43 =>
                 have H := HA.out
                 clear HA
                 simp only [laws_FnFormsLeftOfAll.j7] at H
                 have HC61 := Aside0.mk H
                 clear H
                 go_upto_region 32 with (fail)
                 repeat (go_quiet (fail); go_upto_region 32 with (fail))
                 go_cut [254] from 233 to 254 (fun v254 wc => ∃ (kq : Nat) (x254_60 : Bool), v254 = .bool x254_60 ∧ Aside0 (laws_FnFormsLeftOfAll.j8 kq l0 l1 l2 l3 a4 a5 l6 a7 a8 t215 t223 t224 x254_60 = some r) ∧ Aside0 (kq ≤ kj43) ∧ Aside0 (Below w.heap.size w wc))
                 case first => as_aux_lemma =>
                  have H := HC61.out
                  clear HC61
                  by_cases c62 : t215 ≥ 1
                  ·
                   rw [if_pos c62] at H
                   have c62b0 : decide (1 ≤ t215) = true := decide_eq_true c62
                   clear c62
                   (first | rw [c62b0] | (simp only [i64_w, i32_w]; rw [c62b0]) | skip)
                   have H' := Aside0.mk H
                   clear H
                   go_wp2
                   repeat (go_quiet (fail); try go_wp2)
                   go_meet
                   case rel => exact ⟨_, (decide (t215 ≤ 1000000)), (by first | rfl | (simp; done) | (simp [*]; done)), H', ⟨by have := HJ9.out; have := HJ21.out; have := HK3.out; have := HJ39.out; have := HJ43.out; first | omega | exact Nat.le_refl _⟩, ⟨by repeat (first | (with_reducible first | exact HB.out | apply below_alloc | apply pw_below_drewN | apply below_drew1) | exact HB.out)⟩⟩
                  ·
                   rw [if_neg c62] at H
                   have c62b0 : decide (1 ≤ t215) = false := decide_eq_false c62
                   clear c62
                   (first | rw [c62b0] | (simp only [i64_w, i32_w]; rw [c62b0]) | skip)
                   have H' := Aside0.mk H
                   clear H
                   go_wp2
                   repeat (go_quiet (fail); try go_wp2)
                   go_meet
                   case rel => exact ⟨_, (false), (by first | rfl | (simp; done) | (simp [*]; done)), H', ⟨by have := HJ9.out; have := HJ21.out; have := HK3.out; have := HJ39.out; have := HJ43.out; first | omega | exact Nat.le_refl _⟩, ⟨by repeat (first | (with_reducible first | exact HB.out | apply below_alloc | apply pw_below_drewN | apply below_drew1) | exact HB.out)⟩⟩
                 case rest => as_aux_lemma =>
                  clear HC61
                  try clear c1
                  try clear c2
                  try clear c3
                  try clear c6
                  try clear c15
                  try clear c31
                  try clear c33
                  try clear c34
                  try clear c34b0
                  try clear c43
                  obtain ⟨kq, x254_60, rfl, HA, HJ60, HB⟩ := hcut
                  cases kq with
                  | zero => exact absurd HA.out (by simp [laws_FnFormsLeftOfAll.j8])
                  | succ kj60 =>
                   have H := HA.out
                   clear HA
                   simp only [laws_FnFormsLeftOfAll.j8] at H
                   by_cases c63 : x254_60 = true
                   ·
                    subst c63
                    have H1 : ((impl_RemaindersOf.f kj60 t215 l0).bind fun bt235 => (if bt235.2 = true then ((laws_mSame.f kj60 bt235.1 l1).bind fun t239 => (if t239 = true then (laws_FnFormsLeftOfAll.j9 kj60 l0 l2 l3 a4 a5 l6 a7 a8 t223 t224) else (some false))) else (some false))) = some r := by rw [if_pos rfl] at H; exact H
                    clear H
                    have H := H1
                    clear H1
                    replace H := Option.bind_eq_some_iff.mp H
                    obtain ⟨⟨t235, t236⟩, A640, H⟩ := H
                    replace H : (if t236 = true then ((laws_mSame.f kj60 t235 l1).bind fun t239 => (if t239 = true then (laws_FnFormsLeftOfAll.j9 kj60 l0 l2 l3 a4 a5 l6 a7 a8 t223 t224) else (some false))) else (some false)) = some r := H
                    have A64 := Aside0.mk A640
                    clear A640
                    by_cases c65 : t236 = true
                    ·
                     subst c65
                     have H1 : ((laws_mSame.f kj60 t235 l1).bind fun t239 => (if t239 = true then (laws_FnFormsLeftOfAll.j9 kj60 l0 l2 l3 a4 a5 l6 a7 a8 t223 t224) else (some false))) = some r := by rw [if_pos rfl] at H; exact H
                     clear H
                     have H := H1
                     clear H1
                     replace H := Option.bind_eq_some_iff.mp H
                     obtain ⟨t239, A660, H⟩ := H
                     replace H : (if t239 = true then (laws_FnFormsLeftOfAll.j9 kj60 l0 l2 l3 a4 a5 l6 a7 a8 t223 t224) else (some false)) = some r := H
                     have A66 := Aside0.mk A660
                     clear A660
                     by_cases c67 : t239 = true
                     ·
                      subst c67
                      have H1 : (laws_FnFormsLeftOfAll.j9 kj60 l0 l2 l3 a4 a5 l6 a7 a8 t223 t224) = some r := by rw [if_pos rfl] at H; exact H
                      clear H
                      have H := H1
                      clear H1
                      have H' := Aside0.mk H
                      clear H
                      go_wp2_with (first | (go_at_call 18; (with_reducible refine (impl_RemaindersOf.calls kj60 t215 _ _ l0 t235 true _ ?side1 ?side2 A64.out).mono ?_); (case side1 => repeat (first | exact (Kd.C_below HR0.out HB.out) | (with_reducible refine Kd.C_alloc ?_ _) | (with_reducible refine Kd.C_drewN ?_ _) | (with_reducible refine Kd.C_drew ?_))); (case side2 => exact HC0.out); rintro e w68 ⟨v237, rfl, ho0, hb⟩; have n0_ := Aside0.mk (Kd.R_lower ho0 (below_size (by repeat (first | (with_reducible first | exact HB.out | apply below_alloc | apply pw_below_drewN | apply below_drew1) | exact HB.out)))); have n1_ := Aside0.mk (below_step (by repeat (first | (with_reducible first | exact HB.out | apply below_alloc | apply pw_below_drewN | apply below_drew1) | exact HB.out)) hb); clear HB; have HO238 := n0_; have HB := n1_; clear n0_ n1_; (try clear hb); (try clear hb2); (try clear hk); (try clear hi); (try clear ho0); obtain ⟨Ao69, co69, eo69⟩ := Kd.R_slice HO238.out; subst eo69) | (go_at_call 19; (with_reducible refine (laws_mSame.calls kj60 _ _ t235 _ _ l1 true _ ?side1 ?side2 ?side3 ?side4 A66.out).mono ?_); (case side1 => repeat (first | exact (Kd.R_reads' HO238.out).2.2 | (with_reducible refine Kd.C_alloc ?_ _) | (with_reducible refine Kd.C_drewN ?_ _) | (with_reducible refine Kd.C_drew ?_))); (case side2 => exact (Kd.R_reads' HO238.out).2.1); (case side3 => repeat (first | exact (Kd.C_below HR1.out HB.out) | (with_reducible refine Kd.C_alloc ?_ _) | (with_reducible refine Kd.C_drewN ?_ _) | (with_reducible refine Kd.C_drew ?_))); (case side4 => exact HC1.out); rintro e w' ⟨rfl, ⟨nd, rfl⟩⟩; (try first | exact ⟨rfl, _, World.drewN_drewN _ _ _⟩ | exact ⟨rfl, _, Eq.trans (World.drewN_drewN _ _ _) (congrArg (World.drewN _) (Nat.add_assoc _ _ _))⟩)))
                      repeat (go_quiet (first | (go_at_call 18; (with_reducible refine (impl_RemaindersOf.calls kj60 t215 _ _ l0 t235 true _ ?side1 ?side2 A64.out).mono ?_); (case side1 => repeat (first | exact (Kd.C_below HR0.out HB.out) | (with_reducible refine Kd.C_alloc ?_ _) | (with_reducible refine Kd.C_drewN ?_ _) | (with_reducible refine Kd.C_drew ?_))); (case side2 => exact HC0.out); rintro e w68 ⟨v237, rfl, ho0, hb⟩; have n0_ := Aside0.mk (Kd.R_lower ho0 (below_size (by repeat (first | (with_reducible first | exact HB.out | apply below_alloc | apply pw_below_drewN | apply below_drew1) | exact HB.out)))); have n1_ := Aside0.mk (below_step (by repeat (first | (with_reducible first | exact HB.out | apply below_alloc | apply pw_below_drewN | apply below_drew1) | exact HB.out)) hb); clear HB; have HO238 := n0_; have HB := n1_; clear n0_ n1_; (try clear hb); (try clear hb2); (try clear hk); (try clear hi); (try clear ho0); obtain ⟨Ao69, co69, eo69⟩ := Kd.R_slice HO238.out; subst eo69) | (go_at_call 19; (with_reducible refine (laws_mSame.calls kj60 _ _ t235 _ _ l1 true _ ?side1 ?side2 ?side3 ?side4 A66.out).mono ?_); (case side1 => repeat (first | exact (Kd.R_reads' HO238.out).2.2 | (with_reducible refine Kd.C_alloc ?_ _) | (with_reducible refine Kd.C_drewN ?_ _) | (with_reducible refine Kd.C_drew ?_))); (case side2 => exact (Kd.R_reads' HO238.out).2.1); (case side3 => repeat (first | exact (Kd.C_below HR1.out HB.out) | (with_reducible refine Kd.C_alloc ?_ _) | (with_reducible refine Kd.C_drewN ?_ _) | (with_reducible refine Kd.C_drew ?_))); (case side4 => exact HC1.out); rintro e w' ⟨rfl, ⟨nd, rfl⟩⟩; (try first | exact ⟨rfl, _, World.drewN_drewN _ _ _⟩ | exact ⟨rfl, _, Eq.trans (World.drewN_drewN _ _ _) (congrArg (World.drewN _) (Nat.add_assoc _ _ _))⟩))); try go_wp2_with (first | (go_at_call 18; (with_reducible refine (impl_RemaindersOf.calls kj60 t215 _ _ l0 t235 true _ ?side1 ?side2 A64.out).mono ?_); (case side1 => repeat (first | exact (Kd.C_below HR0.out HB.out) | (with_reducible refine Kd.C_alloc ?_ _) | (with_reducible refine Kd.C_drewN ?_ _) | (with_reducible refine Kd.C_drew ?_))); (case side2 => exact HC0.out); rintro e w68 ⟨v237, rfl, ho0, hb⟩; have n0_ := Aside0.mk (Kd.R_lower ho0 (below_size (by repeat (first | (with_reducible first | exact HB.out | apply below_alloc | apply pw_below_drewN | apply below_drew1) | exact HB.out)))); have n1_ := Aside0.mk (below_step (by repeat (first | (with_reducible first | exact HB.out | apply below_alloc | apply pw_below_drewN | apply below_drew1) | exact HB.out)) hb); clear HB; have HO238 := n0_; have HB := n1_; clear n0_ n1_; (try clear hb); (try clear hb2); (try clear hk); (try clear hi); (try clear ho0); obtain ⟨Ao69, co69, eo69⟩ := Kd.R_slice HO238.out; subst eo69) | (go_at_call 19; (with_reducible refine (laws_mSame.calls kj60 _ _ t235 _ _ l1 true _ ?side1 ?side2 ?side3 ?side4 A66.out).mono ?_); (case side1 => repeat (first | exact (Kd.R_reads' HO238.out).2.2 | (with_reducible refine Kd.C_alloc ?_ _) | (with_reducible refine Kd.C_drewN ?_ _) | (with_reducible refine Kd.C_drew ?_))); (case side2 => exact (Kd.R_reads' HO238.out).2.1); (case side3 => repeat (first | exact (Kd.C_below HR1.out HB.out) | (with_reducible refine Kd.C_alloc ?_ _) | (with_reducible refine Kd.C_drewN ?_ _) | (with_reducible refine Kd.C_drew ?_))); (case side4 => exact HC1.out); rintro e w' ⟨rfl, ⟨nd, rfl⟩⟩; (try first | exact ⟨rfl, _, World.drewN_drewN _ _ _⟩ | exact ⟨rfl, _, Eq.trans (World.drewN_drewN _ _ _) (congrArg (World.drewN _) (Nat.add_assoc _ _ _))⟩))))
                      go_meet
                      case rel => exact ⟨_, H', ⟨by have := HJ9.out; have := HJ21.out; have := HK3.out; have := HJ39.out; have := HJ43.out; have := HJ60.out; first | omega | exact Nat.le_refl _⟩, ⟨by repeat (first | (with_reducible first | exact HB.out | apply below_alloc | apply pw_below_drewN | apply below_drew1) | exact HB.out)⟩⟩
                     ·
                      replace c67 := Bool.eq_false_iff.mpr c67
                      subst c67
                      have H1 : (some false) = some r := by rw [if_neg (show ¬ (false = true) by decide)] at H; exact H
                      clear H
                      have H := H1
                      clear H1
                      exact absurd (H.trans (congrArg some HE_.out)) (by simp)
                    ·
                     replace c65 := Bool.eq_false_iff.mpr c65
                     subst c65
                     have H1 : (some false) = some r := by rw [if_neg (show ¬ (false = true) by decide)] at H; exact H
                     clear H
                     have H := H1
                     clear H1
                     exact absurd (H.trans (congrArg some HE_.out)) (by simp)
                   ·
                    replace c63 := Bool.eq_false_iff.mpr c63
                    subst c63
                    have H1 : (laws_FnFormsLeftOfAll.j9 kj60 l0 l2 l3 a4 a5 l6 a7 a8 t223 t224) = some r := by rw [if_neg (show ¬ (false = true) by decide)] at H; exact H
                    clear H
                    have H := H1
                    clear H1
                    have H' := Aside0.mk H
                    clear H
                    go_wp2
                    repeat (go_quiet (fail); try go_wp2)
                    go_meet
                    case rel => exact ⟨_, H', ⟨by have := HJ9.out; have := HJ21.out; have := HK3.out; have := HJ39.out; have := HJ43.out; have := HJ60.out; first | omega | exact Nat.le_refl _⟩, ⟨by repeat (first | (with_reducible first | exact HB.out | apply below_alloc | apply pw_below_drewN | apply below_drew1) | exact HB.out)⟩⟩
        ·
         replace c33 := Bool.eq_false_iff.mpr c33
         subst c33
         have H1 : (laws_FnFormsLeftOfAll.j9 kj21 l0 l2 l3 a4 a5 l6 a7 a8 t223 t224) = some r := by rw [if_neg (show ¬ (false = true) by decide)] at H; exact H
         clear H
         have H := H1
         clear H1
         have H' := Aside0.mk H
         clear H
         go_wp2
         repeat (go_quiet (fail); try go_wp2)
         go_meet
         case rel => exact ⟨_, H', ⟨by have := HJ9.out; have := HJ21.out; first | omega | exact Nat.le_refl _⟩, ⟨by repeat (first | (with_reducible first | exact HB.out | apply below_alloc | apply pw_below_drewN | apply below_drew1) | exact HB.out)⟩⟩
       case rest => as_aux_lemma =>
        clear HC32
        try clear c1
        try clear c2
        try clear c3
        try clear c6
        try clear c15
        try clear c31
        obtain ⟨kq, HA, HJ31, HB⟩ := hcut
        cases kq with
        | zero => exact absurd HA.out (by simp [laws_FnFormsLeftOfAll.j9])
        | succ kj31 =>
         have H := HA.out
         clear HA
         simp only [laws_FnFormsLeftOfAll.j9] at H
         have HC70 := Aside0.mk H
         clear H
         go_upto_if 269 with (fail)
         repeat (go_quiet (fail); go_upto_if 269 with (fail))
         go_cut [] from 233 to 375 (fun wc => ∃ (kq : Nat), Aside0 (laws_FnFormsLeftOfAll.j11 kq l2 l3 a4 a5 l6 a7 a8 = some r) ∧ Aside0 (kq ≤ kj31) ∧ Aside0 (Below w.heap.size w wc))
         case first => as_aux_lemma =>
          have H := HC70.out
          clear HC70
          by_cases c71 : t224 = true
          ·
           subst c71
           have H1 : (laws_FnFormsLeftOfAll.l1 kj31 l2 l3 a4 a5 l6 a7 a8 t223 l0 (l0.length : Int) 0) = some r := by rw [if_pos rfl] at H; exact H
           clear H
           have H := H1
           clear H1
           have H' := Aside0.mk H
           clear H
           go_wp2
           repeat (go_quiet (fail); try go_wp2)
           go_loopg [272] kj31 (fun kq v272 w' => ∃ (x272_4 : Int), v272 = .int .i64 x272_4 ∧ Aside0 (laws_FnFormsLeftOfAll.l1 kq l2 l3 a4 a5 l6 a7 a8 t223 l0 (l0.length : Int) x272_4 = some r) ∧ Aside0 (kq ≤ kj31) ∧ Aside0 (Below w.heap.size w w'))
           case atStart => exact ⟨(0), (by first | rfl | (simp; done) | (simp [*]; done)), H', ⟨Nat.le_refl _⟩, ⟨by repeat (first | (with_reducible first | exact HB.out | apply below_alloc | apply pw_below_drewN | apply below_drew1) | exact HB.out)⟩⟩
           case round =>
            clear H'
            try clear c1
            try clear c2
            try clear c3
            try clear c6
            try clear c15
            try clear c31
            try clear c71
            obtain ⟨x272_4, rfl, HA, HK4, HB⟩ := hrel
            cases gk with
            | zero => exact absurd HA.out (by simp [laws_FnFormsLeftOfAll.l1])
            | succ k4 =>
             have H := HA.out
             clear HA
             simp only [laws_FnFormsLeftOfAll.l1] at H
             by_cases c72 : x272_4 < (l0.length : Int)
             ·
              rw [if_pos c72] at H
              have c72b0 : decide (x272_4 < (l0.length : Int)) = true := decide_eq_true c72
              clear c72
              (first | rw [c72b0] | (simp only [i64_w, i32_w]; rw [c72b0]) | skip)
              by_cases c73 : 0 ≤ x272_4
              ·
               rw [if_pos c73] at H
               have c73b0 : decide (0 ≤ x272_4) = true := decide_eq_true c73
               clear c73
               by_cases c74 : x272_4 < (l0.length : Int)
               ·
                rw [if_pos c74] at H
                have c74b0 : decide (x272_4 < (l0.length : Int)) = true := decide_eq_true c74
                clear c74
                by_cases c75 : (rd l0 x272_4) = 0
                ·
                 rw [if_pos c75] at H
                 exact absurd H (by simp)
                ·
                 rw [if_neg c75] at H
                 have c75b0 : ((rd l0 x272_4) == 0) = false := beq_eq_false_iff_ne.mpr c75
                 have c75b1 : ((rd l0 x272_4) != 0) = true := bne_iff_ne.mpr c75
                 by_cases c76 : (Int.tmod t223 (rd l0 x272_4)) = 0
                 ·
                  rw [if_pos c76] at H
                  have c76b0 : ((Int.tmod t223 (rd l0 x272_4)) == 0) = true := beq_iff_eq.mpr c76
                  have c76b1 : ((Int.tmod t223 (rd l0 x272_4)) != 0) = false := bne_eq_false_iff_eq.mpr c76
                  clear c76
                  have H' := Aside0.mk H
                  clear H
                  have p240 : 0 ≤ (x272_4 : Int) := of_decide_eq_true (by first | (with_reducible assumption) | assumption)
                  have q240 : x272_4 < (l0.length : Int) := of_decide_eq_true (by first | (with_reducible assumption) | assumption)
                  obtain ⟨ad240, e240, hx240_0⟩ := Kd.at_int HR0.out x272_4 p240 q240
                  cases e240
                  replace hx240_0 := (HB.out.cell (World.block_lt_of_cell? w _ hx240_0)).trans hx240_0
                  replace p240 := eq_true p240
                  replace q240 := eq_true q240
                  go_wp2
                  repeat (go_quiet (fail); try go_wp2)
                  go_roundg k4
                  case measure => have := HJ9.out; have := HJ21.out; have := HJ31.out; have := HK4.out; omega
                  case rel => exact ⟨(wrap64 (x272_4 + 1)), (by first | rfl | (simp; done) | (simp [*]; done)), H', ⟨by have := HJ9.out; have := HJ21.out; have := HJ31.out; have := HK4.out; omega⟩, ⟨by repeat (first | (with_reducible first | exact HB.out | apply below_alloc | apply pw_below_drewN | apply below_drew1) | exact HB.out)⟩⟩
                 ·
                  rw [if_neg c76] at H
                  exact absurd (H.trans (congrArg some HE_.out)) (by simp)
               ·
                rw [if_neg c74] at H
                exact absurd H (by simp)
              ·
               rw [if_neg c73] at H
               exact absurd H (by simp)
             ·
              rw [if_neg c72] at H
              have c72b0 : decide (x272_4 < (l0.length : Int)) = false := decide_eq_false c72
              clear c72
              (first | rw [c72b0] | (simp only [i64_w, i32_w]; rw [c72b0]) | skip)
              have H' := Aside0.mk H
              clear H
              go_wp2
              repeat (go_quiet (fail); try go_wp2)
              go_meet
              case rel => exact ⟨_, H', ⟨by have := HJ9.out; have := HJ21.out; have := HJ31.out; have := HK4.out; first | omega | exact Nat.le_refl _⟩, ⟨by repeat (first | (with_reducible first | exact HB.out | apply below_alloc | apply pw_below_drewN | apply below_drew1) | exact HB.out)⟩⟩
          ·
           replace c71 := Bool.eq_false_iff.mpr c71
           subst c71
           have H1 : (laws_FnFormsLeftOfAll.j11 kj31 l2 l3 a4 a5 l6 a7 a8) = some r := by rw [if_neg (show ¬ (false = true) by decide)] at H; exact H
           clear H
           have H := H1
           clear H1
           have H' := Aside0.mk H
           clear H
           go_wp2
           repeat (go_quiet (fail); try go_wp2)
           go_meet
           case rel => exact ⟨_, H', ⟨by have := HJ9.out; have := HJ21.out; have := HJ31.out; first | omega | exact Nat.le_refl _⟩, ⟨by repeat (first | (with_reducible first | exact HB.out | apply below_alloc | apply pw_below_drewN | apply below_drew1) | exact HB.out)⟩⟩
         case rest => as_aux_lemma =>
          clear HC70
          try clear c1
          try clear c2
          try clear c3
          try clear c6
          try clear c15
          try clear c31
          obtain ⟨kq, HA, HJ69, HB⟩ := hcut
          cases kq with
          | zero => exact absurd HA.out (by simp [laws_FnFormsLeftOfAll.j11])
          | succ kj69 =>
           have H := HA.out
           clear HA
           simp only [laws_FnFormsLeftOfAll.j11] at H
           replace H := Option.bind_eq_some_iff.mp H
           obtain ⟨⟨t241, t242⟩, A770, H⟩ := H
           replace H : ((spec_CountWith.f kj69 l2 l3 a4).bind fun bt243 => ((impl_RemaindersOf.f kj69 a5 l6).bind fun bt245 => ((spec_RemaindersOf.f kj69 a5 l6).bind fun bt249 => ((impl_TurnFormation.f kj69 a7 a8).bind fun bt253 => ((spec_TurnFormation.f kj69 a7 a8).bind fun bt257 => ((impl_TimesTurned.f kj69 a7 a8).bind fun bt261 => ((spec_TimesTurned.f kj69 a7 a8).bind fun bt263 => (if (t242 != bt243.2) = true then (laws_FnFormsLeftOfAll.j12 kj69 l2 l3 a4 a7 a8 t241 t242 bt253.1 bt253.2 bt261.1 true) else (if t241 = bt243.1 then (if (bt245.2 != bt249.2) = true then (laws_FnFormsLeftOfAll.j12 kj69 l2 l3 a4 a7 a8 t241 t242 bt253.1 bt253.2 bt261.1 true) else ((laws_mSame.f kj69 bt245.1 bt249.1).bind fun t265 => (if t265 = true then (if (bt253.2 != bt257.2) = true then (laws_FnFormsLeftOfAll.j12 kj69 l2 l3 a4 a7 a8 t241 t242 bt253.1 bt253.2 bt261.1 true) else ((laws_mSame.f kj69 bt253.1 bt257.1).bind fun t266 => (if t266 = true then (if (bt261.2 != bt263.2) = true then (laws_FnFormsLeftOfAll.j12 kj69 l2 l3 a4 a7 a8 t241 t242 bt253.1 bt253.2 bt261.1 true) else (if bt261.1 = bt263.1 then (laws_FnFormsLeftOfAll.j12 kj69 l2 l3 a4 a7 a8 t241 t242 bt253.1 bt253.2 bt261.1 (bt261.2 != bt253.2)) else (laws_FnFormsLeftOfAll.j12 kj69 l2 l3 a4 a7 a8 t241 t242 bt253.1 bt253.2 bt261.1 true))) else (laws_FnFormsLeftOfAll.j12 kj69 l2 l3 a4 a7 a8 t241 t242 bt253.1 bt253.2 bt261.1 true)))) else (laws_FnFormsLeftOfAll.j12 kj69 l2 l3 a4 a7 a8 t241 t242 bt253.1 bt253.2 bt261.1 true)))) else (laws_FnFormsLeftOfAll.j12 kj69 l2 l3 a4 a7 a8 t241 t242 bt253.1 bt253.2 bt261.1 true)))))))))) = some r := H
           have A77 := Aside0.mk A770
           clear A770
           replace H := Option.bind_eq_some_iff.mp H
           obtain ⟨⟨t243, t244⟩, A780, H⟩ := H
           replace H : ((impl_RemaindersOf.f kj69 a5 l6).bind fun bt245 => ((spec_RemaindersOf.f kj69 a5 l6).bind fun bt249 => ((impl_TurnFormation.f kj69 a7 a8).bind fun bt253 => ((spec_TurnFormation.f kj69 a7 a8).bind fun bt257 => ((impl_TimesTurned.f kj69 a7 a8).bind fun bt261 => ((spec_TimesTurned.f kj69 a7 a8).bind fun bt263 => (if (t242 != t244) = true then (laws_FnFormsLeftOfAll.j12 kj69 l2 l3 a4 a7 a8 t241 t242 bt253.1 bt253.2 bt261.1 true) else (if t241 = t243 then (if (bt245.2 != bt249.2) = true then (laws_FnFormsLeftOfAll.j12 kj69 l2 l3 a4 a7 a8 t241 t242 bt253.1 bt253.2 bt261.1 true) else ((laws_mSame.f kj69 bt245.1 bt249.1).bind fun t265 => (if t265 = true then (if (bt253.2 != bt257.2) = true then (laws_FnFormsLeftOfAll.j12 kj69 l2 l3 a4 a7 a8 t241 t242 bt253.1 bt253.2 bt261.1 true) else ((laws_mSame.f kj69 bt253.1 bt257.1).bind fun t266 => (if t266 = true then (if (bt261.2 != bt263.2) = true then (laws_FnFormsLeftOfAll.j12 kj69 l2 l3 a4 a7 a8 t241 t242 bt253.1 bt253.2 bt261.1 true) else (if bt261.1 = bt263.1 then (laws_FnFormsLeftOfAll.j12 kj69 l2 l3 a4 a7 a8 t241 t242 bt253.1 bt253.2 bt261.1 (bt261.2 != bt253.2)) else (laws_FnFormsLeftOfAll.j12 kj69 l2 l3 a4 a7 a8 t241 t242 bt253.1 bt253.2 bt261.1 true))) else (laws_FnFormsLeftOfAll.j12 kj69 l2 l3 a4 a7 a8 t241 t242 bt253.1 bt253.2 bt261.1 true)))) else (laws_FnFormsLeftOfAll.j12 kj69 l2 l3 a4 a7 a8 t241 t242 bt253.1 bt253.2 bt261.1 true)))) else (laws_FnFormsLeftOfAll.j12 kj69 l2 l3 a4 a7 a8 t241 t242 bt253.1 bt253.2 bt261.1 true))))))))) = some r := H
           have A78 := Aside0.mk A780
           clear A780
           replace H := Option.bind_eq_some_iff.mp H
           obtain ⟨⟨t245, t246⟩, A790, H⟩ := H
           replace H : ((spec_RemaindersOf.f kj69 a5 l6).bind fun bt249 => ((impl_TurnFormation.f kj69 a7 a8).bind fun bt253 => ((spec_TurnFormation.f kj69 a7 a8).bind fun bt257 => ((impl_TimesTurned.f kj69 a7 a8).bind fun bt261 => ((spec_TimesTurned.f kj69 a7 a8).bind fun bt263 => (if (t242 != t244) = true then (laws_FnFormsLeftOfAll.j12 kj69 l2 l3 a4 a7 a8 t241 t242 bt253.1 bt253.2 bt261.1 true) else (if t241 = t243 then (if (t246 != bt249.2) = true then (laws_FnFormsLeftOfAll.j12 kj69 l2 l3 a4 a7 a8 t241 t242 bt253.1 bt253.2 bt261.1 true) else ((laws_mSame.f kj69 t245 bt249.1).bind fun t265 => (if t265 = true then (if (bt253.2 != bt257.2) = true then (laws_FnFormsLeftOfAll.j12 kj69 l2 l3 a4 a7 a8 t241 t242 bt253.1 bt253.2 bt261.1 true) else ((laws_mSame.f kj69 bt253.1 bt257.1).bind fun t266 => (if t266 = true then (if (bt261.2 != bt263.2) = true then (laws_FnFormsLeftOfAll.j12 kj69 l2 l3 a4 a7 a8 t241 t242 bt253.1 bt253.2 bt261.1 true) else (if bt261.1 = bt263.1 then (laws_FnFormsLeftOfAll.j12 kj69 l2 l3 a4 a7 a8 t241 t242 bt253.1 bt253.2 bt261.1 (bt261.2 != bt253.2)) else (laws_FnFormsLeftOfAll.j12 kj69 l2 l3 a4 a7 a8 t241 t242 bt253.1 bt253.2 bt261.1 true))) else (laws_FnFormsLeftOfAll.j12 kj69 l2 l3 a4 a7 a8 t241 t242 bt253.1 bt253.2 bt261.1 true)))) else (laws_FnFormsLeftOfAll.j12 kj69 l2 l3 a4 a7 a8 t241 t242 bt253.1 bt253.2 bt261.1 true)))) else (laws_FnFormsLeftOfAll.j12 kj69 l2 l3 a4 a7 a8 t241 t242 bt253.1 bt253.2 bt261.1 true)))))))) = some r := H
           have A79 := Aside0.mk A790
           clear A790
           replace H := Option.bind_eq_some_iff.mp H
           obtain ⟨⟨t249, t250⟩, A800, H⟩ := H
           replace H : ((impl_TurnFormation.f kj69 a7 a8).bind fun bt253 => ((spec_TurnFormation.f kj69 a7 a8).bind fun bt257 => ((impl_TimesTurned.f kj69 a7 a8).bind fun bt261 => ((spec_TimesTurned.f kj69 a7 a8).bind fun bt263 => (if (t242 != t244) = true then (laws_FnFormsLeftOfAll.j12 kj69 l2 l3 a4 a7 a8 t241 t242 bt253.1 bt253.2 bt261.1 true) else (if t241 = t243 then (if (t246 != t250) = true then (laws_FnFormsLeftOfAll.j12 kj69 l2 l3 a4 a7 a8 t241 t242 bt253.1 bt253.2 bt261.1 true) else ((laws_mSame.f kj69 t245 t249).bind fun t265 => (if t265 = true then (if (bt253.2 != bt257.2) = true then (laws_FnFormsLeftOfAll.j12 kj69 l2 l3 a4 a7 a8 t241 t242 bt253.1 bt253.2 bt261.1 true) else ((laws_mSame.f kj69 bt253.1 bt257.1).bind fun t266 => (if t266 = true then (if (bt261.2 != bt263.2) = true then (laws_FnFormsLeftOfAll.j12 kj69 l2 l3 a4 a7 a8 t241 t242 bt253.1 bt253.2 bt261.1 true) else (if bt261.1 = bt263.1 then (laws_FnFormsLeftOfAll.j12 kj69 l2 l3 a4 a7 a8 t241 t242 bt253.1 bt253.2 bt261.1 (bt261.2 != bt253.2)) else (laws_FnFormsLeftOfAll.j12 kj69 l2 l3 a4 a7 a8 t241 t242 bt253.1 bt253.2 bt261.1 true))) else (laws_FnFormsLeftOfAll.j12 kj69 l2 l3 a4 a7 a8 t241 t242 bt253.1 bt253.2 bt261.1 true)))) else (laws_FnFormsLeftOfAll.j12 kj69 l2 l3 a4 a7 a8 t241 t242 bt253.1 bt253.2 bt261.1 true)))) else (laws_FnFormsLeftOfAll.j12 kj69 l2 l3 a4 a7 a8 t241 t242 bt253.1 bt253.2 bt261.1 true))))))) = some r := H
           have A80 := Aside0.mk A800
           clear A800
           replace H := Option.bind_eq_some_iff.mp H
           obtain ⟨⟨t253, t254⟩, A810, H⟩ := H
           replace H : ((spec_TurnFormation.f kj69 a7 a8).bind fun bt257 => ((impl_TimesTurned.f kj69 a7 a8).bind fun bt261 => ((spec_TimesTurned.f kj69 a7 a8).bind fun bt263 => (if (t242 != t244) = true then (laws_FnFormsLeftOfAll.j12 kj69 l2 l3 a4 a7 a8 t241 t242 t253 t254 bt261.1 true) else (if t241 = t243 then (if (t246 != t250) = true then (laws_FnFormsLeftOfAll.j12 kj69 l2 l3 a4 a7 a8 t241 t242 t253 t254 bt261.1 true) else ((laws_mSame.f kj69 t245 t249).bind fun t265 => (if t265 = true then (if (t254 != bt257.2) = true then (laws_FnFormsLeftOfAll.j12 kj69 l2 l3 a4 a7 a8 t241 t242 t253 t254 bt261.1 true) else ((laws_mSame.f kj69 t253 bt257.1).bind fun t266 => (if t266 = true then (if (bt261.2 != bt263.2) = true then (laws_FnFormsLeftOfAll.j12 kj69 l2 l3 a4 a7 a8 t241 t242 t253 t254 bt261.1 true) else (if bt261.1 = bt263.1 then (laws_FnFormsLeftOfAll.j12 kj69 l2 l3 a4 a7 a8 t241 t242 t253 t254 bt261.1 (bt261.2 != t254)) else (laws_FnFormsLeftOfAll.j12 kj69 l2 l3 a4 a7 a8 t241 t242 t253 t254 bt261.1 true))) else (laws_FnFormsLeftOfAll.j12 kj69 l2 l3 a4 a7 a8 t241 t242 t253 t254 bt261.1 true)))) else (laws_FnFormsLeftOfAll.j12 kj69 l2 l3 a4 a7 a8 t241 t242 t253 t254 bt261.1 true)))) else (laws_FnFormsLeftOfAll.j12 kj69 l2 l3 a4 a7 a8 t241 t242 t253 t254 bt261.1 true)))))) = some r := H
           have A81 := Aside0.mk A810
           clear A810
           replace H := Option.bind_eq_some_iff.mp H
           obtain ⟨⟨t257, t258⟩, A820, H⟩ := H
           replace H : ((impl_TimesTurned.f kj69 a7 a8).bind fun bt261 => ((spec_TimesTurned.f kj69 a7 a8).bind fun bt263 => (if (t242 != t244) = true then (laws_FnFormsLeftOfAll.j12 kj69 l2 l3 a4 a7 a8 t241 t242 t253 t254 bt261.1 true) else (if t241 = t243 then (if (t246 != t250) = true then (laws_FnFormsLeftOfAll.j12 kj69 l2 l3 a4 a7 a8 t241 t242 t253 t254 bt261.1 true) else ((laws_mSame.f kj69 t245 t249).bind fun t265 => (if t265 = true then (if (t254 != t258) = true then (laws_FnFormsLeftOfAll.j12 kj69 l2 l3 a4 a7 a8 t241 t242 t253 t254 bt261.1 true) else ((laws_mSame.f kj69 t253 t257).bind fun t266 => (if t266 = true then (if (bt261.2 != bt263.2) = true then (laws_FnFormsLeftOfAll.j12 kj69 l2 l3 a4 a7 a8 t241 t242 t253 t254 bt261.1 true) else (if bt261.1 = bt263.1 then (laws_FnFormsLeftOfAll.j12 kj69 l2 l3 a4 a7 a8 t241 t242 t253 t254 bt261.1 (bt261.2 != t254)) else (laws_FnFormsLeftOfAll.j12 kj69 l2 l3 a4 a7 a8 t241 t242 t253 t254 bt261.1 true))) else (laws_FnFormsLeftOfAll.j12 kj69 l2 l3 a4 a7 a8 t241 t242 t253 t254 bt261.1 true)))) else (laws_FnFormsLeftOfAll.j12 kj69 l2 l3 a4 a7 a8 t241 t242 t253 t254 bt261.1 true)))) else (laws_FnFormsLeftOfAll.j12 kj69 l2 l3 a4 a7 a8 t241 t242 t253 t254 bt261.1 true))))) = some r := H
           have A82 := Aside0.mk A820
           clear A820
           replace H := Option.bind_eq_some_iff.mp H
           obtain ⟨⟨t261, t262⟩, A830, H⟩ := H
           replace H : ((spec_TimesTurned.f kj69 a7 a8).bind fun bt263 => (if (t242 != t244) = true then (laws_FnFormsLeftOfAll.j12 kj69 l2 l3 a4 a7 a8 t241 t242 t253 t254 t261 true) else (if t241 = t243 then (if (t246 != t250) = true then (laws_FnFormsLeftOfAll.j12 kj69 l2 l3 a4 a7 a8 t241 t242 t253 t254 t261 true) else ((laws_mSame.f kj69 t245 t249).bind fun t265 => (if t265 = true then (if (t254 != t258) = true then (laws_FnFormsLeftOfAll.j12 kj69 l2 l3 a4 a7 a8 t241 t242 t253 t254 t261 true) else ((laws_mSame.f kj69 t253 t257).bind fun t266 => (if t266 = true then (if (t262 != bt263.2) = true then (laws_FnFormsLeftOfAll.j12 kj69 l2 l3 a4 a7 a8 t241 t242 t253 t254 t261 true) else (if t261 = bt263.1 then (laws_FnFormsLeftOfAll.j12 kj69 l2 l3 a4 a7 a8 t241 t242 t253 t254 t261 (t262 != t254)) else (laws_FnFormsLeftOfAll.j12 kj69 l2 l3 a4 a7 a8 t241 t242 t253 t254 t261 true))) else (laws_FnFormsLeftOfAll.j12 kj69 l2 l3 a4 a7 a8 t241 t242 t253 t254 t261 true)))) else (laws_FnFormsLeftOfAll.j12 kj69 l2 l3 a4 a7 a8 t241 t242 t253 t254 t261 true)))) else (laws_FnFormsLeftOfAll.j12 kj69 l2 l3 a4 a7 a8 t241 t242 t253 t254 t261 true)))) = some r := H
           have A83 := Aside0.mk A830
           clear A830
           replace H := Option.bind_eq_some_iff.mp H
           obtain ⟨⟨t263, t264⟩, A840, H⟩ := H
           replace H : (if (t242 != t244) = true then (laws_FnFormsLeftOfAll.j12 kj69 l2 l3 a4 a7 a8 t241 t242 t253 t254 t261 true) else (if t241 = t243 then (if (t246 != t250) = true then (laws_FnFormsLeftOfAll.j12 kj69 l2 l3 a4 a7 a8 t241 t242 t253 t254 t261 true) else ((laws_mSame.f kj69 t245 t249).bind fun t265 => (if t265 = true then (if (t254 != t258) = true then (laws_FnFormsLeftOfAll.j12 kj69 l2 l3 a4 a7 a8 t241 t242 t253 t254 t261 true) else ((laws_mSame.f kj69 t253 t257).bind fun t266 => (if t266 = true then (if (t262 != t264) = true then (laws_FnFormsLeftOfAll.j12 kj69 l2 l3 a4 a7 a8 t241 t242 t253 t254 t261 true) else (if t261 = t263 then (laws_FnFormsLeftOfAll.j12 kj69 l2 l3 a4 a7 a8 t241 t242 t253 t254 t261 (t262 != t254)) else (laws_FnFormsLeftOfAll.j12 kj69 l2 l3 a4 a7 a8 t241 t242 t253 t254 t261 true))) else (laws_FnFormsLeftOfAll.j12 kj69 l2 l3 a4 a7 a8 t241 t242 t253 t254 t261 true)))) else (laws_FnFormsLeftOfAll.j12 kj69 l2 l3 a4 a7 a8 t241 t242 t253 t254 t261 true)))) else (laws_FnFormsLeftOfAll.j12 kj69 l2 l3 a4 a7 a8 t241 t242 t253 t254 t261 true))) = some r := H
           have A84 := Aside0.mk A840
           clear A840
           have HC85 := Aside0.mk H
           clear H
           go_upto_region 51 with (first | (go_at_call 17; (with_reducible refine (impl_CountWith.calls kj69 _ _ l2 _ _ l3 a4 t241 t242 _ ?side1 ?side2 ?side3 ?side4 A77.out).mono ?_); (case side1 => repeat (first | exact (Kd.C_below HR2.out HB.out) | (with_reducible refine Kd.C_alloc ?_ _) | (with_reducible refine Kd.C_drewN ?_ _) | (with_reducible refine Kd.C_drew ?_))); (case side2 => exact HC2.out); (case side3 => repeat (first | exact (Kd.C_below HR3.out HB.out) | (with_reducible refine Kd.C_alloc ?_ _) | (with_reducible refine Kd.C_drewN ?_ _) | (with_reducible refine Kd.C_drew ?_))); (case side4 => exact HC3.out); rintro e w' ⟨rfl, ⟨nd, rfl⟩⟩; (try first | exact ⟨rfl, _, World.drewN_drewN _ _ _⟩ | exact ⟨rfl, _, Eq.trans (World.drewN_drewN _ _ _) (congrArg (World.drewN _) (Nat.add_assoc _ _ _))⟩)) | (go_at_call 20; (with_reducible refine (spec_CountWith.calls kj69 _ _ l2 _ _ l3 a4 t243 t244 _ ?side1 ?side2 ?side3 ?side4 A78.out).mono ?_); (case side1 => repeat (first | exact (Kd.C_below HR2.out (by repeat (first | (with_reducible first | exact HB.out | apply below_alloc | apply pw_below_drewN | apply below_drew1) | exact HB.out))) | (with_reducible refine Kd.C_alloc ?_ _) | (with_reducible refine Kd.C_drewN ?_ _) | (with_reducible refine Kd.C_drew ?_))); (case side2 => exact HC2.out); (case side3 => repeat (first | exact (Kd.C_below HR3.out (by repeat (first | (with_reducible first | exact HB.out | apply below_alloc | apply pw_below_drewN | apply below_drew1) | exact HB.out))) | (with_reducible refine Kd.C_alloc ?_ _) | (with_reducible refine Kd.C_drewN ?_ _) | (with_reducible refine Kd.C_drew ?_))); (case side4 => exact HC3.out); rintro e w' ⟨rfl, ⟨nd, rfl⟩⟩; (try first | exact ⟨rfl, _, World.drewN_drewN _ _ _⟩ | exact ⟨rfl, _, Eq.trans (World.drewN_drewN _ _ _) (congrArg (World.drewN _) (Nat.add_assoc _ _ _))⟩)) | (go_at_call 18; (with_reducible refine (impl_RemaindersOf.calls kj69 a5 _ _ l6 t245 t246 _ ?side1 ?side2 A79.out).mono ?_); (case side1 => repeat (first | exact (Kd.C_below HR6.out (by repeat (first | (with_reducible first | exact HB.out | apply below_alloc | apply pw_below_drewN | apply below_drew1) | exact HB.out))) | (with_reducible refine Kd.C_alloc ?_ _) | (with_reducible refine Kd.C_drewN ?_ _) | (with_reducible refine Kd.C_drew ?_))); (case side2 => exact HC6.out); rintro e w86 ⟨v247, rfl, ho0, hb⟩; have n0_ := Aside0.mk (Kd.R_lower ho0 (below_size (by repeat (first | (with_reducible first | exact HB.out | apply below_alloc | apply pw_below_drewN | apply below_drew1) | exact HB.out)))); have n1_ := Aside0.mk (below_step (by repeat (first | (with_reducible first | exact HB.out | apply below_alloc | apply pw_below_drewN | apply below_drew1) | exact HB.out)) hb); clear HB; have HO248 := n0_; have HB := n1_; clear n0_ n1_; (try clear hb); (try clear hb2); (try clear hk); (try clear hi); (try clear ho0)) | (go_at_call 21; (with_reducible refine (spec_RemaindersOf.calls kj69 a5 _ _ l6 t249 t250 _ ?side1 ?side2 A80.out).mono ?_); (case side1 => repeat (first | exact (Kd.C_below HR6.out HB.out) | (with_reducible refine Kd.C_alloc ?_ _) | (with_reducible refine Kd.C_drewN ?_ _) | (with_reducible refine Kd.C_drew ?_))); (case side2 => exact HC6.out); rintro e w87 ⟨v251, rfl, ho0, hb⟩; have n0_ := Aside0.mk (Kd.R_elder' (by (with_reducible repeat (first | apply Kd.R_alloc | apply Kd.R_drewN | apply Kd.R_drew)); exact HO248.out) (Kd.R_base ho0) hb); have n1_ := Aside0.mk (Kd.R_lower (Kd.R_new' ho0 (Kd.R_lt (by (with_reducible repeat (first | apply Kd.R_alloc | apply Kd.R_drewN | apply Kd.R_drew)); exact HO248.out))) (below_size (by repeat (first | (with_reducible first | exact HB.out | apply below_alloc | apply pw_below_drewN | apply below_drew1) | exact HB.out)))); have n2_ := Aside0.mk (below_step (by repeat (first | (with_reducible first | exact HB.out | apply below_alloc | apply pw_below_drewN | apply below_drew1) | exact HB.out)) hb); clear HO248; clear HB; have HO248 := n0_; have HO252 := n1_; have HB := n2_; clear n0_ n1_ n2_; (try clear hb); (try clear hb2); (try clear hk); (try clear hi); (try clear ho0)) | (go_at_call 22; (with_reducible refine (impl_TurnFormation.calls kj69 a7 a8 t253 t254 _ A81.out).mono ?_); rintro e w88 ⟨v255, rfl, ho0, hb⟩; have n0_ := Aside0.mk (Kd.R_elder' (by (with_reducible repeat (first | apply Kd.R_alloc | apply Kd.R_drewN | apply Kd.R_drew)); exact HO248.out) (Kd.R_base ho0) hb); have n1_ := Aside0.mk (Kd.R_elder' (by (with_reducible repeat (first | apply Kd.R_alloc | apply Kd.R_drewN | apply Kd.R_drew)); exact HO252.out) (Kd.R_base ho0) hb); have n2_ := Aside0.mk (Kd.R_lower (Kd.R_new' (Kd.R_new' ho0 (Kd.R_lt (by (with_reducible repeat (first | apply Kd.R_alloc | apply Kd.R_drewN | apply Kd.R_drew)); exact HO248.out))) (Kd.R_lt (by (with_reducible repeat (first | apply Kd.R_alloc | apply Kd.R_drewN | apply Kd.R_drew)); exact HO252.out))) (below_size (by repeat (first | (with_reducible first | exact HB.out | apply below_alloc | apply pw_below_drewN | apply below_drew1) | exact HB.out)))); have n3_ := Aside0.mk (below_step (by repeat (first | (with_reducible first | exact HB.out | apply below_alloc | apply pw_below_drewN | apply below_drew1) | exact HB.out)) hb); clear HO248; clear HO252; clear HB; have HO248 := n0_; have HO252 := n1_; have HO256 := n2_; have HB := n3_; clear n0_ n1_ n2_ n3_; (try clear hb); (try clear hb2); (try clear hk); (try clear hi); (try clear ho0)) | (go_at_call 23; (with_reducible refine (spec_TurnFormation.calls kj69 a7 a8 t257 t258 _ A82.out).mono ?_); rintro e w89 ⟨v259, rfl, ho0, hb⟩; have n0_ := Aside0.mk (Kd.R_elder' (by (with_reducible repeat (first | apply Kd.R_alloc | apply Kd.R_drewN | apply Kd.R_drew)); exact HO248.out) (Kd.R_base ho0) hb); have n1_ := Aside0.mk (Kd.R_elder' (by (with_reducible repeat (first | apply Kd.R_alloc | apply Kd.R_drewN | apply Kd.R_drew)); exact HO252.out) (Kd.R_base ho0) hb); have n2_ := Aside0.mk (Kd.R_elder' (by (with_reducible repeat (first | apply Kd.R_alloc | apply Kd.R_drewN | apply Kd.R_drew)); exact HO256.out) (Kd.R_base ho0) hb); have n3_ := Aside0.mk (Kd.R_lower (Kd.R_new' (Kd.R_new' (Kd.R_new' ho0 (Kd.R_lt (by (with_reducible repeat (first | apply Kd.R_alloc | apply Kd.R_drewN | apply Kd.R_drew)); exact HO248.out))) (Kd.R_lt (by (with_reducible repeat (first | apply Kd.R_alloc | apply Kd.R_drewN | apply Kd.R_drew)); exact HO252.out))) (Kd.R_lt (by (with_reducible repeat (first | apply Kd.R_alloc | apply Kd.R_drewN | apply Kd.R_drew)); exact HO256.out))) (below_size (by repeat (first | (with_reducible first | exact HB.out | apply below_alloc | apply pw_below_drewN | apply below_drew1) | exact HB.out)))); have n4_ := Aside0.mk (below_step (by repeat (first | (with_reducible first | exact HB.out | apply below_alloc | apply pw_below_drewN | apply below_drew1) | exact HB.out)) hb); clear HO248; clear HO252; clear HO256; clear HB; have HO248 := n0_; have HO252 := n1_; have HO256 := n2_; have HO260 := n3_; have HB := n4_; clear n0_ n1_ n2_ n3_ n4_; (try clear hb); (try clear hb2); (try clear hk); (try clear hi); (try clear ho0)) | (go_at_call 24; (with_reducible refine (impl_TimesTurned.calls kj69 a7 a8 t261 t262 _ A83.out).mono ?_); rintro e w90 ⟨rfl, hb⟩; have n0_ := Aside0.mk (Kd.R_below (by (with_reducible repeat (first | apply Kd.R_alloc | apply Kd.R_drewN | apply Kd.R_drew)); exact HO248.out) hb); have n1_ := Aside0.mk (Kd.R_below (by (with_reducible repeat (first | apply Kd.R_alloc | apply Kd.R_drewN | apply Kd.R_drew)); exact HO252.out) hb); have n2_ := Aside0.mk (Kd.R_below (by (with_reducible repeat (first | apply Kd.R_alloc | apply Kd.R_drewN | apply Kd.R_drew)); exact HO256.out) hb); have n3_ := Aside0.mk (Kd.R_below (by (with_reducible repeat (first | apply Kd.R_alloc | apply Kd.R_drewN | apply Kd.R_drew)); exact HO260.out) hb); have n4_ := Aside0.mk (below_step (by repeat (first | (with_reducible first | exact HB.out | apply below_alloc | apply pw_below_drewN | apply below_drew1) | exact HB.out)) hb); clear HO248; clear HO252; clear HO256; clear HO260; clear HB; have HO248 := n0_; have HO252 := n1_; have HO256 := n2_; have HO260 := n3_; have HB := n4_; clear n0_ n1_ n2_ n3_ n4_; (try clear hb); (try clear hb2); (try clear hk); (try clear hi)) | (go_at_call 25; (with_reducible refine (spec_TimesTurned.calls kj69 a7 a8 t263 t264 _ A84.out).mono ?_); rintro e w91 ⟨rfl, hb⟩; have n0_ := Aside0.mk (Kd.R_below (by (with_reducible repeat (first | apply Kd.R_alloc | apply Kd.R_drewN | apply Kd.R_drew)); exact HO248.out) hb); have n1_ := Aside0.mk (Kd.R_below (by (with_reducible repeat (first | apply Kd.R_alloc | apply Kd.R_drewN | apply Kd.R_drew)); exact HO252.out) hb); have n2_ := Aside0.mk (Kd.R_below (by (with_reducible repeat (first | apply Kd.R_alloc | apply Kd.R_drewN | apply Kd.R_drew)); exact HO256.out) hb); have n3_ := Aside0.mk (Kd.R_below (by (with_reducible repeat (first | apply Kd.R_alloc | apply Kd.R_drewN | apply Kd.R_drew)); exact HO260.out) hb); have n4_ := Aside0.mk (below_step (by repeat (first | (with_reducible first | exact HB.out | apply below_alloc | apply pw_below_drewN | apply below_drew1) | exact HB.out)) hb); clear HO248; clear HO252; clear HO256; clear HO260; clear HB; have HO248 := n0_; have HO252 := n1_; have HO256 := n2_; have HO260 := n3_; have HB := n4_; clear n0_ n1_ n2_ n3_ n4_; (try clear hb); (try clear hb2); (try clear hk); (try clear hi)))
           repeat (go_quiet (first | (go_at_call 17; (with_reducible refine (impl_CountWith.calls kj69 _ _ l2 _ _ l3 a4 t241 t242 _ ?side1 ?side2 ?side3 ?side4 A77.out).mono ?_); (case side1 => repeat (first | exact (Kd.C_below HR2.out HB.out) | (with_reducible refine Kd.C_alloc ?_ _) | (with_reducible refine Kd.C_drewN ?_ _) | (with_reducible refine Kd.C_drew ?_))); (case side2 => exact HC2.out); (case side3 => repeat (first | exact (Kd.C_below HR3.out HB.out) | (with_reducible refine Kd.C_alloc ?_ _) | (with_reducible refine Kd.C_drewN ?_ _) | (with_reducible refine Kd.C_drew ?_))); (case side4 => exact HC3.out); rintro e w' ⟨rfl, ⟨nd, rfl⟩⟩; (try first | exact ⟨rfl, _, World.drewN_drewN _ _ _⟩ | exact ⟨rfl, _, Eq.trans (World.drewN_drewN _ _ _) (congrArg (World.drewN _) (Nat.add_assoc _ _ _))⟩)) | (go_at_call 20; (with_reducible refine (spec_CountWith.calls kj69 _ _ l2 _ _ l3 a4 t243 t244 _ ?side1 ?side2 ?side3 ?side4 A78.out).mono ?_); (case side1 => repeat (first | exact (Kd.C_below HR2.out (by repeat (first | (with_reducible first | exact HB.out | apply below_alloc | apply pw_below_drewN | apply below_drew1) | exact HB.out))) | (with_reducible refine Kd.C_alloc ?_ _) | (with_reducible refine Kd.C_drewN ?_ _) | (with_reducible refine Kd.C_drew ?_))); (case side2 => exact HC2.out); (case side3 => repeat (first | exact (Kd.C_below HR3.out (by repeat (first | (with_reducible first | exact HB.out | apply below_alloc | apply pw_below_drewN | apply below_drew1) | exact HB.out))) | (with_reducible refine Kd.C_alloc ?_ _) | (with_reducible refine Kd.C_drewN ?_ _) | (with_reducible refine Kd.C_drew ?_))); (case side4 => exact HC3.out); rintro e w' ⟨rfl, ⟨nd, rfl⟩⟩; (try first | exact ⟨rfl, _, World.drewN_drewN _ _ _⟩ | exact ⟨rfl, _, Eq.trans (World.drewN_drewN _ _ _) (congrArg (World.drewN _) (Nat.add_assoc _ _ _))⟩)) | (go_at_call 18; (with_reducible refine (impl_RemaindersOf.calls kj69 a5 _ _ l6 t245 t246 _ ?side1 ?side2 A79.out).mono ?_); (case side1 => repeat (first | exact (Kd.C_below HR6.out (by repeat (first | (with_reducible first | exact HB.out | apply below_alloc | apply pw_below_drewN | apply below_drew1) | exact HB.out))) | (with_reducible refine Kd.C_alloc ?_ _) | (with_reducible refine Kd.C_drewN ?_ _) | (with_reducible refine Kd.C_drew ?_))); (case side2 => exact HC6.out); rintro e w86 ⟨v247, rfl, ho0, hb⟩; have n0_ := Aside0.mk (Kd.R_lower ho0 (below_size (by repeat (first | (with_reducible first | exact HB.out | apply below_alloc | apply pw_below_drewN | apply below_drew1) | exact HB.out)))); have n1_ := Aside0.mk (below_step (by repeat (first | (with_reducible first | exact HB.out | apply below_alloc | apply pw_below_drewN | apply below_drew1) | exact HB.out)) hb); clear HB; have HO248 := n0_; have HB := n1_; clear n0_ n1_; (try clear hb); (try clear hb2); (try clear hk); (try clear hi); (try clear ho0)) | (go_at_call 21; (with_reducible refine (spec_RemaindersOf.calls kj69 a5 _ _ l6 t249 t250 _ ?side1 ?side2 A80.out).mono ?_); (case side1 => repeat (first | exact (Kd.C_below HR6.out HB.out) | (with_reducible refine Kd.C_alloc ?_ _) | (with_reducible refine Kd.C_drewN ?_ _) | (with_reducible refine Kd.C_drew ?_))); (case side2 => exact HC6.out); rintro e w87 ⟨v251, rfl, ho0, hb⟩; have n0_ := Aside0.mk (Kd.R_elder' (by (with_reducible repeat (first | apply Kd.R_alloc | apply Kd.R_drewN | apply Kd.R_drew)); exact HO248.out) (Kd.R_base ho0) hb); have n1_ := Aside0.mk (Kd.R_lower (Kd.R_new' ho0 (Kd.R_lt (by (with_reducible repeat (first | apply Kd.R_alloc | apply Kd.R_drewN | apply Kd.R_drew)); exact HO248.out))) (below_size (by repeat (first | (with_reducible first | exact HB.out | apply below_alloc | apply pw_below_drewN | apply below_drew1) | exact HB.out)))); have n2_ := Aside0.mk (below_step (by repeat (first | (with_reducible first | exact HB.out | apply below_alloc | apply pw_below_drewN | apply below_drew1) | exact HB.out)) hb); clear HO248; clear HB; have HO248 := n0_; have HO252 := n1_; have HB := n2_; clear n0_ n1_ n2_; (try clear hb); (try clear hb2); (try clear hk); (try clear hi); (try clear ho0)) | (go_at_call 22; (with_reducible refine (impl_TurnFormation.calls kj69 a7 a8 t253 t254 _ A81.out).mono ?_); rintro e w88 ⟨v255, rfl, ho0, hb⟩; have n0_ := Aside0.mk (Kd.R_elder' (by (with_reducible repeat (first | apply Kd.R_alloc | apply Kd.R_drewN | apply Kd.R_drew)); exact HO248.out) (Kd.R_base ho0) hb); have n1_ := Aside0.mk (Kd.R_elder' (by (with_reducible repeat (first | apply Kd.R_alloc | apply Kd.R_drewN | apply Kd.R_drew)); exact HO252.out) (Kd.R_base ho0) hb); have n2_ := Aside0.mk (Kd.R_lower (Kd.R_new' (Kd.R_new' ho0 (Kd.R_lt (by (with_reducible repeat (first | apply Kd.R_alloc | apply Kd.R_drewN | apply Kd.R_drew)); exact HO248.out))) (Kd.R_lt (by (with_reducible repeat (first | apply Kd.R_alloc | apply Kd.R_drewN | apply Kd.R_drew)); exact HO252.out))) (below_size (by repeat (first | (with_reducible first | exact HB.out | apply below_alloc | apply pw_below_drewN | apply below_drew1) | exact HB.out)))); have n3_ := Aside0.mk (below_step (by repeat (first | (with_reducible first | exact HB.out | apply below_alloc | apply pw_below_drewN | apply below_drew1) | exact HB.out)) hb); clear HO248; clear HO252; clear HB; have HO248 := n0_; have HO252 := n1_; have HO256 := n2_; have HB := n3_; clear n0_ n1_ n2_ n3_; (try clear hb); (try clear hb2); (try clear hk); (try clear hi); (try clear ho0)) | (go_at_call 23; (with_reducible refine (spec_TurnFormation.calls kj69 a7 a8 t257 t258 _ A82.out).mono ?_); rintro e w89 ⟨v259, rfl, ho0, hb⟩; have n0_ := Aside0.mk (Kd.R_elder' (by (with_reducible repeat (first | apply Kd.R_alloc | apply Kd.R_drewN | apply Kd.R_drew)); exact HO248.out) (Kd.R_base ho0) hb); have n1_ := Aside0.mk (Kd.R_elder' (by (with_reducible repeat (first | apply Kd.R_alloc | apply Kd.R_drewN | apply Kd.R_drew)); exact HO252.out) (Kd.R_base ho0) hb); have n2_ := Aside0.mk (Kd.R_elder' (by (with_reducible repeat (first | apply Kd.R_alloc | apply Kd.R_drewN | apply Kd.R_drew)); exact HO256.out) (Kd.R_base ho0) hb); have n3_ := Aside0.mk (Kd.R_lower (Kd.R_new' (Kd.R_new' (Kd.R_new' ho0 (Kd.R_lt (by (with_reducible repeat (first | apply Kd.R_alloc | apply Kd.R_drewN | apply Kd.R_drew)); exact HO248.out))) (Kd.R_lt (by (with_reducible repeat (first | apply Kd.R_alloc | apply Kd.R_drewN | apply Kd.R_drew)); exact HO252.out))) (Kd.R_lt (by (with_reducible repeat (first | apply Kd.R_alloc | apply Kd.R_drewN | apply Kd.R_drew)); exact HO256.out))) (below_size (by repeat (first | (with_reducible first | exact HB.out | apply below_alloc | apply pw_below_drewN | apply below_drew1) | exact HB.out)))); have n4_ := Aside0.mk (below_step (by repeat (first | (with_reducible first | exact HB.out | apply below_alloc | apply pw_below_drewN | apply below_drew1) | exact HB.out)) hb); clear HO248; clear HO252; clear HO256; clear HB; have HO248 := n0_; have HO252 := n1_; have HO256 := n2_; have HO260 := n3_; have HB := n4_; clear n0_ n1_ n2_ n3_ n4_; (try clear hb); (try clear hb2); (try clear hk); (try clear hi); (try clear ho0)) | (go_at_call 24; (with_reducible refine (impl_TimesTurned.calls kj69 a7 a8 t261 t262 _ A83.out).mono ?_); rintro e w90 ⟨rfl, hb⟩; have n0_ := Aside0.mk (Kd.R_below (by (with_reducible repeat (first | apply Kd.R_alloc | apply Kd.R_drewN | apply Kd.R_drew)); exact HO248.out) hb); have n1_ := Aside0.mk (Kd.R_below (by (with_reducible repeat (first | apply Kd.R_alloc | apply Kd.R_drewN | apply Kd.R_drew)); exact HO252.out) hb); have n2_ := Aside0.mk (Kd.R_below (by (with_reducible repeat (first | apply Kd.R_alloc | apply Kd.R_drewN | apply Kd.R_drew)); exact HO256.out) hb); have n3_ := Aside0.mk (Kd.R_below (by (with_reducible repeat (first | apply Kd.R_alloc | apply Kd.R_drewN | apply Kd.R_drew)); exact HO260.out) hb); have n4_ := Aside0.mk (below_step (by repeat (first | (with_reducible first | exact HB.out | apply below_alloc | apply pw_below_drewN | apply below_drew1) | exact HB.out)) hb); clear HO248; clear HO252; clear HO256; clear HO260; clear HB; have HO248 := n0_; have HO252 := n1_; have HO256 := n2_; have HO260 := n3_; have HB := n4_; clear n0_ n1_ n2_ n3_ n4_; (try clear hb); (try clear hb2); (try clear hk); (try clear hi)) | (go_at_call 25; (with_reducible refine (spec_TimesTurned.calls kj69 a7 a8 t263 t264 _ A84.out).mono ?_); rintro e w91 ⟨rfl, hb⟩; have n0_ := Aside0.mk (Kd.R_below (by (with_reducible repeat (first | apply Kd.R_alloc | apply Kd.R_drewN | apply Kd.R_drew)); exact HO248.out) hb); have n1_ := Aside0.mk (Kd.R_below (by (with_reducible repeat (first | apply Kd.R_alloc | apply Kd.R_drewN | apply Kd.R_drew)); exact HO252.out) hb); have n2_ := Aside0.mk (Kd.R_below (by (with_reducible repeat (first | apply Kd.R_alloc | apply Kd.R_drewN | apply Kd.R_drew)); exact HO256.out) hb); have n3_ := Aside0.mk (Kd.R_below (by (with_reducible repeat (first | apply Kd.R_alloc | apply Kd.R_drewN | apply Kd.R_drew)); exact HO260.out) hb); have n4_ := Aside0.mk (below_step (by repeat (first | (with_reducible first | exact HB.out | apply below_alloc | apply pw_below_drewN | apply below_drew1) | exact HB.out)) hb); clear HO248; clear HO252; clear HO256; clear HO260; clear HB; have HO248 := n0_; have HO252 := n1_; have HO256 := n2_; have HO260 := n3_; have HB := n4_; clear n0_ n1_ n2_ n3_ n4_; (try clear hb); (try clear hb2); (try clear hk); (try clear hi))); go_upto_region 51 with (first | (go_at_call 17; (with_reducible refine (impl_CountWith.calls kj69 _ _ l2 _ _ l3 a4 t241 t242 _ ?side1 ?side2 ?side3 ?side4 A77.out).mono ?_); (case side1 => repeat (first | exact (Kd.C_below HR2.out HB.out) | (with_reducible refine Kd.C_alloc ?_ _) | (with_reducible refine Kd.C_drewN ?_ _) | (with_reducible refine Kd.C_drew ?_))); (case side2 => exact HC2.out); (case side3 => repeat (first | exact (Kd.C_below HR3.out HB.out) | (with_reducible refine Kd.C_alloc ?_ _) | (with_reducible refine Kd.C_drewN ?_ _) | (with_reducible refine Kd.C_drew ?_))); (case side4 => exact HC3.out); rintro e w' ⟨rfl, ⟨nd, rfl⟩⟩; (try first | exact ⟨rfl, _, World.drewN_drewN _ _ _⟩ | exact ⟨rfl, _, Eq.trans (World.drewN_drewN _ _ _) (congrArg (World.drewN _) (Nat.add_assoc _ _ _))⟩)) | (go_at_call 20; (with_reducible refine (spec_CountWith.calls kj69 _ _ l2 _ _ l3 a4 t243 t244 _ ?side1 ?side2 ?side3 ?side4 A78.out).mono ?_); (case side1 => repeat (first | exact (Kd.C_below HR2.out (by repeat (first | (with_reducible first | exact HB.out | apply below_alloc | apply pw_below_drewN | apply below_drew1) | exact HB.out))) | (with_reducible refine Kd.C_alloc ?_ _) | (with_reducible refine Kd.C_drewN ?_ _) | (with_reducible refine Kd.C_drew ?_))); (case side2 => exact HC2.out); (case side3 => repeat (first | exact (Kd.C_below HR3.out (by repeat (first | (with_reducible first | exact HB.out | apply below_alloc | apply pw_below_drewN | apply below_drew1) | exact HB.out))) | (with_reducible refine Kd.C_alloc ?_ _) | (with_reducible refine Kd.C_drewN ?_ _) | (with_reducible refine Kd.C_drew ?_))); (case side4 => exact HC3.out); rintro e w' ⟨rfl, ⟨nd, rfl⟩⟩; (try first | exact ⟨rfl, _, World.drewN_drewN _ _ _⟩ | exact ⟨rfl, _, Eq.trans (World.drewN_drewN _ _ _) (congrArg (World.drewN _) (Nat.add_assoc _ _ _))⟩)) | (go_at_call 18; (with_reducible refine (impl_RemaindersOf.calls kj69 a5 _ _ l6 t245 t246 _ ?side1 ?side2 A79.out).mono ?_); (case side1 => repeat (first | exact (Kd.C_below HR6.out (by repeat (first | (with_reducible first | exact HB.out | apply below_alloc | apply pw_below_drewN | apply below_drew1) | exact HB.out))) | (with_reducible refine Kd.C_alloc ?_ _) | (with_reducible refine Kd.C_drewN ?_ _) | (with_reducible refine Kd.C_drew ?_))); (case side2 => exact HC6.out); rintro e w86 ⟨v247, rfl, ho0, hb⟩; have n0_ := Aside0.mk (Kd.R_lower ho0 (below_size (by repeat (first | (with_reducible first | exact HB.out | apply below_alloc | apply pw_below_drewN | apply below_drew1) | exact HB.out)))); have n1_ := Aside0.mk (below_step (by repeat (first | (with_reducible first | exact HB.out | apply below_alloc | apply pw_below_drewN | apply below_drew1) | exact HB.out)) hb); clear HB; have HO248 := n0_; have HB := n1_; clear n0_ n1_; (try clear hb); (try clear hb2); (try clear hk); (try clear hi); (try clear ho0)) | (go_at_call 21; (with_reducible refine (spec_RemaindersOf.calls kj69 a5 _ _ l6 t249 t250 _ ?side1 ?side2 A80.out).mono ?_); (case side1 => repeat (first | exact (Kd.C_below HR6.out HB.out) | (with_reducible refine Kd.C_alloc ?_ _) | (with_reducible refine Kd.C_drewN ?_ _) | (with_reducible refine Kd.C_drew ?_))); (case side2 => exact HC6.out); rintro e w87 ⟨v251, rfl, ho0, hb⟩; have n0_ := Aside0.mk (Kd.R_elder' (by (with_reducible repeat (first | apply Kd.R_alloc | apply Kd.R_drewN | apply Kd.R_drew)); exact HO248.out) (Kd.R_base ho0) hb); have n1_ := Aside0.mk (Kd.R_lower (Kd.R_new' ho0 (Kd.R_lt (by (with_reducible repeat (first | apply Kd.R_alloc | apply Kd.R_drewN | apply Kd.R_drew)); exact HO248.out))) (below_size (by repeat (first | (with_reducible first | exact HB.out | apply below_alloc | apply pw_below_drewN | apply below_drew1) | exact HB.out)))); have n2_ := Aside0.mk (below_step (by repeat (first | (with_reducible first | exact HB.out | apply below_alloc | apply pw_below_drewN | apply below_drew1) | exact HB.out)) hb); clear HO248; clear HB; have HO248 := n0_; have HO252 := n1_; have HB := n2_; clear n0_ n1_ n2_; (try clear hb); (try clear hb2); (try clear hk); (try clear hi); (try clear ho0)) | (go_at_call 22; (with_reducible refine (impl_TurnFormation.calls kj69 a7 a8 t253 t254 _ A81.out).mono ?_); rintro e w88 ⟨v255, rfl, ho0, hb⟩; have n0_ := Aside0.mk (Kd.R_elder' (by (with_reducible repeat (first | apply Kd.R_alloc | apply Kd.R_drewN | apply Kd.R_drew)); exact HO248.out) (Kd.R_base ho0) hb); have n1_ := Aside0.mk (Kd.R_elder' (by (with_reducible repeat (first | apply Kd.R_alloc | apply Kd.R_drewN | apply Kd.R_drew)); exact HO252.out) (Kd.R_base ho0) hb); have n2_ := Aside0.mk (Kd.R_lower (Kd.R_new' (Kd.R_new' ho0 (Kd.R_lt (by (with_reducible repeat (first | apply Kd.R_alloc | apply Kd.R_drewN | apply Kd.R_drew)); exact HO248.out))) (Kd.R_lt (by (with_reducible repeat (first | apply Kd.R_alloc | apply Kd.R_drewN | apply Kd.R_drew)); exact HO252.out))) (below_size (by repeat (first | (with_reducible first | exact HB.out | apply below_alloc | apply pw_below_drewN | apply below_drew1) | exact HB.out)))); have n3_ := Aside0.mk (below_step (by repeat (first | (with_reducible first | exact HB.out | apply below_alloc | apply pw_below_drewN | apply below_drew1) | exact HB.out)) hb); clear HO248; clear HO252; clear HB; have HO248 := n0_; have HO252 := n1_; have HO256 := n2_; have HB := n3_; clear n0_ n1_ n2_ n3_; (try clear hb); (try clear hb2); (try clear hk); (try clear hi); (try clear ho0)) | (go_at_call 23; (with_reducible refine (spec_TurnFormation.calls kj69 a7 a8 t257 t258 _ A82.out).mono ?_); rintro e w89 ⟨v259, rfl, ho0, hb⟩; have n0_ := Aside0.mk (Kd.R_elder' (by (with_reducible repeat (first | apply Kd.R_alloc | apply Kd.R_drewN | apply Kd.R_drew)); exact HO248.out) (Kd.R_base ho0) hb); have n1_ := Aside0.mk (Kd.R_elder' (by (with_reducible repeat (first | apply Kd.R_alloc | apply Kd.R_drewN | apply Kd.R_drew)); exact HO252.out) (Kd.R_base ho0) hb); have n2_ := Aside0.mk (Kd.R_elder' (by (with_reducible repeat (first | apply Kd.R_alloc | apply Kd.R_drewN | apply Kd.R_drew)); exact HO256.out) (Kd.R_base ho0) hb); have n3_ := Aside0.mk (Kd.R_lower (Kd.R_new' (Kd.R_new' (Kd.R_new' ho0 (Kd.R_lt (by (with_reducible repeat (first | apply Kd.R_alloc | apply Kd.R_drewN | apply Kd.R_drew)); exact HO248.out))) (Kd.R_lt (by (with_reducible repeat (first | apply Kd.R_alloc | apply Kd.R_drewN | apply Kd.R_drew)); exact HO252.out))) (Kd.R_lt (by (with_reducible repeat (first | apply Kd.R_alloc | apply Kd.R_drewN | apply Kd.R_drew)); exact HO256.out))) (below_size (by repeat (first | (with_reducible first | exact HB.out | apply below_alloc | apply pw_below_drewN | apply below_drew1) | exact HB.out)))); have n4_ := Aside0.mk (below_step (by repeat (first | (with_reducible first | exact HB.out | apply below_alloc | apply pw_below_drewN | apply below_drew1) | exact HB.out)) hb); clear HO248; clear HO252; clear HO256; clear HB; have HO248 := n0_; have HO252 := n1_; have HO256 := n2_; have HO260 := n3_; have HB := n4_; clear n0_ n1_ n2_ n3_ n4_; (try clear hb); (try clear hb2); (try clear hk); (try clear hi); (try clear ho0)) | (go_at_call 24; (with_reducible refine (impl_TimesTurned.calls kj69 a7 a8 t261 t262 _ A83.out).mono ?_); rintro e w90 ⟨rfl, hb⟩; have n0_ := Aside0.mk (Kd.R_below (by (with_reducible repeat (first | apply Kd.R_alloc | apply Kd.R_drewN | apply Kd.R_drew)); exact HO248.out) hb); have n1_ := Aside0.mk (Kd.R_below (by (with_reducible repeat (first | apply Kd.R_alloc | apply Kd.R_drewN | apply Kd.R_drew)); exact HO252.out) hb); have n2_ := Aside0.mk (Kd.R_below (by (with_reducible repeat (first | apply Kd.R_alloc | apply Kd.R_drewN | apply Kd.R_drew)); exact HO256.out) hb); have n3_ := Aside0.mk (Kd.R_below (by (with_reducible repeat (first | apply Kd.R_alloc | apply Kd.R_drewN | apply Kd.R_drew)); exact HO260.out) hb); have n4_ := Aside0.mk (below_step (by repeat (first | (with_reducible first | exact HB.out | apply below_alloc | apply pw_below_drewN | apply below_drew1) | exact HB.out)) hb); clear HO248; clear HO252; clear HO256; clear HO260; clear HB; have HO248 := n0_; have HO252 := n1_; have HO256 := n2_; have HO260 := n3_; have HB := n4_; clear n0_ n1_ n2_ n3_ n4_; (try clear hb); (try clear hb2); (try clear hk); (try clear hi)) | (go_at_call 25; (with_reducible refine (spec_TimesTurned.calls kj69 a7 a8 t263 t264 _ A84.out).mono ?_); rintro e w91 ⟨rfl, hb⟩; have n0_ := Aside0.mk (Kd.R_below (by (with_reducible repeat (first | apply Kd.R_alloc | apply Kd.R_drewN | apply Kd.R_drew)); exact HO248.out) hb); have n1_ := Aside0.mk (Kd.R_below (by (with_reducible repeat (first | apply Kd.R_alloc | apply Kd.R_drewN | apply Kd.R_drew)); exact HO252.out) hb); have n2_ := Aside0.mk (Kd.R_below (by (with_reducible repeat (first | apply Kd.R_alloc | apply Kd.R_drewN | apply Kd.R_drew)); exact HO256.out) hb); have n3_ := Aside0.mk (Kd.R_below (by (with_reducible repeat (first | apply Kd.R_alloc | apply Kd.R_drewN | apply Kd.R_drew)); exact HO260.out) hb); have n4_ := Aside0.mk (below_step (by repeat (first | (with_reducible first | exact HB.out | apply below_alloc | apply pw_below_drewN | apply below_drew1) | exact HB.out)) hb); clear HO248; clear HO252; clear HO256; clear HO260; clear HB; have HO248 := n0_; have HO252 := n1_; have HO256 := n2_; have HO260 := n3_; have HB := n4_; clear n0_ n1_ n2_ n3_ n4_; (try clear hb); (try clear hb2); (try clear hk); (try clear hi))))
           (try simp only [Act.put, List.setIfInBounds_toArray, List.set_cons_zero, List.set_cons_succ])
           go_cut [375] from 254 to 375 (fun v375 wc => ∃ (kq : Nat) (x375_84 : Bool), v375 = .bool x375_84 ∧ Aside0 (laws_FnFormsLeftOfAll.j12 kq l2 l3 a4 a7 a8 t241 t242 t253 t254 t261 x375_84 = some r) ∧ Aside0 (kq ≤ kj69) ∧ Aside0 (Kd.R (Kd.int .i64) 3 wc w.heap.size (fun _ => True) v255 t253) ∧ Aside0 (Below w.heap.size w wc))
           case first => as_aux_lemma =>
            have H := HC85.out
            clear HC85
            by_cases c92 : (t242 != t244) = true
            ·
             rw [if_pos c92] at H
             exact (laws_FnFormsLeftOfAll.j12_no _ _ _ _ _ _ _ _ _ _ _ (H.trans (congrArg some HE_.out))).elim
            ·
             rw [if_neg c92] at H
             have c92b0 : (t242 != t244) = false := by simpa using c92
             (try (have c92b1 : decide (t242 = t244) = true := by simpa using c92))
             (try (have c92b2 : (t242 == t244) = true := by simpa using c92))
             clear c92
             (first | rw [c92b0] | (simp only [i64_w, i32_w]; rw [c92b0]) | skip)
             by_cases c93 : t241 = t243
             ·
              rw [if_pos c93] at H
              have c93b0 : (t241 == t243) = true := beq_iff_eq.mpr c93
              have c93b1 : (t241 != t243) = false := bne_eq_false_iff_eq.mpr c93
              clear c93
              by_cases c94 : (t246 != t250) = true
              ·
               rw [if_pos c94] at H
               exact (laws_FnFormsLeftOfAll.j12_no _ _ _ _ _ _ _ _ _ _ _ (H.trans (congrArg some HE_.out))).elim
              ·
               rw [if_neg c94] at H
               have c94b0 : (t246 != t250) = false := by simpa using c94
               (try (have c94b1 : decide (t246 = t250) = true := by simpa using c94))
               (try (have c94b2 : (t246 == t250) = true := by simpa using c94))
               clear c94
               replace H := Option.bind_eq_some_iff.mp H
               obtain ⟨t265, A950, H⟩ := H
               replace H : (if t265 = true then (if (t254 != t258) = true then (laws_FnFormsLeftOfAll.j12 kj69 l2 l3 a4 a7 a8 t241 t242 t253 t254 t261 true) else ((laws_mSame.f kj69 t253 t257).bind fun t266 => (if t266 = true then (if (t262 != t264) = true then (laws_FnFormsLeftOfAll.j12 kj69 l2 l3 a4 a7 a8 t241 t242 t253 t254 t261 true) else (if t261 = t263 then (laws_FnFormsLeftOfAll.j12 kj69 l2 l3 a4 a7 a8 t241 t242 t253 t254 t261 (t262 != t254)) else (laws_FnFormsLeftOfAll.j12 kj69 l2 l3 a4 a7 a8 t241 t242 t253 t254 t261 true))) else (laws_FnFormsLeftOfAll.j12 kj69 l2 l3 a4 a7 a8 t241 t242 t253 t254 t261 true)))) else (laws_FnFormsLeftOfAll.j12 kj69 l2 l3 a4 a7 a8 t241 t242 t253 t254 t261 true)) = some r := H
               have A95 := Aside0.mk A950
               clear A950
               by_cases c96 : t265 = true
               ·
                subst c96
                have H1 : (if (t254 != t258) = true then (laws_FnFormsLeftOfAll.j12 kj69 l2 l3 a4 a7 a8 t241 t242 t253 t254 t261 true) else ((laws_mSame.f kj69 t253 t257).bind fun t266 => (if t266 = true then (if (t262 != t264) = true then (laws_FnFormsLeftOfAll.j12 kj69 l2 l3 a4 a7 a8 t241 t242 t253 t254 t261 true) else (if t261 = t263 then (laws_FnFormsLeftOfAll.j12 kj69 l2 l3 a4 a7 a8 t241 t242 t253 t254 t261 (t262 != t254)) else (laws_FnFormsLeftOfAll.j12 kj69 l2 l3 a4 a7 a8 t241 t242 t253 t254 t261 true))) else (laws_FnFormsLeftOfAll.j12 kj69 l2 l3 a4 a7 a8 t241 t242 t253 t254 t261 true)))) = some r := by rw [if_pos rfl] at H; exact H
                clear H
                have H := H1
                clear H1
                by_cases c97 : (t254 != t258) = true
                ·
                 rw [if_pos c97] at H
                 exact (laws_FnFormsLeftOfAll.j12_no _ _ _ _ _ _ _ _ _ _ _ (H.trans (congrArg some HE_.out))).elim
                ·
                 rw [if_neg c97] at H
                 have c97b0 : (t254 != t258) = false := by simpa using c97
                 (try (have c97b1 : decide (t254 = t258) = true := by simpa using c97))
                 (try (have c97b2 : (t254 == t258) = true := by simpa using c97))
                 clear c97
                 replace H := Option.bind_eq_some_iff.mp H
                 obtain ⟨t266, A980, H⟩ := H
                 replace H : (if t266 = true then (if (t262 != t264) = true then (laws_FnFormsLeftOfAll.j12 kj69 l2 l3 a4 a7 a8 t241 t242 t253 t254 t261 true) else (if t261 = t263 then (laws_FnFormsLeftOfAll.j12 kj69 l2 l3 a4 a7 a8 t241 t242 t253 t254 t261 (t262 != t254)) else (laws_FnFormsLeftOfAll.j12 kj69 l2 l3 a4 a7 a8 t241 t242 t253 t254 t261 true))) else (laws_FnFormsLeftOfAll.j12 kj69 l2 l3 a4 a7 a8 t241 t242 t253 t254 t261 true)) = some r := H
                 have A98 := Aside0.mk A980
                 clear A980
                 by_cases c99 : t266 = true
                 ·
                  subst c99
                  have H1 : (if (t262 != t264) = true then (laws_FnFormsLeftOfAll.j12 kj69 l2 l3 a4 a7 a8 t241 t242 t253 t254 t261 true) else (if t261 = t263 then (laws_FnFormsLeftOfAll.j12 kj69 l2 l3 a4 a7 a8 t241 t242 t253 t254 t261 (t262 != t254)) else (laws_FnFormsLeftOfAll.j12 kj69 l2 l3 a4 a7 a8 t241 t242 t253 t254 t261 true))) = some r := by rw [if_pos rfl] at H; exact H
                  clear H
                  have H := H1
                  clear H1
                  by_cases c100 : (t262 != t264) = true
                  ·
                   rw [if_pos c100] at H
                   exact (laws_FnFormsLeftOfAll.j12_no _ _ _ _ _ _ _ _ _ _ _ (H.trans (congrArg some HE_.out))).elim
                  ·
                   rw [if_neg c100] at H
                   have c100b0 : (t262 != t264) = false := by simpa using c100
                   (try (have c100b1 : decide (t262 = t264) = true := by simpa using c100))
                   (try (have c100b2 : (t262 == t264) = true := by simpa using c100))
                   clear c100
                   by_cases c101 : t261 = t263
                   ·
                    rw [if_pos c101] at H
                    have c101b0 : (t261 == t263) = true := beq_iff_eq.mpr c101
                    have c101b1 : (t261 != t263) = false := bne_eq_false_iff_eq.mpr c101
                    clear c101
                    have H' := Aside0.mk H
                    clear H
                    obtain ⟨Ao102, co102, eo102⟩ := Kd.R_slice HO248.out
                    subst eo102
                    obtain ⟨Ao103, co103, eo103⟩ := Kd.R_slice HO252.out
                    subst eo103
                    go_wp2_with (first | (go_at_call 19; (with_reducible refine (laws_mSame.calls kj69 _ _ t245 _ _ t249 true _ ?side1 ?side2 ?side3 ?side4 A95.out).mono ?_); (case side1 => repeat (first | exact (Kd.R_reads' HO248.out).2.2 | (with_reducible refine Kd.C_alloc ?_ _) | (with_reducible refine Kd.C_drewN ?_ _) | (with_reducible refine Kd.C_drew ?_))); (case side2 => exact (Kd.R_reads' HO248.out).2.1); (case side3 => repeat (first | exact (Kd.R_reads' HO252.out).2.2 | (with_reducible refine Kd.C_alloc ?_ _) | (with_reducible refine Kd.C_drewN ?_ _) | (with_reducible refine Kd.C_drew ?_))); (case side4 => exact (Kd.R_reads' HO252.out).2.1); rintro e w' ⟨rfl, ⟨nd, rfl⟩⟩; (try first | exact ⟨rfl, _, World.drewN_drewN _ _ _⟩ | exact ⟨rfl, _, Eq.trans (World.drewN_drewN _ _ _) (congrArg (World.drewN _) (Nat.add_assoc _ _ _))⟩); obtain ⟨Ao104, co104, eo104⟩ := Kd.R_slice HO256.out; subst eo104; obtain ⟨Ao105, co105, eo105⟩ := Kd.R_slice HO260.out; subst eo105) | (go_at_call 19; (with_reducible refine (laws_mSame.calls kj69 _ _ t253 _ _ t257 true _ ?side1 ?side2 ?side3 ?side4 A98.out).mono ?_); (case side1 => repeat (first | exact (Kd.R_reads' HO256.out).2.2 | (with_reducible refine Kd.C_alloc ?_ _) | (with_reducible refine Kd.C_drewN ?_ _) | (with_reducible refine Kd.C_drew ?_))); (case side2 => exact (Kd.R_reads' HO256.out).2.1); (case side3 => repeat (first | exact (Kd.R_reads' HO260.out).2.2 | (with_reducible refine Kd.C_alloc ?_ _) | (with_reducible refine Kd.C_drewN ?_ _) | (with_reducible refine Kd.C_drew ?_))); (case side4 => exact (Kd.R_reads' HO260.out).2.1); rintro e w' ⟨rfl, ⟨nd, rfl⟩⟩; (try first | exact ⟨rfl, _, World.drewN_drewN _ _ _⟩ | exact ⟨rfl, _, Eq.trans (World.drewN_drewN _ _ _) (congrArg (World.drewN _) (Nat.add_assoc _ _ _))⟩)))
                    repeat (go_quiet (first | (go_at_call 19; (with_reducible refine (laws_mSame.calls kj69 _ _ t245 _ _ t249 true _ ?side1 ?side2 ?side3 ?side4 A95.out).mono ?_); (case side1 => repeat (first | exact (Kd.R_reads' HO248.out).2.2 | (with_reducible refine Kd.C_alloc ?_ _) | (with_reducible refine Kd.C_drewN ?_ _) | (with_reducible refine Kd.C_drew ?_))); (case side2 => exact (Kd.R_reads' HO248.out).2.1); (case side3 => repeat (first | exact (Kd.R_reads' HO252.out).2.2 | (with_reducible refine Kd.C_alloc ?_ _) | (with_reducible refine Kd.C_drewN ?_ _) | (with_reducible refine Kd.C_drew ?_))); (case side4 => exact (Kd.R_reads' HO252.out).2.1); rintro e w' ⟨rfl, ⟨nd, rfl⟩⟩; (try first | exact ⟨rfl, _, World.drewN_drewN _ _ _⟩ | exact ⟨rfl, _, Eq.trans (World.drewN_drewN _ _ _) (congrArg (World.drewN _) (Nat.add_assoc _ _ _))⟩); obtain ⟨Ao104, co104, eo104⟩ := Kd.R_slice HO256.out; subst eo104; obtain ⟨Ao105, co105, eo105⟩ := Kd.R_slice HO260.out; subst eo105) | (go_at_call 19; (with_reducible refine (laws_mSame.calls kj69 _ _ t253 _ _ t257 true _ ?side1 ?side2 ?side3 ?side4 A98.out).mono ?_); (case side1 => repeat (first | exact (Kd.R_reads' HO256.out).2.2 | (with_reducible refine Kd.C_alloc ?_ _) | (with_reducible refine Kd.C_drewN ?_ _) | (with_reducible refine Kd.C_drew ?_))); (case side2 => exact (Kd.R_reads' HO256.out).2.1); (case side3 => repeat (first | exact (Kd.R_reads' HO260.out).2.2 | (with_reducible refine Kd.C_alloc ?_ _) | (with_reducible refine Kd.C_drewN ?_ _) | (with_reducible refine Kd.C_drew ?_))); (case side4 => exact (Kd.R_reads' HO260.out).2.1); rintro e w' ⟨rfl, ⟨nd, rfl⟩⟩; (try first | exact ⟨rfl, _, World.drewN_drewN _ _ _⟩ | exact ⟨rfl, _, Eq.trans (World.drewN_drewN _ _ _) (congrArg (World.drewN _) (Nat.add_assoc _ _ _))⟩))); try go_wp2_with (first | (go_at_call 19; (with_reducible refine (laws_mSame.calls kj69 _ _ t245 _ _ t249 true _ ?side1 ?side2 ?side3 ?side4 A95.out).mono ?_); (case side1 => repeat (first | exact (Kd.R_reads' HO248.out).2.2 | (with_reducible refine Kd.C_alloc ?_ _) | (with_reducible refine Kd.C_drewN ?_ _) | (with_reducible refine Kd.C_drew ?_))); (case side2 => exact (Kd.R_reads' HO248.out).2.1); (case side3 => repeat (first | exact (Kd.R_reads' HO252.out).2.2 | (with_reducible refine Kd.C_alloc ?_ _) | (with_reducible refine Kd.C_drewN ?_ _) | (with_reducible refine Kd.C_drew ?_))); (case side4 => exact (Kd.R_reads' HO252.out).2.1); rintro e w' ⟨rfl, ⟨nd, rfl⟩⟩; (try first | exact ⟨rfl, _, World.drewN_drewN _ _ _⟩ | exact ⟨rfl, _, Eq.trans (World.drewN_drewN _ _ _) (congrArg (World.drewN _) (Nat.add_assoc _ _ _))⟩); obtain ⟨Ao104, co104, eo104⟩ := Kd.R_slice HO256.out; subst eo104; obtain ⟨Ao105, co105, eo105⟩ := Kd.R_slice HO260.out; subst eo105) | (go_at_call 19; (with_reducible refine (laws_mSame.calls kj69 _ _ t253 _ _ t257 true _ ?side1 ?side2 ?side3 ?side4 A98.out).mono ?_); (case side1 => repeat (first | exact (Kd.R_reads' HO256.out).2.2 | (with_reducible refine Kd.C_alloc ?_ _) | (with_reducible refine Kd.C_drewN ?_ _) | (with_reducible refine Kd.C_drew ?_))); (case side2 => exact (Kd.R_reads' HO256.out).2.1); (case side3 => repeat (first | exact (Kd.R_reads' HO260.out).2.2 | (with_reducible refine Kd.C_alloc ?_ _) | (with_reducible refine Kd.C_drewN ?_ _) | (with_reducible refine Kd.C_drew ?_))); (case side4 => exact (Kd.R_reads' HO260.out).2.1); rintro e w' ⟨rfl, ⟨nd, rfl⟩⟩; (try first | exact ⟨rfl, _, World.drewN_drewN _ _ _⟩ | exact ⟨rfl, _, Eq.trans (World.drewN_drewN _ _ _) (congrArg (World.drewN _) (Nat.add_assoc _ _ _))⟩))))
                    go_meet
                    case rel => exact ⟨_, ((t262 != t254)), (by first | rfl | (simp; done) | (simp [*]; done)), H', ⟨by have := HJ9.out; have := HJ21.out; have := HJ31.out; have := HJ69.out; first | omega | exact Nat.le_refl _⟩, ⟨by (with_reducible repeat (first | apply Kd.R_alloc | apply Kd.R_drewN | apply Kd.R_drew)); exact Kd.R_mono HO256.out (fun _ hk => trivial)⟩, ⟨by repeat (first | (with_reducible first | exact HB.out | apply below_alloc | apply pw_below_drewN | apply below_drew1) | exact HB.out)⟩⟩
                   ·
                    rw [if_neg c101] at H
                    exact (laws_FnFormsLeftOfAll.j12_no _ _ _ _ _ _ _ _ _ _ _ (H.trans (congrArg some HE_.out))).elim
                 ·
                  replace c99 := Bool.eq_false_iff.mpr c99
                  subst c99
                  have H1 : (laws_FnFormsLeftOfAll.j12 kj69 l2 l3 a4 a7 a8 t241 t242 t253 t254 t261 true) = some r := by rw [if_neg (show ¬ (false = true) by decide)] at H; exact H
                  clear H
                  have H := H1
                  clear H1
                  exact (laws_FnFormsLeftOfAll.j12_no _ _ _ _ _ _ _ _ _ _ _ (H.trans (congrArg some HE_.out))).elim
               ·
                replace c96 := Bool.eq_false_iff.mpr c96
                subst c96
                have H1 : (laws_FnFormsLeftOfAll.j12 kj69 l2 l3 a4 a7 a8 t241 t242 t253 t254 t261 true) = some r := by rw [if_neg (show ¬ (false = true) by decide)] at H; exact H
                clear H
                have H := H1
                clear H1
                exact (laws_FnFormsLeftOfAll.j12_no _ _ _ _ _ _ _ _ _ _ _ (H.trans (congrArg some HE_.out))).elim
             ·
              rw [if_neg c93] at H
              exact (laws_FnFormsLeftOfAll.j12_no _ _ _ _ _ _ _ _ _ _ _ (H.trans (congrArg some HE_.out))).elim
           case rest => as_aux_lemma =>
            clear HC85
            try clear c1
            try clear c2
            try clear c3
            try clear c6
            try clear c15
            try clear c31
            obtain ⟨kq, x375_84, rfl, HA, HJ84, HO_51, HB⟩ := hcut
            cases kq with
            | zero => exact absurd HA.out (by simp [laws_FnFormsLeftOfAll.j12])
            | succ kj84 =>
             have H := HA.out
             clear HA
             simp only [laws_FnFormsLeftOfAll.j12] at H
             by_cases c106 : x375_84 = true
             ·
              subst c106
              have H1 : (some false) = some r := by rw [if_pos rfl] at H; exact H
              clear H
              have H := H1
              clear H1
              exact absurd (H.trans (congrArg some HE_.out)) (by simp)
             ·
              replace c106 := Bool.eq_false_iff.mpr c106
              subst c106
              have H1 : (if t242 = true then (laws_FnFormsLeftOfAll.j13 kj84 l2 l3 a4 a7 a8 t241 t253 t254 t261 (decide (a4 ≤ 1000))) else (laws_FnFormsLeftOfAll.j13 kj84 l2 l3 a4 a7 a8 t241 t253 t254 t261 false)) = some r := by rw [if_neg (show ¬ (false = true) by decide)] at H; exact H
              clear H
              have H := H1
              clear H1
              have HC107 := Aside0.mk H
              clear H
              go_upto_region 53 with (fail)
              repeat (go_quiet (fail); go_upto_region 53 with (fail))
              go_cut [380] from 375 to 380 (fun v380 wc => ∃ (kq : Nat) (x380_106 : Bool), v380 = .bool x380_106 ∧ Aside0 (laws_FnFormsLeftOfAll.j13 kq l2 l3 a4 a7 a8 t241 t253 t254 t261 x380_106 = some r) ∧ Aside0 (kq ≤ kj84) ∧ Aside0 (Kd.R (Kd.int .i64) 3 wc w.heap.size (fun _ => True) v255 t253) ∧ Aside0 (Below w.heap.size w wc))
              case first => as_aux_lemma =>
               have H := HC107.out
               clear HC107
               by_cases c108 : t242 = true
               ·
                subst c108
                have H1 : (laws_FnFormsLeftOfAll.j13 kj84 l2 l3 a4 a7 a8 t241 t253 t254 t261 (decide (a4 ≤ 1000))) = some r := by rw [if_pos rfl] at H; exact H
                clear H
                have H := H1
                clear H1
                have H' := Aside0.mk H
                clear H
                go_wp2
                repeat (go_quiet (fail); try go_wp2)
                go_meet
                case rel => exact ⟨_, (decide (a4 ≤ 1000)), (by first | rfl | (simp; done) | (simp [*]; done)), H', ⟨by have := HJ9.out; have := HJ21.out; have := HJ31.out; have := HJ69.out; have := HJ84.out; first | omega | exact Nat.le_refl _⟩, ⟨by (with_reducible repeat (first | apply Kd.R_alloc | apply Kd.R_drewN | apply Kd.R_drew)); exact HO_51.out⟩, ⟨by repeat (first | (with_reducible first | exact HB.out | apply below_alloc | apply pw_below_drewN | apply below_drew1) | exact HB.out)⟩⟩
               ·
                replace c108 := Bool.eq_false_iff.mpr c108
                subst c108
                have H1 : (laws_FnFormsLeftOfAll.j13 kj84 l2 l3 a4 a7 a8 t241 t253 t254 t261 false) = some r := by rw [if_neg (show ¬ (false = true) by decide)] at H; exact H
                clear H
                have H := H1
                clear H1
                have H' := Aside0.mk H
                clear H
                go_wp2
                repeat (go_quiet (fail); try go_wp2)
                go_meet
                case rel => exact ⟨_, (false), (by first | rfl | (simp; done) | (simp [*]; done)), H', ⟨by have := HJ9.out; have := HJ21.out; have := HJ31.out; have := HJ69.out; have := HJ84.out; first | omega | exact Nat.le_refl _⟩, ⟨by (with_reducible repeat (first | apply Kd.R_alloc | apply Kd.R_drewN | apply Kd.R_drew)); exact HO_51.out⟩, ⟨by repeat (first | (with_reducible first | exact HB.out | apply below_alloc | apply pw_below_drewN | apply below_drew1) | exact HB.out)⟩⟩
              case rest => as_aux_lemma =>
               clear HC107
               try clear c1
               try clear c2
               try clear c3
               try clear c6
               try clear c15
               try clear c31
               try clear c106
               obtain ⟨kq, x380_106, rfl, HA, HJ106, HO_51, HB⟩ := hcut
               cases kq with
               | zero => exact absurd HA.out (by simp [laws_FnFormsLeftOfAll.j13])
               | succ kj106 =>
                have H := HA.out
                clear HA
                simp only [laws_FnFormsLeftOfAll.j13] at H
                have HC109 := Aside0.mk H
                clear H
                go_upto_if 380 with (fail)
                repeat (go_quiet (fail); go_upto_if 380 with (fail))
                go_cut [] from 375 to 478 (fun wc => ∃ (kq : Nat), Aside0 (laws_FnFormsLeftOfAll.j16 kq a7 a8 t253 t254 t261 = some r) ∧ Aside0 (kq ≤ kj106) ∧ Aside0 (Kd.R (Kd.int .i64) 3 wc w.heap.size (fun _ => True) v255 t253) ∧ Aside0 (Below w.heap.size w wc))
                case first => as_aux_lemma =>
                 have H := HC109.out
                 clear HC109
                 by_cases c110 : x380_106 = true
                 ·
                  subst c110
                  have H1 : (laws_FnFormsLeftOfAll.l2 kj106 l2 l3 a4 a7 a8 t241 t253 t254 t261 0 0) = some r := by rw [if_pos rfl] at H; exact H
                  clear H
                  have H := H1
                  clear H1
                  have H' := Aside0.mk H
                  clear H
                  go_wp2
                  repeat (go_quiet (fail); try go_wp2)
                  go_loopg [59, 60] kj106 (fun kq v59 v60 w' => ∃ (x59_7 : Int) (x60_7 : Int), v59 = .int .i64 x59_7 ∧ v60 = .int .i64 x60_7 ∧ Aside0 (laws_FnFormsLeftOfAll.l2 kq l2 l3 a4 a7 a8 t241 t253 t254 t261 x59_7 x60_7 = some r) ∧ Aside0 (kq ≤ kj106) ∧ Aside0 (Kd.R (Kd.int .i64) 3 w' w.heap.size (fun _ => True) v255 t253) ∧ Aside0 (Below w.heap.size w w'))
                  case atStart => exact ⟨(0), (0), (by first | rfl | (simp; done) | (simp [*]; done)), (by first | rfl | (simp; done) | (simp [*]; done)), H', ⟨Nat.le_refl _⟩, ⟨by (with_reducible repeat (first | apply Kd.R_alloc | apply Kd.R_drewN | apply Kd.R_drew)); exact HO_51.out⟩, ⟨by repeat (first | (with_reducible first | exact HB.out | apply below_alloc | apply pw_below_drewN | apply below_drew1) | exact HB.out)⟩⟩
                  case round =>
                   clear H'
                   try clear c1
                   try clear c2
                   try clear c3
                   try clear c6
                   try clear c15
                   try clear c31
                   try clear c106
                   try clear c110
                   obtain ⟨x59_7, x60_7, rfl, rfl, HA, HK7, HO_51, HB⟩ := hrel
                   cases gk with
                   | zero => exact absurd HA.out (by simp [laws_FnFormsLeftOfAll.l2])
                   | succ k7 =>
                    have H := HA.out
                    clear HA
                    simp only [laws_FnFormsLeftOfAll.l2] at H
                    by_cases c111 : x60_7 ≤ a4
                    ·
                     rw [if_pos c111] at H
                     have c111b0 : decide (x60_7 ≤ a4) = true := decide_eq_true c111
                     clear c111
                     (first | rw [c111b0] | (simp only [i64_w, i32_w]; rw [c111b0]) | skip)
                     have H' := Aside0.mk H
                     clear H
                     go_wp2
                     repeat (go_quiet (fail); try go_wp2)
                     go_loopg [61, 388] k7 (fun kq v61 v388 w' => ∃ (x61_8 : Bool) (x388_8 : Int), v61 = .bool x61_8 ∧ v388 = .int .i64 x388_8 ∧ Aside0 (laws_FnFormsLeftOfAll.l3 kq l2 l3 a4 a7 a8 t241 t253 t254 t261 x59_7 x60_7 x61_8 l2 (l2.length : Int) x388_8 = some r) ∧ Aside0 (kq ≤ k7) ∧ Aside0 (Kd.R (Kd.int .i64) 3 w' w.heap.size (fun _ => True) v255 t253) ∧ Aside0 (Below w.heap.size w w'))
                     case atStart => exact ⟨(true), (0), (by first | rfl | (simp; done) | (simp [*]; done)), (by first | rfl | (simp; done) | (simp [*]; done)), H', ⟨Nat.le_refl _⟩, ⟨by (with_reducible repeat (first | apply Kd.R_alloc | apply Kd.R_drewN | apply Kd.R_drew)); exact HO_51.out⟩, ⟨by repeat (first | (with_reducible first | exact HB.out | apply below_alloc | apply pw_below_drewN | apply below_drew1) | exact HB.out)⟩⟩
                     case round =>
                      clear H'
                      try clear c1
                      try clear c2
                      try clear c3
                      try clear c6
                      try clear c15
                      try clear c31
                      try clear c106
                      try clear c110
                      try clear c111
                      try clear c111b0
                      obtain ⟨x61_8, x388_8, rfl, rfl, HA, HK8, HO_51, HB⟩ := hrel
                      cases gk with
                      | zero => exact absurd HA.out (by simp [laws_FnFormsLeftOfAll.l3])
                      | succ k8 =>
                       have H := HA.out
                       clear HA
                       simp only [laws_FnFormsLeftOfAll.l3] at H
                       by_cases c112 : x388_8 < (l2.length : Int)
                       ·
                        rw [if_pos c112] at H
                        have c112b0 : decide (x388_8 < (l2.length : Int)) = true := decide_eq_true c112
                        clear c112
                        by_cases c113 : 0 ≤ x388_8
                        ·
                         rw [if_pos c113] at H
                         have c113b0 : decide (0 ≤ x388_8) = true := decide_eq_true c113
                         clear c113
                         by_cases c114 : x388_8 < (l2.length : Int)
                         ·
                          rw [if_pos c114] at H
                          have c114b0 : decide (x388_8 < (l2.length : Int)) = true := decide_eq_true c114
                          clear c114
                          by_cases c115 : x61_8 = true
                          ·
                           subst c115
                           have H1 : (if (rd l2 x388_8) = 0 then (none) else (if x388_8 < (l3.length : Int) then (laws_FnFormsLeftOfAll.l3 k8 l2 l3 a4 a7 a8 t241 t253 t254 t261 x59_7 x60_7 ((Int.tmod x60_7 (rd l2 x388_8)) == (rd l3 x388_8)) l2 (l2.length : Int) (wrap64 (x388_8 + 1))) else (none))) = some r := by rw [if_pos rfl] at H; exact H
                           clear H
                           have H := H1
                           clear H1
                           by_cases c116 : (rd l2 x388_8) = 0
                           ·
                            rw [if_pos c116] at H
                            exact absurd H (by simp)
                           ·
                            rw [if_neg c116] at H
                            have c116b0 : ((rd l2 x388_8) == 0) = false := beq_eq_false_iff_ne.mpr c116
                            have c116b1 : ((rd l2 x388_8) != 0) = true := bne_iff_ne.mpr c116
                            by_cases c117 : x388_8 < (l3.length : Int)
                            ·
                             rw [if_pos c117] at H
                             have c117b0 : decide (x388_8 < (l3.length : Int)) = true := decide_eq_true c117
                             clear c117
                             have H' := Aside0.mk H
                             clear H
                             have p267 : 0 ≤ (x388_8 : Int) := of_decide_eq_true (by first | (with_reducible assumption) | assumption)
                             have q267 : x388_8 < (l2.length : Int) := of_decide_eq_true (by first | (with_reducible assumption) | assumption)
                             obtain ⟨ad267, e267, hx267_0⟩ := Kd.at_int HR2.out x388_8 p267 q267
                             cases e267
                             replace hx267_0 := (HB.out.cell (World.block_lt_of_cell? w _ hx267_0)).trans hx267_0
                             replace p267 := eq_true p267
                             replace q267 := eq_true q267
                             have p268 : 0 ≤ (x388_8 : Int) := of_decide_eq_true (by first | (with_reducible assumption) | assumption)
                             have q268 : x388_8 < (l3.length : Int) := of_decide_eq_true (by first | (with_reducible assumption) | assumption)
                             obtain ⟨ad268, e268, hx268_0⟩ := Kd.at_int HR3.out x388_8 p268 q268
                             cases e268
                             replace hx268_0 := (HB.out.cell (World.block_lt_of_cell? w _ hx268_0)).trans hx268_0
                             replace p268 := eq_true p268
                             replace q268 := eq_true q268
                             go_wp2
                             repeat (go_quiet (fail); try go_wp2)
                             go_roundg k8
                             case measure => have := HJ9.out; have := HJ21.out; have := HJ31.out; have := HJ69.out; have := HJ84.out; have := HJ106.out; have := HK7.out; have := HK8.out; omega
                             case rel => exact ⟨(((Int.tmod x60_7 (rd l2 x388_8)) == (rd l3 x388_8))), (wrap64 (x388_8 + 1)), (by first | rfl | (simp; done) | (simp [*]; done)), (by first | rfl | (simp; done) | (simp [*]; done)), H', ⟨by have := HJ9.out; have := HJ21.out; have := HJ31.out; have := HJ69.out; have := HJ84.out; have := HJ106.out; have := HK7.out; have := HK8.out; omega⟩, ⟨by (with_reducible repeat (first | apply Kd.R_alloc | apply Kd.R_drewN | apply Kd.R_drew)); exact HO_51.out⟩, ⟨by repeat (first | (with_reducible first | exact HB.out | apply below_alloc | apply pw_below_drewN | apply below_drew1) | exact HB.out)⟩⟩
                            ·
                             rw [if_neg c117] at H
                             exact absurd H (by simp)
                          ·
                           replace c115 := Bool.eq_false_iff.mpr c115
                           subst c115
                           have H1 : (laws_FnFormsLeftOfAll.l3 k8 l2 l3 a4 a7 a8 t241 t253 t254 t261 x59_7 x60_7 false l2 (l2.length : Int) (wrap64 (x388_8 + 1))) = some r := by rw [if_neg (show ¬ (false = true) by decide)] at H; exact H
                           clear H
                           have H := H1
                           clear H1
                           have H' := Aside0.mk H
                           clear H
                           have p267 : 0 ≤ (x388_8 : Int) := of_decide_eq_true (by first | (with_reducible assumption) | assumption)
                           have q267 : x388_8 < (l2.length : Int) := of_decide_eq_true (by first | (with_reducible assumption) | assumption)
                           obtain ⟨ad267, e267, hx267_0⟩ := Kd.at_int HR2.out x388_8 p267 q267
                           cases e267
                           replace hx267_0 := (HB.out.cell (World.block_lt_of_cell? w _ hx267_0)).trans hx267_0
                           replace p267 := eq_true p267
                           replace q267 := eq_true q267
                           go_wp2
                           repeat (go_quiet (fail); try go_wp2)
                           go_roundg k8
                           case measure => have := HJ9.out; have := HJ21.out; have := HJ31.out; have := HJ69.out; have := HJ84.out; have := HJ106.out; have := HK7.out; have := HK8.out; omega
                           case rel => exact ⟨(false), (wrap64 (x388_8 + 1)), (by first | rfl | (simp; done) | (simp [*]; done)), (by first | rfl | (simp; done) | (simp [*]; done)), H', ⟨by have := HJ9.out; have := HJ21.out; have := HJ31.out; have := HJ69.out; have := HJ84.out; have := HJ106.out; have := HK7.out; have := HK8.out; omega⟩, ⟨by (with_reducible repeat (first | apply Kd.R_alloc | apply Kd.R_drewN | apply Kd.R_drew)); exact HO_51.out⟩, ⟨by repeat (first | (with_reducible first | exact HB.out | apply below_alloc | apply pw_below_drewN | apply below_drew1) | exact HB.out)⟩⟩
                         ·
                          rw [if_neg c114] at H
                          exact absurd H (by simp)
                        ·
                         rw [if_neg c113] at H
                         exact absurd H (by simp)
                       ·
                        rw [if_neg c112] at H
                        have c112b0 : decide (x388_8 < (l2.length : Int)) = false := decide_eq_false c112
                        clear c112
                        by_cases c118 : x61_8 = true
                        ·
                         subst c118
                         have H1 : (laws_FnFormsLeftOfAll.l2 k8 l2 l3 a4 a7 a8 t241 t253 t254 t261 (wrap64 (x59_7 + 1)) (wrap64 (x60_7 + 1))) = some r := by rw [if_pos rfl] at H; exact H
                         clear H
                         have H := H1
                         clear H1
                         have H' := Aside0.mk H
                         clear H
                         go_wp2
                         repeat (go_quiet (fail); try go_wp2)
                         go_roundg k8
                         case measure => have := HJ9.out; have := HJ21.out; have := HJ31.out; have := HJ69.out; have := HJ84.out; have := HJ106.out; have := HK7.out; have := HK8.out; omega
                         case rel => exact ⟨(wrap64 (x59_7 + 1)), (wrap64 (x60_7 + 1)), (by first | rfl | (simp; done) | (simp [*]; done)), (by first | rfl | (simp; done) | (simp [*]; done)), H', ⟨by have := HJ9.out; have := HJ21.out; have := HJ31.out; have := HJ69.out; have := HJ84.out; have := HJ106.out; have := HK7.out; have := HK8.out; omega⟩, ⟨by (with_reducible repeat (first | apply Kd.R_alloc | apply Kd.R_drewN | apply Kd.R_drew)); exact HO_51.out⟩, ⟨by repeat (first | (with_reducible first | exact HB.out | apply below_alloc | apply pw_below_drewN | apply below_drew1) | exact HB.out)⟩⟩
                        ·
                         replace c118 := Bool.eq_false_iff.mpr c118
                         subst c118
                         have H1 : (laws_FnFormsLeftOfAll.l2 k8 l2 l3 a4 a7 a8 t241 t253 t254 t261 x59_7 (wrap64 (x60_7 + 1))) = some r := by rw [if_neg (show ¬ (false = true) by decide)] at H; exact H
                         clear H
                         have H := H1
                         clear H1
                         have H' := Aside0.mk H
                         clear H
                         go_wp2
                         repeat (go_quiet (fail); try go_wp2)
                         go_roundg k8
                         case measure => have := HJ9.out; have := HJ21.out; have := HJ31.out; have := HJ69.out; have := HJ84.out; have := HJ106.out; have := HK7.out; have := HK8.out; omega
                         case rel => exact ⟨(x59_7), (wrap64 (x60_7 + 1)), (by first | rfl | (simp; done) | (simp [*]; done)), (by first | rfl | (simp; done) | (simp [*]; done)), H', ⟨by have := HJ9.out; have := HJ21.out; have := HJ31.out; have := HJ69.out; have := HJ84.out; have := HJ106.out; have := HK7.out; have := HK8.out; omega⟩, ⟨by (with_reducible repeat (first | apply Kd.R_alloc | apply Kd.R_drewN | apply Kd.R_drew)); exact HO_51.out⟩, ⟨by repeat (first | (with_reducible first | exact HB.out | apply below_alloc | apply pw_below_drewN | apply below_drew1) | exact HB.out)⟩⟩
                    ·
                     rw [if_neg c111] at H
                     have c111b0 : decide (x60_7 ≤ a4) = false := decide_eq_false c111
                     clear c111
                     (first | rw [c111b0] | (simp only [i64_w, i32_w]; rw [c111b0]) | skip)
                     by_cases c119 : x59_7 = t241
                     ·
                      rw [if_pos c119] at H
                      have c119b0 : (x59_7 == t241) = true := beq_iff_eq.mpr c119
                      have c119b1 : (x59_7 != t241) = false := bne_eq_false_iff_eq.mpr c119
                      clear c119
                      have H' := Aside0.mk H
                      clear H
                      go_wp2
                      repeat (go_quiet (fail); try go_wp2)
                      go_meet
                      case rel => exact ⟨_, H', ⟨by have := HJ9.out; have := HJ21.out; have := HJ31.out; have := HJ69.out; have := HJ84.out; have := HJ106.out; have := HK7.out; first | omega | exact Nat.le_refl _⟩, ⟨by (with_reducible repeat (first | apply Kd.R_alloc | apply Kd.R_drewN | apply Kd.R_drew)); exact HO_51.out⟩, ⟨by repeat (first | (with_reducible first | exact HB.out | apply below_alloc | apply pw_below_drewN | apply below_drew1) | exact HB.out)⟩⟩
                     ·
                      rw [if_neg c119] at H
                      exact absurd (H.trans (congrArg some HE_.out)) (by simp)
                 ·
                  replace c110 := Bool.eq_false_iff.mpr c110
                  subst c110
                  have H1 : (laws_FnFormsLeftOfAll.j16 kj106 a7 a8 t253 t254 t261) = some r := by rw [if_neg (show ¬ (false = true) by decide)] at H; exact H
                  clear H
                  have H := H1
                  clear H1
                  have H' := Aside0.mk H
                  clear H
                  go_wp2
                  repeat (go_quiet (fail); try go_wp2)
                  go_meet
                  case rel => exact ⟨_, H', ⟨by have := HJ9.out; have := HJ21.out; have := HJ31.out; have := HJ69.out; have := HJ84.out; have := HJ106.out; first | omega | exact Nat.le_refl _⟩, ⟨by (with_reducible repeat (first | apply Kd.R_alloc | apply Kd.R_drewN | apply Kd.R_drew)); exact HO_51.out⟩, ⟨by repeat (first | (with_reducible first | exact HB.out | apply below_alloc | apply pw_below_drewN | apply below_drew1) | exact HB.out)⟩⟩
                case rest => as_aux_lemma =>
                 clear HC109
                 try clear c1
                 try clear c2
                 try clear c3
                 try clear c6
                 try clear c15
                 try clear c31
                 try clear c106
                 obtain ⟨kq, HA, HJ108, HO_51, HB⟩ := hcut
                 cases kq with
                 | zero => exact absurd HA.out (by simp [laws_FnFormsLeftOfAll.j16])
                 | succ kj108 =>
                  have H := HA.out
                  clear HA
                  simp only [laws_FnFormsLeftOfAll.j16] at H
                  by_cases c120 : t254 = true
                  ·
                   subst c120
                   have H1 : (if 0 ≤ (wrap64 (a7 * a8)) then (if (wrap64 (a7 * a8) : Int).toNat ≤ 281474976710656 then (laws_FnFormsLeftOfAll.l4 kj108 a7 a8 t253 t261 (List.replicate (wrap64 (a7 * a8) : Int).toNat false) t253 (t253.length : Int) 0) else (none)) else (none)) = some r := by rw [if_pos rfl] at H; exact H
                   clear H
                   have H := H1
                   clear H1
                   obtain ⟨ji121, hji121⟩ : ∃ j_ : Int, (wrap64 (a7 * a8)) = j_ := ⟨_, rfl⟩
                   replace H : (if 0 ≤ (ji121) then (if (ji121 : Int).toNat ≤ 281474976710656 then (laws_FnFormsLeftOfAll.l4 kj108 a7 a8 t253 t261 (List.replicate (ji121 : Int).toNat false) t253 (t253.length : Int) 0) else (none)) else (none)) = some r := by first | (rw [hji121] at H; exact H) | (simp only [hji121] at H ⊢; exact H)
                   have hji121w : (IntKind.i64.wrap (a7 * a8)) = ji121 := (i64_w _).trans hji121
                   by_cases c122 : 0 ≤ (ji121)
                   ·
                    rw [if_pos c122] at H
                    have c122b0 := eq_true c122
                    have c122b1 : decide (0 ≤ (ji121)) = true := decide_eq_true c122
                    clear c122
                    by_cases c123 : (ji121 : Int).toNat ≤ 281474976710656
                    ·
                     rw [if_pos c123] at H
                     have c123b0 := eq_true c123
                     have c123b1 : decide ((ji121 : Int).toNat ≤ 281474976710656) = true := decide_eq_true c123
                     clear c123
                     obtain ⟨y269, hy269⟩ : ∃ y_ : List Bool, y_ = (List.replicate (ji121 : Int).toNat false) := ⟨_, rfl⟩
                     replace H : (laws_FnFormsLeftOfAll.l4 kj108 a7 a8 t253 t261 y269 t253 (t253.length : Int) 0) = some r := by first | (rw [hy269]; with_reducible exact H) | (have H2_ := (Option.bind_some _ _).symm.trans H; rw [hy269]; with_reducible exact H2_) | (have H2_ := (Option.bind_some _ _).symm.trans H; with_reducible exact H2_) | with_reducible exact H | (rw [hy269]; exact H) | exact H
                     have Ny269 := Aside0.mk hy269
                     clear hy269
                     have H' := Aside0.mk H
                     clear H
                     go_wp2_with (first | ((with_reducible refine gate_dst (N := 415) rfl ?_); (try (refine gate_guard (by rfl) ?_; dsimp only)); refine Kd.R_make Kd.bool _ 4 rfl (N := 415) rfl 40 _ _ rfl ji121 rfl rfl Try.underlying40 (.bool false) 1 info4 rfl (by decide) (by omega) false (ok := fun _ => True) (okp := fun _ => True) rfl (fun _ hk => hk) trivial (of_decide_eq_true (by first | (with_reducible assumption) | assumption)) (Nat.le_trans (Nat.mul_le_mul_right _ (of_decide_eq_true (by first | (with_reducible assumption) | assumption) : ji121.toNat ≤ 281474976710656)) (by omega)) (Below.refl _ _) (Nat.le_refl _) ?_; intro v270 w124 ho125 hb hg_ hnew_; clear hg_ hnew_; (first | rw [← Ny269.out] at ho125 | (simp only [Int.reduceToNat] at ho125; rw [← Ny269.out] at ho125)); have n0_ := Aside0.mk (Kd.R_below (by (with_reducible repeat (first | apply Kd.R_alloc | apply Kd.R_drewN | apply Kd.R_drew)); exact HO_51.out) hb); have n1_ := Aside0.mk (Kd.R_lower ho125 (below_size (by repeat (first | (with_reducible first | exact HB.out | apply below_alloc | apply pw_below_drewN | apply below_drew1) | exact HB.out)))); have n2_ := Aside0.mk (below_step (by repeat (first | (with_reducible first | exact HB.out | apply below_alloc | apply pw_below_drewN | apply below_drew1) | exact HB.out)) hb); clear HO_51; clear HB; have HO_51 := n0_; have HO271 := n1_; have HB := n2_; clear n0_ n1_ n2_; clear hb ho125; obtain ⟨Ao126, co126, eo126⟩ := Kd.R_slice HO_51.out; subst eo126))
                     repeat (go_quiet (first | ((with_reducible refine gate_dst (N := 415) rfl ?_); (try (refine gate_guard (by rfl) ?_; dsimp only)); refine Kd.R_make Kd.bool _ 4 rfl (N := 415) rfl 40 _ _ rfl ji121 rfl rfl Try.underlying40 (.bool false) 1 info4 rfl (by decide) (by omega) false (ok := fun _ => True) (okp := fun _ => True) rfl (fun _ hk => hk) trivial (of_decide_eq_true (by first | (with_reducible assumption) | assumption)) (Nat.le_trans (Nat.mul_le_mul_right _ (of_decide_eq_true (by first | (with_reducible assumption) | assumption) : ji121.toNat ≤ 281474976710656)) (by omega)) (Below.refl _ _) (Nat.le_refl _) ?_; intro v270 w124 ho125 hb hg_ hnew_; clear hg_ hnew_; (first | rw [← Ny269.out] at ho125 | (simp only [Int.reduceToNat] at ho125; rw [← Ny269.out] at ho125)); have n0_ := Aside0.mk (Kd.R_below (by (with_reducible repeat (first | apply Kd.R_alloc | apply Kd.R_drewN | apply Kd.R_drew)); exact HO_51.out) hb); have n1_ := Aside0.mk (Kd.R_lower ho125 (below_size (by repeat (first | (with_reducible first | exact HB.out | apply below_alloc | apply pw_below_drewN | apply below_drew1) | exact HB.out)))); have n2_ := Aside0.mk (below_step (by repeat (first | (with_reducible first | exact HB.out | apply below_alloc | apply pw_below_drewN | apply below_drew1) | exact HB.out)) hb); clear HO_51; clear HB; have HO_51 := n0_; have HO271 := n1_; have HB := n2_; clear n0_ n1_ n2_; clear hb ho125; obtain ⟨Ao126, co126, eo126⟩ := Kd.R_slice HO_51.out; subst eo126)); try go_wp2_with (first | ((with_reducible refine gate_dst (N := 415) rfl ?_); (try (refine gate_guard (by rfl) ?_; dsimp only)); refine Kd.R_make Kd.bool _ 4 rfl (N := 415) rfl 40 _ _ rfl ji121 rfl rfl Try.underlying40 (.bool false) 1 info4 rfl (by decide) (by omega) false (ok := fun _ => True) (okp := fun _ => True) rfl (fun _ hk => hk) trivial (of_decide_eq_true (by first | (with_reducible assumption) | assumption)) (Nat.le_trans (Nat.mul_le_mul_right _ (of_decide_eq_true (by first | (with_reducible assumption) | assumption) : ji121.toNat ≤ 281474976710656)) (by omega)) (Below.refl _ _) (Nat.le_refl _) ?_; intro v270 w124 ho125 hb hg_ hnew_; clear hg_ hnew_; (first | rw [← Ny269.out] at ho125 | (simp only [Int.reduceToNat] at ho125; rw [← Ny269.out] at ho125)); have n0_ := Aside0.mk (Kd.R_below (by (with_reducible repeat (first | apply Kd.R_alloc | apply Kd.R_drewN | apply Kd.R_drew)); exact HO_51.out) hb); have n1_ := Aside0.mk (Kd.R_lower ho125 (below_size (by repeat (first | (with_reducible first | exact HB.out | apply below_alloc | apply pw_below_drewN | apply below_drew1) | exact HB.out)))); have n2_ := Aside0.mk (below_step (by repeat (first | (with_reducible first | exact HB.out | apply below_alloc | apply pw_below_drewN | apply below_drew1) | exact HB.out)) hb); clear HO_51; clear HB; have HO_51 := n0_; have HO271 := n1_; have HB := n2_; clear n0_ n1_ n2_; clear hb ho125; obtain ⟨Ao126, co126, eo126⟩ := Kd.R_slice HO_51.out; subst eo126)))
                     go_loopg [418] kj108 (fun kq v418 w' => ∃ (x64_8 : List Bool) (x418_8 : Int), v418 = .int .i64 x418_8 ∧ Aside0 (laws_FnFormsLeftOfAll.l4 kq a7 a8 t253 t261 x64_8 t253 (t253.length : Int) x418_8 = some r) ∧ Aside0 (kq ≤ kj108) ∧ Aside0 (Kd.R (Kd.int .i64) 3 w' w.heap.size (fun _ => True) (.slice Ao126 t253.length co126) t253) ∧ Aside0 (Kd.R Kd.bool 4 w' w.heap.size (fun _ => True) v270 x64_8) ∧ Aside0 (Kd.R (Kd.int .i64) 3 w' w.heap.size (fun _ => True) (.slice Ao126 t253.length co126) t253) ∧ Aside0 (Below w.heap.size w w'))
                     case atStart => exact ⟨(y269), (0), (by first | rfl | (simp; done) | (simp [*]; done)), H', ⟨Nat.le_refl _⟩, ⟨by (with_reducible repeat (first | apply Kd.R_alloc | apply Kd.R_drewN | apply Kd.R_drew)); exact HO_51.out⟩, ⟨by (with_reducible repeat (first | apply Kd.R_alloc | apply Kd.R_drewN | apply Kd.R_drew)); exact HO271.out⟩, ⟨by (with_reducible repeat (first | apply Kd.R_alloc | apply Kd.R_drewN | apply Kd.R_drew)); exact HO_51.out⟩, ⟨by repeat (first | (with_reducible first | exact HB.out | apply below_alloc | apply pw_below_drewN | apply below_drew1) | exact HB.out)⟩⟩
                     case round =>
                      clear H'
                      try clear c1
                      try clear c2
                      try clear c3
                      try clear c6
                      try clear c15
                      try clear c31
                      try clear c106
                      try clear c120
                      try clear c122
                      try clear c122b0
                      try clear c122b1
                      try clear c123
                      try clear c123b0
                      try clear c123b1
                      obtain ⟨x64_8, x418_8, rfl, HA, HK8, HO_51, HO_64, HO_416, HB⟩ := hrel
                      cases gk with
                      | zero => exact absurd HA.out (by simp [laws_FnFormsLeftOfAll.l4])
                      | succ k8 =>
                       have H := HA.out
                       clear HA
                       simp only [laws_FnFormsLeftOfAll.l4] at H
                       by_cases c127 : x418_8 < (t253.length : Int)
                       ·
                        rw [if_pos c127] at H
                        have c127b0 : decide (x418_8 < (t253.length : Int)) = true := decide_eq_true c127
                        clear c127
                        by_cases c128 : 0 ≤ x418_8
                        ·
                         rw [if_pos c128] at H
                         have c128b0 : decide (0 ≤ x418_8) = true := decide_eq_true c128
                         clear c128
                         by_cases c129 : x418_8 < (t253.length : Int)
                         ·
                          rw [if_pos c129] at H
                          have c129b0 : decide (x418_8 < (t253.length : Int)) = true := decide_eq_true c129
                          clear c129
                          by_cases c130 : (rd t253 x418_8) < 0
                          ·
                           rw [if_pos c130] at H
                           exact absurd (H.trans (congrArg some HE_.out)) (by simp)
                          ·
                           rw [if_neg c130] at H
                           have c130b0 : decide ((rd t253 x418_8) < 0) = false := decide_eq_false c130
                           clear c130
                           by_cases c131 : (rd t253 x418_8) ≥ (x64_8.length : Int)
                           ·
                            rw [if_pos c131] at H
                            exact absurd (H.trans (congrArg some HE_.out)) (by simp)
                           ·
                            rw [if_neg c131] at H
                            have c131b0 : decide ((x64_8.length : Int) ≤ (rd t253 x418_8)) = false := decide_eq_false c131
                            clear c131
                            by_cases c132 : 0 ≤ (rd t253 x418_8)
                            ·
                             rw [if_pos c132] at H
                             have c132b0 : decide (0 ≤ (rd t253 x418_8)) = true := decide_eq_true c132
                             clear c132
                             by_cases c133 : (rd t253 x418_8) < (x64_8.length : Int)
                             ·
                              rw [if_pos c133] at H
                              have c133b0 : decide ((rd t253 x418_8) < (x64_8.length : Int)) = true := decide_eq_true c133
                              clear c133
                              obtain ⟨bq134, hbq134⟩ : ∃ b_ : Bool, b_ = (rdOf false x64_8 (rd t253 x418_8)) := ⟨_, rfl⟩
                              replace H : (if bq134 = true then (some false) else (if a8 = 0 then (none) else (if a7 = 0 then (none) else (if (Int.tmod (rd t253 x418_8) a8) = (wrap64 (Int.tdiv x418_8 a7)) then (if (wrap64 (Int.tdiv (rd t253 x418_8) a8)) = (wrap64 ((wrap64 (a7 - 1)) - (Int.tmod x418_8 a7))) then (laws_FnFormsLeftOfAll.l4 k8 a7 a8 t253 t261 (x64_8.set ((rd t253 x418_8) : Int).toNat true) t253 (t253.length : Int) (wrap64 (x418_8 + 1))) else (some false)) else (some false))))) = some r := by rw [← hbq134] at H; exact H
                              have Nbq134 := Aside0.mk hbq134
                              clear hbq134
                              by_cases c135 : bq134 = true
                              ·
                               subst c135
                               have H1 : (some false) = some r := by rw [if_pos rfl] at H; exact H
                               clear H
                               have H := H1
                               clear H1
                               exact absurd (H.trans (congrArg some HE_.out)) (by simp)
                              ·
                               replace c135 := Bool.eq_false_iff.mpr c135
                               subst c135
                               have H1 : (if a8 = 0 then (none) else (if a7 = 0 then (none) else (if (Int.tmod (rd t253 x418_8) a8) = (wrap64 (Int.tdiv x418_8 a7)) then (if (wrap64 (Int.tdiv (rd t253 x418_8) a8)) = (wrap64 ((wrap64 (a7 - 1)) - (Int.tmod x418_8 a7))) then (laws_FnFormsLeftOfAll.l4 k8 a7 a8 t253 t261 (x64_8.set ((rd t253 x418_8) : Int).toNat true) t253 (t253.length : Int) (wrap64 (x418_8 + 1))) else (some false)) else (some false)))) = some r := by rw [if_neg (show ¬ (false = true) by decide)] at H; exact H
                               clear H
                               have H := H1
                               clear H1
                               by_cases c136 : a8 = 0
                               ·
                                rw [if_pos c136] at H
                                exact absurd H (by simp)
                               ·
                                rw [if_neg c136] at H
                                have c136b0 : (a8 == 0) = false := beq_eq_false_iff_ne.mpr c136
                                have c136b1 : (a8 != 0) = true := bne_iff_ne.mpr c136
                                by_cases c137 : a7 = 0
                                ·
                                 rw [if_pos c137] at H
                                 exact absurd H (by simp)
                                ·
                                 rw [if_neg c137] at H
                                 have c137b0 : (a7 == 0) = false := beq_eq_false_iff_ne.mpr c137
                                 have c137b1 : (a7 != 0) = true := bne_iff_ne.mpr c137
                                 by_cases c138 : (Int.tmod (rd t253 x418_8) a8) = (wrap64 (Int.tdiv x418_8 a7))
                                 ·
                                  rw [if_pos c138] at H
                                  have c138b0 : ((Int.tmod (rd t253 x418_8) a8) == (wrap64 (Int.tdiv x418_8 a7))) = true := beq_iff_eq.mpr c138
                                  have c138b1 : ((Int.tmod (rd t253 x418_8) a8) != (wrap64 (Int.tdiv x418_8 a7))) = false := bne_eq_false_iff_eq.mpr c138
                                  clear c138
                                  by_cases c139 : (wrap64 (Int.tdiv (rd t253 x418_8) a8)) = (wrap64 ((wrap64 (a7 - 1)) - (Int.tmod x418_8 a7)))
                                  ·
                                   rw [if_pos c139] at H
                                   have c139b0 : ((wrap64 (Int.tdiv (rd t253 x418_8) a8)) == (wrap64 ((wrap64 (a7 - 1)) - (Int.tmod x418_8 a7)))) = true := beq_iff_eq.mpr c139
                                   have c139b1 : ((wrap64 (Int.tdiv (rd t253 x418_8) a8)) != (wrap64 ((wrap64 (a7 - 1)) - (Int.tmod x418_8 a7)))) = false := bne_eq_false_iff_eq.mpr c139
                                   clear c139
                                   obtain ⟨y274, hy274⟩ : ∃ y_ : List Bool, y_ = (x64_8.set ((rd t253 x418_8) : Int).toNat true) := ⟨_, rfl⟩
                                   replace H : (laws_FnFormsLeftOfAll.l4 k8 a7 a8 t253 t261 y274 t253 (t253.length : Int) (wrap64 (x418_8 + 1))) = some r := by first | (rw [hy274]; with_reducible exact H) | (have H2_ := (Option.bind_some _ _).symm.trans H; rw [hy274]; with_reducible exact H2_) | (have H2_ := (Option.bind_some _ _).symm.trans H; with_reducible exact H2_) | with_reducible exact H | (rw [hy274]; exact H) | exact H
                                   have Ny274 := Aside0.mk hy274
                                   clear hy274
                                   have H' := Aside0.mk H
                                   clear H
                                   have p272 : 0 ≤ (x418_8 : Int) := of_decide_eq_true (by first | (with_reducible assumption) | assumption)
                                   have q272 : x418_8 < (t253.length : Int) := of_decide_eq_true (by first | (with_reducible assumption) | assumption)
                                   obtain ⟨ad272, e272, hx272_0⟩ := Kd.at_int (Kd.R_reads' HO_416.out).2.2 x418_8 p272 q272
                                   cases e272
                                   replace p272 := eq_true p272
                                   replace q272 := eq_true q272
                                   obtain ⟨Ao141, co141, eo141⟩ := Kd.R_slice HO_64.out
                                   subst eo141
                                   have p273 : 0 ≤ ((rd t253 x418_8) : Int) := of_decide_eq_true (by first | (with_reducible assumption) | assumption)
                                   have q273 : (rd t253 x418_8) < (x64_8.length : Int) := of_decide_eq_true (by first | (with_reducible assumption) | assumption)
                                   obtain ⟨ad273, e273, hx273_0⟩ := Kd.at_bool (Kd.R_reads' HO_64.out).2.2 (rd t253 x418_8) p273 q273
                                   (try rw [← Nbq134.out] at hx273_0)
                                   cases e273
                                   replace p273 := eq_true p273
                                   replace q273 := eq_true q273
                                   have p140 : 0 ≤ ((rd t253 x418_8) : Int) := of_decide_eq_true (by first | (with_reducible assumption) | assumption)
                                   have q140 : ((rd t253 x418_8) : Int) < ((x64_8.length : Int) : Int) := of_decide_eq_true (by first | (with_reducible assumption) | assumption)
                                   obtain ⟨go140, co140, eo140, gb140, gl140, cl140, HG140⟩ := Kd.R_form HO_64.out (by omega)
                                   (first | cases eo140 | (injection eo140 with ea_ en_ ec_; (first | subst ea_ | (injection ea_ with ea_; subst ea_)); subst ec_; clear en_))
                                   have GB140 := Aside0.mk gb140
                                   have GG140 := Aside0.mk HG140
                                   clear gb140 gl140 HG140
                                   (first | simp only [add_plain] at hx273_0 | skip)
                                   obtain ⟨hx140_0, hf140_0⟩ := Kd.R_celln false HO_64.out ((rd t253 x418_8) : Int) p140 q140
                                   replace p140 := eq_true p140
                                   replace q140 := eq_true q140
                                   have HP142 := Kd.R_putg HO_64.out ((rd t253 x418_8) : Int) true
                                   go_wp2_with (first | ((with_reducible refine gate_store (t := 4) (p := 460) rfl ?_); (try (rw [drewN_self wr]; generalize hq_ : World.drewN wr _ = wr; have n0_ := Aside0.mk (Kd.R_at hq_ HO_51.out); have n1_ := Aside0.mk (Kd.R_at hq_ HO_64.out); have n2_ := Aside0.mk (Kd.R_at hq_ HO_416.out); have n3_ := Aside0.mk (below_at hq_ HB.out); clear hq_ HO_51 HO_64 HO_416 HB; have HO_51 := n0_; have HO_64 := n1_; have HO_416 := n2_; have HB := n3_; clear n0_ n1_ n2_ n3_; (try (have HP142 := Kd.R_putg HO_64.out ((rd t253 x418_8) : Int) true; obtain ⟨hx140_0, hf140_0⟩ := Kd.R_celln false HO_64.out ((rd t253 x418_8) : Int) (of_eq_true p140) (of_eq_true q140))))); refine store_event (t := 4) (p := 460) (v := ?vo_w143) (w1 := (wr.setCell ⟨go140, ((rd t253 x418_8) : Int).toNat, none⟩ (.bool true))) ?hg ?ho ?hn ?hr ?_; (case ho => rfl); (case hg => rfl); (case hn => rfl); (case hr => first | (go_simp; done) | (go_simp; rfl)); intro w143 hw; have hg : wr.grownBy w143 (some go140) := (by rw [hw]; exact HP142.2); have hp_ : Kd.R Kd.bool 4 w143 w.heap.size (fun _ => True) (.slice (some ⟨go140, 0, none⟩) x64_8.length co141) y274 := (by rw [hw, Ny274.out]; exact HP142.1); clear HP142; have n0_ := Aside0.mk (Kd.R_over' (v := (.slice (some ⟨go140, 0, none⟩) x64_8.length co141)) (by (with_reducible repeat (first | apply Kd.R_alloc | apply Kd.R_drewN | apply Kd.R_drew)); exact HO_51.out) (Kd.R_typed HO_64.out) (by decide) hg); have n1_ := Aside0.mk (hp_); have n2_ := Aside0.mk (Kd.R_over' (v := (.slice (some ⟨go140, 0, none⟩) x64_8.length co141)) (by (with_reducible repeat (first | apply Kd.R_alloc | apply Kd.R_drewN | apply Kd.R_drew)); exact HO_416.out) (Kd.R_typed HO_64.out) (by decide) hg); have n3_ := Aside0.mk ((by rw [hw]; exact below_set (HB.out) GB140.out : Below w.heap.size w w143)); clear HO_51; clear HO_64; clear HO_416; clear HB; have HO_51 := n0_; have HO_64 := n1_; have HO_416 := n2_; have HB := n3_; clear n0_ n1_ n2_ n3_; clear hg hw hp_))
                                   repeat (go_quiet (first | ((with_reducible refine gate_store (t := 4) (p := 460) rfl ?_); (try (rw [drewN_self wr]; generalize hq_ : World.drewN wr _ = wr; have n0_ := Aside0.mk (Kd.R_at hq_ HO_51.out); have n1_ := Aside0.mk (Kd.R_at hq_ HO_64.out); have n2_ := Aside0.mk (Kd.R_at hq_ HO_416.out); have n3_ := Aside0.mk (below_at hq_ HB.out); clear hq_ HO_51 HO_64 HO_416 HB; have HO_51 := n0_; have HO_64 := n1_; have HO_416 := n2_; have HB := n3_; clear n0_ n1_ n2_ n3_; (try (have HP142 := Kd.R_putg HO_64.out ((rd t253 x418_8) : Int) true; obtain ⟨hx140_0, hf140_0⟩ := Kd.R_celln false HO_64.out ((rd t253 x418_8) : Int) (of_eq_true p140) (of_eq_true q140))))); refine store_event (t := 4) (p := 460) (v := ?vo_w143) (w1 := (wr.setCell ⟨go140, ((rd t253 x418_8) : Int).toNat, none⟩ (.bool true))) ?hg ?ho ?hn ?hr ?_; (case ho => rfl); (case hg => rfl); (case hn => rfl); (case hr => first | (go_simp; done) | (go_simp; rfl)); intro w143 hw; have hg : wr.grownBy w143 (some go140) := (by rw [hw]; exact HP142.2); have hp_ : Kd.R Kd.bool 4 w143 w.heap.size (fun _ => True) (.slice (some ⟨go140, 0, none⟩) x64_8.length co141) y274 := (by rw [hw, Ny274.out]; exact HP142.1); clear HP142; have n0_ := Aside0.mk (Kd.R_over' (v := (.slice (some ⟨go140, 0, none⟩) x64_8.length co141)) (by (with_reducible repeat (first | apply Kd.R_alloc | apply Kd.R_drewN | apply Kd.R_drew)); exact HO_51.out) (Kd.R_typed HO_64.out) (by decide) hg); have n1_ := Aside0.mk (hp_); have n2_ := Aside0.mk (Kd.R_over' (v := (.slice (some ⟨go140, 0, none⟩) x64_8.length co141)) (by (with_reducible repeat (first | apply Kd.R_alloc | apply Kd.R_drewN | apply Kd.R_drew)); exact HO_416.out) (Kd.R_typed HO_64.out) (by decide) hg); have n3_ := Aside0.mk ((by rw [hw]; exact below_set (HB.out) GB140.out : Below w.heap.size w w143)); clear HO_51; clear HO_64; clear HO_416; clear HB; have HO_51 := n0_; have HO_64 := n1_; have HO_416 := n2_; have HB := n3_; clear n0_ n1_ n2_ n3_; clear hg hw hp_)); try go_wp2_with (first | ((with_reducible refine gate_store (t := 4) (p := 460) rfl ?_); (try (rw [drewN_self wr]; generalize hq_ : World.drewN wr _ = wr; have n0_ := Aside0.mk (Kd.R_at hq_ HO_51.out); have n1_ := Aside0.mk (Kd.R_at hq_ HO_64.out); have n2_ := Aside0.mk (Kd.R_at hq_ HO_416.out); have n3_ := Aside0.mk (below_at hq_ HB.out); clear hq_ HO_51 HO_64 HO_416 HB; have HO_51 := n0_; have HO_64 := n1_; have HO_416 := n2_; have HB := n3_; clear n0_ n1_ n2_ n3_; (try (have HP142 := Kd.R_putg HO_64.out ((rd t253 x418_8) : Int) true; obtain ⟨hx140_0, hf140_0⟩ := Kd.R_celln false HO_64.out ((rd t253 x418_8) : Int) (of_eq_true p140) (of_eq_true q140))))); refine store_event (t := 4) (p := 460) (v := ?vo_w143) (w1 := (wr.setCell ⟨go140, ((rd t253 x418_8) : Int).toNat, none⟩ (.bool true))) ?hg ?ho ?hn ?hr ?_; (case ho => rfl); (case hg => rfl); (case hn => rfl); (case hr => first | (go_simp; done) | (go_simp; rfl)); intro w143 hw; have hg : wr.grownBy w143 (some go140) := (by rw [hw]; exact HP142.2); have hp_ : Kd.R Kd.bool 4 w143 w.heap.size (fun _ => True) (.slice (some ⟨go140, 0, none⟩) x64_8.length co141) y274 := (by rw [hw, Ny274.out]; exact HP142.1); clear HP142; have n0_ := Aside0.mk (Kd.R_over' (v := (.slice (some ⟨go140, 0, none⟩) x64_8.length co141)) (by (with_reducible repeat (first | apply Kd.R_alloc | apply Kd.R_drewN | apply Kd.R_drew)); exact HO_51.out) (Kd.R_typed HO_64.out) (by decide) hg); have n1_ := Aside0.mk (hp_); have n2_ := Aside0.mk (Kd.R_over' (v := (.slice (some ⟨go140, 0, none⟩) x64_8.length co141)) (by (with_reducible repeat (first | apply Kd.R_alloc | apply Kd.R_drewN | apply Kd.R_drew)); exact HO_416.out) (Kd.R_typed HO_64.out) (by decide) hg); have n3_ := Aside0.mk ((by rw [hw]; exact below_set (HB.out) GB140.out : Below w.heap.size w w143)); clear HO_51; clear HO_64; clear HO_416; clear HB; have HO_51 := n0_; have HO_64 := n1_; have HO_416 := n2_; have HB := n3_; clear n0_ n1_ n2_ n3_; clear hg hw hp_)))
                                   go_roundg k8
                                   case measure => have := HJ9.out; have := HJ21.out; have := HJ31.out; have := HJ69.out; have := HJ84.out; have := HJ106.out; have := HJ108.out; have := HK8.out; omega
                                   case rel => exact ⟨(y274), (wrap64 (x418_8 + 1)), (by first | rfl | (simp; done) | (simp [*]; done)), H', ⟨by have := HJ9.out; have := HJ21.out; have := HJ31.out; have := HJ69.out; have := HJ84.out; have := HJ106.out; have := HJ108.out; have := HK8.out; omega⟩, ⟨by (with_reducible repeat (first | apply Kd.R_alloc | apply Kd.R_drewN | apply Kd.R_drew)); exact HO_51.out⟩, ⟨by (with_reducible repeat (first | apply Kd.R_alloc | apply Kd.R_drewN | apply Kd.R_drew)); exact HO_64.out⟩, ⟨by (with_reducible repeat (first | apply Kd.R_alloc | apply Kd.R_drewN | apply Kd.R_drew)); exact HO_416.out⟩, ⟨by repeat (first | (with_reducible first | exact HB.out | apply below_alloc | apply pw_below_drewN | apply below_drew1) | exact HB.out)⟩⟩
                                  ·
                                   rw [if_neg c139] at H
                                   exact absurd (H.trans (congrArg some HE_.out)) (by simp)
                                 ·
                                  rw [if_neg c138] at H
                                  exact absurd (H.trans (congrArg some HE_.out)) (by simp)
                             ·
                              rw [if_neg c133] at H
                              exact absurd H (by simp)
                            ·
                             rw [if_neg c132] at H
                             exact absurd H (by simp)
                         ·
                          rw [if_neg c129] at H
                          exact absurd H (by simp)
                        ·
                         rw [if_neg c128] at H
                         exact absurd H (by simp)
                       ·
                        rw [if_neg c127] at H
                        have c127b0 : decide (x418_8 < (t253.length : Int)) = false := decide_eq_false c127
                        clear c127
                        have HC144 := Aside0.mk H
                        clear H
                        go_upto_region 77 with (fail)
                        repeat (go_quiet (fail); go_upto_region 77 with (fail))
                        go_cut [478] from 380 to 478 (fun v478 wc => ∃ (kq : Nat) (x478_143 : Bool), v478 = .bool x478_143 ∧ Aside0 (laws_FnFormsLeftOfAll.j18 kq t253 t261 x478_143 = some r) ∧ Aside0 (kq ≤ k8) ∧ Aside0 (Kd.R (Kd.int .i64) 3 wc w.heap.size (fun _ => True) (.slice Ao126 t253.length co126) t253) ∧ Aside0 (Below w.heap.size w wc))
                        case first => as_aux_lemma =>
                         have H := HC144.out
                         clear HC144
                         by_cases c145 : (t253.length : Int) = (x64_8.length : Int)
                         ·
                          rw [if_pos c145] at H
                          have c145b0 : ((t253.length : Int) == (x64_8.length : Int)) = true := beq_iff_eq.mpr c145
                          have c145b1 : ((t253.length : Int) != (x64_8.length : Int)) = false := bne_eq_false_iff_eq.mpr c145
                          have c145b2 : (t253.length == x64_8.length) = true := by first | simpa using c145 | (simp at c145 ⊢; omega)
                          clear c145
                          (first | rw [c145b0] | (simp only [i64_w, i32_w]; rw [c145b0]) | skip)
                          by_cases c146 : t261 < 1
                          ·
                           rw [if_pos c146] at H
                           exact (laws_FnFormsLeftOfAll.j18_no _ _ _ (H.trans (congrArg some HE_.out))).elim
                          ·
                           rw [if_neg c146] at H
                           have c146b0 : decide (t261 < 1) = false := decide_eq_false c146
                           clear c146
                           by_cases c147 : a7 = 1
                           ·
                            rw [if_pos c147] at H
                            have c147b0 : (a7 == 1) = true := beq_iff_eq.mpr c147
                            have c147b1 : (a7 != 1) = false := bne_eq_false_iff_eq.mpr c147
                            clear c147
                            have H' := Aside0.mk H
                            clear H
                            obtain ⟨Ao148, co148, eo148⟩ := Kd.R_slice HO_64.out
                            subst eo148
                            go_wp2
                            repeat (go_quiet (fail); try go_wp2)
                            go_meet
                            case rel => exact ⟨_, ((t261 != 1)), (by first | rfl | (simp; done) | (simp [*]; done)), H', ⟨by have := HJ9.out; have := HJ21.out; have := HJ31.out; have := HJ69.out; have := HJ84.out; have := HJ106.out; have := HJ108.out; have := HK8.out; first | omega | exact Nat.le_refl _⟩, ⟨by (with_reducible repeat (first | apply Kd.R_alloc | apply Kd.R_drewN | apply Kd.R_drew)); exact HO_51.out⟩, ⟨by repeat (first | (with_reducible first | exact HB.out | apply below_alloc | apply pw_below_drewN | apply below_drew1) | exact HB.out)⟩⟩
                           ·
                            rw [if_neg c147] at H
                            have c147b0 : (a7 == 1) = false := beq_eq_false_iff_ne.mpr c147
                            have c147b1 : (a7 != 1) = true := bne_iff_ne.mpr c147
                            have H' := Aside0.mk H
                            clear H
                            obtain ⟨Ao149, co149, eo149⟩ := Kd.R_slice HO_64.out
                            subst eo149
                            go_wp2
                            repeat (go_quiet (fail); try go_wp2)
                            go_meet
                            case rel => exact ⟨_, (false), (by first | rfl | (simp; done) | (simp [*]; done)), H', ⟨by have := HJ9.out; have := HJ21.out; have := HJ31.out; have := HJ69.out; have := HJ84.out; have := HJ106.out; have := HJ108.out; have := HK8.out; first | omega | exact Nat.le_refl _⟩, ⟨by (with_reducible repeat (first | apply Kd.R_alloc | apply Kd.R_drewN | apply Kd.R_drew)); exact HO_51.out⟩, ⟨by repeat (first | (with_reducible first | exact HB.out | apply below_alloc | apply pw_below_drewN | apply below_drew1) | exact HB.out)⟩⟩
                         ·
                          rw [if_neg c145] at H
                          exact (laws_FnFormsLeftOfAll.j18_no _ _ _ (H.trans (congrArg some HE_.out))).elim
                        case rest => as_aux_lemma =>
                         clear HC144
                         try clear c1
                         try clear c2
                         try clear c3
                         try clear c6
                         try clear c15
                         try clear c31
                         try clear c106
                         try clear c120
                         try clear c122
                         try clear c122b0
                         try clear c122b1
                         try clear c123
                         try clear c123b0
                         try clear c123b1
                         try clear c127
                         try clear c127b0
                         obtain ⟨kq, x478_143, rfl, HA, HJ143, HO_51, HB⟩ := hcut
                         cases kq with
                         | zero => exact absurd HA.out (by simp [laws_FnFormsLeftOfAll.j18])
                         | succ kj143 =>
                          have H := HA.out
                          clear HA
                          simp only [laws_FnFormsLeftOfAll.j18] at H
                          by_cases c150 : x478_143 = true
                          ·
                           subst c150
                           have H1 : (some false) = some r := by rw [if_pos rfl] at H; exact H
                           clear H
                           have H := H1
                           clear H1
                           exact absurd (H.trans (congrArg some HE_.out)) (by simp)
                          ·
                           replace c150 := Bool.eq_false_iff.mpr c150
                           subst c150
                           have H1 : (if t261 ≤ 60 then (if 0 ≤ (t253.length : Int) then (if ((t253.length : Int) : Int).toNat ≤ 35184372088832 then ((some (List.replicate ((t253.length : Int) : Int).toNat 0 : List Int)).bind fun y275 => (laws_FnFormsLeftOfAll.l5 kj143 t253 t261 y275 (y275.length : Int) 0)) else (none)) else (none)) else (some true)) = some r := by rw [if_neg (show ¬ (false = true) by decide)] at H; exact H
                           clear H
                           have H := H1
                           clear H1
                           by_cases c151 : t261 ≤ 60
                           ·
                            rw [if_pos c151] at H
                            have c151b0 : decide (t261 ≤ 60) = true := decide_eq_true c151
                            clear c151
                            by_cases c152 : 0 ≤ (t253.length : Int)
                            ·
                             rw [if_pos c152] at H
                             have c152b0 := eq_true c152
                             have c152b1 : decide (0 ≤ (t253.length : Int)) = true := decide_eq_true c152
                             clear c152
                             by_cases c153 : ((t253.length : Int) : Int).toNat ≤ 35184372088832
                             ·
                              rw [if_pos c153] at H
                              have c153b0 := eq_true c153
                              have c153b1 : decide (((t253.length : Int) : Int).toNat ≤ 35184372088832) = true := decide_eq_true c153
                              clear c153
                              obtain ⟨y275, hy275⟩ : ∃ y_ : List Int, y_ = (List.replicate ((t253.length : Int) : Int).toNat 0) := ⟨_, rfl⟩
                              replace H : (laws_FnFormsLeftOfAll.l5 kj143 t253 t261 y275 (y275.length : Int) 0) = some r := by first | (rw [hy275]; with_reducible exact H) | (have H2_ := (Option.bind_some _ _).symm.trans H; rw [hy275]; with_reducible exact H2_) | (have H2_ := (Option.bind_some _ _).symm.trans H; with_reducible exact H2_) | with_reducible exact H | (rw [hy275]; exact H) | exact H
                              have Ny275 := Aside0.mk hy275
                              clear hy275
                              have H' := Aside0.mk H
                              clear H
                              go_wp2_with (first | ((with_reducible refine gate_dst (N := 483) rfl ?_); (try (refine gate_guard (by rfl) ?_; dsimp only)); refine Kd.R_make (Kd.int .i64) _ 3 rfl (N := 483) rfl 28 _ _ rfl (t253.length : Int) rfl rfl Try.underlying28 (.int .i64 0) 8 info3 rfl (by decide) (by omega) 0 (ok := fun _ => True) (okp := fun _ => True) rfl (fun _ hk => hk) trivial (of_decide_eq_true (by first | (with_reducible assumption) | assumption)) (Nat.le_trans (Nat.mul_le_mul_right _ (of_decide_eq_true (by first | (with_reducible assumption) | assumption) : (t253.length : Int).toNat ≤ 35184372088832)) (by omega)) (Below.refl _ _) (Nat.le_refl _) ?_; intro v276 w154 ho155 hb hg_ hnew_; clear hg_ hnew_; (first | rw [← Ny275.out] at ho155 | (simp only [Int.reduceToNat] at ho155; rw [← Ny275.out] at ho155)); have n0_ := Aside0.mk (Kd.R_elder' (by (with_reducible repeat (first | apply Kd.R_alloc | apply Kd.R_drewN | apply Kd.R_drew)); exact HO_51.out) (Kd.R_base ho155) hb); have n1_ := Aside0.mk (Kd.R_lower (Kd.R_new' ho155 (Kd.R_lt (by (with_reducible repeat (first | apply Kd.R_alloc | apply Kd.R_drewN | apply Kd.R_drew)); exact HO_51.out))) (below_size (by repeat (first | (with_reducible first | exact HB.out | apply below_alloc | apply pw_below_drewN | apply below_drew1) | exact HB.out)))); have n2_ := Aside0.mk (below_step (by repeat (first | (with_reducible first | exact HB.out | apply below_alloc | apply pw_below_drewN | apply below_drew1) | exact HB.out)) hb); clear HO_51; clear HB; have HO_51 := n0_; have HO277 := n1_; have HB := n2_; clear n0_ n1_ n2_; clear hb ho155; obtain ⟨Ao156, co156, eo156⟩ := Kd.R_slice HO277.out; subst eo156))
                              repeat (go_quiet (first | ((with_reducible refine gate_dst (N := 483) rfl ?_); (try (refine gate_guard (by rfl) ?_; dsimp only)); refine Kd.R_make (Kd.int .i64) _ 3 rfl (N := 483) rfl 28 _ _ rfl (t253.length : Int) rfl rfl Try.underlying28 (.int .i64 0) 8 info3 rfl (by decide) (by omega) 0 (ok := fun _ => True) (okp := fun _ => True) rfl (fun _ hk => hk) trivial (of_decide_eq_true (by first | (with_reducible assumption) | assumption)) (Nat.le_trans (Nat.mul_le_mul_right _ (of_decide_eq_true (by first | (with_reducible assumption) | assumption) : (t253.length : Int).toNat ≤ 35184372088832)) (by omega)) (Below.refl _ _) (Nat.le_refl _) ?_; intro v276 w154 ho155 hb hg_ hnew_; clear hg_ hnew_; (first | rw [← Ny275.out] at ho155 | (simp only [Int.reduceToNat] at ho155; rw [← Ny275.out] at ho155)); have n0_ := Aside0.mk (Kd.R_elder' (by (with_reducible repeat (first | apply Kd.R_alloc | apply Kd.R_drewN | apply Kd.R_drew)); exact HO_51.out) (Kd.R_base ho155) hb); have n1_ := Aside0.mk (Kd.R_lower (Kd.R_new' ho155 (Kd.R_lt (by (with_reducible repeat (first | apply Kd.R_alloc | apply Kd.R_drewN | apply Kd.R_drew)); exact HO_51.out))) (below_size (by repeat (first | (with_reducible first | exact HB.out | apply below_alloc | apply pw_below_drewN | apply below_drew1) | exact HB.out)))); have n2_ := Aside0.mk (below_step (by repeat (first | (with_reducible first | exact HB.out | apply below_alloc | apply pw_below_drewN | apply below_drew1) | exact HB.out)) hb); clear HO_51; clear HB; have HO_51 := n0_; have HO277 := n1_; have HB := n2_; clear n0_ n1_ n2_; clear hb ho155; obtain ⟨Ao156, co156, eo156⟩ := Kd.R_slice HO277.out; subst eo156)); try go_wp2_with (first | ((with_reducible refine gate_dst (N := 483) rfl ?_); (try (refine gate_guard (by rfl) ?_; dsimp only)); refine Kd.R_make (Kd.int .i64) _ 3 rfl (N := 483) rfl 28 _ _ rfl (t253.length : Int) rfl rfl Try.underlying28 (.int .i64 0) 8 info3 rfl (by decide) (by omega) 0 (ok := fun _ => True) (okp := fun _ => True) rfl (fun _ hk => hk) trivial (of_decide_eq_true (by first | (with_reducible assumption) | assumption)) (Nat.le_trans (Nat.mul_le_mul_right _ (of_decide_eq_true (by first | (with_reducible assumption) | assumption) : (t253.length : Int).toNat ≤ 35184372088832)) (by omega)) (Below.refl _ _) (Nat.le_refl _) ?_; intro v276 w154 ho155 hb hg_ hnew_; clear hg_ hnew_; (first | rw [← Ny275.out] at ho155 | (simp only [Int.reduceToNat] at ho155; rw [← Ny275.out] at ho155)); have n0_ := Aside0.mk (Kd.R_elder' (by (with_reducible repeat (first | apply Kd.R_alloc | apply Kd.R_drewN | apply Kd.R_drew)); exact HO_51.out) (Kd.R_base ho155) hb); have n1_ := Aside0.mk (Kd.R_lower (Kd.R_new' ho155 (Kd.R_lt (by (with_reducible repeat (first | apply Kd.R_alloc | apply Kd.R_drewN | apply Kd.R_drew)); exact HO_51.out))) (below_size (by repeat (first | (with_reducible first | exact HB.out | apply below_alloc | apply pw_below_drewN | apply below_drew1) | exact HB.out)))); have n2_ := Aside0.mk (below_step (by repeat (first | (with_reducible first | exact HB.out | apply below_alloc | apply pw_below_drewN | apply below_drew1) | exact HB.out)) hb); clear HO_51; clear HB; have HO_51 := n0_; have HO277 := n1_; have HB := n2_; clear n0_ n1_ n2_; clear hb ho155; obtain ⟨Ao156, co156, eo156⟩ := Kd.R_slice HO277.out; subst eo156)))
                              go_loopg [486] kj143 (fun kq v486 w' => ∃ (x67_10 : List Int) (x486_10 : Int), v486 = .int .i64 x486_10 ∧ Aside0 (laws_FnFormsLeftOfAll.l5 kq t253 t261 x67_10 (y275.length : Int) x486_10 = some r) ∧ Aside0 (kq ≤ kj143) ∧ Aside0 (Kd.R (Kd.int .i64) 3 w' w.heap.size (fun k_ => some k_ ≠ ((.slice Ao156 y275.length co156) : Value).ownBlock) (.slice Ao126 t253.length co126) t253) ∧ Aside0 (Kd.R (Kd.int .i64) 3 w' w.heap.size (fun k_ => some k_ ≠ ((.slice Ao126 t253.length co126) : Value).ownBlock) (.slice Ao156 y275.length co156) x67_10) ∧ Aside0 (Below w.heap.size w w'))
                              case atStart => exact ⟨(y275), (0), (by first | rfl | (simp; done) | (simp [*]; done)), H', ⟨Nat.le_refl _⟩, ⟨by (with_reducible repeat (first | apply Kd.R_alloc | apply Kd.R_drewN | apply Kd.R_drew)); exact Kd.R_mono HO_51.out (fun _ hk => hk.2)⟩, ⟨by (with_reducible repeat (first | apply Kd.R_alloc | apply Kd.R_drewN | apply Kd.R_drew)); exact Kd.R_mono HO277.out (fun _ hk => hk.2)⟩, ⟨by repeat (first | (with_reducible first | exact HB.out | apply below_alloc | apply pw_below_drewN | apply below_drew1) | exact HB.out)⟩⟩
                              case round =>
                               clear H'
                               try clear c1
                               try clear c2
                               try clear c3
                               try clear c6
                               try clear c15
                               try clear c31
                               try clear c106
                               try clear c120
                               try clear c122
                               try clear c122b0
                               try clear c122b1
                               try clear c123
                               try clear c123b0
                               try clear c123b1
                               try clear c127
                               try clear c127b0
                               try clear c150
                               try clear c151
                               try clear c151b0
                               try clear c152
                               try clear c152b0
                               try clear c152b1
                               try clear c153
                               try clear c153b0
                               try clear c153b1
                               obtain ⟨x67_10, x486_10, rfl, HA, HK10, HO_51, HO_67, HB⟩ := hrel
                               have hl67_10 := (Kd.R_reads' HO_67.out).1
                               rw [hl67_10] at HO_67
                               (try simp only [hl67_10])
                               (try simp only [hl67_10] at HO_51)
                               cases gk with
                               | zero => exact absurd HA.out (by simp [laws_FnFormsLeftOfAll.l5])
                               | succ k10 =>
                                have H := HA.out
                                clear HA
                                simp only [laws_FnFormsLeftOfAll.l5] at H
                                by_cases c157 : x486_10 < (y275.length : Int)
                                ·
                                 rw [if_pos c157] at H
                                 have c157b0 : decide (x486_10 < (y275.length : Int)) = true := decide_eq_true c157
                                 (try (have c157b0l := c157b0; rw [hl67_10] at c157b0l))
                                 clear c157
                                 by_cases c158 : 0 ≤ x486_10
                                 ·
                                  rw [if_pos c158] at H
                                  have c158b0 : decide (0 ≤ x486_10) = true := decide_eq_true c158
                                  clear c158
                                  by_cases c159 : x486_10 < (x67_10.length : Int)
                                  ·
                                   rw [if_pos c159] at H
                                   have c159b0 : decide (x486_10 < (x67_10.length : Int)) = true := decide_eq_true c159
                                   (try (have c159b0l := c159b0; rw [hl67_10] at c159b0l))
                                   clear c159
                                   obtain ⟨y278, hy278⟩ : ∃ y_ : List Int, y_ = (x67_10.set (x486_10 : Int).toNat x486_10) := ⟨_, rfl⟩
                                   replace H : (laws_FnFormsLeftOfAll.l5 k10 t253 t261 y278 (y275.length : Int) (wrap64 (x486_10 + 1))) = some r := by first | (rw [hy278]; with_reducible exact H) | (have H2_ := (Option.bind_some _ _).symm.trans H; rw [hy278]; with_reducible exact H2_) | (have H2_ := (Option.bind_some _ _).symm.trans H; with_reducible exact H2_) | with_reducible exact H | (rw [hy278]; exact H) | exact H
                                   have Ny278 := Aside0.mk hy278
                                   clear hy278
                                   have H' := Aside0.mk H
                                   clear H
                                   have p160 : 0 ≤ (x486_10 : Int) := of_decide_eq_true (by first | (with_reducible assumption) | assumption)
                                   have q160 : (x486_10 : Int) < ((x67_10.length : Int) : Int) := of_decide_eq_true (by first | (with_reducible assumption) | assumption)
                                   obtain ⟨go160, co160, eo160, gb160, gl160, cl160, HG160⟩ := Kd.R_form HO_67.out (by omega)
                                   (first | cases eo160 | (injection eo160 with ea_ en_ ec_; (first | subst ea_ | (injection ea_ with ea_; subst ea_)); subst ec_; clear en_))
                                   have GB160 := Aside0.mk gb160
                                   have GG160 := Aside0.mk HG160
                                   clear gb160 gl160 HG160
                                   obtain ⟨hx160_0, hf160_0⟩ := Kd.R_celln 0 HO_67.out (x486_10 : Int) p160 q160
                                   replace p160 := eq_true p160
                                   replace q160 := eq_true q160
                                   have HP161 := Kd.R_putg HO_67.out (x486_10 : Int) x486_10
                                   go_wp2_with (first | ((with_reducible refine gate_store (t := 3) (p := 492) rfl ?_); (try (rw [drewN_self wr]; generalize hq_ : World.drewN wr _ = wr; have n0_ := Aside0.mk (Kd.R_at hq_ HO_51.out); have n1_ := Aside0.mk (Kd.R_at hq_ HO_67.out); have n2_ := Aside0.mk (below_at hq_ HB.out); clear hq_ HO_51 HO_67 HB; have HO_51 := n0_; have HO_67 := n1_; have HB := n2_; clear n0_ n1_ n2_; (try (have HP161 := Kd.R_putg HO_67.out (x486_10 : Int) x486_10; obtain ⟨hx160_0, hf160_0⟩ := Kd.R_celln 0 HO_67.out (x486_10 : Int) (of_eq_true p160) (of_eq_true q160))))); refine store_event (t := 3) (p := 492) (v := ?vo_w162) (w1 := (wr.setCell ⟨go160, (x486_10 : Int).toNat, none⟩ (.int .i64 x486_10))) ?hg ?ho ?hn ?hr ?_; (case ho => rfl); (case hg => rfl); (case hn => rfl); (case hr => first | (go_simp; done) | (go_simp; rfl)); intro w162 hw; have hg : wr.grownBy w162 (some go160) := (by rw [hw]; exact HP161.2); have hp_ : Kd.R (Kd.int .i64) 3 w162 w.heap.size (fun k_ => some k_ ≠ (.slice Ao126 t253.length co126 : Value).ownBlock) (.slice (some ⟨go160, 0, none⟩) x67_10.length co156) y278 := (by rw [hw, Ny278.out]; exact HP161.1); clear HP161; have n0_ := Aside0.mk (Kd.R_after (v := (.slice (some ⟨go160, 0, none⟩) x67_10.length co156)) (v1 := (.slice (some ⟨go160, 0, none⟩) x67_10.length co156)) (ok := (fun _ => True)) (by (with_reducible repeat (first | apply Kd.R_alloc | apply Kd.R_drewN | apply Kd.R_drew)); exact Kd.R_mono HO_51.out (fun _ hk => ⟨trivial, hk⟩)) hg (.inl rfl)); have n1_ := Aside0.mk (hp_); have n2_ := Aside0.mk ((by rw [hw]; exact below_set (HB.out) GB160.out : Below w.heap.size w w162)); clear HO_51; clear HO_67; clear HB; have HO_51 := n0_; have HO_67 := n1_; have HB := n2_; clear n0_ n1_ n2_; clear hg hw hp_))
                                   repeat (go_quiet (first | ((with_reducible refine gate_store (t := 3) (p := 492) rfl ?_); (try (rw [drewN_self wr]; generalize hq_ : World.drewN wr _ = wr; have n0_ := Aside0.mk (Kd.R_at hq_ HO_51.out); have n1_ := Aside0.mk (Kd.R_at hq_ HO_67.out); have n2_ := Aside0.mk (below_at hq_ HB.out); clear hq_ HO_51 HO_67 HB; have HO_51 := n0_; have HO_67 := n1_; have HB := n2_; clear n0_ n1_ n2_; (try (have HP161 := Kd.R_putg HO_67.out (x486_10 : Int) x486_10; obtain ⟨hx160_0, hf160_0⟩ := Kd.R_celln 0 HO_67.out (x486_10 : Int) (of_eq_true p160) (of_eq_true q160))))); refine store_event (t := 3) (p := 492) (v := ?vo_w162) (w1 := (wr.setCell ⟨go160, (x486_10 : Int).toNat, none⟩ (.int .i64 x486_10))) ?hg ?ho ?hn ?hr ?_; (case ho => rfl); (case hg => rfl); (case hn => rfl); (case hr => first | (go_simp; done) | (go_simp; rfl)); intro w162 hw; have hg : wr.grownBy w162 (some go160) := (by rw [hw]; exact HP161.2); have hp_ : Kd.R (Kd.int .i64) 3 w162 w.heap.size (fun k_ => some k_ ≠ (.slice Ao126 t253.length co126 : Value).ownBlock) (.slice (some ⟨go160, 0, none⟩) x67_10.length co156) y278 := (by rw [hw, Ny278.out]; exact HP161.1); clear HP161; have n0_ := Aside0.mk (Kd.R_after (v := (.slice (some ⟨go160, 0, none⟩) x67_10.length co156)) (v1 := (.slice (some ⟨go160, 0, none⟩) x67_10.length co156)) (ok := (fun _ => True)) (by (with_reducible repeat (first | apply Kd.R_alloc | apply Kd.R_drewN | apply Kd.R_drew)); exact Kd.R_mono HO_51.out (fun _ hk => ⟨trivial, hk⟩)) hg (.inl rfl)); have n1_ := Aside0.mk (hp_); have n2_ := Aside0.mk ((by rw [hw]; exact below_set (HB.out) GB160.out : Below w.heap.size w w162)); clear HO_51; clear HO_67; clear HB; have HO_51 := n0_; have HO_67 := n1_; have HB := n2_; clear n0_ n1_ n2_; clear hg hw hp_)); try go_wp2_with (first | ((with_reducible refine gate_store (t := 3) (p := 492) rfl ?_); (try (rw [drewN_self wr]; generalize hq_ : World.drewN wr _ = wr; have n0_ := Aside0.mk (Kd.R_at hq_ HO_51.out); have n1_ := Aside0.mk (Kd.R_at hq_ HO_67.out); have n2_ := Aside0.mk (below_at hq_ HB.out); clear hq_ HO_51 HO_67 HB; have HO_51 := n0_; have HO_67 := n1_; have HB := n2_; clear n0_ n1_ n2_; (try (have HP161 := Kd.R_putg HO_67.out (x486_10 : Int) x486_10; obtain ⟨hx160_0, hf160_0⟩ := Kd.R_celln 0 HO_67.out (x486_10 : Int) (of_eq_true p160) (of_eq_true q160))))); refine store_event (t := 3) (p := 492) (v := ?vo_w162) (w1 := (wr.setCell ⟨go160, (x486_10 : Int).toNat, none⟩ (.int .i64 x486_10))) ?hg ?ho ?hn ?hr ?_; (case ho => rfl); (case hg => rfl); (case hn => rfl); (case hr => first | (go_simp; done) | (go_simp; rfl)); intro w162 hw; have hg : wr.grownBy w162 (some go160) := (by rw [hw]; exact HP161.2); have hp_ : Kd.R (Kd.int .i64) 3 w162 w.heap.size (fun k_ => some k_ ≠ (.slice Ao126 t253.length co126 : Value).ownBlock) (.slice (some ⟨go160, 0, none⟩) x67_10.length co156) y278 := (by rw [hw, Ny278.out]; exact HP161.1); clear HP161; have n0_ := Aside0.mk (Kd.R_after (v := (.slice (some ⟨go160, 0, none⟩) x67_10.length co156)) (v1 := (.slice (some ⟨go160, 0, none⟩) x67_10.length co156)) (ok := (fun _ => True)) (by (with_reducible repeat (first | apply Kd.R_alloc | apply Kd.R_drewN | apply Kd.R_drew)); exact Kd.R_mono HO_51.out (fun _ hk => ⟨trivial, hk⟩)) hg (.inl rfl)); have n1_ := Aside0.mk (hp_); have n2_ := Aside0.mk ((by rw [hw]; exact below_set (HB.out) GB160.out : Below w.heap.size w w162)); clear HO_51; clear HO_67; clear HB; have HO_51 := n0_; have HO_67 := n1_; have HB := n2_; clear n0_ n1_ n2_; clear hg hw hp_)))
                                   (try simp only [← hl67_10])
                                   go_roundg k10
                                   case measure => have := HJ9.out; have := HJ21.out; have := HJ31.out; have := HJ69.out; have := HJ84.out; have := HJ106.out; have := HJ108.out; have := HK8.out; have := HJ143.out; have := HK10.out; omega
                                   case rel => exact ⟨(y278), (wrap64 (x486_10 + 1)), (by first | rfl | (simp; done) | (simp [*]; done)), H', ⟨by have := HJ9.out; have := HJ21.out; have := HJ31.out; have := HJ69.out; have := HJ84.out; have := HJ106.out; have := HJ108.out; have := HK8.out; have := HJ143.out; have := HK10.out; omega⟩, ⟨by (try simp only [hl67_10]); (with_reducible repeat (first | apply Kd.R_alloc | apply Kd.R_drewN | apply Kd.R_drew)); exact Kd.R_mono HO_51.out (fun _ hk => hk.2)⟩, ⟨by (try simp only [hl67_10]); (with_reducible repeat (first | apply Kd.R_alloc | apply Kd.R_drewN | apply Kd.R_drew)); exact HO_67.out⟩, ⟨by repeat (first | (with_reducible first | exact HB.out | apply below_alloc | apply pw_below_drewN | apply below_drew1) | exact HB.out)⟩⟩
                                  ·
                                   rw [if_neg c159] at H
                                   exact absurd H (by simp)
                                 ·
                                  rw [if_neg c158] at H
                                  exact absurd H (by simp)
                                ·
                                 rw [if_neg c157] at H
                                 have c157b0 : decide (x486_10 < (y275.length : Int)) = false := decide_eq_false c157
                                 (try (have c157b0l := c157b0; rw [hl67_10] at c157b0l))
                                 clear c157
                                 have H' := Aside0.mk H
                                 clear H
                                 go_wp2
                                 repeat (go_quiet (fail); try go_wp2)
                                 go_loopg [67, 69] k10 (fun kq v67 v69 w' => ∃ (x51_11 : List Int) (x67_11 : List Int) (x69_11 : Int), v69 = .int .i64 x69_11 ∧ Aside0 (laws_FnFormsLeftOfAll.l6 kq x51_11 t261 x67_11 x69_11 = some r) ∧ Aside0 (kq ≤ k10) ∧ Aside0 (Kd.R (Kd.int .i64) 3 w' w.heap.size (fun k_ => some k_ ≠ (v67 : Value).ownBlock) (.slice Ao126 t253.length co126) x51_11) ∧ Aside0 (Kd.R (Kd.int .i64) 3 w' w.heap.size (fun k_ => some k_ ≠ ((.slice Ao126 t253.length co126) : Value).ownBlock) v67 x67_11) ∧ Aside0 (Below w.heap.size w w'))
                                 case atStart => exact ⟨(t253), (x67_10), (1), (by first | rfl | (simp; done) | (simp [*]; done)), H', ⟨Nat.le_refl _⟩, ⟨by (try simp only [hl67_10]); (with_reducible repeat (first | apply Kd.R_alloc | apply Kd.R_drewN | apply Kd.R_drew)); exact HO_51.out⟩, ⟨by (try simp only [hl67_10]); (with_reducible repeat (first | apply Kd.R_alloc | apply Kd.R_drewN | apply Kd.R_drew)); exact HO_67.out⟩, ⟨by repeat (first | (with_reducible first | exact HB.out | apply below_alloc | apply pw_below_drewN | apply below_drew1) | exact HB.out)⟩⟩
                                 case round =>
                                  clear H'
                                  try clear c1
                                  try clear c2
                                  try clear c3
                                  try clear c6
                                  try clear c15
                                  try clear c31
                                  try clear c106
                                  try clear c120
                                  try clear c122
                                  try clear c122b0
                                  try clear c122b1
                                  try clear c123
                                  try clear c123b0
                                  try clear c123b1
                                  try clear c127
                                  try clear c127b0
                                  try clear c150
                                  try clear c151
                                  try clear c151b0
                                  try clear c152
                                  try clear c152b0
                                  try clear c152b1
                                  try clear c153
                                  try clear c153b0
                                  try clear c153b1
                                  try clear c157
                                  try clear c157b0
                                  obtain ⟨x51_11, x67_11, x69_11, rfl, HA, HK11, HO_51, HO_67, HB⟩ := hrel
                                  have hl51_11 := (Kd.R_reads' HO_51.out).1
                                  rw [hl51_11] at HO_51
                                  (try simp only [hl51_11])
                                  (try simp only [hl51_11] at HO_67)
                                  cases gk with
                                  | zero => exact absurd HA.out (by simp [laws_FnFormsLeftOfAll.l6])
                                  | succ k11 =>
                                   have H := HA.out
                                   clear HA
                                   simp only [laws_FnFormsLeftOfAll.l6] at H
                                   by_cases c163 : x69_11 ≤ t261
                                   ·
                                    rw [if_pos c163] at H
                                    have c163b0 : decide (x69_11 ≤ t261) = true := decide_eq_true c163
                                    clear c163
                                    by_cases c164 : 0 ≤ (x67_11.length : Int)
                                    ·
                                     rw [if_pos c164] at H
                                     have c164b0 := eq_true c164
                                     have c164b1 : decide (0 ≤ (x67_11.length : Int)) = true := decide_eq_true c164
                                     (try (have c164b1l := c164b1; rw [hl67_10] at c164b1l))
                                     (try (have c164b1l := c164b1; rw [hl51_11] at c164b1l))
                                     clear c164
                                     by_cases c165 : ((x67_11.length : Int) : Int).toNat ≤ 35184372088832
                                     ·
                                      rw [if_pos c165] at H
                                      have c165b0 := eq_true c165
                                      have c165b1 : decide (((x67_11.length : Int) : Int).toNat ≤ 35184372088832) = true := decide_eq_true c165
                                      (try (have c165b1l := c165b1; rw [hl67_10] at c165b1l))
                                      (try (have c165b1l := c165b1; rw [hl51_11] at c165b1l))
                                      clear c165
                                      obtain ⟨y279, hy279⟩ : ∃ y_ : List Int, y_ = (List.replicate ((x67_11.length : Int) : Int).toNat 0) := ⟨_, rfl⟩
                                      replace H : (laws_FnFormsLeftOfAll.l7 k11 x51_11 t261 x67_11 x69_11 y279 x51_11 (x51_11.length : Int) 0) = some r := by first | (rw [hy279]; with_reducible exact H) | (have H2_ := (Option.bind_some _ _).symm.trans H; rw [hy279]; with_reducible exact H2_) | (have H2_ := (Option.bind_some _ _).symm.trans H; with_reducible exact H2_) | with_reducible exact H | (rw [hy279]; exact H) | exact H
                                      have Ny279 := Aside0.mk hy279
                                      clear hy279
                                      have H' := Aside0.mk H
                                      clear H
                                      obtain ⟨Ao166, co166, eo166⟩ := Kd.R_slice HO_67.out
                                      subst eo166
                                      go_wp2_with (first | ((with_reducible refine gate_dst (N := 501) rfl ?_); (try (refine gate_guard (by rfl) ?_; dsimp only)); refine Kd.R_make (Kd.int .i64) _ 3 rfl (N := 501) rfl 28 _ _ rfl (x67_11.length : Int) rfl rfl Try.underlying28 (.int .i64 0) 8 info3 rfl (by decide) (by omega) 0 (ok := fun _ => True) (okp := fun _ => True) rfl (fun _ hk => hk) trivial (of_decide_eq_true (by first | (with_reducible assumption) | assumption)) (Nat.le_trans (Nat.mul_le_mul_right _ (of_decide_eq_true (by first | (with_reducible assumption) | assumption) : (x67_11.length : Int).toNat ≤ 35184372088832)) (by omega)) (Below.refl _ _) (Nat.le_refl _) ?_; intro v280 w167 ho168 hb hg_ hnew_; clear hg_ hnew_; (first | rw [← Ny279.out] at ho168 | (simp only [Int.reduceToNat] at ho168; rw [← Ny279.out] at ho168)); have n0_ := Aside0.mk (Kd.R_elder' (by (with_reducible repeat (first | apply Kd.R_alloc | apply Kd.R_drewN | apply Kd.R_drew)); exact HO_51.out) (Kd.R_base ho168) hb); have n1_ := Aside0.mk (Kd.R_elder' (by (with_reducible repeat (first | apply Kd.R_alloc | apply Kd.R_drewN | apply Kd.R_drew)); exact HO_67.out) (Kd.R_base ho168) hb); have n2_ := Aside0.mk (Kd.R_lower (Kd.R_new' (Kd.R_new' ho168 (Kd.R_lt (by (with_reducible repeat (first | apply Kd.R_alloc | apply Kd.R_drewN | apply Kd.R_drew)); exact HO_51.out))) (Kd.R_lt (by (with_reducible repeat (first | apply Kd.R_alloc | apply Kd.R_drewN | apply Kd.R_drew)); exact HO_67.out))) (below_size (by repeat (first | (with_reducible first | exact HB.out | apply below_alloc | apply pw_below_drewN | apply below_drew1) | exact HB.out)))); have n3_ := Aside0.mk (below_step (by repeat (first | (with_reducible first | exact HB.out | apply below_alloc | apply pw_below_drewN | apply below_drew1) | exact HB.out)) hb); clear HO_51; clear HO_67; clear HB; have HO_51 := n0_; have HO_67 := n1_; have HO281 := n2_; have HB := n3_; clear n0_ n1_ n2_ n3_; clear hb ho168))
                                      repeat (go_quiet (first | ((with_reducible refine gate_dst (N := 501) rfl ?_); (try (refine gate_guard (by rfl) ?_; dsimp only)); refine Kd.R_make (Kd.int .i64) _ 3 rfl (N := 501) rfl 28 _ _ rfl (x67_11.length : Int) rfl rfl Try.underlying28 (.int .i64 0) 8 info3 rfl (by decide) (by omega) 0 (ok := fun _ => True) (okp := fun _ => True) rfl (fun _ hk => hk) trivial (of_decide_eq_true (by first | (with_reducible assumption) | assumption)) (Nat.le_trans (Nat.mul_le_mul_right _ (of_decide_eq_true (by first | (with_reducible assumption) | assumption) : (x67_11.length : Int).toNat ≤ 35184372088832)) (by omega)) (Below.refl _ _) (Nat.le_refl _) ?_; intro v280 w167 ho168 hb hg_ hnew_; clear hg_ hnew_; (first | rw [← Ny279.out] at ho168 | (simp only [Int.reduceToNat] at ho168; rw [← Ny279.out] at ho168)); have n0_ := Aside0.mk (Kd.R_elder' (by (with_reducible repeat (first | apply Kd.R_alloc | apply Kd.R_drewN | apply Kd.R_drew)); exact HO_51.out) (Kd.R_base ho168) hb); have n1_ := Aside0.mk (Kd.R_elder' (by (with_reducible repeat (first | apply Kd.R_alloc | apply Kd.R_drewN | apply Kd.R_drew)); exact HO_67.out) (Kd.R_base ho168) hb); have n2_ := Aside0.mk (Kd.R_lower (Kd.R_new' (Kd.R_new' ho168 (Kd.R_lt (by (with_reducible repeat (first | apply Kd.R_alloc | apply Kd.R_drewN | apply Kd.R_drew)); exact HO_51.out))) (Kd.R_lt (by (with_reducible repeat (first | apply Kd.R_alloc | apply Kd.R_drewN | apply Kd.R_drew)); exact HO_67.out))) (below_size (by repeat (first | (with_reducible first | exact HB.out | apply below_alloc | apply pw_below_drewN | apply below_drew1) | exact HB.out)))); have n3_ := Aside0.mk (below_step (by repeat (first | (with_reducible first | exact HB.out | apply below_alloc | apply pw_below_drewN | apply below_drew1) | exact HB.out)) hb); clear HO_51; clear HO_67; clear HB; have HO_51 := n0_; have HO_67 := n1_; have HO281 := n2_; have HB := n3_; clear n0_ n1_ n2_ n3_; clear hb ho168)); try go_wp2_with (first | ((with_reducible refine gate_dst (N := 501) rfl ?_); (try (refine gate_guard (by rfl) ?_; dsimp only)); refine Kd.R_make (Kd.int .i64) _ 3 rfl (N := 501) rfl 28 _ _ rfl (x67_11.length : Int) rfl rfl Try.underlying28 (.int .i64 0) 8 info3 rfl (by decide) (by omega) 0 (ok := fun _ => True) (okp := fun _ => True) rfl (fun _ hk => hk) trivial (of_decide_eq_true (by first | (with_reducible assumption) | assumption)) (Nat.le_trans (Nat.mul_le_mul_right _ (of_decide_eq_true (by first | (with_reducible assumption) | assumption) : (x67_11.length : Int).toNat ≤ 35184372088832)) (by omega)) (Below.refl _ _) (Nat.le_refl _) ?_; intro v280 w167 ho168 hb hg_ hnew_; clear hg_ hnew_; (first | rw [← Ny279.out] at ho168 | (simp only [Int.reduceToNat] at ho168; rw [← Ny279.out] at ho168)); have n0_ := Aside0.mk (Kd.R_elder' (by (with_reducible repeat (first | apply Kd.R_alloc | apply Kd.R_drewN | apply Kd.R_drew)); exact HO_51.out) (Kd.R_base ho168) hb); have n1_ := Aside0.mk (Kd.R_elder' (by (with_reducible repeat (first | apply Kd.R_alloc | apply Kd.R_drewN | apply Kd.R_drew)); exact HO_67.out) (Kd.R_base ho168) hb); have n2_ := Aside0.mk (Kd.R_lower (Kd.R_new' (Kd.R_new' ho168 (Kd.R_lt (by (with_reducible repeat (first | apply Kd.R_alloc | apply Kd.R_drewN | apply Kd.R_drew)); exact HO_51.out))) (Kd.R_lt (by (with_reducible repeat (first | apply Kd.R_alloc | apply Kd.R_drewN | apply Kd.R_drew)); exact HO_67.out))) (below_size (by repeat (first | (with_reducible first | exact HB.out | apply below_alloc | apply pw_below_drewN | apply below_drew1) | exact HB.out)))); have n3_ := Aside0.mk (below_step (by repeat (first | (with_reducible first | exact HB.out | apply below_alloc | apply pw_below_drewN | apply below_drew1) | exact HB.out)) hb); clear HO_51; clear HO_67; clear HB; have HO_51 := n0_; have HO_67 := n1_; have HO281 := n2_; have HB := n3_; clear n0_ n1_ n2_ n3_; clear hb ho168)))
                                      go_loopg [504] k11 (fun kq v504 w' => ∃ (x70_12 : List Int) (x504_12 : Int), v504 = .int .i64 x504_12 ∧ Aside0 (laws_FnFormsLeftOfAll.l7 kq x51_11 t261 x67_11 x69_11 x70_12 x51_11 (x51_11.length : Int) x504_12 = some r) ∧ Aside0 (kq ≤ k11) ∧ Aside0 (Kd.R (Kd.int .i64) 3 w' w.heap.size (fun k_ => some k_ ≠ ((.slice Ao166 x67_11.length co166) : Value).ownBlock ∧ some k_ ≠ (v280 : Value).ownBlock) (.slice Ao126 x51_11.length co126) x51_11) ∧ Aside0 (Kd.R (Kd.int .i64) 3 w' w.heap.size (fun k_ => some k_ ≠ ((.slice Ao126 x51_11.length co126) : Value).ownBlock ∧ some k_ ≠ (v280 : Value).ownBlock ∧ some k_ ≠ ((.slice Ao126 x51_11.length co126) : Value).ownBlock) (.slice Ao166 x67_11.length co166) x67_11) ∧ Aside0 (Kd.R (Kd.int .i64) 3 w' w.heap.size (fun k_ => some k_ ≠ ((.slice Ao126 x51_11.length co126) : Value).ownBlock ∧ some k_ ≠ ((.slice Ao166 x67_11.length co166) : Value).ownBlock ∧ some k_ ≠ ((.slice Ao126 x51_11.length co126) : Value).ownBlock) v280 x70_12) ∧ Aside0 (Kd.R (Kd.int .i64) 3 w' w.heap.size (fun k_ => some k_ ≠ ((.slice Ao166 x67_11.length co166) : Value).ownBlock ∧ some k_ ≠ (v280 : Value).ownBlock) (.slice Ao126 x51_11.length co126) x51_11) ∧ Aside0 (Below w.heap.size w w'))
                                      case atStart => exact ⟨(y279), (0), (by first | rfl | (simp; done) | (simp [*]; done)), H', ⟨Nat.le_refl _⟩, ⟨by (try simp only [hl67_10]); (try simp only [hl51_11]); (with_reducible repeat (first | apply Kd.R_alloc | apply Kd.R_drewN | apply Kd.R_drew)); exact HO_51.out⟩, ⟨by (try simp only [hl67_10]); (try simp only [hl51_11]); (with_reducible repeat (first | apply Kd.R_alloc | apply Kd.R_drewN | apply Kd.R_drew)); exact Kd.R_mono HO_67.out (fun _ hk => ⟨hk.1, ⟨hk.2, hk.1⟩⟩)⟩, ⟨by (try simp only [hl67_10]); (try simp only [hl51_11]); (with_reducible repeat (first | apply Kd.R_alloc | apply Kd.R_drewN | apply Kd.R_drew)); exact Kd.R_mono HO281.out (fun _ hk => ⟨hk.1.2, ⟨hk.2, hk.1.2⟩⟩)⟩, ⟨by (try simp only [hl67_10]); (try simp only [hl51_11]); (with_reducible repeat (first | apply Kd.R_alloc | apply Kd.R_drewN | apply Kd.R_drew)); exact HO_51.out⟩, ⟨by repeat (first | (with_reducible first | exact HB.out | apply below_alloc | apply pw_below_drewN | apply below_drew1) | exact HB.out)⟩⟩
                                      case round =>
                                       clear H'
                                       try clear c1
                                       try clear c2
                                       try clear c3
                                       try clear c6
                                       try clear c15
                                       try clear c31
                                       try clear c106
                                       try clear c120
                                       try clear c122
                                       try clear c122b0
                                       try clear c122b1
                                       try clear c123
                                       try clear c123b0
                                       try clear c123b1
                                       try clear c127
                                       try clear c127b0
                                       try clear c150
                                       try clear c151
                                       try clear c151b0
                                       try clear c152
                                       try clear c152b0
                                       try clear c152b1
                                       try clear c153
                                       try clear c153b0
                                       try clear c153b1
                                       try clear c157
                                       try clear c157b0
                                       try clear c163
                                       try clear c163b0
                                       try clear c164
                                       try clear c164b0
                                       try clear c164b1
                                       try clear c165
                                       try clear c165b0
                                       try clear c165b1
                                       obtain ⟨x70_12, x504_12, rfl, HA, HK12, HO_51, HO_67, HO_70, HO_502, HB⟩ := hrel
                                       cases gk with
                                       | zero => exact absurd HA.out (by simp [laws_FnFormsLeftOfAll.l7])
                                       | succ k12 =>
                                        have H := HA.out
                                        clear HA
                                        simp only [laws_FnFormsLeftOfAll.l7] at H
                                        by_cases c169 : x504_12 < (x51_11.length : Int)
                                        ·
                                         rw [if_pos c169] at H
                                         have c169b0 : decide (x504_12 < (x51_11.length : Int)) = true := decide_eq_true c169
                                         (try (have c169b0l := c169b0; rw [hl67_10] at c169b0l))
                                         (try (have c169b0l := c169b0; rw [hl51_11] at c169b0l))
                                         clear c169
                                         by_cases c170 : 0 ≤ x504_12
                                         ·
                                          rw [if_pos c170] at H
                                          have c170b0 : decide (0 ≤ x504_12) = true := decide_eq_true c170
                                          clear c170
                                          by_cases c171 : x504_12 < (x51_11.length : Int)
                                          ·
                                           rw [if_pos c171] at H
                                           have c171b0 : decide (x504_12 < (x51_11.length : Int)) = true := decide_eq_true c171
                                           (try (have c171b0l := c171b0; rw [hl67_10] at c171b0l))
                                           (try (have c171b0l := c171b0; rw [hl51_11] at c171b0l))
                                           clear c171
                                           by_cases c172 : 0 ≤ (rd x51_11 x504_12)
                                           ·
                                            rw [if_pos c172] at H
                                            have c172b0 : decide (0 ≤ (rd x51_11 x504_12)) = true := decide_eq_true c172
                                            clear c172
                                            by_cases c173 : (rd x51_11 x504_12) < (x67_11.length : Int)
                                            ·
                                             rw [if_pos c173] at H
                                             have c173b0 : decide ((rd x51_11 x504_12) < (x67_11.length : Int)) = true := decide_eq_true c173
                                             (try (have c173b0l := c173b0; rw [hl67_10] at c173b0l))
                                             (try (have c173b0l := c173b0; rw [hl51_11] at c173b0l))
                                             clear c173
                                             by_cases c174 : x504_12 < (x70_12.length : Int)
                                             ·
                                              rw [if_pos c174] at H
                                              have c174b0 : decide (x504_12 < (x70_12.length : Int)) = true := decide_eq_true c174
                                              (try (have c174b0l := c174b0; rw [hl67_10] at c174b0l))
                                              (try (have c174b0l := c174b0; rw [hl51_11] at c174b0l))
                                              clear c174
                                              obtain ⟨y284, hy284⟩ : ∃ y_ : List Int, y_ = (x70_12.set (x504_12 : Int).toNat (rd x67_11 (rd x51_11 x504_12))) := ⟨_, rfl⟩
                                              replace H : (laws_FnFormsLeftOfAll.l7 k12 x51_11 t261 x67_11 x69_11 y284 x51_11 (x51_11.length : Int) (wrap64 (x504_12 + 1))) = some r := by first | (rw [hy284]; with_reducible exact H) | (have H2_ := (Option.bind_some _ _).symm.trans H; rw [hy284]; with_reducible exact H2_) | (have H2_ := (Option.bind_some _ _).symm.trans H; with_reducible exact H2_) | with_reducible exact H | (rw [hy284]; exact H) | exact H
                                              have Ny284 := Aside0.mk hy284
                                              clear hy284
                                              have H' := Aside0.mk H
                                              clear H
                                              have p282 : 0 ≤ (x504_12 : Int) := of_decide_eq_true (by first | (with_reducible assumption) | assumption)
                                              have q282 : x504_12 < (x51_11.length : Int) := of_decide_eq_true (by first | (with_reducible assumption) | assumption)
                                              obtain ⟨ad282, e282, hx282_0⟩ := Kd.at_int (Kd.R_reads' HO_502.out).2.2 x504_12 p282 q282
                                              cases e282
                                              replace p282 := eq_true p282
                                              replace q282 := eq_true q282
                                              have p283 : 0 ≤ ((rd x51_11 x504_12) : Int) := of_decide_eq_true (by first | (with_reducible assumption) | assumption)
                                              have q283 : (rd x51_11 x504_12) < (x67_11.length : Int) := of_decide_eq_true (by first | (with_reducible assumption) | assumption)
                                              obtain ⟨ad283, e283, hx283_0⟩ := Kd.at_int (Kd.R_reads' HO_67.out).2.2 (rd x51_11 x504_12) p283 q283
                                              cases e283
                                              replace p283 := eq_true p283
                                              replace q283 := eq_true q283
                                              have p175 : 0 ≤ (x504_12 : Int) := of_decide_eq_true (by first | (with_reducible assumption) | assumption)
                                              have q175 : (x504_12 : Int) < ((x70_12.length : Int) : Int) := of_decide_eq_true (by first | (with_reducible assumption) | assumption)
                                              obtain ⟨go175, co175, eo175, gb175, gl175, cl175, HG175⟩ := Kd.R_form HO_70.out (by omega)
                                              (first | cases eo175 | (injection eo175 with ea_ en_ ec_; (first | subst ea_ | (injection ea_ with ea_; subst ea_)); subst ec_; clear en_))
                                              have GB175 := Aside0.mk gb175
                                              have GG175 := Aside0.mk HG175
                                              clear gb175 gl175 HG175
                                              obtain ⟨hx175_0, hf175_0⟩ := Kd.R_celln 0 HO_70.out (x504_12 : Int) p175 q175
                                              replace p175 := eq_true p175
                                              replace q175 := eq_true q175
                                              have HP176 := Kd.R_putg HO_70.out (x504_12 : Int) (rd x67_11 (rd x51_11 x504_12))
                                              go_wp2_with (first | ((with_reducible refine gate_store (t := 3) (p := 515) rfl ?_); (try (rw [drewN_self wr]; generalize hq_ : World.drewN wr _ = wr; have n0_ := Aside0.mk (Kd.R_at hq_ HO_51.out); have n1_ := Aside0.mk (Kd.R_at hq_ HO_67.out); have n2_ := Aside0.mk (Kd.R_at hq_ HO_70.out); have n3_ := Aside0.mk (Kd.R_at hq_ HO_502.out); have n4_ := Aside0.mk (below_at hq_ HB.out); clear hq_ HO_51 HO_67 HO_70 HO_502 HB; have HO_51 := n0_; have HO_67 := n1_; have HO_70 := n2_; have HO_502 := n3_; have HB := n4_; clear n0_ n1_ n2_ n3_ n4_; (try (have HP176 := Kd.R_putg HO_70.out (x504_12 : Int) (rd x67_11 (rd x51_11 x504_12)); obtain ⟨hx175_0, hf175_0⟩ := Kd.R_celln 0 HO_70.out (x504_12 : Int) (of_eq_true p175) (of_eq_true q175))))); refine store_event (t := 3) (p := 515) (v := ?vo_w177) (w1 := (wr.setCell ⟨go175, (x504_12 : Int).toNat, none⟩ (.int .i64 (rd x67_11 (rd x51_11 x504_12))))) ?hg ?ho ?hn ?hr ?_; (case ho => rfl); (case hg => rfl); (case hn => rfl); (case hr => first | (go_simp; done) | (go_simp; rfl)); intro w177 hw; have hg : wr.grownBy w177 (some go175) := (by rw [hw]; exact HP176.2); have hp_ : Kd.R (Kd.int .i64) 3 w177 w.heap.size (fun k_ => some k_ ≠ (.slice (some ad282) x51_11.length co126 : Value).ownBlock ∧ some k_ ≠ (.slice (some ad283) x67_11.length co166 : Value).ownBlock ∧ some k_ ≠ (.slice (some ad282) x51_11.length co126 : Value).ownBlock) (.slice (some ⟨go175, 0, none⟩) x70_12.length co175) y284 := (by rw [hw, Ny284.out]; exact HP176.1); clear HP176; have n0_ := Aside0.mk (Kd.R_after (v := (.slice (some ⟨go175, 0, none⟩) x70_12.length co175)) (v1 := (.slice (some ⟨go175, 0, none⟩) x70_12.length co175)) (ok := (fun k_ => some k_ ≠ (.slice (some ad283) x67_11.length co166 : Value).ownBlock)) (by (with_reducible repeat (first | apply Kd.R_alloc | apply Kd.R_drewN | apply Kd.R_drew)); exact HO_51.out) hg (.inl rfl)); have n1_ := Aside0.mk (Kd.R_after (v := (.slice (some ⟨go175, 0, none⟩) x70_12.length co175)) (v1 := (.slice (some ⟨go175, 0, none⟩) x70_12.length co175)) (ok := (fun k_ => some k_ ≠ (.slice (some ad282) x51_11.length co126 : Value).ownBlock ∧ some k_ ≠ (.slice (some ad282) x51_11.length co126 : Value).ownBlock)) (by (with_reducible repeat (first | apply Kd.R_alloc | apply Kd.R_drewN | apply Kd.R_drew)); exact Kd.R_mono HO_67.out (fun _ hk => ⟨⟨hk.1, hk.2.2⟩, hk.2.1⟩)) hg (.inl rfl)); have n2_ := Aside0.mk (hp_); have n3_ := Aside0.mk (Kd.R_after (v := (.slice (some ⟨go175, 0, none⟩) x70_12.length co175)) (v1 := (.slice (some ⟨go175, 0, none⟩) x70_12.length co175)) (ok := (fun k_ => some k_ ≠ (.slice (some ad283) x67_11.length co166 : Value).ownBlock)) (by (with_reducible repeat (first | apply Kd.R_alloc | apply Kd.R_drewN | apply Kd.R_drew)); exact HO_502.out) hg (.inl rfl)); have n4_ := Aside0.mk ((by rw [hw]; exact below_set (HB.out) GB175.out : Below w.heap.size w w177)); clear HO_51; clear HO_67; clear HO_70; clear HO_502; clear HB; have HO_51 := n0_; have HO_67 := n1_; have HO_70 := n2_; have HO_502 := n3_; have HB := n4_; clear n0_ n1_ n2_ n3_ n4_; clear hg hw hp_))
                                              repeat (go_quiet (first | ((with_reducible refine gate_store (t := 3) (p := 515) rfl ?_); (try (rw [drewN_self wr]; generalize hq_ : World.drewN wr _ = wr; have n0_ := Aside0.mk (Kd.R_at hq_ HO_51.out); have n1_ := Aside0.mk (Kd.R_at hq_ HO_67.out); have n2_ := Aside0.mk (Kd.R_at hq_ HO_70.out); have n3_ := Aside0.mk (Kd.R_at hq_ HO_502.out); have n4_ := Aside0.mk (below_at hq_ HB.out); clear hq_ HO_51 HO_67 HO_70 HO_502 HB; have HO_51 := n0_; have HO_67 := n1_; have HO_70 := n2_; have HO_502 := n3_; have HB := n4_; clear n0_ n1_ n2_ n3_ n4_; (try (have HP176 := Kd.R_putg HO_70.out (x504_12 : Int) (rd x67_11 (rd x51_11 x504_12)); obtain ⟨hx175_0, hf175_0⟩ := Kd.R_celln 0 HO_70.out (x504_12 : Int) (of_eq_true p175) (of_eq_true q175))))); refine store_event (t := 3) (p := 515) (v := ?vo_w177) (w1 := (wr.setCell ⟨go175, (x504_12 : Int).toNat, none⟩ (.int .i64 (rd x67_11 (rd x51_11 x504_12))))) ?hg ?ho ?hn ?hr ?_; (case ho => rfl); (case hg => rfl); (case hn => rfl); (case hr => first | (go_simp; done) | (go_simp; rfl)); intro w177 hw; have hg : wr.grownBy w177 (some go175) := (by rw [hw]; exact HP176.2); have hp_ : Kd.R (Kd.int .i64) 3 w177 w.heap.size (fun k_ => some k_ ≠ (.slice (some ad282) x51_11.length co126 : Value).ownBlock ∧ some k_ ≠ (.slice (some ad283) x67_11.length co166 : Value).ownBlock ∧ some k_ ≠ (.slice (some ad282) x51_11.length co126 : Value).ownBlock) (.slice (some ⟨go175, 0, none⟩) x70_12.length co175) y284 := (by rw [hw, Ny284.out]; exact HP176.1); clear HP176; have n0_ := Aside0.mk (Kd.R_after (v := (.slice (some ⟨go175, 0, none⟩) x70_12.length co175)) (v1 := (.slice (some ⟨go175, 0, none⟩) x70_12.length co175)) (ok := (fun k_ => some k_ ≠ (.slice (some ad283) x67_11.length co166 : Value).ownBlock)) (by (with_reducible repeat (first | apply Kd.R_alloc | apply Kd.R_drewN | apply Kd.R_drew)); exact HO_51.out) hg (.inl rfl)); have n1_ := Aside0.mk (Kd.R_after (v := (.slice (some ⟨go175, 0, none⟩) x70_12.length co175)) (v1 := (.slice (some ⟨go175, 0, none⟩) x70_12.length co175)) (ok := (fun k_ => some k_ ≠ (.slice (some ad282) x51_11.length co126 : Value).ownBlock ∧ some k_ ≠ (.slice (some ad282) x51_11.length co126 : Value).ownBlock)) (by (with_reducible repeat (first | apply Kd.R_alloc | apply Kd.R_drewN | apply Kd.R_drew)); exact Kd.R_mono HO_67.out (fun _ hk => ⟨⟨hk.1, hk.2.2⟩, hk.2.1⟩)) hg (.inl rfl)); have n2_ := Aside0.mk (hp_); have n3_ := Aside0.mk (Kd.R_after (v := (.slice (some ⟨go175, 0, none⟩) x70_12.length co175)) (v1 := (.slice (some ⟨go175, 0, none⟩) x70_12.length co175)) (ok := (fun k_ => some k_ ≠ (.slice (some ad283) x67_11.length co166 : Value).ownBlock)) (by (with_reducible repeat (first | apply Kd.R_alloc | apply Kd.R_drewN | apply Kd.R_drew)); exact HO_502.out) hg (.inl rfl)); have n4_ := Aside0.mk ((by rw [hw]; exact below_set (HB.out) GB175.out : Below w.heap.size w w177)); clear HO_51; clear HO_67; clear HO_70; clear HO_502; clear HB; have HO_51 := n0_; have HO_67 := n1_; have HO_70 := n2_; have HO_502 := n3_; have HB := n4_; clear n0_ n1_ n2_ n3_ n4_; clear hg hw hp_)); try go_wp2_with (first | ((with_reducible refine gate_store (t := 3) (p := 515) rfl ?_); (try (rw [drewN_self wr]; generalize hq_ : World.drewN wr _ = wr; have n0_ := Aside0.mk (Kd.R_at hq_ HO_51.out); have n1_ := Aside0.mk (Kd.R_at hq_ HO_67.out); have n2_ := Aside0.mk (Kd.R_at hq_ HO_70.out); have n3_ := Aside0.mk (Kd.R_at hq_ HO_502.out); have n4_ := Aside0.mk (below_at hq_ HB.out); clear hq_ HO_51 HO_67 HO_70 HO_502 HB; have HO_51 := n0_; have HO_67 := n1_; have HO_70 := n2_; have HO_502 := n3_; have HB := n4_; clear n0_ n1_ n2_ n3_ n4_; (try (have HP176 := Kd.R_putg HO_70.out (x504_12 : Int) (rd x67_11 (rd x51_11 x504_12)); obtain ⟨hx175_0, hf175_0⟩ := Kd.R_celln 0 HO_70.out (x504_12 : Int) (of_eq_true p175) (of_eq_true q175))))); refine store_event (t := 3) (p := 515) (v := ?vo_w177) (w1 := (wr.setCell ⟨go175, (x504_12 : Int).toNat, none⟩ (.int .i64 (rd x67_11 (rd x51_11 x504_12))))) ?hg ?ho ?hn ?hr ?_; (case ho => rfl); (case hg => rfl); (case hn => rfl); (case hr => first | (go_simp; done) | (go_simp; rfl)); intro w177 hw; have hg : wr.grownBy w177 (some go175) := (by rw [hw]; exact HP176.2); have hp_ : Kd.R (Kd.int .i64) 3 w177 w.heap.size (fun k_ => some k_ ≠ (.slice (some ad282) x51_11.length co126 : Value).ownBlock ∧ some k_ ≠ (.slice (some ad283) x67_11.length co166 : Value).ownBlock ∧ some k_ ≠ (.slice (some ad282) x51_11.length co126 : Value).ownBlock) (.slice (some ⟨go175, 0, none⟩) x70_12.length co175) y284 := (by rw [hw, Ny284.out]; exact HP176.1); clear HP176; have n0_ := Aside0.mk (Kd.R_after (v := (.slice (some ⟨go175, 0, none⟩) x70_12.length co175)) (v1 := (.slice (some ⟨go175, 0, none⟩) x70_12.length co175)) (ok := (fun k_ => some k_ ≠ (.slice (some ad283) x67_11.length co166 : Value).ownBlock)) (by (with_reducible repeat (first | apply Kd.R_alloc | apply Kd.R_drewN | apply Kd.R_drew)); exact HO_51.out) hg (.inl rfl)); have n1_ := Aside0.mk (Kd.R_after (v := (.slice (some ⟨go175, 0, none⟩) x70_12.length co175)) (v1 := (.slice (some ⟨go175, 0, none⟩) x70_12.length co175)) (ok := (fun k_ => some k_ ≠ (.slice (some ad282) x51_11.length co126 : Value).ownBlock ∧ some k_ ≠ (.slice (some ad282) x51_11.length co126 : Value).ownBlock)) (by (with_reducible repeat (first | apply Kd.R_alloc | apply Kd.R_drewN | apply Kd.R_drew)); exact Kd.R_mono HO_67.out (fun _ hk => ⟨⟨hk.1, hk.2.2⟩, hk.2.1⟩)) hg (.inl rfl)); have n2_ := Aside0.mk (hp_); have n3_ := Aside0.mk (Kd.R_after (v := (.slice (some ⟨go175, 0, none⟩) x70_12.length co175)) (v1 := (.slice (some ⟨go175, 0, none⟩) x70_12.length co175)) (ok := (fun k_ => some k_ ≠ (.slice (some ad283) x67_11.length co166 : Value).ownBlock)) (by (with_reducible repeat (first | apply Kd.R_alloc | apply Kd.R_drewN | apply Kd.R_drew)); exact HO_502.out) hg (.inl rfl)); have n4_ := Aside0.mk ((by rw [hw]; exact below_set (HB.out) GB175.out : Below w.heap.size w w177)); clear HO_51; clear HO_67; clear HO_70; clear HO_502; clear HB; have HO_51 := n0_; have HO_67 := n1_; have HO_70 := n2_; have HO_502 := n3_; have HB := n4_; clear n0_ n1_ n2_ n3_ n4_; clear hg hw hp_)))
                                              go_roundg k12
                                              case measure => have := HJ9.out; have := HJ21.out; have := HJ31.out; have := HJ69.out; have := HJ84.out; have := HJ106.out; have := HJ108.out; have := HK8.out; have := HJ143.out; have := HK10.out; have := HK11.out; have := HK12.out; omega
                                              case rel => exact ⟨(y284), (wrap64 (x504_12 + 1)), (by first | rfl | (simp; done) | (simp [*]; done)), H', ⟨by have := HJ9.out; have := HJ21.out; have := HJ31.out; have := HJ69.out; have := HJ84.out; have := HJ106.out; have := HJ108.out; have := HK8.out; have := HJ143.out; have := HK10.out; have := HK11.out; have := HK12.out; omega⟩, ⟨by (try simp only [hl67_10]); (try simp only [hl51_11]); (with_reducible repeat (first | apply Kd.R_alloc | apply Kd.R_drewN | apply Kd.R_drew)); exact HO_51.out⟩, ⟨by (try simp only [hl67_10]); (try simp only [hl51_11]); (with_reducible repeat (first | apply Kd.R_alloc | apply Kd.R_drewN | apply Kd.R_drew)); exact Kd.R_mono HO_67.out (fun _ hk => ⟨hk.1.1, ⟨hk.2, hk.1.2⟩⟩)⟩, ⟨by (try simp only [hl67_10]); (try simp only [hl51_11]); (with_reducible repeat (first | apply Kd.R_alloc | apply Kd.R_drewN | apply Kd.R_drew)); exact HO_70.out⟩, ⟨by (try simp only [hl67_10]); (try simp only [hl51_11]); (with_reducible repeat (first | apply Kd.R_alloc | apply Kd.R_drewN | apply Kd.R_drew)); exact HO_502.out⟩, ⟨by repeat (first | (with_reducible first | exact HB.out | apply below_alloc | apply pw_below_drewN | apply below_drew1) | exact HB.out)⟩⟩
                                             ·
                                              rw [if_neg c174] at H
                                              exact absurd H (by simp)
                                            ·
                                             rw [if_neg c173] at H
                                             exact absurd H (by simp)
                                           ·
                                            rw [if_neg c172] at H
                                            exact absurd H (by simp)
                                          ·
                                           rw [if_neg c171] at H
                                           exact absurd H (by simp)
                                         ·
                                          rw [if_neg c170] at H
                                          exact absurd H (by simp)
                                        ·
                                         rw [if_neg c169] at H
                                         have c169b0 : decide (x504_12 < (x51_11.length : Int)) = false := decide_eq_false c169
                                         (try (have c169b0l := c169b0; rw [hl67_10] at c169b0l))
                                         (try (have c169b0l := c169b0; rw [hl51_11] at c169b0l))
                                         clear c169
                                         have H' := Aside0.mk H
                                         clear H
                                         obtain ⟨Ao178, co178, eo178⟩ := Kd.R_slice HO_70.out
                                         subst eo178
                                         go_wp2
                                         repeat (go_quiet (fail); try go_wp2)
                                         go_loopg [73, 520] k12 (fun kq v73 v520 w' => ∃ (x73_13 : Bool) (x520_13 : Int), v73 = .bool x73_13 ∧ v520 = .int .i64 x520_13 ∧ Aside0 (laws_FnFormsLeftOfAll.l8 kq x51_11 t261 x70_12 x69_11 x73_13 x70_12 (x70_12.length : Int) x520_13 = some r) ∧ Aside0 (kq ≤ k12) ∧ Aside0 (Kd.R (Kd.int .i64) 3 w' w.heap.size (fun k_ => some k_ ≠ ((.slice Ao178 x70_12.length co178) : Value).ownBlock ∧ some k_ ≠ ((.slice Ao178 x70_12.length co178) : Value).ownBlock) (.slice Ao126 x51_11.length co126) x51_11) ∧ Aside0 (Kd.R (Kd.int .i64) 3 w' w.heap.size (fun k_ => some k_ ≠ ((.slice Ao126 x51_11.length co126) : Value).ownBlock) (.slice Ao178 x70_12.length co178) x70_12) ∧ Aside0 (Kd.R (Kd.int .i64) 3 w' w.heap.size (fun k_ => some k_ ≠ ((.slice Ao126 x51_11.length co126) : Value).ownBlock) (.slice Ao178 x70_12.length co178) x70_12) ∧ Aside0 (Below w.heap.size w w'))
                                         case atStart => exact ⟨(true), (0), (by first | rfl | (simp; done) | (simp [*]; done)), (by first | rfl | (simp; done) | (simp [*]; done)), H', ⟨Nat.le_refl _⟩, ⟨by (try simp only [hl67_10]); (try simp only [hl51_11]); (with_reducible repeat (first | apply Kd.R_alloc | apply Kd.R_drewN | apply Kd.R_drew)); exact Kd.R_mono HO_51.out (fun _ hk => ⟨hk.2, hk.2⟩)⟩, ⟨by (try simp only [hl67_10]); (try simp only [hl51_11]); (with_reducible repeat (first | apply Kd.R_alloc | apply Kd.R_drewN | apply Kd.R_drew)); exact Kd.R_mono HO_70.out (fun _ hk => hk.1)⟩, ⟨by (try simp only [hl67_10]); (try simp only [hl51_11]); (with_reducible repeat (first | apply Kd.R_alloc | apply Kd.R_drewN | apply Kd.R_drew)); exact Kd.R_mono HO_70.out (fun _ hk => hk.1)⟩, ⟨by repeat (first | (with_reducible first | exact HB.out | apply below_alloc | apply pw_below_drewN | apply below_drew1) | exact HB.out)⟩⟩
                                         case round =>
                                          clear H'
                                          try clear c1
                                          try clear c2
                                          try clear c3
                                          try clear c6
                                          try clear c15
                                          try clear c31
                                          try clear c106
                                          try clear c120
                                          try clear c122
                                          try clear c122b0
                                          try clear c122b1
                                          try clear c123
                                          try clear c123b0
                                          try clear c123b1
                                          try clear c127
                                          try clear c127b0
                                          try clear c150
                                          try clear c151
                                          try clear c151b0
                                          try clear c152
                                          try clear c152b0
                                          try clear c152b1
                                          try clear c153
                                          try clear c153b0
                                          try clear c153b1
                                          try clear c157
                                          try clear c157b0
                                          try clear c163
                                          try clear c163b0
                                          try clear c164
                                          try clear c164b0
                                          try clear c164b1
                                          try clear c165
                                          try clear c165b0
                                          try clear c165b1
                                          try clear c169
                                          try clear c169b0
                                          obtain ⟨x73_13, x520_13, rfl, rfl, HA, HK13, HO_51, HO_67, HO_518, HB⟩ := hrel
                                          cases gk with
                                          | zero => exact absurd HA.out (by simp [laws_FnFormsLeftOfAll.l8])
                                          | succ k13 =>
                                           have H := HA.out
                                           clear HA
                                           simp only [laws_FnFormsLeftOfAll.l8] at H
                                           by_cases c179 : x520_13 < (x70_12.length : Int)
                                           ·
                                            rw [if_pos c179] at H
                                            have c179b0 : decide (x520_13 < (x70_12.length : Int)) = true := decide_eq_true c179
                                            (try (have c179b0l := c179b0; rw [hl67_10] at c179b0l))
                                            (try (have c179b0l := c179b0; rw [hl51_11] at c179b0l))
                                            clear c179
                                            by_cases c180 : 0 ≤ x520_13
                                            ·
                                             rw [if_pos c180] at H
                                             have c180b0 : decide (0 ≤ x520_13) = true := decide_eq_true c180
                                             clear c180
                                             by_cases c181 : x520_13 < (x70_12.length : Int)
                                             ·
                                              rw [if_pos c181] at H
                                              have c181b0 : decide (x520_13 < (x70_12.length : Int)) = true := decide_eq_true c181
                                              (try (have c181b0l := c181b0; rw [hl67_10] at c181b0l))
                                              (try (have c181b0l := c181b0; rw [hl51_11] at c181b0l))
                                              clear c181
                                              by_cases c182 : x73_13 = true
                                              ·
                                               subst c182
                                               have H1 : (laws_FnFormsLeftOfAll.l8 k13 x51_11 t261 x70_12 x69_11 (x520_13 == (rd x70_12 x520_13)) x70_12 (x70_12.length : Int) (wrap64 (x520_13 + 1))) = some r := by rw [if_pos rfl] at H; exact H
                                               clear H
                                               have H := H1
                                               clear H1
                                               have H' := Aside0.mk H
                                               clear H
                                               have p285 : 0 ≤ (x520_13 : Int) := of_decide_eq_true (by first | (with_reducible assumption) | assumption)
                                               have q285 : x520_13 < (x70_12.length : Int) := of_decide_eq_true (by first | (with_reducible assumption) | assumption)
                                               obtain ⟨ad285, e285, hx285_0⟩ := Kd.at_int (Kd.R_reads' HO_518.out).2.2 x520_13 p285 q285
                                               cases e285
                                               replace p285 := eq_true p285
                                               replace q285 := eq_true q285
                                               go_wp2
                                               repeat (go_quiet (fail); try go_wp2)
                                               go_roundg k13
                                               case measure => have := HJ9.out; have := HJ21.out; have := HJ31.out; have := HJ69.out; have := HJ84.out; have := HJ106.out; have := HJ108.out; have := HK8.out; have := HJ143.out; have := HK10.out; have := HK11.out; have := HK12.out; have := HK13.out; omega
                                               case rel => exact ⟨((x520_13 == (rd x70_12 x520_13))), (wrap64 (x520_13 + 1)), (by first | rfl | (simp; done) | (simp [*]; done)), (by first | rfl | (simp; done) | (simp [*]; done)), H', ⟨by have := HJ9.out; have := HJ21.out; have := HJ31.out; have := HJ69.out; have := HJ84.out; have := HJ106.out; have := HJ108.out; have := HK8.out; have := HJ143.out; have := HK10.out; have := HK11.out; have := HK12.out; have := HK13.out; omega⟩, ⟨by (try simp only [hl67_10]); (try simp only [hl51_11]); (with_reducible repeat (first | apply Kd.R_alloc | apply Kd.R_drewN | apply Kd.R_drew)); exact HO_51.out⟩, ⟨by (try simp only [hl67_10]); (try simp only [hl51_11]); (with_reducible repeat (first | apply Kd.R_alloc | apply Kd.R_drewN | apply Kd.R_drew)); exact HO_67.out⟩, ⟨by (try simp only [hl67_10]); (try simp only [hl51_11]); (with_reducible repeat (first | apply Kd.R_alloc | apply Kd.R_drewN | apply Kd.R_drew)); exact HO_518.out⟩, ⟨by repeat (first | (with_reducible first | exact HB.out | apply below_alloc | apply pw_below_drewN | apply below_drew1) | exact HB.out)⟩⟩
                                              ·
                                               replace c182 := Bool.eq_false_iff.mpr c182
                                               subst c182
                                               have H1 : (laws_FnFormsLeftOfAll.l8 k13 x51_11 t261 x70_12 x69_11 false x70_12 (x70_12.length : Int) (wrap64 (x520_13 + 1))) = some r := by rw [if_neg (show ¬ (false = true) by decide)] at H; exact H
                                               clear H
                                               have H := H1
                                               clear H1
                                               have H' := Aside0.mk H
                                               clear H
                                               have p285 : 0 ≤ (x520_13 : Int) := of_decide_eq_true (by first | (with_reducible assumption) | assumption)
                                               have q285 : x520_13 < (x70_12.length : Int) := of_decide_eq_true (by first | (with_reducible assumption) | assumption)
                                               obtain ⟨ad285, e285, hx285_0⟩ := Kd.at_int (Kd.R_reads' HO_518.out).2.2 x520_13 p285 q285
                                               cases e285
                                               replace p285 := eq_true p285
                                               replace q285 := eq_true q285
                                               go_wp2
                                               repeat (go_quiet (fail); try go_wp2)
                                               go_roundg k13
                                               case measure => have := HJ9.out; have := HJ21.out; have := HJ31.out; have := HJ69.out; have := HJ84.out; have := HJ106.out; have := HJ108.out; have := HK8.out; have := HJ143.out; have := HK10.out; have := HK11.out; have := HK12.out; have := HK13.out; omega
                                               case rel => exact ⟨(false), (wrap64 (x520_13 + 1)), (by first | rfl | (simp; done) | (simp [*]; done)), (by first | rfl | (simp; done) | (simp [*]; done)), H', ⟨by have := HJ9.out; have := HJ21.out; have := HJ31.out; have := HJ69.out; have := HJ84.out; have := HJ106.out; have := HJ108.out; have := HK8.out; have := HJ143.out; have := HK10.out; have := HK11.out; have := HK12.out; have := HK13.out; omega⟩, ⟨by (try simp only [hl67_10]); (try simp only [hl51_11]); (with_reducible repeat (first | apply Kd.R_alloc | apply Kd.R_drewN | apply Kd.R_drew)); exact HO_51.out⟩, ⟨by (try simp only [hl67_10]); (try simp only [hl51_11]); (with_reducible repeat (first | apply Kd.R_alloc | apply Kd.R_drewN | apply Kd.R_drew)); exact HO_67.out⟩, ⟨by (try simp only [hl67_10]); (try simp only [hl51_11]); (with_reducible repeat (first | apply Kd.R_alloc | apply Kd.R_drewN | apply Kd.R_drew)); exact HO_518.out⟩, ⟨by repeat (first | (with_reducible first | exact HB.out | apply below_alloc | apply pw_below_drewN | apply below_drew1) | exact HB.out)⟩⟩
                                             ·
                                              rw [if_neg c181] at H
                                              exact absurd H (by simp)
                                            ·
                                             rw [if_neg c180] at H
                                             exact absurd H (by simp)
                                           ·
                                            rw [if_neg c179] at H
                                            have c179b0 : decide (x520_13 < (x70_12.length : Int)) = false := decide_eq_false c179
                                            (try (have c179b0l := c179b0; rw [hl67_10] at c179b0l))
                                            (try (have c179b0l := c179b0; rw [hl51_11] at c179b0l))
                                            clear c179
                                            by_cases c183 : (x73_13 != (x69_11 == t261)) = true
                                            ·
                                             rw [if_pos c183] at H
                                             exact absurd (H.trans (congrArg some HE_.out)) (by simp)
                                            ·
                                             rw [if_neg c183] at H
                                             have c183b0 : (x73_13 != (x69_11 == t261)) = false := by simpa using c183
                                             (try (have c183b1 : decide (x73_13 = (x69_11 == t261)) = true := by simpa using c183))
                                             (try (have c183b2 : (x73_13 == (x69_11 == t261)) = true := by simpa using c183))
                                             clear c183
                                             have H' := Aside0.mk H
                                             clear H
                                             go_wp2
                                             repeat (go_quiet (fail); try go_wp2)
                                             (try simp only [← hl51_11])
                                             go_roundg k13
                                             case measure => have := HJ9.out; have := HJ21.out; have := HJ31.out; have := HJ69.out; have := HJ84.out; have := HJ106.out; have := HJ108.out; have := HK8.out; have := HJ143.out; have := HK10.out; have := HK11.out; have := HK12.out; have := HK13.out; omega
                                             case rel => exact ⟨(x51_11), (x70_12), (wrap64 (x69_11 + 1)), (by first | rfl | (simp; done) | (simp [*]; done)), H', ⟨by have := HJ9.out; have := HJ21.out; have := HJ31.out; have := HJ69.out; have := HJ84.out; have := HJ106.out; have := HJ108.out; have := HK8.out; have := HJ143.out; have := HK10.out; have := HK11.out; have := HK12.out; have := HK13.out; omega⟩, ⟨by (try simp only [hl67_10]); (try simp only [hl51_11]); (with_reducible repeat (first | apply Kd.R_alloc | apply Kd.R_drewN | apply Kd.R_drew)); exact Kd.R_mono HO_51.out (fun _ hk => hk.1)⟩, ⟨by (try simp only [hl67_10]); (try simp only [hl51_11]); (with_reducible repeat (first | apply Kd.R_alloc | apply Kd.R_drewN | apply Kd.R_drew)); exact HO_67.out⟩, ⟨by repeat (first | (with_reducible first | exact HB.out | apply below_alloc | apply pw_below_drewN | apply below_drew1) | exact HB.out)⟩⟩
                                     ·
                                      rw [if_neg c165] at H
                                      exact absurd H (by simp)
                                    ·
                                     rw [if_neg c164] at H
                                     exact absurd H (by simp)
                                   ·
                                    rw [if_neg c163] at H
                                    have c163b0 : decide (x69_11 ≤ t261) = false := decide_eq_false c163
                                    clear c163
                                    obtain rfl := Option.some.inj H
                                    go_wp2
                                    repeat (go_quiet (fail); try go_wp2)
                                    go_ret
                                    exact ⟨by first | rfl | (simp [errW_none, errW_some] <;> rfl) | (simp only [← hji121]; first | rfl | (simp [errW_none, errW_some] <;> rfl)) | (simp [*, errW_none, errW_some] <;> rfl), by repeat (first | (with_reducible first | exact HB.out | apply below_alloc | apply pw_below_drewN | apply below_drew1) | exact HB.out)⟩
                             ·
                              rw [if_neg c153] at H
                              exact absurd H (by simp)
                            ·
                             rw [if_neg c152] at H
                             exact absurd H (by simp)
                           ·
                            rw [if_neg c151] at H
                            have c151b0 : decide (t261 ≤ 60) = false := decide_eq_false c151
                            clear c151
                            obtain rfl := Option.some.inj H
                            go_wp2
                            repeat (go_quiet (fail); try go_wp2)
                            go_ret
                            exact ⟨by first | rfl | (simp [errW_none, errW_some] <;> rfl) | (simp only [← hji121]; first | rfl | (simp [errW_none, errW_some] <;> rfl)) | (simp [*, errW_none, errW_some] <;> rfl), by repeat (first | (with_reducible first | exact HB.out | apply below_alloc | apply pw_below_drewN | apply below_drew1) | exact HB.out)⟩
                    ·
                     rw [if_neg c123] at H
                     exact absurd H (by simp)
                   ·
                    rw [if_neg c122] at H
                    exact absurd H (by simp)
                  ·
                   replace c120 := Bool.eq_false_iff.mpr c120
                   subst c120
                   have H1 : (some true) = some r := by rw [if_neg (show ¬ (false = true) by decide)] at H; exact H
                   clear H
                   have H := H1
                   clear H1
                   obtain rfl := Option.some.inj H
                   go_wp2
                   repeat (go_quiet (fail); try go_wp2)
                   go_ret
                   exact ⟨by first | rfl | (simp [errW_none, errW_some] <;> rfl) | (simp [*, errW_none, errW_some] <;> rfl), by repeat (first | (with_reducible first | exact HB.out | apply below_alloc | apply pw_below_drewN | apply below_drew1) | exact HB.out)⟩

/-- THE ONE PURE STATEMENT of laws_FnFormsLeftOfAll: yours. -/
def laws_FnFormsLeftOfAll.Pure : Prop := ∀ (l0 : List Int) (l1 : List Int) (l2 : List Int) (l3 : List Int) (a4 : Int) (a5 : Int) (l6 : List Int) (a7 : Int) (a8 : Int), l0.length ≤ maxLen → l0.length * 8 ≤ 140737488351232 → (∀ x ∈ l0, (Lit.int .i64 x).wf = true) → l1.length ≤ maxLen → l1.length * 8 ≤ 140737488351232 → (∀ x ∈ l1, (Lit.int .i64 x).wf = true) → l2.length ≤ maxLen → l2.length * 8 ≤ 140737488351232 → (∀ x ∈ l2, (Lit.int .i64 x).wf = true) → l3.length ≤ maxLen → l3.length * 8 ≤ 140737488351232 → (∀ x ∈ l3, (Lit.int .i64 x).wf = true) → (Lit.int .i64 a4).wf = true → (Lit.int .i64 a5).wf = true → l6.length ≤ maxLen → l6.length * 8 ≤ 140737488351232 → (∀ x ∈ l6, (Lit.int .i64 x).wf = true) → (Lit.int .i64 a7).wf = true → (Lit.int .i64 a8).wf = true → ∃ k, laws_FnFormsLeftOfAll.f k l0 l1 l2 l3 a4 a5 l6 a7 a8 = some true
theorem laws_FnFormsLeftOfAll.walk (P : laws_FnFormsLeftOfAll.Pure) (a0 : Option Addr) (len0 cap0 : Nat) (z0 : List Int) (a1 : Option Addr) (len1 cap1 : Nat) (z1 : List Int) (a2 : Option Addr) (len2 cap2 : Nat) (z2 : List Int) (a3 : Option Addr) (len3 cap3 : Nat) (z3 : List Int) (a4 : Int) (a5 : Int) (a6 : Option Addr) (len6 cap6 : Nat) (z6 : List Int) (a7 : Int) (a8 : Int) (w : World) (w0 : (a0 = none ∧ len0 = 0 ∧ cap0 = 0 ∧ z0 = []) ∨ ∃ x, a0 = some x ∧ len0 ≤ cap0 ∧ cap0 ≤ maxLen ∧ z0.length = cap0 ∧ (∀ i, i < z0.length → w.cell? (x.add i) = some (.int .i64 (z0.getD i 0))) ∧ ∀ n ∈ z0, (Lit.int .i64 n).wf = true) (y0 : len0 * 8 ≤ 140737488351232) (w1 : (a1 = none ∧ len1 = 0 ∧ cap1 = 0 ∧ z1 = []) ∨ ∃ x, a1 = some x ∧ len1 ≤ cap1 ∧ cap1 ≤ maxLen ∧ z1.length = cap1 ∧ (∀ i, i < z1.length → w.cell? (x.add i) = some (.int .i64 (z1.getD i 0))) ∧ ∀ n ∈ z1, (Lit.int .i64 n).wf = true) (y1 : len1 * 8 ≤ 140737488351232) (w2 : (a2 = none ∧ len2 = 0 ∧ cap2 = 0 ∧ z2 = []) ∨ ∃ x, a2 = some x ∧ len2 ≤ cap2 ∧ cap2 ≤ maxLen ∧ z2.length = cap2 ∧ (∀ i, i < z2.length → w.cell? (x.add i) = some (.int .i64 (z2.getD i 0))) ∧ ∀ n ∈ z2, (Lit.int .i64 n).wf = true) (y2 : len2 * 8 ≤ 140737488351232) (w3 : (a3 = none ∧ len3 = 0 ∧ cap3 = 0 ∧ z3 = []) ∨ ∃ x, a3 = some x ∧ len3 ≤ cap3 ∧ cap3 ≤ maxLen ∧ z3.length = cap3 ∧ (∀ i, i < z3.length → w.cell? (x.add i) = some (.int .i64 (z3.getD i 0))) ∧ ∀ n ∈ z3, (Lit.int .i64 n).wf = true) (y3 : len3 * 8 ≤ 140737488351232) (w4 : (Lit.int .i64 a4).wf = true) (w5 : (Lit.int .i64 a5).wf = true) (w6 : (a6 = none ∧ len6 = 0 ∧ cap6 = 0 ∧ z6 = []) ∨ ∃ x, a6 = some x ∧ len6 ≤ cap6 ∧ cap6 ≤ maxLen ∧ z6.length = cap6 ∧ (∀ i, i < z6.length → w.cell? (x.add i) = some (.int .i64 (z6.getD i 0))) ∧ ∀ n ∈ z6, (Lit.int .i64 n).wf = true) (y6 : len6 * 8 ≤ 140737488351232) (w7 : (Lit.int .i64 a7).wf = true) (w8 : (Lit.int .i64 a8).wf = true) :
    Calls Try.prog 4 #[.slice a0 len0 cap0, .slice a1 len1 cap1, .slice a2 len2 cap2, .slice a3 len3 cap3, .int .i64 a4, .int .i64 a5, .slice a6 len6 cap6, .int .i64 a7, .int .i64 a8] w fun e w' => e = .returned (.bool true) ∧ Below w.heap.size w w' := by
  obtain ⟨l0, rfl, hr0, hm0, hw0, hc0⟩ := ReadsInt.ofRowC w0
  obtain ⟨l1, rfl, hr1, hm1, hw1, hc1⟩ := ReadsInt.ofRowC w1
  obtain ⟨l2, rfl, hr2, hm2, hw2, hc2⟩ := ReadsInt.ofRowC w2
  obtain ⟨l3, rfl, hr3, hm3, hw3, hc3⟩ := ReadsInt.ofRowC w3
  obtain ⟨l6, rfl, hr6, hm6, hw6, hc6⟩ := ReadsInt.ofRowC w6
  obtain ⟨k, h⟩ := P l0 l1 l2 l3 a4 a5 l6 a7 a8 hm0 y0 hw0 hm1 y1 hw1 hm2 y2 hw2 hm3 y3 hw3 w4 w5 hm6 y6 hw6 w7 w8
  refine (laws_FnFormsLeftOfAll.calls k _ _ l0 _ _ l1 _ _ l2 _ _ l3 a4 a5 _ _ l6 a7 a8 true w (Kd.C_of_reads (d := (0 : Int)) (h1 := fun _ => rfl) hr0) hc0 (Kd.C_of_reads (d := (0 : Int)) (h1 := fun _ => rfl) hr1) hc1 (Kd.C_of_reads (d := (0 : Int)) (h1 := fun _ => rfl) hr2) hc2 (Kd.C_of_reads (d := (0 : Int)) (h1 := fun _ => rfl) hr3) hc3 (Kd.C_of_reads (d := (0 : Int)) (h1 := fun _ => rfl) hr6) hc6 h rfl).mono ?_
  rintro e w' ⟨rfl, hd⟩
  exact ⟨rfl, hd⟩

end Go.Proofs.Yteekggogodjffaa.PFnFormsLeftOfAll
