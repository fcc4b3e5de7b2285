-- Written by a program of this session's (pg.py) over the kit's print.
import Derived.Test.YteekggogodjffaaPFnFormsLeftx0
import Derived.Test.YteekggogodjffaaPFnFormsLeftx1
import Derived.Test.YteekggogodjffaaPFnFormsLeftx3
import Derived.Test.YteekggogodjffaaPFnFormsLeftx4
import Derived.Test.YteekggogodjffaaPFnFormsLeftx5
import Derived.Test.YteekggogodjffaaPFnFormsLeftx6
import Derived.Test.YteekggogodjffaaPFnFormsLeftx7
import Derived.Test.YteekggogodjffaaPFnFormsLeftx8
import Derived.Deep.CutRange
namespace Go.Proofs.Yteekggogodjffaa.PFnFormsLeft
open Go.RowKit Go.Proofs.YteekggogodjffaaW.PrintWords Go.Proofs.YteekggogodjffaaW.PrintLast Go.Proofs.YteekggogodjffaaW.PrintMore
attribute [local go_sem] max2_int min2_int max_two min_two max_three min_three max_four min_four   -- for this text's walks alone
set_option linter.unusedVariables false
set_option linter.unusedSimpArgs false

set_option maxHeartbeats 8000000 in
set_option maxRecDepth 100000 in
theorem laws_FnFormsLeft.calls (k : Nat) (A0 : Option Addr) (c0 : Nat) (l0 : List Int) (A1 : Option Addr) (c1 : Nat) (l1 : List Int) (r : Bool) (w : World) (hr0 : Kd.C (Kd.int .u8) w A0 l0.length l0) (hc0 : l0.length ≤ c0) (hr1 : Kd.C (Kd.int .u8) w A1 l1.length l1) (hc1 : l1.length ≤ c1) (h : laws_FnFormsLeft.f k l0 l1 = some r) (he_ : r = true) :
  Calls Try.prog 5 #[.slice A0 l0.length c0, .slice A1 l1.length c1] w fun e w' => e = .returned (.bool r) ∧ Below w.heap.size w w' := by
 have HR0 := Aside0.mk hr0
 have HC0 := Aside0.mk hc0
 clear hr0 hc0
 have HR1 := Aside0.mk hr1
 have HC1 := Aside0.mk hc1
 clear hr1 hc1
 have HB := Aside0.mk (Below.refl w.heap.size w)
 have H : ((laws_big.f l0 l1).bind fun t285 => (if t285 = true then (some true) else ((spec_DrawLeastWith.f k l0).bind fun bt286 => ((impl_LeastWith.f k bt286.1 bt286.2).bind fun bt292 => ((spec_LeastWith.f k bt286.1 bt286.2).bind fun bt294 => ((impl_CanBeLeft.f k bt286.1 bt286.2).bind fun bt296 => ((spec_CanBeLeft.f k bt286.1 bt286.2).bind fun bt298 => ((impl_StepOf.f k bt286.1).bind fun bt300 => ((spec_StepOf.f k bt286.1).bind fun bt302 => (if (bt292.2 != bt294.2) = true then (laws_FnFormsLeft.j0 k l1 bt286.1 bt286.2 bt292.1 bt292.2 bt300.1 bt300.2 true) else (if bt292.1 = bt294.1 then (if (bt296.2 != bt298.2) = true then (laws_FnFormsLeft.j0 k l1 bt286.1 bt286.2 bt292.1 bt292.2 bt300.1 bt300.2 true) else (if (bt296.1 != bt298.1) = true then (laws_FnFormsLeft.j0 k l1 bt286.1 bt286.2 bt292.1 bt292.2 bt300.1 bt300.2 true) else (if (bt300.2 != bt302.2) = true then (laws_FnFormsLeft.j0 k l1 bt286.1 bt286.2 bt292.1 bt292.2 bt300.1 bt300.2 true) else (if bt300.1 = bt302.1 then (if bt296.2 = true then (laws_FnFormsLeft.j0 k l1 bt286.1 bt286.2 bt292.1 bt292.2 bt300.1 bt300.2 (bt292.2 != bt296.1)) else (laws_FnFormsLeft.j0 k l1 bt286.1 bt286.2 bt292.1 bt292.2 bt300.1 bt300.2 (bt292.2 != false))) else (laws_FnFormsLeft.j0 k l1 bt286.1 bt286.2 bt292.1 bt292.2 bt300.1 bt300.2 true))))) else (laws_FnFormsLeft.j0 k l1 bt286.1 bt286.2 bt292.1 bt292.2 bt300.1 bt300.2 true)))))))))))) = some r := h
 clear h
 have HE_ := Aside0.mk he_
 clear he_
 replace H := Option.bind_eq_some_iff.mp H
 obtain ⟨t285, A30, H⟩ := H
 replace H : (if t285 = true then (some true) else ((spec_DrawLeastWith.f k l0).bind fun bt286 => ((impl_LeastWith.f k bt286.1 bt286.2).bind fun bt292 => ((spec_LeastWith.f k bt286.1 bt286.2).bind fun bt294 => ((impl_CanBeLeft.f k bt286.1 bt286.2).bind fun bt296 => ((spec_CanBeLeft.f k bt286.1 bt286.2).bind fun bt298 => ((impl_StepOf.f k bt286.1).bind fun bt300 => ((spec_StepOf.f k bt286.1).bind fun bt302 => (if (bt292.2 != bt294.2) = true then (laws_FnFormsLeft.j0 k l1 bt286.1 bt286.2 bt292.1 bt292.2 bt300.1 bt300.2 true) else (if bt292.1 = bt294.1 then (if (bt296.2 != bt298.2) = true then (laws_FnFormsLeft.j0 k l1 bt286.1 bt286.2 bt292.1 bt292.2 bt300.1 bt300.2 true) else (if (bt296.1 != bt298.1) = true then (laws_FnFormsLeft.j0 k l1 bt286.1 bt286.2 bt292.1 bt292.2 bt300.1 bt300.2 true) else (if (bt300.2 != bt302.2) = true then (laws_FnFormsLeft.j0 k l1 bt286.1 bt286.2 bt292.1 bt292.2 bt300.1 bt300.2 true) else (if bt300.1 = bt302.1 then (if bt296.2 = true then (laws_FnFormsLeft.j0 k l1 bt286.1 bt286.2 bt292.1 bt292.2 bt300.1 bt300.2 (bt292.2 != bt296.1)) else (laws_FnFormsLeft.j0 k l1 bt286.1 bt286.2 bt292.1 bt292.2 bt300.1 bt300.2 (bt292.2 != false))) else (laws_FnFormsLeft.j0 k l1 bt286.1 bt286.2 bt292.1 bt292.2 bt300.1 bt300.2 true))))) else (laws_FnFormsLeft.j0 k l1 bt286.1 bt286.2 bt292.1 bt292.2 bt300.1 bt300.2 true))))))))))) = some r := H
 have A3 := Aside0.mk A30
 clear A30
 by_cases c4 : t285 = true
 ·
  subst c4
  have H1 : (some true) = some r := by rw [if_pos rfl] at H; exact H
  clear H
  have H := H1
  clear H1
  obtain rfl := Option.some.inj H
  go_enter Try.func5, Try.ntmps5
  go_wp2_with (first | (go_at_call 26; (with_reducible refine (laws_big.calls _ _ l0 _ _ l1 true _ ?side1 ?side2 ?side3 ?side4 A3.out).mono ?_); (case side1 => repeat (first | exact HR0.out | (with_reducible refine Kd.C_alloc ?_ _) | (with_reducible refine Kd.C_drewN ?_ _) | (with_reducible refine Kd.C_drew ?_))); (case side2 => exact HC0.out); (case side3 => repeat (first | exact HR1.out | (with_reducible refine Kd.C_alloc ?_ _) | (with_reducible refine Kd.C_drewN ?_ _) | (with_reducible refine Kd.C_drew ?_))); (case side4 => exact HC1.out); rintro e w' ⟨rfl, ⟨nd, rfl⟩⟩; (try first | exact ⟨rfl, _, World.drewN_drewN _ _ _⟩ | exact ⟨rfl, _, Eq.trans (World.drewN_drewN _ _ _) (congrArg (World.drewN _) (Nat.add_assoc _ _ _))⟩)))
  repeat (go_quiet (first | (go_at_call 26; (with_reducible refine (laws_big.calls _ _ l0 _ _ l1 true _ ?side1 ?side2 ?side3 ?side4 A3.out).mono ?_); (case side1 => repeat (first | exact HR0.out | (with_reducible refine Kd.C_alloc ?_ _) | (with_reducible refine Kd.C_drewN ?_ _) | (with_reducible refine Kd.C_drew ?_))); (case side2 => exact HC0.out); (case side3 => repeat (first | exact HR1.out | (with_reducible refine Kd.C_alloc ?_ _) | (with_reducible refine Kd.C_drewN ?_ _) | (with_reducible refine Kd.C_drew ?_))); (case side4 => exact HC1.out); rintro e w' ⟨rfl, ⟨nd, rfl⟩⟩; (try first | exact ⟨rfl, _, World.drewN_drewN _ _ _⟩ | exact ⟨rfl, _, Eq.trans (World.drewN_drewN _ _ _) (congrArg (World.drewN _) (Nat.add_assoc _ _ _))⟩))); try go_wp2_with (first | (go_at_call 26; (with_reducible refine (laws_big.calls _ _ l0 _ _ l1 true _ ?side1 ?side2 ?side3 ?side4 A3.out).mono ?_); (case side1 => repeat (first | exact HR0.out | (with_reducible refine Kd.C_alloc ?_ _) | (with_reducible refine Kd.C_drewN ?_ _) | (with_reducible refine Kd.C_drew ?_))); (case side2 => exact HC0.out); (case side3 => repeat (first | exact HR1.out | (with_reducible refine Kd.C_alloc ?_ _) | (with_reducible refine Kd.C_drewN ?_ _) | (with_reducible refine Kd.C_drew ?_))); (case side4 => exact HC1.out); rintro e w' ⟨rfl, ⟨nd, rfl⟩⟩; (try first | exact ⟨rfl, _, World.drewN_drewN _ _ _⟩ | exact ⟨rfl, _, Eq.trans (World.drewN_drewN _ _ _) (congrArg (World.drewN _) (Nat.add_assoc _ _ _))⟩))))
  go_ret
  exact ⟨by first | rfl | (simp [errW_none, errW_some] <;> rfl) | (simp [*, errW_none, errW_some] <;> rfl), by repeat (first | (with_reducible first | exact HB.out | apply below_alloc | apply pw_below_drewN | apply below_drew1) | exact HB.out)⟩
 ·
  replace c4 := Bool.eq_false_iff.mpr c4
  subst c4
  have H1 : ((spec_DrawLeastWith.f k l0).bind fun bt286 => ((impl_LeastWith.f k bt286.1 bt286.2).bind fun bt292 => ((spec_LeastWith.f k bt286.1 bt286.2).bind fun bt294 => ((impl_CanBeLeft.f k bt286.1 bt286.2).bind fun bt296 => ((spec_CanBeLeft.f k bt286.1 bt286.2).bind fun bt298 => ((impl_StepOf.f k bt286.1).bind fun bt300 => ((spec_StepOf.f k bt286.1).bind fun bt302 => (if (bt292.2 != bt294.2) = true then (laws_FnFormsLeft.j0 k l1 bt286.1 bt286.2 bt292.1 bt292.2 bt300.1 bt300.2 true) else (if bt292.1 = bt294.1 then (if (bt296.2 != bt298.2) = true then (laws_FnFormsLeft.j0 k l1 bt286.1 bt286.2 bt292.1 bt292.2 bt300.1 bt300.2 true) else (if (bt296.1 != bt298.1) = true then (laws_FnFormsLeft.j0 k l1 bt286.1 bt286.2 bt292.1 bt292.2 bt300.1 bt300.2 true) else (if (bt300.2 != bt302.2) = true then (laws_FnFormsLeft.j0 k l1 bt286.1 bt286.2 bt292.1 bt292.2 bt300.1 bt300.2 true) else (if bt300.1 = bt302.1 then (if bt296.2 = true then (laws_FnFormsLeft.j0 k l1 bt286.1 bt286.2 bt292.1 bt292.2 bt300.1 bt300.2 (bt292.2 != bt296.1)) else (laws_FnFormsLeft.j0 k l1 bt286.1 bt286.2 bt292.1 bt292.2 bt300.1 bt300.2 (bt292.2 != false))) else (laws_FnFormsLeft.j0 k l1 bt286.1 bt286.2 bt292.1 bt292.2 bt300.1 bt300.2 true))))) else (laws_FnFormsLeft.j0 k l1 bt286.1 bt286.2 bt292.1 bt292.2 bt300.1 bt300.2 true)))))))))) = some r := by rw [if_neg (show ¬ (false = true) by decide)] at H; exact H
  clear H
  have H := H1
  clear H1
  replace H := Option.bind_eq_some_iff.mp H
  obtain ⟨⟨t286, t289⟩, A50, H⟩ := H
  replace H : ((impl_LeastWith.f k t286 t289).bind fun bt292 => ((spec_LeastWith.f k t286 t289).bind fun bt294 => ((impl_CanBeLeft.f k t286 t289).bind fun bt296 => ((spec_CanBeLeft.f k t286 t289).bind fun bt298 => ((impl_StepOf.f k t286).bind fun bt300 => ((spec_StepOf.f k t286).bind fun bt302 => (if (bt292.2 != bt294.2) = true then (laws_FnFormsLeft.j0 k l1 t286 t289 bt292.1 bt292.2 bt300.1 bt300.2 true) else (if bt292.1 = bt294.1 then (if (bt296.2 != bt298.2) = true then (laws_FnFormsLeft.j0 k l1 t286 t289 bt292.1 bt292.2 bt300.1 bt300.2 true) else (if (bt296.1 != bt298.1) = true then (laws_FnFormsLeft.j0 k l1 t286 t289 bt292.1 bt292.2 bt300.1 bt300.2 true) else (if (bt300.2 != bt302.2) = true then (laws_FnFormsLeft.j0 k l1 t286 t289 bt292.1 bt292.2 bt300.1 bt300.2 true) else (if bt300.1 = bt302.1 then (if bt296.2 = true then (laws_FnFormsLeft.j0 k l1 t286 t289 bt292.1 bt292.2 bt300.1 bt300.2 (bt292.2 != bt296.1)) else (laws_FnFormsLeft.j0 k l1 t286 t289 bt292.1 bt292.2 bt300.1 bt300.2 (bt292.2 != false))) else (laws_FnFormsLeft.j0 k l1 t286 t289 bt292.1 bt292.2 bt300.1 bt300.2 true))))) else (laws_FnFormsLeft.j0 k l1 t286 t289 bt292.1 bt292.2 bt300.1 bt300.2 true))))))))) = some r := H
  have A5 := Aside0.mk A50
  clear A50
  replace H := Option.bind_eq_some_iff.mp H
  obtain ⟨⟨t292, t293⟩, A60, H⟩ := H
  replace H : ((spec_LeastWith.f k t286 t289).bind fun bt294 => ((impl_CanBeLeft.f k t286 t289).bind fun bt296 => ((spec_CanBeLeft.f k t286 t289).bind fun bt298 => ((impl_StepOf.f k t286).bind fun bt300 => ((spec_StepOf.f k t286).bind fun bt302 => (if (t293 != bt294.2) = true then (laws_FnFormsLeft.j0 k l1 t286 t289 t292 t293 bt300.1 bt300.2 true) else (if t292 = bt294.1 then (if (bt296.2 != bt298.2) = true then (laws_FnFormsLeft.j0 k l1 t286 t289 t292 t293 bt300.1 bt300.2 true) else (if (bt296.1 != bt298.1) = true then (laws_FnFormsLeft.j0 k l1 t286 t289 t292 t293 bt300.1 bt300.2 true) else (if (bt300.2 != bt302.2) = true then (laws_FnFormsLeft.j0 k l1 t286 t289 t292 t293 bt300.1 bt300.2 true) else (if bt300.1 = bt302.1 then (if bt296.2 = true then (laws_FnFormsLeft.j0 k l1 t286 t289 t292 t293 bt300.1 bt300.2 (t293 != bt296.1)) else (laws_FnFormsLeft.j0 k l1 t286 t289 t292 t293 bt300.1 bt300.2 (t293 != false))) else (laws_FnFormsLeft.j0 k l1 t286 t289 t292 t293 bt300.1 bt300.2 true))))) else (laws_FnFormsLeft.j0 k l1 t286 t289 t292 t293 bt300.1 bt300.2 true)))))))) = some r := H
  have A6 := Aside0.mk A60
  clear A60
  replace H := Option.bind_eq_some_iff.mp H
  obtain ⟨⟨t294, t295⟩, A70, H⟩ := H
  replace H : ((impl_CanBeLeft.f k t286 t289).bind fun bt296 => ((spec_CanBeLeft.f k t286 t289).bind fun bt298 => ((impl_StepOf.f k t286).bind fun bt300 => ((spec_StepOf.f k t286).bind fun bt302 => (if (t293 != t295) = true then (laws_FnFormsLeft.j0 k l1 t286 t289 t292 t293 bt300.1 bt300.2 true) else (if t292 = t294 then (if (bt296.2 != bt298.2) = true then (laws_FnFormsLeft.j0 k l1 t286 t289 t292 t293 bt300.1 bt300.2 true) else (if (bt296.1 != bt298.1) = true then (laws_FnFormsLeft.j0 k l1 t286 t289 t292 t293 bt300.1 bt300.2 true) else (if (bt300.2 != bt302.2) = true then (laws_FnFormsLeft.j0 k l1 t286 t289 t292 t293 bt300.1 bt300.2 true) else (if bt300.1 = bt302.1 then (if bt296.2 = true then (laws_FnFormsLeft.j0 k l1 t286 t289 t292 t293 bt300.1 bt300.2 (t293 != bt296.1)) else (laws_FnFormsLeft.j0 k l1 t286 t289 t292 t293 bt300.1 bt300.2 (t293 != false))) else (laws_FnFormsLeft.j0 k l1 t286 t289 t292 t293 bt300.1 bt300.2 true))))) else (laws_FnFormsLeft.j0 k l1 t286 t289 t292 t293 bt300.1 bt300.2 true))))))) = some r := H
  have A7 := Aside0.mk A70
  clear A70
  replace H := Option.bind_eq_some_iff.mp H
  obtain ⟨⟨t296, t297⟩, A80, H⟩ := H
  replace H : ((spec_CanBeLeft.f k t286 t289).bind fun bt298 => ((impl_StepOf.f k t286).bind fun bt300 => ((spec_StepOf.f k t286).bind fun bt302 => (if (t293 != t295) = true then (laws_FnFormsLeft.j0 k l1 t286 t289 t292 t293 bt300.1 bt300.2 true) else (if t292 = t294 then (if (t297 != bt298.2) = true then (laws_FnFormsLeft.j0 k l1 t286 t289 t292 t293 bt300.1 bt300.2 true) else (if (t296 != bt298.1) = true then (laws_FnFormsLeft.j0 k l1 t286 t289 t292 t293 bt300.1 bt300.2 true) else (if (bt300.2 != bt302.2) = true then (laws_FnFormsLeft.j0 k l1 t286 t289 t292 t293 bt300.1 bt300.2 true) else (if bt300.1 = bt302.1 then (if t297 = true then (laws_FnFormsLeft.j0 k l1 t286 t289 t292 t293 bt300.1 bt300.2 (t293 != t296)) else (laws_FnFormsLeft.j0 k l1 t286 t289 t292 t293 bt300.1 bt300.2 (t293 != false))) else (laws_FnFormsLeft.j0 k l1 t286 t289 t292 t293 bt300.1 bt300.2 true))))) else (laws_FnFormsLeft.j0 k l1 t286 t289 t292 t293 bt300.1 bt300.2 true)))))) = some r := H
  have A8 := Aside0.mk A80
  clear A80
  replace H := Option.bind_eq_some_iff.mp H
  obtain ⟨⟨t298, t299⟩, A90, H⟩ := H
  replace H : ((impl_StepOf.f k t286).bind fun bt300 => ((spec_StepOf.f k t286).bind fun bt302 => (if (t293 != t295) = true then (laws_FnFormsLeft.j0 k l1 t286 t289 t292 t293 bt300.1 bt300.2 true) else (if t292 = t294 then (if (t297 != t299) = true then (laws_FnFormsLeft.j0 k l1 t286 t289 t292 t293 bt300.1 bt300.2 true) else (if (t296 != t298) = true then (laws_FnFormsLeft.j0 k l1 t286 t289 t292 t293 bt300.1 bt300.2 true) else (if (bt300.2 != bt302.2) = true then (laws_FnFormsLeft.j0 k l1 t286 t289 t292 t293 bt300.1 bt300.2 true) else (if bt300.1 = bt302.1 then (if t297 = true then (laws_FnFormsLeft.j0 k l1 t286 t289 t292 t293 bt300.1 bt300.2 (t293 != t296)) else (laws_FnFormsLeft.j0 k l1 t286 t289 t292 t293 bt300.1 bt300.2 (t293 != false))) else (laws_FnFormsLeft.j0 k l1 t286 t289 t292 t293 bt300.1 bt300.2 true))))) else (laws_FnFormsLeft.j0 k l1 t286 t289 t292 t293 bt300.1 bt300.2 true))))) = some r := H
  have A9 := Aside0.mk A90
  clear A90
  replace H := Option.bind_eq_some_iff.mp H
  obtain ⟨⟨t300, t301⟩, A100, H⟩ := H
  replace H : ((spec_StepOf.f k t286).bind fun bt302 => (if (t293 != t295) = true then (laws_FnFormsLeft.j0 k l1 t286 t289 t292 t293 t300 t301 true) else (if t292 = t294 then (if (t297 != t299) = true then (laws_FnFormsLeft.j0 k l1 t286 t289 t292 t293 t300 t301 true) else (if (t296 != t298) = true then (laws_FnFormsLeft.j0 k l1 t286 t289 t292 t293 t300 t301 true) else (if (t301 != bt302.2) = true then (laws_FnFormsLeft.j0 k l1 t286 t289 t292 t293 t300 t301 true) else (if t300 = bt302.1 then (if t297 = true then (laws_FnFormsLeft.j0 k l1 t286 t289 t292 t293 t300 t301 (t293 != t296)) else (laws_FnFormsLeft.j0 k l1 t286 t289 t292 t293 t300 t301 (t293 != false))) else (laws_FnFormsLeft.j0 k l1 t286 t289 t292 t293 t300 t301 true))))) else (laws_FnFormsLeft.j0 k l1 t286 t289 t292 t293 t300 t301 true)))) = some r := H
  have A10 := Aside0.mk A100
  clear A100
  replace H := Option.bind_eq_some_iff.mp H
  obtain ⟨⟨t302, t303⟩, A110, H⟩ := H
  replace H : (if (t293 != t295) = true then (laws_FnFormsLeft.j0 k l1 t286 t289 t292 t293 t300 t301 true) else (if t292 = t294 then (if (t297 != t299) = true then (laws_FnFormsLeft.j0 k l1 t286 t289 t292 t293 t300 t301 true) else (if (t296 != t298) = true then (laws_FnFormsLeft.j0 k l1 t286 t289 t292 t293 t300 t301 true) else (if (t301 != t303) = true then (laws_FnFormsLeft.j0 k l1 t286 t289 t292 t293 t300 t301 true) else (if t300 = t302 then (if t297 = true then (laws_FnFormsLeft.j0 k l1 t286 t289 t292 t293 t300 t301 (t293 != t296)) else (laws_FnFormsLeft.j0 k l1 t286 t289 t292 t293 t300 t301 (t293 != false))) else (laws_FnFormsLeft.j0 k l1 t286 t289 t292 t293 t300 t301 true))))) else (laws_FnFormsLeft.j0 k l1 t286 t289 t292 t293 t300 t301 true))) = some r := H
  have A11 := Aside0.mk A110
  clear A110
  have HC12 := Aside0.mk H
  clear H
  go_enter Try.func5, Try.ntmps5
  go_upto_region 10 with (first | (go_at_call 26; (with_reducible refine (laws_big.calls _ _ l0 _ _ l1 false _ ?side1 ?side2 ?side3 ?side4 A3.out).mono ?_); (case side1 => repeat (first | exact HR0.out | (with_reducible refine Kd.C_alloc ?_ _) | (with_reducible refine Kd.C_drewN ?_ _) | (with_reducible refine Kd.C_drew ?_))); (case side2 => exact HC0.out); (case side3 => repeat (first | exact HR1.out | (with_reducible refine Kd.C_alloc ?_ _) | (with_reducible refine Kd.C_drewN ?_ _) | (with_reducible refine Kd.C_drew ?_))); (case side4 => exact HC1.out); rintro e w' ⟨rfl, ⟨nd, rfl⟩⟩; (try first | exact ⟨rfl, _, World.drewN_drewN _ _ _⟩ | exact ⟨rfl, _, Eq.trans (World.drewN_drewN _ _ _) (congrArg (World.drewN _) (Nat.add_assoc _ _ _))⟩)) | (go_at_call 27; (with_reducible refine (spec_DrawLeastWith.calls k _ _ l0 t286 t289 _ ?side1 ?side2 A5.out).mono ?_); (case side1 => repeat (first | exact HR0.out | (with_reducible refine Kd.C_alloc ?_ _) | (with_reducible refine Kd.C_drewN ?_ _) | (with_reducible refine Kd.C_drew ?_))); (case side2 => exact HC0.out); rintro e w13 ⟨v287, v290, rfl, ho0, ho1, hb⟩; have n0_ := Aside0.mk (Kd.V_lower (Kd.V_mono (ok' := fun k_ => some k_ ≠ (v290 : Value).ownBlock) ho0 (fun k_ hk_ => hk_.2)) (below_size (by repeat (first | (with_reducible first | exact HB.out | apply below_alloc | apply pw_below_drewN | apply below_drew1) | exact HB.out)))); have n1_ := Aside0.mk (Kd.R_lower (Kd.R_mono (ok' := fun k_ => True) ho1 (fun _ hk_ => trivial)) (below_size (by repeat (first | (with_reducible first | exact HB.out | apply below_alloc | apply pw_below_drewN | apply below_drew1) | exact HB.out)))); have n2_ := Aside0.mk (below_step (by repeat (first | (with_reducible first | exact HB.out | apply below_alloc | apply pw_below_drewN | apply below_drew1) | exact HB.out)) hb); clear HB; have HO288 := n0_; have HO291 := n1_; have HB := n2_; clear n0_ n1_ n2_; (try clear hb); (try clear hb2); (try clear hk); (try clear hi); (try clear ho0); (try clear ho1); obtain ⟨Ao14, co14, eo14⟩ := Kd.V_slice HO288.out; subst eo14; obtain ⟨Ao15, co15, eo15⟩ := Kd.R_slice HO291.out; subst eo15) | (go_at_call 11; (with_reducible refine (impl_LeastWith.calls k _ _ t286 _ _ t289 t292 t293 _ ?side1 ?side2 ?side3 ?side4 A6.out).mono ?_); (case side1 => repeat (first | exact (Kd.V_reads' HO288.out).2.2 | (with_reducible refine Kd.C_alloc ?_ _) | (with_reducible refine Kd.C_drewN ?_ _) | (with_reducible refine Kd.C_drew ?_))); (case side2 => exact (Kd.V_reads' HO288.out).2.1); (case side3 => repeat (first | exact (Kd.R_reads' HO291.out).2.2 | (with_reducible refine Kd.C_alloc ?_ _) | (with_reducible refine Kd.C_drewN ?_ _) | (with_reducible refine Kd.C_drew ?_))); (case side4 => exact (Kd.R_reads' HO291.out).2.1); rintro e w' ⟨rfl, ⟨nd, rfl⟩⟩; (try first | exact ⟨rfl, _, World.drewN_drewN _ _ _⟩ | exact ⟨rfl, _, Eq.trans (World.drewN_drewN _ _ _) (congrArg (World.drewN _) (Nat.add_assoc _ _ _))⟩)) | (go_at_call 12; (with_reducible refine (spec_LeastWith.calls k _ _ t286 _ _ t289 t294 t295 _ ?side1 ?side2 ?side3 ?side4 A7.out).mono ?_); (case side1 => repeat (first | exact (Kd.V_reads' HO288.out).2.2 | (with_reducible refine Kd.C_alloc ?_ _) | (with_reducible refine Kd.C_drewN ?_ _) | (with_reducible refine Kd.C_drew ?_))); (case side2 => exact (Kd.V_reads' HO288.out).2.1); (case side3 => repeat (first | exact (Kd.R_reads' HO291.out).2.2 | (with_reducible refine Kd.C_alloc ?_ _) | (with_reducible refine Kd.C_drewN ?_ _) | (with_reducible refine Kd.C_drew ?_))); (case side4 => exact (Kd.R_reads' HO291.out).2.1); rintro e w' ⟨rfl, ⟨nd, rfl⟩⟩; (try first | exact ⟨rfl, _, World.drewN_drewN _ _ _⟩ | exact ⟨rfl, _, Eq.trans (World.drewN_drewN _ _ _) (congrArg (World.drewN _) (Nat.add_assoc _ _ _))⟩)) | (go_at_call 13; (with_reducible refine (impl_CanBeLeft.calls k _ _ t286 _ _ t289 t296 t297 _ ?side1 ?side2 ?side3 ?side4 A8.out).mono ?_); (case side1 => repeat (first | exact (Kd.V_reads' HO288.out).2.2 | (with_reducible refine Kd.C_alloc ?_ _) | (with_reducible refine Kd.C_drewN ?_ _) | (with_reducible refine Kd.C_drew ?_))); (case side2 => exact (Kd.V_reads' HO288.out).2.1); (case side3 => repeat (first | exact (Kd.R_reads' HO291.out).2.2 | (with_reducible refine Kd.C_alloc ?_ _) | (with_reducible refine Kd.C_drewN ?_ _) | (with_reducible refine Kd.C_drew ?_))); (case side4 => exact (Kd.R_reads' HO291.out).2.1); rintro e w' ⟨rfl, ⟨nd, rfl⟩⟩; (try first | exact ⟨rfl, _, World.drewN_drewN _ _ _⟩ | exact ⟨rfl, _, Eq.trans (World.drewN_drewN _ _ _) (congrArg (World.drewN _) (Nat.add_assoc _ _ _))⟩)) | (go_at_call 14; (with_reducible refine (spec_CanBeLeft.calls k _ _ t286 _ _ t289 t298 t299 _ ?side1 ?side2 ?side3 ?side4 A9.out).mono ?_); (case side1 => repeat (first | exact (Kd.V_reads' HO288.out).2.2 | (with_reducible refine Kd.C_alloc ?_ _) | (with_reducible refine Kd.C_drewN ?_ _) | (with_reducible refine Kd.C_drew ?_))); (case side2 => exact (Kd.V_reads' HO288.out).2.1); (case side3 => repeat (first | exact (Kd.R_reads' HO291.out).2.2 | (with_reducible refine Kd.C_alloc ?_ _) | (with_reducible refine Kd.C_drewN ?_ _) | (with_reducible refine Kd.C_drew ?_))); (case side4 => exact (Kd.R_reads' HO291.out).2.1); rintro e w' ⟨rfl, ⟨nd, rfl⟩⟩; (try first | exact ⟨rfl, _, World.drewN_drewN _ _ _⟩ | exact ⟨rfl, _, Eq.trans (World.drewN_drewN _ _ _) (congrArg (World.drewN _) (Nat.add_assoc _ _ _))⟩)) | (go_at_call 15; (with_reducible refine (impl_StepOf.calls k _ _ t286 t300 t301 _ ?side1 ?side2 A10.out).mono ?_); (case side1 => repeat (first | exact (Kd.V_reads' HO288.out).2.2 | (with_reducible refine Kd.C_alloc ?_ _) | (with_reducible refine Kd.C_drewN ?_ _) | (with_reducible refine Kd.C_drew ?_))); (case side2 => exact (Kd.V_reads' HO288.out).2.1); rintro e w16 ⟨rfl, hb⟩; have n0_ := Aside0.mk (Kd.V_below (by (with_reducible repeat (first | apply Kd.V_alloc | apply Kd.V_drewN | apply Kd.V_drew)); exact HO288.out) hb); have n1_ := Aside0.mk (Kd.R_below (by (with_reducible repeat (first | apply Kd.R_alloc | apply Kd.R_drewN | apply Kd.R_drew)); exact HO291.out) hb); have n2_ := Aside0.mk (below_step (by repeat (first | (with_reducible first | exact HB.out | apply below_alloc | apply pw_below_drewN | apply below_drew1) | exact HB.out)) hb); clear HO288; clear HO291; clear HB; have HO288 := n0_; have HO291 := n1_; have HB := n2_; clear n0_ n1_ n2_; (try clear hb); (try clear hb2); (try clear hk); (try clear hi)) | (go_at_call 16; (with_reducible refine (spec_StepOf.calls k _ _ t286 t302 t303 _ ?side1 ?side2 A11.out).mono ?_); (case side1 => repeat (first | exact (Kd.V_reads' HO288.out).2.2 | (with_reducible refine Kd.C_alloc ?_ _) | (with_reducible refine Kd.C_drewN ?_ _) | (with_reducible refine Kd.C_drew ?_))); (case side2 => exact (Kd.V_reads' HO288.out).2.1); rintro e w' ⟨rfl, ⟨nd, rfl⟩⟩; (try first | exact ⟨rfl, _, World.drewN_drewN _ _ _⟩ | exact ⟨rfl, _, Eq.trans (World.drewN_drewN _ _ _) (congrArg (World.drewN _) (Nat.add_assoc _ _ _))⟩)))
  (try simp only [Act.put, List.setIfInBounds_toArray, List.set_cons_zero, List.set_cons_succ])
  go_cut [148] from 148 to 148 (fun v148 wc => ∃ (kq : Nat) (x148_11 : Bool), v148 = .bool x148_11 ∧ Aside0 (laws_FnFormsLeft.j0 kq l1 t286 t289 t292 t293 t300 t301 x148_11 = some r) ∧ Aside0 (kq ≤ k) ∧ Aside0 (Kd.V (Kd.int .i64) 3 wc w.heap.size (fun k_ => some k_ ≠ ((.slice Ao15 t289.length co15) : Value).ownBlock) (.slice Ao14 t286.length co14) t286) ∧ Aside0 (Kd.R (Kd.int .i64) 3 wc w.heap.size (fun _ => True) (.slice Ao15 t289.length co15) t289) ∧ Aside0 (Below w.heap.size w wc))
  case first => as_aux_lemma =>
   have H := HC12.out
   clear HC12
   by_cases c17 : (t293 != t295) = true
   ·
    rw [if_pos c17] at H
    exact (laws_FnFormsLeft.j0_no _ _ _ _ _ _ _ _ (H.trans (congrArg some HE_.out))).elim
   ·
    rw [if_neg c17] at H
    have c17b0 : (t293 != t295) = false := by simpa using c17
    (try (have c17b1 : decide (t293 = t295) = true := by simpa using c17))
    (try (have c17b2 : (t293 == t295) = true := by simpa using c17))
    clear c17
    (first | rw [c17b0] | (simp only [i64_w, i32_w]; rw [c17b0]) | skip)
    by_cases c18 : t292 = t294
    ·
     rw [if_pos c18] at H
     have c18b0 : (t292 == t294) = true := beq_iff_eq.mpr c18
     have c18b1 : (t292 != t294) = false := bne_eq_false_iff_eq.mpr c18
     clear c18
     by_cases c19 : (t297 != t299) = true
     ·
      rw [if_pos c19] at H
      exact (laws_FnFormsLeft.j0_no _ _ _ _ _ _ _ _ (H.trans (congrArg some HE_.out))).elim
     ·
      rw [if_neg c19] at H
      have c19b0 : (t297 != t299) = false := by simpa using c19
      (try (have c19b1 : decide (t297 = t299) = true := by simpa using c19))
      (try (have c19b2 : (t297 == t299) = true := by simpa using c19))
      clear c19
      by_cases c20 : (t296 != t298) = true
      ·
       rw [if_pos c20] at H
       exact (laws_FnFormsLeft.j0_no _ _ _ _ _ _ _ _ (H.trans (congrArg some HE_.out))).elim
      ·
       rw [if_neg c20] at H
       have c20b0 : (t296 != t298) = false := by simpa using c20
       (try (have c20b1 : decide (t296 = t298) = true := by simpa using c20))
       (try (have c20b2 : (t296 == t298) = true := by simpa using c20))
       clear c20
       by_cases c21 : (t301 != t303) = true
       ·
        rw [if_pos c21] at H
        exact (laws_FnFormsLeft.j0_no _ _ _ _ _ _ _ _ (H.trans (congrArg some HE_.out))).elim
       ·
        rw [if_neg c21] at H
        have c21b0 : (t301 != t303) = false := by simpa using c21
        (try (have c21b1 : decide (t301 = t303) = true := by simpa using c21))
        (try (have c21b2 : (t301 == t303) = true := by simpa using c21))
        clear c21
        by_cases c22 : t300 = t302
        ·
         rw [if_pos c22] at H
         have c22b0 : (t300 == t302) = true := beq_iff_eq.mpr c22
         have c22b1 : (t300 != t302) = false := bne_eq_false_iff_eq.mpr c22
         clear c22
         by_cases c23 : t297 = true
         ·
          subst c23
          have H1 : (laws_FnFormsLeft.j0 k l1 t286 t289 t292 t293 t300 t301 (t293 != t296)) = some r := by rw [if_pos rfl] at H; exact H
          clear H
          have H := H1
          clear H1
          have H' := Aside0.mk H
          clear H
          go_wp2
          repeat (go_quiet (fail); try go_wp2)
          go_meet
          case rel => exact ⟨_, ((t293 != t296)), (by first | rfl | (simp; done) | (simp [*]; done)), H', ⟨by first | omega | exact Nat.le_refl _⟩, ⟨by (with_reducible repeat (first | apply Kd.V_alloc | apply Kd.V_drewN | apply Kd.V_drew)); exact HO288.out⟩, ⟨by (with_reducible repeat (first | apply Kd.R_alloc | apply Kd.R_drewN | apply Kd.R_drew)); exact HO291.out⟩, ⟨by repeat (first | (with_reducible first | exact HB.out | apply below_alloc | apply pw_below_drewN | apply below_drew1) | exact HB.out)⟩⟩
         ·
          replace c23 := Bool.eq_false_iff.mpr c23
          subst c23
          have H1 : (laws_FnFormsLeft.j0 k l1 t286 t289 t292 t293 t300 t301 (t293 != false)) = some r := by rw [if_neg (show ¬ (false = true) by decide)] at H; exact H
          clear H
          have H := H1
          clear H1
          have H' := Aside0.mk H
          clear H
          go_wp2
          repeat (go_quiet (fail); try go_wp2)
          go_meet
          case rel => exact ⟨_, ((t293 != false)), (by first | rfl | (simp; done) | (simp [*]; done)), H', ⟨by first | omega | exact Nat.le_refl _⟩, ⟨by (with_reducible repeat (first | apply Kd.V_alloc | apply Kd.V_drewN | apply Kd.V_drew)); exact HO288.out⟩, ⟨by (with_reducible repeat (first | apply Kd.R_alloc | apply Kd.R_drewN | apply Kd.R_drew)); exact HO291.out⟩, ⟨by repeat (first | (with_reducible first | exact HB.out | apply below_alloc | apply pw_below_drewN | apply below_drew1) | exact HB.out)⟩⟩
        ·
         rw [if_neg c22] at H
         exact (laws_FnFormsLeft.j0_no _ _ _ _ _ _ _ _ (H.trans (congrArg some HE_.out))).elim
    ·
     rw [if_neg c18] at H
     exact (laws_FnFormsLeft.j0_no _ _ _ _ _ _ _ _ (H.trans (congrArg some HE_.out))).elim
  case rest => as_aux_lemma =>
   clear HC12
   try clear c1
   try clear c4
   obtain ⟨kq, x148_11, rfl, HA, HJ11, HO_5, HO_6, HB⟩ := hcut
   cases kq with
   | zero => exact absurd HA.out (by simp [laws_FnFormsLeft.j0])
   | succ kj11 =>
    have H := HA.out
    clear HA
    simp only [laws_FnFormsLeft.j0] at H
    by_cases c24 : x148_11 = true
    ·
     subst c24
     have H1 : (some false) = some r := by rw [if_pos rfl] at H; exact H
     clear H
     have H := H1
     clear H1
     exact absurd (H.trans (congrArg some HE_.out)) (by simp)
    ·
     replace c24 := Bool.eq_false_iff.mpr c24
     subst c24
     have H1 : (if t293 = true then (laws_FnFormsLeft.l0 kj11 l1 t286 t289 t292 t300 t301 t286 (t286.length : Int) 0) else (laws_FnFormsLeft.j8 kj11 l1 t286 t300 t301)) = some r := by rw [if_neg (show ¬ (false = true) by decide)] at H; exact H
     clear H
     have H := H1
     clear H1
     have HC25 := Aside0.mk H
     clear H
     go_upto_if 149 with (fail)
     repeat (go_quiet (fail); go_upto_if 149 with (fail))
     go_cut [] from 148 to 175 (fun wc => ∃ (kq : Nat), Aside0 (laws_FnFormsLeft.j8 kq l1 t286 t300 t301 = some r) ∧ Aside0 (kq ≤ kj11) ∧ Aside0 (Kd.V (Kd.int .i64) 3 wc w.heap.size (fun _ => True) (.slice Ao14 t286.length co14) t286) ∧ Aside0 (Below w.heap.size w wc))
     case first => as_aux_lemma =>
      have H := HC25.out
      clear HC25
      by_cases c26 : t293 = true
      ·
       subst c26
       have H1 : (laws_FnFormsLeft.l0 kj11 l1 t286 t289 t292 t300 t301 t286 (t286.length : Int) 0) = some r := by rw [if_pos rfl] at H; exact H
       clear H
       have H := H1
       clear H1
       have H' := Aside0.mk H
       clear H
       go_wp2
       repeat (go_quiet (fail); try go_wp2)
       go_loopg [152] kj11 (fun kq v152 w' => ∃ (x152_2 : Int), v152 = .int .i64 x152_2 ∧ Aside0 (laws_FnFormsLeft.l0 kq l1 t286 t289 t292 t300 t301 t286 (t286.length : Int) x152_2 = some r) ∧ Aside0 (kq ≤ kj11) ∧ Aside0 (Kd.V (Kd.int .i64) 3 w' w.heap.size (fun k_ => some k_ ≠ ((.slice Ao15 t289.length co15) : Value).ownBlock) (.slice Ao14 t286.length co14) t286) ∧ Aside0 (Kd.R (Kd.int .i64) 3 w' w.heap.size (fun _ => True) (.slice Ao15 t289.length co15) t289) ∧ Aside0 (Kd.V (Kd.int .i64) 3 w' w.heap.size (fun k_ => some k_ ≠ ((.slice Ao15 t289.length co15) : Value).ownBlock) (.slice Ao14 t286.length co14) t286) ∧ Aside0 (Below w.heap.size w w'))
       case atStart => exact ⟨(0), (by first | rfl | (simp; done) | (simp [*]; done)), H', ⟨Nat.le_refl _⟩, ⟨by (with_reducible repeat (first | apply Kd.V_alloc | apply Kd.V_drewN | apply Kd.V_drew)); exact HO_5.out⟩, ⟨by (with_reducible repeat (first | apply Kd.R_alloc | apply Kd.R_drewN | apply Kd.R_drew)); exact HO_6.out⟩, ⟨by (with_reducible repeat (first | apply Kd.V_alloc | apply Kd.V_drewN | apply Kd.V_drew)); exact HO_5.out⟩, ⟨by repeat (first | (with_reducible first | exact HB.out | apply below_alloc | apply pw_below_drewN | apply below_drew1) | exact HB.out)⟩⟩
       case round =>
        clear H'
        try clear c1
        try clear c4
        try clear c24
        try clear c26
        obtain ⟨x152_2, rfl, HA, HK2, HO_5, HO_6, HO_150, HB⟩ := hrel
        cases gk with
        | zero => exact absurd HA.out (by simp [laws_FnFormsLeft.l0])
        | succ k2 =>
         have H := HA.out
         clear HA
         simp only [laws_FnFormsLeft.l0] at H
         by_cases c27 : x152_2 < (t286.length : Int)
         ·
          rw [if_pos c27] at H
          have c27b0 : decide (x152_2 < (t286.length : Int)) = true := decide_eq_true c27
          clear c27
          (first | rw [c27b0] | (simp only [i64_w, i32_w]; rw [c27b0]) | skip)
          by_cases c28 : 0 ≤ x152_2
          ·
           rw [if_pos c28] at H
           have c28b0 : decide (0 ≤ x152_2) = true := decide_eq_true c28
           clear c28
           by_cases c29 : x152_2 < (t286.length : Int)
           ·
            rw [if_pos c29] at H
            have c29b0 : decide (x152_2 < (t286.length : Int)) = true := decide_eq_true c29
            clear c29
            by_cases c30 : (rd t286 x152_2) = 0
            ·
             rw [if_pos c30] at H
             exact absurd H (by simp)
            ·
             rw [if_neg c30] at H
             have c30b0 : ((rd t286 x152_2) == 0) = false := beq_eq_false_iff_ne.mpr c30
             have c30b1 : ((rd t286 x152_2) != 0) = true := bne_iff_ne.mpr c30
             by_cases c31 : x152_2 < (t289.length : Int)
             ·
              rw [if_pos c31] at H
              have c31b0 : decide (x152_2 < (t289.length : Int)) = true := decide_eq_true c31
              clear c31
              by_cases c32 : (Int.tmod t292 (rd t286 x152_2)) = (rd t289 x152_2)
              ·
               rw [if_pos c32] at H
               have c32b0 : ((Int.tmod t292 (rd t286 x152_2)) == (rd t289 x152_2)) = true := beq_iff_eq.mpr c32
               have c32b1 : ((Int.tmod t292 (rd t286 x152_2)) != (rd t289 x152_2)) = false := bne_eq_false_iff_eq.mpr c32
               clear c32
               have H' := Aside0.mk H
               clear H
               have p304 : 0 ≤ (x152_2 : Int) := of_decide_eq_true (by first | (with_reducible assumption) | assumption)
               have q304 : x152_2 < (t286.length : Int) := of_decide_eq_true (by first | (with_reducible assumption) | assumption)
               obtain ⟨ad304, e304, hx304_0⟩ := Kd.at_int (Kd.V_reads' HO_150.out).2.2 x152_2 p304 q304
               cases e304
               replace p304 := eq_true p304
               replace q304 := eq_true q304
               have p305 : 0 ≤ (x152_2 : Int) := of_decide_eq_true (by first | (with_reducible assumption) | assumption)
               have q305 : x152_2 < (t289.length : Int) := of_decide_eq_true (by first | (with_reducible assumption) | assumption)
               obtain ⟨ad305, e305, hx305_0⟩ := Kd.at_int (Kd.R_reads' HO_6.out).2.2 x152_2 p305 q305
               cases e305
               replace p305 := eq_true p305
               replace q305 := eq_true q305
               go_wp2
               repeat (go_quiet (fail); try go_wp2)
               go_roundg k2
               case measure => have := HJ11.out; have := HK2.out; omega
               case rel => exact ⟨(wrap64 (x152_2 + 1)), (by first | rfl | (simp; done) | (simp [*]; done)), H', ⟨by have := HJ11.out; have := HK2.out; omega⟩, ⟨by (with_reducible repeat (first | apply Kd.V_alloc | apply Kd.V_drewN | apply Kd.V_drew)); exact HO_5.out⟩, ⟨by (with_reducible repeat (first | apply Kd.R_alloc | apply Kd.R_drewN | apply Kd.R_drew)); exact HO_6.out⟩, ⟨by (with_reducible repeat (first | apply Kd.V_alloc | apply Kd.V_drewN | apply Kd.V_drew)); exact HO_150.out⟩, ⟨by repeat (first | (with_reducible first | exact HB.out | apply below_alloc | apply pw_below_drewN | apply below_drew1) | exact HB.out)⟩⟩
              ·
               rw [if_neg c32] at H
               exact absurd (H.trans (congrArg some HE_.out)) (by simp)
             ·
              rw [if_neg c31] at H
              exact absurd H (by simp)
           ·
            rw [if_neg c29] at H
            exact absurd H (by simp)
          ·
           rw [if_neg c28] at H
           exact absurd H (by simp)
         ·
          rw [if_neg c27] at H
          have c27b0 : decide (x152_2 < (t286.length : Int)) = false := decide_eq_false c27
          clear c27
          (first | rw [c27b0] | (simp only [i64_w, i32_w]; rw [c27b0]) | skip)
          have HC33 := Aside0.mk H
          clear H
          go_upto_region 19 with (fail)
          repeat (go_quiet (fail); go_upto_region 19 with (fail))
          go_cut [175] from 148 to 175 (fun v175 wc => ∃ (kq : Nat) (x175_32 : Bool), v175 = .bool x175_32 ∧ Aside0 (laws_FnFormsLeft.j2 kq l1 t286 t289 t292 t300 t301 x175_32 = some r) ∧ Aside0 (kq ≤ k2) ∧ Aside0 (Kd.V (Kd.int .i64) 3 wc w.heap.size (fun k_ => some k_ ≠ ((.slice Ao15 t289.length co15) : Value).ownBlock) (.slice Ao14 t286.length co14) t286) ∧ Aside0 (Kd.R (Kd.int .i64) 3 wc w.heap.size (fun _ => True) (.slice Ao15 t289.length co15) t289) ∧ Aside0 (Below w.heap.size w wc))
          case first => as_aux_lemma =>
           have H := HC33.out
           clear HC33
           by_cases c34 : t292 < 0
           ·
            rw [if_pos c34] at H
            exact (laws_FnFormsLeft.j2_no _ _ _ _ _ _ _ (H.trans (congrArg some HE_.out))).elim
           ·
            rw [if_neg c34] at H
            have c34b0 : decide (t292 < 0) = false := decide_eq_false c34
            clear c34
            (first | rw [c34b0] | (simp only [i64_w, i32_w]; rw [c34b0]) | skip)
            by_cases c35 : t301 = true
            ·
             subst c35
             have H1 : (laws_FnFormsLeft.j2 k2 l1 t286 t289 t292 t300 true (decide (t292 ≥ t300))) = some r := by rw [if_pos rfl] at H; exact H
             clear H
             have H := H1
             clear H1
             have H' := Aside0.mk H
             clear H
             go_wp2
             repeat (go_quiet (fail); try go_wp2)
             go_meet
             case rel => exact ⟨_, (decide (t292 ≥ t300)), (by first | rfl | (simp; done) | (simp [*]; done)), H', ⟨by have := HJ11.out; have := HK2.out; first | omega | exact Nat.le_refl _⟩, ⟨by (with_reducible repeat (first | apply Kd.V_alloc | apply Kd.V_drewN | apply Kd.V_drew)); exact HO_5.out⟩, ⟨by (with_reducible repeat (first | apply Kd.R_alloc | apply Kd.R_drewN | apply Kd.R_drew)); exact HO_6.out⟩, ⟨by repeat (first | (with_reducible first | exact HB.out | apply below_alloc | apply pw_below_drewN | apply below_drew1) | exact HB.out)⟩⟩
            ·
             replace c35 := Bool.eq_false_iff.mpr c35
             subst c35
             have H1 : (laws_FnFormsLeft.j2 k2 l1 t286 t289 t292 t300 false false) = some r := by rw [if_neg (show ¬ (false = true) by decide)] at H; exact H
             clear H
             have H := H1
             clear H1
             have H' := Aside0.mk H
             clear H
             go_wp2
             repeat (go_quiet (fail); try go_wp2)
             go_meet
             case rel => exact ⟨_, (false), (by first | rfl | (simp; done) | (simp [*]; done)), H', ⟨by have := HJ11.out; have := HK2.out; first | omega | exact Nat.le_refl _⟩, ⟨by (with_reducible repeat (first | apply Kd.V_alloc | apply Kd.V_drewN | apply Kd.V_drew)); exact HO_5.out⟩, ⟨by (with_reducible repeat (first | apply Kd.R_alloc | apply Kd.R_drewN | apply Kd.R_drew)); exact HO_6.out⟩, ⟨by repeat (first | (with_reducible first | exact HB.out | apply below_alloc | apply pw_below_drewN | apply below_drew1) | exact HB.out)⟩⟩
          case rest => as_aux_lemma =>
           clear HC33
           try clear c1
           try clear c4
           try clear c24
           try clear c26
           try clear c27
           try clear c27b0
           obtain ⟨kq, x175_32, rfl, HA, HJ32, HO_5, HO_6, HB⟩ := hcut
           cases kq with
           | zero => exact absurd HA.out (by simp [laws_FnFormsLeft.j2])
           | succ kj32 =>
            have H := HA.out
            clear HA
            simp only [laws_FnFormsLeft.j2] at H
            by_cases c36 : x175_32 = true
            ·
             subst c36
             have H1 : (some false) = some r := by rw [if_pos rfl] at H; exact H
             clear H
             have H := H1
             clear H1
             exact absurd (H.trans (congrArg some HE_.out)) (by simp)
            ·
             replace c36 := Bool.eq_false_iff.mpr c36
             subst c36
             have H1 : (if t292 ≤ 1000000000 then ((impl_CountWith.f kj32 t286 t289 t292).bind fun bt306 => (if bt306.2 = true then (laws_FnFormsLeft.j3 kj32 l1 t286 t289 t292 t300 t301 (bt306.1 != 1)) else (laws_FnFormsLeft.j3 kj32 l1 t286 t289 t292 t300 t301 true))) else (laws_FnFormsLeft.j6 kj32 l1 t286 t289 t292 t300 t301)) = some r := by rw [if_neg (show ¬ (false = true) by decide)] at H; exact H
             clear H
             have H := H1
             clear H1
             have HC37 := Aside0.mk H
             clear H
             go_upto_if 177 with (fail)
             repeat (go_quiet (fail); go_upto_if 177 with (fail))
             go_cut [] from 148 to 190 (fun wc => ∃ (kq : Nat), Aside0 (laws_FnFormsLeft.j6 kq l1 t286 t289 t292 t300 t301 = some r) ∧ Aside0 (kq ≤ kj32) ∧ Aside0 (Kd.V (Kd.int .i64) 3 wc w.heap.size (fun k_ => some k_ ≠ ((.slice Ao15 t289.length co15) : Value).ownBlock) (.slice Ao14 t286.length co14) t286) ∧ Aside0 (Kd.R (Kd.int .i64) 3 wc w.heap.size (fun _ => True) (.slice Ao15 t289.length co15) t289) ∧ Aside0 (Below w.heap.size w wc))
             case first => as_aux_lemma =>
              have H := HC37.out
              clear HC37
              by_cases c38 : t292 ≤ 1000000000
              ·
               rw [if_pos c38] at H
               have c38b0 : decide (t292 ≤ 1000000000) = true := decide_eq_true c38
               clear c38
               (first | rw [c38b0] | (simp only [i64_w, i32_w]; rw [c38b0]) | skip)
               replace H := Option.bind_eq_some_iff.mp H
               obtain ⟨⟨t306, t307⟩, A390, H⟩ := H
               replace H : (if t307 = true then (laws_FnFormsLeft.j3 kj32 l1 t286 t289 t292 t300 t301 (t306 != 1)) else (laws_FnFormsLeft.j3 kj32 l1 t286 t289 t292 t300 t301 true)) = some r := H
               have A39 := Aside0.mk A390
               clear A390
               have HC40 := Aside0.mk H
               clear H
               go_upto_region 23 with (first | (go_at_call 17; (with_reducible refine (impl_CountWith.calls kj32 _ _ t286 _ _ t289 t292 t306 t307 _ ?side1 ?side2 ?side3 ?side4 A39.out).mono ?_); (case side1 => repeat (first | exact (Kd.V_reads' HO_5.out).2.2 | (with_reducible refine Kd.C_alloc ?_ _) | (with_reducible refine Kd.C_drewN ?_ _) | (with_reducible refine Kd.C_drew ?_))); (case side2 => exact (Kd.V_reads' HO_5.out).2.1); (case side3 => repeat (first | exact (Kd.R_reads' HO_6.out).2.2 | (with_reducible refine Kd.C_alloc ?_ _) | (with_reducible refine Kd.C_drewN ?_ _) | (with_reducible refine Kd.C_drew ?_))); (case side4 => exact (Kd.R_reads' HO_6.out).2.1); rintro e w' ⟨rfl, ⟨nd, rfl⟩⟩; (try first | exact ⟨rfl, _, World.drewN_drewN _ _ _⟩ | exact ⟨rfl, _, Eq.trans (World.drewN_drewN _ _ _) (congrArg (World.drewN _) (Nat.add_assoc _ _ _))⟩)))
               (try simp only [Act.put, List.setIfInBounds_toArray, List.set_cons_zero, List.set_cons_succ])
               go_cut [190] from 175 to 190 (fun v190 wc => ∃ (kq : Nat) (x190_39 : Bool), v190 = .bool x190_39 ∧ Aside0 (laws_FnFormsLeft.j3 kq l1 t286 t289 t292 t300 t301 x190_39 = some r) ∧ Aside0 (kq ≤ kj32) ∧ Aside0 (Kd.V (Kd.int .i64) 3 wc w.heap.size (fun k_ => some k_ ≠ ((.slice Ao15 t289.length co15) : Value).ownBlock) (.slice Ao14 t286.length co14) t286) ∧ Aside0 (Kd.R (Kd.int .i64) 3 wc w.heap.size (fun _ => True) (.slice Ao15 t289.length co15) t289) ∧ Aside0 (Below w.heap.size w wc))
               case first => as_aux_lemma =>
                have H := HC40.out
                clear HC40
                by_cases c41 : t307 = true
                ·
                 subst c41
                 have H1 : (laws_FnFormsLeft.j3 kj32 l1 t286 t289 t292 t300 t301 (t306 != 1)) = some r := by rw [if_pos rfl] at H; exact H
                 clear H
                 have H := H1
                 clear H1
                 have H' := Aside0.mk H
                 clear H
                 go_wp2
                 repeat (go_quiet (fail); try go_wp2)
                 go_meet
                 case rel => exact ⟨_, ((t306 != 1)), (by first | rfl | (simp; done) | (simp [*]; done)), H', ⟨by have := HJ11.out; have := HK2.out; have := HJ32.out; first | omega | exact Nat.le_refl _⟩, ⟨by (with_reducible repeat (first | apply Kd.V_alloc | apply Kd.V_drewN | apply Kd.V_drew)); exact HO_5.out⟩, ⟨by (with_reducible repeat (first | apply Kd.R_alloc | apply Kd.R_drewN | apply Kd.R_drew)); exact HO_6.out⟩, ⟨by repeat (first | (with_reducible first | exact HB.out | apply below_alloc | apply pw_below_drewN | apply below_drew1) | exact HB.out)⟩⟩
                ·
                 replace c41 := Bool.eq_false_iff.mpr c41
                 subst c41
                 have H1 : (laws_FnFormsLeft.j3 kj32 l1 t286 t289 t292 t300 t301 true) = some r := by rw [if_neg (show ¬ (false = true) by decide)] at H; exact H
                 clear H
                 have H := H1
                 clear H1
                 exact (laws_FnFormsLeft.j3_no _ _ _ _ _ _ _ (H.trans (congrArg some HE_.out))).elim
               case rest => as_aux_lemma =>
                clear HC40
                try clear c1
                try clear c4
                try clear c24
                try clear c26
                try clear c27
                try clear c27b0
                try clear c36
                try clear c38
                try clear c38b0
                obtain ⟨kq, x190_39, rfl, HA, HJ39, HO_5, HO_6, HB⟩ := hcut
                cases kq with
                | zero => exact absurd HA.out (by simp [laws_FnFormsLeft.j3])
                | succ kj39 =>
                 have H := HA.out
                 clear HA
                 simp only [laws_FnFormsLeft.j3] at H
                 by_cases c42 : x190_39 = true
                 ·
                  subst c42
                  have H1 : (some false) = some r := by rw [if_pos rfl] at H; exact H
                  clear H
                  have H := H1
                  clear H1
                  exact absurd (H.trans (congrArg some HE_.out)) (by simp)
                 ·
                  replace c42 := Bool.eq_false_iff.mpr c42
                  subst c42
                  have H1 : (if t292 > 0 then ((impl_CountWith.f kj39 t286 t289 (wrap64 (t292 - 1))).bind fun bt308 => (if bt308.2 = true then (if bt308.1 = 0 then (laws_FnFormsLeft.j4 kj39 l1 t286 t289 t292 t300 t301) else (some false)) else (some false))) else (laws_FnFormsLeft.j4 kj39 l1 t286 t289 t292 t300 t301)) = some r := by rw [if_neg (show ¬ (false = true) by decide)] at H; exact H
                  clear H
                  have H := H1
                  clear H1
                  have HC43 := Aside0.mk H
                  clear H
                  go_upto_if 192 with (fail)
                  repeat (go_quiet (fail); go_upto_if 192 with (fail))
                  go_cut [] from 175 to 213 (fun wc => ∃ (kq : Nat), Aside0 (laws_FnFormsLeft.j4 kq l1 t286 t289 t292 t300 t301 = some r) ∧ Aside0 (kq ≤ kj39) ∧ Aside0 (Kd.V (Kd.int .i64) 3 wc w.heap.size (fun k_ => some k_ ≠ ((.slice Ao15 t289.length co15) : Value).ownBlock) (.slice Ao14 t286.length co14) t286) ∧ Aside0 (Kd.R (Kd.int .i64) 3 wc w.heap.size (fun _ => True) (.slice Ao15 t289.length co15) t289) ∧ Aside0 (Below w.heap.size w wc))
                  case first => as_aux_lemma =>
                   have H := HC43.out
                   clear HC43
                   by_cases c44 : t292 > 0
                   ·
                    rw [if_pos c44] at H
                    have c44b0 : decide (0 < t292) = true := decide_eq_true c44
                    clear c44
                    (first | rw [c44b0] | (simp only [i64_w, i32_w]; rw [c44b0]) | skip)
                    replace H := Option.bind_eq_some_iff.mp H
                    obtain ⟨⟨t308, t309⟩, A450, H⟩ := H
                    replace H : (if t309 = true then (if t308 = 0 then (laws_FnFormsLeft.j4 kj39 l1 t286 t289 t292 t300 t301) else (some false)) else (some false)) = some r := H
                    have A45 := Aside0.mk A450
                    clear A450
                    by_cases c46 : t309 = true
                    ·
                     subst c46
                     have H1 : (if t308 = 0 then (laws_FnFormsLeft.j4 kj39 l1 t286 t289 t292 t300 t301) else (some false)) = some r := by rw [if_pos rfl] at H; exact H
                     clear H
                     have H := H1
                     clear H1
                     by_cases c47 : t308 = 0
                     ·
                      rw [if_pos c47] at H
                      have c47b0 : (t308 == 0) = true := beq_iff_eq.mpr c47
                      have c47b1 : (t308 != 0) = false := bne_eq_false_iff_eq.mpr c47
                      clear c47
                      have H' := Aside0.mk H
                      clear H
                      go_wp2_with (first | (go_at_call 17; (with_reducible refine (impl_CountWith.calls kj39 _ _ t286 _ _ t289 (wrap64 (t292 - 1)) t308 true _ ?side1 ?side2 ?side3 ?side4 A45.out).mono ?_); (case side1 => repeat (first | exact (Kd.V_reads' HO_5.out).2.2 | (with_reducible refine Kd.C_alloc ?_ _) | (with_reducible refine Kd.C_drewN ?_ _) | (with_reducible refine Kd.C_drew ?_))); (case side2 => exact (Kd.V_reads' HO_5.out).2.1); (case side3 => repeat (first | exact (Kd.R_reads' HO_6.out).2.2 | (with_reducible refine Kd.C_alloc ?_ _) | (with_reducible refine Kd.C_drewN ?_ _) | (with_reducible refine Kd.C_drew ?_))); (case side4 => exact (Kd.R_reads' HO_6.out).2.1); rintro e w' ⟨rfl, ⟨nd, rfl⟩⟩; (try first | exact ⟨rfl, _, World.drewN_drewN _ _ _⟩ | exact ⟨rfl, _, Eq.trans (World.drewN_drewN _ _ _) (congrArg (World.drewN _) (Nat.add_assoc _ _ _))⟩)))
                      repeat (go_quiet (first | (go_at_call 17; (with_reducible refine (impl_CountWith.calls kj39 _ _ t286 _ _ t289 (wrap64 (t292 - 1)) t308 true _ ?side1 ?side2 ?side3 ?side4 A45.out).mono ?_); (case side1 => repeat (first | exact (Kd.V_reads' HO_5.out).2.2 | (with_reducible refine Kd.C_alloc ?_ _) | (with_reducible refine Kd.C_drewN ?_ _) | (with_reducible refine Kd.C_drew ?_))); (case side2 => exact (Kd.V_reads' HO_5.out).2.1); (case side3 => repeat (first | exact (Kd.R_reads' HO_6.out).2.2 | (with_reducible refine Kd.C_alloc ?_ _) | (with_reducible refine Kd.C_drewN ?_ _) | (with_reducible refine Kd.C_drew ?_))); (case side4 => exact (Kd.R_reads' HO_6.out).2.1); rintro e w' ⟨rfl, ⟨nd, rfl⟩⟩; (try first | exact ⟨rfl, _, World.drewN_drewN _ _ _⟩ | exact ⟨rfl, _, Eq.trans (World.drewN_drewN _ _ _) (congrArg (World.drewN _) (Nat.add_assoc _ _ _))⟩))); try go_wp2_with (first | (go_at_call 17; (with_reducible refine (impl_CountWith.calls kj39 _ _ t286 _ _ t289 (wrap64 (t292 - 1)) t308 true _ ?side1 ?side2 ?side3 ?side4 A45.out).mono ?_); (case side1 => repeat (first | exact (Kd.V_reads' HO_5.out).2.2 | (with_reducible refine Kd.C_alloc ?_ _) | (with_reducible refine Kd.C_drewN ?_ _) | (with_reducible refine Kd.C_drew ?_))); (case side2 => exact (Kd.V_reads' HO_5.out).2.1); (case side3 => repeat (first | exact (Kd.R_reads' HO_6.out).2.2 | (with_reducible refine Kd.C_alloc ?_ _) | (with_reducible refine Kd.C_drewN ?_ _) | (with_reducible refine Kd.C_drew ?_))); (case side4 => exact (Kd.R_reads' HO_6.out).2.1); rintro e w' ⟨rfl, ⟨nd, rfl⟩⟩; (try first | exact ⟨rfl, _, World.drewN_drewN _ _ _⟩ | exact ⟨rfl, _, Eq.trans (World.drewN_drewN _ _ _) (congrArg (World.drewN _) (Nat.add_assoc _ _ _))⟩))))
                      go_meet
                      case rel => exact ⟨_, H', ⟨by have := HJ11.out; have := HK2.out; have := HJ32.out; have := HJ39.out; first | omega | exact Nat.le_refl _⟩, ⟨by (with_reducible repeat (first | apply Kd.V_alloc | apply Kd.V_drewN | apply Kd.V_drew)); exact HO_5.out⟩, ⟨by (with_reducible repeat (first | apply Kd.R_alloc | apply Kd.R_drewN | apply Kd.R_drew)); exact HO_6.out⟩, ⟨by repeat (first | (with_reducible first | exact HB.out | apply below_alloc | apply pw_below_drewN | apply below_drew1) | exact HB.out)⟩⟩
                     ·
                      rw [if_neg c47] at H
                      exact absurd (H.trans (congrArg some HE_.out)) (by simp)
                    ·
                     replace c46 := Bool.eq_false_iff.mpr c46
                     subst c46
                     have H1 : (some false) = some r := by rw [if_neg (show ¬ (false = true) by decide)] at H; exact H
                     clear H
                     have H := H1
                     clear H1
                     exact absurd (H.trans (congrArg some HE_.out)) (by simp)
                   ·
                    rw [if_neg c44] at H
                    have c44b0 : decide (0 < t292) = false := decide_eq_false c44
                    clear c44
                    (first | rw [c44b0] | (simp only [i64_w, i32_w]; rw [c44b0]) | skip)
                    have H' := Aside0.mk H
                    clear H
                    go_wp2
                    repeat (go_quiet (fail); try go_wp2)
                    go_meet
                    case rel => exact ⟨_, H', ⟨by have := HJ11.out; have := HK2.out; have := HJ32.out; have := HJ39.out; first | omega | exact Nat.le_refl _⟩, ⟨by (with_reducible repeat (first | apply Kd.V_alloc | apply Kd.V_drewN | apply Kd.V_drew)); exact HO_5.out⟩, ⟨by (with_reducible repeat (first | apply Kd.R_alloc | apply Kd.R_drewN | apply Kd.R_drew)); exact HO_6.out⟩, ⟨by repeat (first | (with_reducible first | exact HB.out | apply below_alloc | apply pw_below_drewN | apply below_drew1) | exact HB.out)⟩⟩
                  case rest => as_aux_lemma =>
                   clear HC43
                   try clear c1
                   try clear c4
                   try clear c24
                   try clear c26
                   try clear c27
                   try clear c27b0
                   try clear c36
                   try clear c38
                   try clear c38b0
                   try clear c42
                   obtain ⟨kq, HA, HJ42, HO_5, HO_6, HB⟩ := hcut
                   cases kq with
                   | zero => exact absurd HA.out (by simp [laws_FnFormsLeft.j4])
                   | succ kj42 =>
                    have H := HA.out
                    clear HA
                    simp only [laws_FnFormsLeft.j4] at H
                    have HC48 := Aside0.mk H
                    clear H
                    go_upto_region 29 with (fail)
                    repeat (go_quiet (fail); go_upto_region 29 with (fail))
                    go_cut [213] from 190 to 213 (fun v213 wc => ∃ (kq : Nat) (x213_47 : Bool), v213 = .bool x213_47 ∧ Aside0 (laws_FnFormsLeft.j5 kq l1 t286 t289 t292 t300 t301 x213_47 = some r) ∧ Aside0 (kq ≤ kj42) ∧ Aside0 (Kd.V (Kd.int .i64) 3 wc w.heap.size (fun k_ => some k_ ≠ ((.slice Ao15 t289.length co15) : Value).ownBlock) (.slice Ao14 t286.length co14) t286) ∧ Aside0 (Kd.R (Kd.int .i64) 3 wc w.heap.size (fun _ => True) (.slice Ao15 t289.length co15) t289) ∧ Aside0 (Below w.heap.size w wc))
                    case first => as_aux_lemma =>
                     have H := HC48.out
                     clear HC48
                     by_cases c49 : t301 = true
                     ·
                      subst c49
                      have H1 : (laws_FnFormsLeft.j5 kj42 l1 t286 t289 t292 t300 true (decide ((wrap64 (t292 + t300)) ≤ 1000000000))) = some r := by rw [if_pos rfl] at H; exact H
                      clear H
                      have H := H1
                      clear H1
                      have H' := Aside0.mk H
                      clear H
                      go_wp2
                      repeat (go_quiet (fail); try go_wp2)
                      go_meet
                      case rel => exact ⟨_, (decide ((wrap64 (t292 + t300)) ≤ 1000000000)), (by first | rfl | (simp; done) | (simp [*]; done)), H', ⟨by have := HJ11.out; have := HK2.out; have := HJ32.out; have := HJ39.out; have := HJ42.out; first | omega | exact Nat.le_refl _⟩, ⟨by (with_reducible repeat (first | apply Kd.V_alloc | apply Kd.V_drewN | apply Kd.V_drew)); exact HO_5.out⟩, ⟨by (with_reducible repeat (first | apply Kd.R_alloc | apply Kd.R_drewN | apply Kd.R_drew)); exact HO_6.out⟩, ⟨by repeat (first | (with_reducible first | exact HB.out | apply below_alloc | apply pw_below_drewN | apply below_drew1) | exact HB.out)⟩⟩
                     ·
                      replace c49 := Bool.eq_false_iff.mpr c49
                      subst c49
                      have H1 : (laws_FnFormsLeft.j5 kj42 l1 t286 t289 t292 t300 false false) = some r := by rw [if_neg (show ¬ (false = true) by decide)] at H; exact H
                      clear H
                      have H := H1
                      clear H1
                      have H' := Aside0.mk H
                      clear H
                      go_wp2
                      repeat (go_quiet (fail); try go_wp2)
                      go_meet
                      case rel => exact ⟨_, (false), (by first | rfl | (simp; done) | (simp [*]; done)), H', ⟨by have := HJ11.out; have := HK2.out; have := HJ32.out; have := HJ39.out; have := HJ42.out; first | omega | exact Nat.le_refl _⟩, ⟨by (with_reducible repeat (first | apply Kd.V_alloc | apply Kd.V_drewN | apply Kd.V_drew)); exact HO_5.out⟩, ⟨by (with_reducible repeat (first | apply Kd.R_alloc | apply Kd.R_drewN | apply Kd.R_drew)); exact HO_6.out⟩, ⟨by repeat (first | (with_reducible first | exact HB.out | apply below_alloc | apply pw_below_drewN | apply below_drew1) | exact HB.out)⟩⟩
                    case rest => as_aux_lemma =>
                     clear HC48
                     try clear c1
                     try clear c4
                     try clear c24
                     try clear c26
                     try clear c27
                     try clear c27b0
                     try clear c36
                     try clear c38
                     try clear c38b0
                     try clear c42
                     obtain ⟨kq, x213_47, rfl, HA, HJ47, HO_5, HO_6, HB⟩ := hcut
                     cases kq with
                     | zero => exact absurd HA.out (by simp [laws_FnFormsLeft.j5])
                     | succ kj47 =>
                      have H := HA.out
                      clear HA
                      simp only [laws_FnFormsLeft.j5] at H
                      by_cases c50 : x213_47 = true
                      ·
                       subst c50
                       have H1 : ((impl_CountWith.f kj47 t286 t289 (wrap64 (t292 + t300))).bind fun bt310 => (if bt310.2 = true then (if bt310.1 = 2 then (laws_FnFormsLeft.j6 kj47 l1 t286 t289 t292 t300 t301) else (some false)) else (some false))) = some r := by rw [if_pos rfl] at H; exact H
                       clear H
                       have H := H1
                       clear H1
                       replace H := Option.bind_eq_some_iff.mp H
                       obtain ⟨⟨t310, t311⟩, A510, H⟩ := H
                       replace H : (if t311 = true then (if t310 = 2 then (laws_FnFormsLeft.j6 kj47 l1 t286 t289 t292 t300 t301) else (some false)) else (some false)) = some r := H
                       have A51 := Aside0.mk A510
                       clear A510
                       by_cases c52 : t311 = true
                       ·
                        subst c52
                        have H1 : (if t310 = 2 then (laws_FnFormsLeft.j6 kj47 l1 t286 t289 t292 t300 t301) else (some false)) = some r := by rw [if_pos rfl] at H; exact H
                        clear H
                        have H := H1
                        clear H1
                        by_cases c53 : t310 = 2
                        ·
                         rw [if_pos c53] at H
                         have c53b0 : (t310 == 2) = true := beq_iff_eq.mpr c53
                         have c53b1 : (t310 != 2) = false := bne_eq_false_iff_eq.mpr c53
                         clear c53
                         have H' := Aside0.mk H
                         clear H
                         go_wp2_with (first | (go_at_call 17; (with_reducible refine (impl_CountWith.calls kj47 _ _ t286 _ _ t289 (wrap64 (t292 + t300)) t310 true _ ?side1 ?side2 ?side3 ?side4 A51.out).mono ?_); (case side1 => repeat (first | exact (Kd.V_reads' HO_5.out).2.2 | (with_reducible refine Kd.C_alloc ?_ _) | (with_reducible refine Kd.C_drewN ?_ _) | (with_reducible refine Kd.C_drew ?_))); (case side2 => exact (Kd.V_reads' HO_5.out).2.1); (case side3 => repeat (first | exact (Kd.R_reads' HO_6.out).2.2 | (with_reducible refine Kd.C_alloc ?_ _) | (with_reducible refine Kd.C_drewN ?_ _) | (with_reducible refine Kd.C_drew ?_))); (case side4 => exact (Kd.R_reads' HO_6.out).2.1); rintro e w' ⟨rfl, ⟨nd, rfl⟩⟩; (try first | exact ⟨rfl, _, World.drewN_drewN _ _ _⟩ | exact ⟨rfl, _, Eq.trans (World.drewN_drewN _ _ _) (congrArg (World.drewN _) (Nat.add_assoc _ _ _))⟩)))
                         repeat (go_quiet (first | (go_at_call 17; (with_reducible refine (impl_CountWith.calls kj47 _ _ t286 _ _ t289 (wrap64 (t292 + t300)) t310 true _ ?side1 ?side2 ?side3 ?side4 A51.out).mono ?_); (case side1 => repeat (first | exact (Kd.V_reads' HO_5.out).2.2 | (with_reducible refine Kd.C_alloc ?_ _) | (with_reducible refine Kd.C_drewN ?_ _) | (with_reducible refine Kd.C_drew ?_))); (case side2 => exact (Kd.V_reads' HO_5.out).2.1); (case side3 => repeat (first | exact (Kd.R_reads' HO_6.out).2.2 | (with_reducible refine Kd.C_alloc ?_ _) | (with_reducible refine Kd.C_drewN ?_ _) | (with_reducible refine Kd.C_drew ?_))); (case side4 => exact (Kd.R_reads' HO_6.out).2.1); rintro e w' ⟨rfl, ⟨nd, rfl⟩⟩; (try first | exact ⟨rfl, _, World.drewN_drewN _ _ _⟩ | exact ⟨rfl, _, Eq.trans (World.drewN_drewN _ _ _) (congrArg (World.drewN _) (Nat.add_assoc _ _ _))⟩))); try go_wp2_with (first | (go_at_call 17; (with_reducible refine (impl_CountWith.calls kj47 _ _ t286 _ _ t289 (wrap64 (t292 + t300)) t310 true _ ?side1 ?side2 ?side3 ?side4 A51.out).mono ?_); (case side1 => repeat (first | exact (Kd.V_reads' HO_5.out).2.2 | (with_reducible refine Kd.C_alloc ?_ _) | (with_reducible refine Kd.C_drewN ?_ _) | (with_reducible refine Kd.C_drew ?_))); (case side2 => exact (Kd.V_reads' HO_5.out).2.1); (case side3 => repeat (first | exact (Kd.R_reads' HO_6.out).2.2 | (with_reducible refine Kd.C_alloc ?_ _) | (with_reducible refine Kd.C_drewN ?_ _) | (with_reducible refine Kd.C_drew ?_))); (case side4 => exact (Kd.R_reads' HO_6.out).2.1); rintro e w' ⟨rfl, ⟨nd, rfl⟩⟩; (try first | exact ⟨rfl, _, World.drewN_drewN _ _ _⟩ | exact ⟨rfl, _, Eq.trans (World.drewN_drewN _ _ _) (congrArg (World.drewN _) (Nat.add_assoc _ _ _))⟩))))
                         go_meet
                         case rel => exact ⟨_, H', ⟨by have := HJ11.out; have := HK2.out; have := HJ32.out; have := HJ39.out; have := HJ42.out; have := HJ47.out; first | omega | exact Nat.le_refl _⟩, ⟨by (with_reducible repeat (first | apply Kd.V_alloc | apply Kd.V_drewN | apply Kd.V_drew)); exact HO_5.out⟩, ⟨by (with_reducible repeat (first | apply Kd.R_alloc | apply Kd.R_drewN | apply Kd.R_drew)); exact HO_6.out⟩, ⟨by repeat (first | (with_reducible first | exact HB.out | apply below_alloc | apply pw_below_drewN | apply below_drew1) | exact HB.out)⟩⟩
                        ·
                         rw [if_neg c53] at H
                         exact absurd (H.trans (congrArg some HE_.out)) (by simp)
                       ·
                        replace c52 := Bool.eq_false_iff.mpr c52
                        subst c52
                        have H1 : (some false) = some r := by rw [if_neg (show ¬ (false = true) by decide)] at H; exact H
                        clear H
                        have H := H1
                        clear H1
                        exact absurd (H.trans (congrArg some HE_.out)) (by simp)
                      ·
                       replace c50 := Bool.eq_false_iff.mpr c50
                       subst c50
                       have H1 : (laws_FnFormsLeft.j6 kj47 l1 t286 t289 t292 t300 t301) = some r := by rw [if_neg (show ¬ (false = true) by decide)] at H; exact H
                       clear H
                       have H := H1
                       clear H1
                       have H' := Aside0.mk H
                       clear H
                       go_wp2
                       repeat (go_quiet (fail); try go_wp2)
                       go_meet
                       case rel => exact ⟨_, H', ⟨by have := HJ11.out; have := HK2.out; have := HJ32.out; have := HJ39.out; have := HJ42.out; have := HJ47.out; first | omega | exact Nat.le_refl _⟩, ⟨by (with_reducible repeat (first | apply Kd.V_alloc | apply Kd.V_drewN | apply Kd.V_drew)); exact HO_5.out⟩, ⟨by (with_reducible repeat (first | apply Kd.R_alloc | apply Kd.R_drewN | apply Kd.R_drew)); exact HO_6.out⟩, ⟨by repeat (first | (with_reducible first | exact HB.out | apply below_alloc | apply pw_below_drewN | apply below_drew1) | exact HB.out)⟩⟩
              ·
               rw [if_neg c38] at H
               have c38b0 : decide (t292 ≤ 1000000000) = false := decide_eq_false c38
               clear c38
               (first | rw [c38b0] | (simp only [i64_w, i32_w]; rw [c38b0]) | skip)
               have H' := Aside0.mk H
               clear H
               go_wp2
               repeat (go_quiet (fail); try go_wp2)
               go_meet
               case rel => exact ⟨_, H', ⟨by have := HJ11.out; have := HK2.out; have := HJ32.out; first | omega | exact Nat.le_refl _⟩, ⟨by (with_reducible repeat (first | apply Kd.V_alloc | apply Kd.V_drewN | apply Kd.V_drew)); exact HO_5.out⟩, ⟨by (with_reducible repeat (first | apply Kd.R_alloc | apply Kd.R_drewN | apply Kd.R_drew)); exact HO_6.out⟩, ⟨by repeat (first | (with_reducible first | exact HB.out | apply below_alloc | apply pw_below_drewN | apply below_drew1) | exact HB.out)⟩⟩
             case rest => as_aux_lemma =>
              clear HC37
              try clear c1
              try clear c4
              try clear c24
              try clear c26
              try clear c27
              try clear c27b0
              try clear c36
              obtain ⟨kq, HA, HJ36, HO_5, HO_6, HB⟩ := hcut
              cases kq with
              | zero => exact absurd HA.out (by simp [laws_FnFormsLeft.j6])
              | succ kj36 =>
               have H := HA.out
               clear HA
               simp only [laws_FnFormsLeft.j6] at H
               have HC54 := Aside0.mk H
               clear H
               go_upto_region 33 with (fail)
               repeat (go_quiet (fail); go_upto_region 33 with (fail))
               go_cut [234] from 213 to 234 (fun v234 wc => ∃ (kq : Nat) (x234_53 : Bool), v234 = .bool x234_53 ∧ Aside0 (laws_FnFormsLeft.j7 kq l1 t286 t289 t292 t300 t301 x234_53 = some r) ∧ Aside0 (kq ≤ kj36) ∧ Aside0 (Kd.V (Kd.int .i64) 3 wc w.heap.size (fun k_ => some k_ ≠ ((.slice Ao15 t289.length co15) : Value).ownBlock) (.slice Ao14 t286.length co14) t286) ∧ Aside0 (Kd.R (Kd.int .i64) 3 wc w.heap.size (fun _ => True) (.slice Ao15 t289.length co15) t289) ∧ Aside0 (Below w.heap.size w wc))
               case first => as_aux_lemma =>
                have H := HC54.out
                clear HC54
                by_cases c55 : t292 ≥ 1
                ·
                 rw [if_pos c55] at H
                 have c55b0 : decide (1 ≤ t292) = true := decide_eq_true c55
                 clear c55
                 (first | rw [c55b0] | (simp only [i64_w, i32_w]; rw [c55b0]) | skip)
                 have H' := Aside0.mk H
                 clear H
                 go_wp2
                 repeat (go_quiet (fail); try go_wp2)
                 go_meet
                 case rel => exact ⟨_, (decide (t292 ≤ 1000000)), (by first | rfl | (simp; done) | (simp [*]; done)), H', ⟨by have := HJ11.out; have := HK2.out; have := HJ32.out; have := HJ36.out; first | omega | exact Nat.le_refl _⟩, ⟨by (with_reducible repeat (first | apply Kd.V_alloc | apply Kd.V_drewN | apply Kd.V_drew)); exact HO_5.out⟩, ⟨by (with_reducible repeat (first | apply Kd.R_alloc | apply Kd.R_drewN | apply Kd.R_drew)); exact HO_6.out⟩, ⟨by repeat (first | (with_reducible first | exact HB.out | apply below_alloc | apply pw_below_drewN | apply below_drew1) | exact HB.out)⟩⟩
                ·
                 rw [if_neg c55] at H
                 have c55b0 : decide (1 ≤ t292) = false := decide_eq_false c55
                 clear c55
                 (first | rw [c55b0] | (simp only [i64_w, i32_w]; rw [c55b0]) | skip)
                 have H' := Aside0.mk H
                 clear H
                 go_wp2
                 repeat (go_quiet (fail); try go_wp2)
                 go_meet
                 case rel => exact ⟨_, (false), (by first | rfl | (simp; done) | (simp [*]; done)), H', ⟨by have := HJ11.out; have := HK2.out; have := HJ32.out; have := HJ36.out; first | omega | exact Nat.le_refl _⟩, ⟨by (with_reducible repeat (first | apply Kd.V_alloc | apply Kd.V_drewN | apply Kd.V_drew)); exact HO_5.out⟩, ⟨by (with_reducible repeat (first | apply Kd.R_alloc | apply Kd.R_drewN | apply Kd.R_drew)); exact HO_6.out⟩, ⟨by repeat (first | (with_reducible first | exact HB.out | apply below_alloc | apply pw_below_drewN | apply below_drew1) | exact HB.out)⟩⟩
               case rest => as_aux_lemma =>
                clear HC54
                try clear c1
                try clear c4
                try clear c24
                try clear c26
                try clear c27
                try clear c27b0
                try clear c36
                obtain ⟨kq, x234_53, rfl, HA, HJ53, HO_5, HO_6, HB⟩ := hcut
                cases kq with
                | zero => exact absurd HA.out (by simp [laws_FnFormsLeft.j7])
                | succ kj53 =>
                 have H := HA.out
                 clear HA
                 simp only [laws_FnFormsLeft.j7] at H
                 by_cases c56 : x234_53 = true
                 ·
                  subst c56
                  have H1 : ((impl_RemaindersOf.f kj53 t292 t286).bind fun bt312 => (if bt312.2 = true then ((laws_mSame.f kj53 bt312.1 t289).bind fun t316 => (if t316 = true then (laws_FnFormsLeft.j8 kj53 l1 t286 t300 t301) else (some false))) else (some false))) = some r := by rw [if_pos rfl] at H; exact H
                  clear H
                  have H := H1
                  clear H1
                  replace H := Option.bind_eq_some_iff.mp H
                  obtain ⟨⟨t312, t313⟩, A570, H⟩ := H
                  replace H : (if t313 = true then ((laws_mSame.f kj53 t312 t289).bind fun t316 => (if t316 = true then (laws_FnFormsLeft.j8 kj53 l1 t286 t300 t301) else (some false))) else (some false)) = some r := H
                  have A57 := Aside0.mk A570
                  clear A570
                  by_cases c58 : t313 = true
                  ·
                   subst c58
                   have H1 : ((laws_mSame.f kj53 t312 t289).bind fun t316 => (if t316 = true then (laws_FnFormsLeft.j8 kj53 l1 t286 t300 t301) else (some false))) = some r := by rw [if_pos rfl] at H; exact H
                   clear H
                   have H := H1
                   clear H1
                   replace H := Option.bind_eq_some_iff.mp H
                   obtain ⟨t316, A590, H⟩ := H
                   replace H : (if t316 = true then (laws_FnFormsLeft.j8 kj53 l1 t286 t300 t301) else (some false)) = some r := H
                   have A59 := Aside0.mk A590
                   clear A590
                   by_cases c60 : t316 = true
                   ·
                    subst c60
                    have H1 : (laws_FnFormsLeft.j8 kj53 l1 t286 t300 t301) = some r := by rw [if_pos rfl] at H; exact H
                    clear H
                    have H := H1
                    clear H1
                    have H' := Aside0.mk H
                    clear H
                    go_wp2_with (first | (go_at_call 18; (with_reducible refine (impl_RemaindersOf.calls kj53 t292 _ _ t286 t312 true _ ?side1 ?side2 A57.out).mono ?_); (case side1 => repeat (first | exact (Kd.V_reads' HO_5.out).2.2 | (with_reducible refine Kd.C_alloc ?_ _) | (with_reducible refine Kd.C_drewN ?_ _) | (with_reducible refine Kd.C_drew ?_))); (case side2 => exact (Kd.V_reads' HO_5.out).2.1); rintro e w61 ⟨v314, rfl, ho0, hb⟩; have n0_ := Aside0.mk (Kd.V_elder' (by (with_reducible repeat (first | apply Kd.V_alloc | apply Kd.V_drewN | apply Kd.V_drew)); exact HO_5.out) (Kd.R_base ho0) hb); have n1_ := Aside0.mk (Kd.R_elder' (by (with_reducible repeat (first | apply Kd.R_alloc | apply Kd.R_drewN | apply Kd.R_drew)); exact HO_6.out) (Kd.R_base ho0) hb); have n2_ := Aside0.mk (Kd.R_lower (Kd.R_new' ho0 (Kd.R_lt (by (with_reducible repeat (first | apply Kd.R_alloc | apply Kd.R_drewN | apply Kd.R_drew)); exact HO_6.out))) (below_size (by repeat (first | (with_reducible first | exact HB.out | apply below_alloc | apply pw_below_drewN | apply below_drew1) | exact HB.out)))); have n3_ := Aside0.mk (below_step (by repeat (first | (with_reducible first | exact HB.out | apply below_alloc | apply pw_below_drewN | apply below_drew1) | exact HB.out)) hb); clear HO_5; clear HO_6; clear HB; have HO_5 := n0_; have HO_6 := n1_; have HO315 := n2_; have HB := n3_; clear n0_ n1_ n2_ n3_; (try clear hb); (try clear hb2); (try clear hk); (try clear hi); (try clear ho0); obtain ⟨Ao62, co62, eo62⟩ := Kd.R_slice HO315.out; subst eo62) | (go_at_call 19; (with_reducible refine (laws_mSame.calls kj53 _ _ t312 _ _ t289 true _ ?side1 ?side2 ?side3 ?side4 A59.out).mono ?_); (case side1 => repeat (first | exact (Kd.R_reads' HO315.out).2.2 | (with_reducible refine Kd.C_alloc ?_ _) | (with_reducible refine Kd.C_drewN ?_ _) | (with_reducible refine Kd.C_drew ?_))); (case side2 => exact (Kd.R_reads' HO315.out).2.1); (case side3 => repeat (first | exact (Kd.R_reads' HO_6.out).2.2 | (with_reducible refine Kd.C_alloc ?_ _) | (with_reducible refine Kd.C_drewN ?_ _) | (with_reducible refine Kd.C_drew ?_))); (case side4 => exact (Kd.R_reads' HO_6.out).2.1); rintro e w' ⟨rfl, ⟨nd, rfl⟩⟩; (try first | exact ⟨rfl, _, World.drewN_drewN _ _ _⟩ | exact ⟨rfl, _, Eq.trans (World.drewN_drewN _ _ _) (congrArg (World.drewN _) (Nat.add_assoc _ _ _))⟩)))
                    repeat (go_quiet (first | (go_at_call 18; (with_reducible refine (impl_RemaindersOf.calls kj53 t292 _ _ t286 t312 true _ ?side1 ?side2 A57.out).mono ?_); (case side1 => repeat (first | exact (Kd.V_reads' HO_5.out).2.2 | (with_reducible refine Kd.C_alloc ?_ _) | (with_reducible refine Kd.C_drewN ?_ _) | (with_reducible refine Kd.C_drew ?_))); (case side2 => exact (Kd.V_reads' HO_5.out).2.1); rintro e w61 ⟨v314, rfl, ho0, hb⟩; have n0_ := Aside0.mk (Kd.V_elder' (by (with_reducible repeat (first | apply Kd.V_alloc | apply Kd.V_drewN | apply Kd.V_drew)); exact HO_5.out) (Kd.R_base ho0) hb); have n1_ := Aside0.mk (Kd.R_elder' (by (with_reducible repeat (first | apply Kd.R_alloc | apply Kd.R_drewN | apply Kd.R_drew)); exact HO_6.out) (Kd.R_base ho0) hb); have n2_ := Aside0.mk (Kd.R_lower (Kd.R_new' ho0 (Kd.R_lt (by (with_reducible repeat (first | apply Kd.R_alloc | apply Kd.R_drewN | apply Kd.R_drew)); exact HO_6.out))) (below_size (by repeat (first | (with_reducible first | exact HB.out | apply below_alloc | apply pw_below_drewN | apply below_drew1) | exact HB.out)))); have n3_ := Aside0.mk (below_step (by repeat (first | (with_reducible first | exact HB.out | apply below_alloc | apply pw_below_drewN | apply below_drew1) | exact HB.out)) hb); clear HO_5; clear HO_6; clear HB; have HO_5 := n0_; have HO_6 := n1_; have HO315 := n2_; have HB := n3_; clear n0_ n1_ n2_ n3_; (try clear hb); (try clear hb2); (try clear hk); (try clear hi); (try clear ho0); obtain ⟨Ao62, co62, eo62⟩ := Kd.R_slice HO315.out; subst eo62) | (go_at_call 19; (with_reducible refine (laws_mSame.calls kj53 _ _ t312 _ _ t289 true _ ?side1 ?side2 ?side3 ?side4 A59.out).mono ?_); (case side1 => repeat (first | exact (Kd.R_reads' HO315.out).2.2 | (with_reducible refine Kd.C_alloc ?_ _) | (with_reducible refine Kd.C_drewN ?_ _) | (with_reducible refine Kd.C_drew ?_))); (case side2 => exact (Kd.R_reads' HO315.out).2.1); (case side3 => repeat (first | exact (Kd.R_reads' HO_6.out).2.2 | (with_reducible refine Kd.C_alloc ?_ _) | (with_reducible refine Kd.C_drewN ?_ _) | (with_reducible refine Kd.C_drew ?_))); (case side4 => exact (Kd.R_reads' HO_6.out).2.1); rintro e w' ⟨rfl, ⟨nd, rfl⟩⟩; (try first | exact ⟨rfl, _, World.drewN_drewN _ _ _⟩ | exact ⟨rfl, _, Eq.trans (World.drewN_drewN _ _ _) (congrArg (World.drewN _) (Nat.add_assoc _ _ _))⟩))); try go_wp2_with (first | (go_at_call 18; (with_reducible refine (impl_RemaindersOf.calls kj53 t292 _ _ t286 t312 true _ ?side1 ?side2 A57.out).mono ?_); (case side1 => repeat (first | exact (Kd.V_reads' HO_5.out).2.2 | (with_reducible refine Kd.C_alloc ?_ _) | (with_reducible refine Kd.C_drewN ?_ _) | (with_reducible refine Kd.C_drew ?_))); (case side2 => exact (Kd.V_reads' HO_5.out).2.1); rintro e w61 ⟨v314, rfl, ho0, hb⟩; have n0_ := Aside0.mk (Kd.V_elder' (by (with_reducible repeat (first | apply Kd.V_alloc | apply Kd.V_drewN | apply Kd.V_drew)); exact HO_5.out) (Kd.R_base ho0) hb); have n1_ := Aside0.mk (Kd.R_elder' (by (with_reducible repeat (first | apply Kd.R_alloc | apply Kd.R_drewN | apply Kd.R_drew)); exact HO_6.out) (Kd.R_base ho0) hb); have n2_ := Aside0.mk (Kd.R_lower (Kd.R_new' ho0 (Kd.R_lt (by (with_reducible repeat (first | apply Kd.R_alloc | apply Kd.R_drewN | apply Kd.R_drew)); exact HO_6.out))) (below_size (by repeat (first | (with_reducible first | exact HB.out | apply below_alloc | apply pw_below_drewN | apply below_drew1) | exact HB.out)))); have n3_ := Aside0.mk (below_step (by repeat (first | (with_reducible first | exact HB.out | apply below_alloc | apply pw_below_drewN | apply below_drew1) | exact HB.out)) hb); clear HO_5; clear HO_6; clear HB; have HO_5 := n0_; have HO_6 := n1_; have HO315 := n2_; have HB := n3_; clear n0_ n1_ n2_ n3_; (try clear hb); (try clear hb2); (try clear hk); (try clear hi); (try clear ho0); obtain ⟨Ao62, co62, eo62⟩ := Kd.R_slice HO315.out; subst eo62) | (go_at_call 19; (with_reducible refine (laws_mSame.calls kj53 _ _ t312 _ _ t289 true _ ?side1 ?side2 ?side3 ?side4 A59.out).mono ?_); (case side1 => repeat (first | exact (Kd.R_reads' HO315.out).2.2 | (with_reducible refine Kd.C_alloc ?_ _) | (with_reducible refine Kd.C_drewN ?_ _) | (with_reducible refine Kd.C_drew ?_))); (case side2 => exact (Kd.R_reads' HO315.out).2.1); (case side3 => repeat (first | exact (Kd.R_reads' HO_6.out).2.2 | (with_reducible refine Kd.C_alloc ?_ _) | (with_reducible refine Kd.C_drewN ?_ _) | (with_reducible refine Kd.C_drew ?_))); (case side4 => exact (Kd.R_reads' HO_6.out).2.1); rintro e w' ⟨rfl, ⟨nd, rfl⟩⟩; (try first | exact ⟨rfl, _, World.drewN_drewN _ _ _⟩ | exact ⟨rfl, _, Eq.trans (World.drewN_drewN _ _ _) (congrArg (World.drewN _) (Nat.add_assoc _ _ _))⟩))))
                    go_meet
                    case rel => exact ⟨_, H', ⟨by have := HJ11.out; have := HK2.out; have := HJ32.out; have := HJ36.out; have := HJ53.out; first | omega | exact Nat.le_refl _⟩, ⟨by (with_reducible repeat (first | apply Kd.V_alloc | apply Kd.V_drewN | apply Kd.V_drew)); exact Kd.V_mono HO_5.out (fun _ hk => trivial)⟩, ⟨by repeat (first | (with_reducible first | exact HB.out | apply below_alloc | apply pw_below_drewN | apply below_drew1) | exact HB.out)⟩⟩
                   ·
                    replace c60 := Bool.eq_false_iff.mpr c60
                    subst c60
                    have H1 : (some false) = some r := by rw [if_neg (show ¬ (false = true) by decide)] at H; exact H
                    clear H
                    have H := H1
                    clear H1
                    exact absurd (H.trans (congrArg some HE_.out)) (by simp)
                  ·
                   replace c58 := Bool.eq_false_iff.mpr c58
                   subst c58
                   have H1 : (some false) = some r := by rw [if_neg (show ¬ (false = true) by decide)] at H; exact H
                   clear H
                   have H := H1
                   clear H1
                   exact absurd (H.trans (congrArg some HE_.out)) (by simp)
                 ·
                  replace c56 := Bool.eq_false_iff.mpr c56
                  subst c56
                  have H1 : (laws_FnFormsLeft.j8 kj53 l1 t286 t300 t301) = some r := by rw [if_neg (show ¬ (false = true) by decide)] at H; exact H
                  clear H
                  have H := H1
                  clear H1
                  have H' := Aside0.mk H
                  clear H
                  go_wp2
                  repeat (go_quiet (fail); try go_wp2)
                  go_meet
                  case rel => exact ⟨_, H', ⟨by have := HJ11.out; have := HK2.out; have := HJ32.out; have := HJ36.out; have := HJ53.out; first | omega | exact Nat.le_refl _⟩, ⟨by (with_reducible repeat (first | apply Kd.V_alloc | apply Kd.V_drewN | apply Kd.V_drew)); exact Kd.V_mono HO_5.out (fun _ hk => trivial)⟩, ⟨by repeat (first | (with_reducible first | exact HB.out | apply below_alloc | apply pw_below_drewN | apply below_drew1) | exact HB.out)⟩⟩
      ·
       replace c26 := Bool.eq_false_iff.mpr c26
       subst c26
       have H1 : (laws_FnFormsLeft.j8 kj11 l1 t286 t300 t301) = some r := by rw [if_neg (show ¬ (false = true) by decide)] at H; exact H
       clear H
       have H := H1
       clear H1
       have H' := Aside0.mk H
       clear H
       go_wp2
       repeat (go_quiet (fail); try go_wp2)
       go_meet
       case rel => exact ⟨_, H', ⟨by have := HJ11.out; first | omega | exact Nat.le_refl _⟩, ⟨by (with_reducible repeat (first | apply Kd.V_alloc | apply Kd.V_drewN | apply Kd.V_drew)); exact Kd.V_mono HO_5.out (fun _ hk => trivial)⟩, ⟨by repeat (first | (with_reducible first | exact HB.out | apply below_alloc | apply pw_below_drewN | apply below_drew1) | exact HB.out)⟩⟩
     case rest => as_aux_lemma =>
      clear HC25
      try clear c1
      try clear c4
      try clear c24
      obtain ⟨kq, HA, HJ24, HO_5, HB⟩ := hcut
      cases kq with
      | zero => exact absurd HA.out (by simp [laws_FnFormsLeft.j8])
      | succ kj24 =>
       have H := HA.out
       clear HA
       simp only [laws_FnFormsLeft.j8] at H
       have HC63 := Aside0.mk H
       clear H
       go_upto_if 249 with (fail)
       repeat (go_quiet (fail); go_upto_if 249 with (fail))
       go_cut [] from 213 to 371 (fun wc => ∃ (kq : Nat), Aside0 (laws_FnFormsLeft.j10 kq l1 = some r) ∧ Aside0 (kq ≤ kj24) ∧ Aside0 (Below w.heap.size w wc))
       case first => as_aux_lemma =>
        have H := HC63.out
        clear HC63
        by_cases c64 : t301 = true
        ·
         subst c64
         have H1 : (laws_FnFormsLeft.l1 kj24 l1 t300 t286 (t286.length : Int) 0) = some r := by rw [if_pos rfl] at H; exact H
         clear H
         have H := H1
         clear H1
         have H' := Aside0.mk H
         clear H
         go_wp2
         repeat (go_quiet (fail); try go_wp2)
         go_loopg [252] kj24 (fun kq v252 w' => ∃ (x252_3 : Int), v252 = .int .i64 x252_3 ∧ Aside0 (laws_FnFormsLeft.l1 kq l1 t300 t286 (t286.length : Int) x252_3 = some r) ∧ Aside0 (kq ≤ kj24) ∧ Aside0 (Kd.V (Kd.int .i64) 3 w' w.heap.size (fun _ => True) (.slice Ao14 t286.length co14) t286) ∧ Aside0 (Below w.heap.size w w'))
         case atStart => exact ⟨(0), (by first | rfl | (simp; done) | (simp [*]; done)), H', ⟨Nat.le_refl _⟩, ⟨by (with_reducible repeat (first | apply Kd.V_alloc | apply Kd.V_drewN | apply Kd.V_drew)); exact HO_5.out⟩, ⟨by repeat (first | (with_reducible first | exact HB.out | apply below_alloc | apply pw_below_drewN | apply below_drew1) | exact HB.out)⟩⟩
         case round =>
          clear H'
          try clear c1
          try clear c4
          try clear c24
          try clear c64
          obtain ⟨x252_3, rfl, HA, HK3, HO_250, HB⟩ := hrel
          cases gk with
          | zero => exact absurd HA.out (by simp [laws_FnFormsLeft.l1])
          | succ k3 =>
           have H := HA.out
           clear HA
           simp only [laws_FnFormsLeft.l1] at H
           by_cases c65 : x252_3 < (t286.length : Int)
           ·
            rw [if_pos c65] at H
            have c65b0 : decide (x252_3 < (t286.length : Int)) = true := decide_eq_true c65
            clear c65
            (first | rw [c65b0] | (simp only [i64_w, i32_w]; rw [c65b0]) | skip)
            by_cases c66 : 0 ≤ x252_3
            ·
             rw [if_pos c66] at H
             have c66b0 : decide (0 ≤ x252_3) = true := decide_eq_true c66
             clear c66
             by_cases c67 : x252_3 < (t286.length : Int)
             ·
              rw [if_pos c67] at H
              have c67b0 : decide (x252_3 < (t286.length : Int)) = true := decide_eq_true c67
              clear c67
              by_cases c68 : (rd t286 x252_3) = 0
              ·
               rw [if_pos c68] at H
               exact absurd H (by simp)
              ·
               rw [if_neg c68] at H
               have c68b0 : ((rd t286 x252_3) == 0) = false := beq_eq_false_iff_ne.mpr c68
               have c68b1 : ((rd t286 x252_3) != 0) = true := bne_iff_ne.mpr c68
               by_cases c69 : (Int.tmod t300 (rd t286 x252_3)) = 0
               ·
                rw [if_pos c69] at H
                have c69b0 : ((Int.tmod t300 (rd t286 x252_3)) == 0) = true := beq_iff_eq.mpr c69
                have c69b1 : ((Int.tmod t300 (rd t286 x252_3)) != 0) = false := bne_eq_false_iff_eq.mpr c69
                clear c69
                have H' := Aside0.mk H
                clear H
                have p317 : 0 ≤ (x252_3 : Int) := of_decide_eq_true (by first | (with_reducible assumption) | assumption)
                have q317 : x252_3 < (t286.length : Int) := of_decide_eq_true (by first | (with_reducible assumption) | assumption)
                obtain ⟨ad317, e317, hx317_0⟩ := Kd.at_int (Kd.V_reads' HO_250.out).2.2 x252_3 p317 q317
                cases e317
                replace p317 := eq_true p317
                replace q317 := eq_true q317
                go_wp2
                repeat (go_quiet (fail); try go_wp2)
                go_roundg k3
                case measure => have := HJ11.out; have := HJ24.out; have := HK3.out; omega
                case rel => exact ⟨(wrap64 (x252_3 + 1)), (by first | rfl | (simp; done) | (simp [*]; done)), H', ⟨by have := HJ11.out; have := HJ24.out; have := HK3.out; omega⟩, ⟨by (with_reducible repeat (first | apply Kd.V_alloc | apply Kd.V_drewN | apply Kd.V_drew)); exact HO_250.out⟩, ⟨by repeat (first | (with_reducible first | exact HB.out | apply below_alloc | apply pw_below_drewN | apply below_drew1) | exact HB.out)⟩⟩
               ·
                rw [if_neg c69] at H
                exact absurd (H.trans (congrArg some HE_.out)) (by simp)
             ·
              rw [if_neg c67] at H
              exact absurd H (by simp)
            ·
             rw [if_neg c66] at H
             exact absurd H (by simp)
           ·
            rw [if_neg c65] at H
            have c65b0 : decide (x252_3 < (t286.length : Int)) = false := decide_eq_false c65
            clear c65
            (first | rw [c65b0] | (simp only [i64_w, i32_w]; rw [c65b0]) | skip)
            have H' := Aside0.mk H
            clear H
            go_wp2
            repeat (go_quiet (fail); try go_wp2)
            go_meet
            case rel => exact ⟨_, H', ⟨by have := HJ11.out; have := HJ24.out; have := HK3.out; first | omega | exact Nat.le_refl _⟩, ⟨by repeat (first | (with_reducible first | exact HB.out | apply below_alloc | apply pw_below_drewN | apply below_drew1) | exact HB.out)⟩⟩
        ·
         replace c64 := Bool.eq_false_iff.mpr c64
         subst c64
         have H1 : (laws_FnFormsLeft.j10 kj24 l1) = some r := by rw [if_neg (show ¬ (false = true) by decide)] at H; exact H
         clear H
         have H := H1
         clear H1
         have H' := Aside0.mk H
         clear H
         go_wp2
         repeat (go_quiet (fail); try go_wp2)
         go_meet
         case rel => exact ⟨_, H', ⟨by have := HJ11.out; have := HJ24.out; first | omega | exact Nat.le_refl _⟩, ⟨by repeat (first | (with_reducible first | exact HB.out | apply below_alloc | apply pw_below_drewN | apply below_drew1) | exact HB.out)⟩⟩
       case rest => as_aux_lemma =>
        clear HC63
        try clear c1
        try clear c4
        try clear c24
        obtain ⟨kq, HA, HJ62, HB⟩ := hcut
        cases kq with
        | zero => exact absurd HA.out (by simp [laws_FnFormsLeft.j10])
        | succ kj62 =>
         have H := HA.out
         clear HA
         simp only [laws_FnFormsLeft.j10] at H
         replace H := Option.bind_eq_some_iff.mp H
         obtain ⟨⟨t318, t321, t324⟩, A700, H⟩ := H
         replace H : ((impl_CountWith.f kj62 t318 t321 t324).bind fun bt325 => ((spec_CountWith.f kj62 t318 t321 t324).bind fun bt327 => ((spec_DrawRemaindersOf.f kj62 l1).bind fun bt329 => ((impl_RemaindersOf.f kj62 bt329.1 bt329.2).bind fun bt333 => ((spec_RemaindersOf.f kj62 bt329.1 bt329.2).bind fun bt337 => ((spec_DrawTurnFormation.f l1).bind fun bt341 => ((impl_TurnFormation.f kj62 bt341.1 bt341.2).bind fun bt343 => ((spec_TurnFormation.f kj62 bt341.1 bt341.2).bind fun bt347 => ((impl_TimesTurned.f kj62 bt341.1 bt341.2).bind fun bt351 => ((spec_TimesTurned.f kj62 bt341.1 bt341.2).bind fun bt353 => (if (bt325.2 != bt327.2) = true then (laws_FnFormsLeft.j11 kj62 t318 t321 t324 bt325.1 bt325.2 bt341.1 bt341.2 bt343.1 bt343.2 bt351.1 true) else (if bt325.1 = bt327.1 then (if (bt333.2 != bt337.2) = true then (laws_FnFormsLeft.j11 kj62 t318 t321 t324 bt325.1 bt325.2 bt341.1 bt341.2 bt343.1 bt343.2 bt351.1 true) else ((laws_mSame.f kj62 bt333.1 bt337.1).bind fun t355 => (if t355 = true then (if (bt343.2 != bt347.2) = true then (laws_FnFormsLeft.j11 kj62 t318 t321 t324 bt325.1 bt325.2 bt341.1 bt341.2 bt343.1 bt343.2 bt351.1 true) else ((laws_mSame.f kj62 bt343.1 bt347.1).bind fun t356 => (if t356 = true then (if (bt351.2 != bt353.2) = true then (laws_FnFormsLeft.j11 kj62 t318 t321 t324 bt325.1 bt325.2 bt341.1 bt341.2 bt343.1 bt343.2 bt351.1 true) else (if bt351.1 = bt353.1 then (laws_FnFormsLeft.j11 kj62 t318 t321 t324 bt325.1 bt325.2 bt341.1 bt341.2 bt343.1 bt343.2 bt351.1 (bt351.2 != bt343.2)) else (laws_FnFormsLeft.j11 kj62 t318 t321 t324 bt325.1 bt325.2 bt341.1 bt341.2 bt343.1 bt343.2 bt351.1 true))) else (laws_FnFormsLeft.j11 kj62 t318 t321 t324 bt325.1 bt325.2 bt341.1 bt341.2 bt343.1 bt343.2 bt351.1 true)))) else (laws_FnFormsLeft.j11 kj62 t318 t321 t324 bt325.1 bt325.2 bt341.1 bt341.2 bt343.1 bt343.2 bt351.1 true)))) else (laws_FnFormsLeft.j11 kj62 t318 t321 t324 bt325.1 bt325.2 bt341.1 bt341.2 bt343.1 bt343.2 bt351.1 true))))))))))))) = some r := H
         have A70 := Aside0.mk A700
         clear A700
         replace H := Option.bind_eq_some_iff.mp H
         obtain ⟨⟨t325, t326⟩, A710, H⟩ := H
         replace H : ((spec_CountWith.f kj62 t318 t321 t324).bind fun bt327 => ((spec_DrawRemaindersOf.f kj62 l1).bind fun bt329 => ((impl_RemaindersOf.f kj62 bt329.1 bt329.2).bind fun bt333 => ((spec_RemaindersOf.f kj62 bt329.1 bt329.2).bind fun bt337 => ((spec_DrawTurnFormation.f l1).bind fun bt341 => ((impl_TurnFormation.f kj62 bt341.1 bt341.2).bind fun bt343 => ((spec_TurnFormation.f kj62 bt341.1 bt341.2).bind fun bt347 => ((impl_TimesTurned.f kj62 bt341.1 bt341.2).bind fun bt351 => ((spec_TimesTurned.f kj62 bt341.1 bt341.2).bind fun bt353 => (if (t326 != bt327.2) = true then (laws_FnFormsLeft.j11 kj62 t318 t321 t324 t325 t326 bt341.1 bt341.2 bt343.1 bt343.2 bt351.1 true) else (if t325 = bt327.1 then (if (bt333.2 != bt337.2) = true then (laws_FnFormsLeft.j11 kj62 t318 t321 t324 t325 t326 bt341.1 bt341.2 bt343.1 bt343.2 bt351.1 true) else ((laws_mSame.f kj62 bt333.1 bt337.1).bind fun t355 => (if t355 = true then (if (bt343.2 != bt347.2) = true then (laws_FnFormsLeft.j11 kj62 t318 t321 t324 t325 t326 bt341.1 bt341.2 bt343.1 bt343.2 bt351.1 true) else ((laws_mSame.f kj62 bt343.1 bt347.1).bind fun t356 => (if t356 = true then (if (bt351.2 != bt353.2) = true then (laws_FnFormsLeft.j11 kj62 t318 t321 t324 t325 t326 bt341.1 bt341.2 bt343.1 bt343.2 bt351.1 true) else (if bt351.1 = bt353.1 then (laws_FnFormsLeft.j11 kj62 t318 t321 t324 t325 t326 bt341.1 bt341.2 bt343.1 bt343.2 bt351.1 (bt351.2 != bt343.2)) else (laws_FnFormsLeft.j11 kj62 t318 t321 t324 t325 t326 bt341.1 bt341.2 bt343.1 bt343.2 bt351.1 true))) else (laws_FnFormsLeft.j11 kj62 t318 t321 t324 t325 t326 bt341.1 bt341.2 bt343.1 bt343.2 bt351.1 true)))) else (laws_FnFormsLeft.j11 kj62 t318 t321 t324 t325 t326 bt341.1 bt341.2 bt343.1 bt343.2 bt351.1 true)))) else (laws_FnFormsLeft.j11 kj62 t318 t321 t324 t325 t326 bt341.1 bt341.2 bt343.1 bt343.2 bt351.1 true)))))))))))) = some r := H
         have A71 := Aside0.mk A710
         clear A710
         replace H := Option.bind_eq_some_iff.mp H
         obtain ⟨⟨t327, t328⟩, A720, H⟩ := H
         replace H : ((spec_DrawRemaindersOf.f kj62 l1).bind fun bt329 => ((impl_RemaindersOf.f kj62 bt329.1 bt329.2).bind fun bt333 => ((spec_RemaindersOf.f kj62 bt329.1 bt329.2).bind fun bt337 => ((spec_DrawTurnFormation.f l1).bind fun bt341 => ((impl_TurnFormation.f kj62 bt341.1 bt341.2).bind fun bt343 => ((spec_TurnFormation.f kj62 bt341.1 bt341.2).bind fun bt347 => ((impl_TimesTurned.f kj62 bt341.1 bt341.2).bind fun bt351 => ((spec_TimesTurned.f kj62 bt341.1 bt341.2).bind fun bt353 => (if (t326 != t328) = true then (laws_FnFormsLeft.j11 kj62 t318 t321 t324 t325 t326 bt341.1 bt341.2 bt343.1 bt343.2 bt351.1 true) else (if t325 = t327 then (if (bt333.2 != bt337.2) = true then (laws_FnFormsLeft.j11 kj62 t318 t321 t324 t325 t326 bt341.1 bt341.2 bt343.1 bt343.2 bt351.1 true) else ((laws_mSame.f kj62 bt333.1 bt337.1).bind fun t355 => (if t355 = true then (if (bt343.2 != bt347.2) = true then (laws_FnFormsLeft.j11 kj62 t318 t321 t324 t325 t326 bt341.1 bt341.2 bt343.1 bt343.2 bt351.1 true) else ((laws_mSame.f kj62 bt343.1 bt347.1).bind fun t356 => (if t356 = true then (if (bt351.2 != bt353.2) = true then (laws_FnFormsLeft.j11 kj62 t318 t321 t324 t325 t326 bt341.1 bt341.2 bt343.1 bt343.2 bt351.1 true) else (if bt351.1 = bt353.1 then (laws_FnFormsLeft.j11 kj62 t318 t321 t324 t325 t326 bt341.1 bt341.2 bt343.1 bt343.2 bt351.1 (bt351.2 != bt343.2)) else (laws_FnFormsLeft.j11 kj62 t318 t321 t324 t325 t326 bt341.1 bt341.2 bt343.1 bt343.2 bt351.1 true))) else (laws_FnFormsLeft.j11 kj62 t318 t321 t324 t325 t326 bt341.1 bt341.2 bt343.1 bt343.2 bt351.1 true)))) else (laws_FnFormsLeft.j11 kj62 t318 t321 t324 t325 t326 bt341.1 bt341.2 bt343.1 bt343.2 bt351.1 true)))) else (laws_FnFormsLeft.j11 kj62 t318 t321 t324 t325 t326 bt341.1 bt341.2 bt343.1 bt343.2 bt351.1 true))))))))))) = some r := H
         have A72 := Aside0.mk A720
         clear A720
         replace H := Option.bind_eq_some_iff.mp H
         obtain ⟨⟨t329, t330⟩, A730, H⟩ := H
         replace H : ((impl_RemaindersOf.f kj62 t329 t330).bind fun bt333 => ((spec_RemaindersOf.f kj62 t329 t330).bind fun bt337 => ((spec_DrawTurnFormation.f l1).bind fun bt341 => ((impl_TurnFormation.f kj62 bt341.1 bt341.2).bind fun bt343 => ((spec_TurnFormation.f kj62 bt341.1 bt341.2).bind fun bt347 => ((impl_TimesTurned.f kj62 bt341.1 bt341.2).bind fun bt351 => ((spec_TimesTurned.f kj62 bt341.1 bt341.2).bind fun bt353 => (if (t326 != t328) = true then (laws_FnFormsLeft.j11 kj62 t318 t321 t324 t325 t326 bt341.1 bt341.2 bt343.1 bt343.2 bt351.1 true) else (if t325 = t327 then (if (bt333.2 != bt337.2) = true then (laws_FnFormsLeft.j11 kj62 t318 t321 t324 t325 t326 bt341.1 bt341.2 bt343.1 bt343.2 bt351.1 true) else ((laws_mSame.f kj62 bt333.1 bt337.1).bind fun t355 => (if t355 = true then (if (bt343.2 != bt347.2) = true then (laws_FnFormsLeft.j11 kj62 t318 t321 t324 t325 t326 bt341.1 bt341.2 bt343.1 bt343.2 bt351.1 true) else ((laws_mSame.f kj62 bt343.1 bt347.1).bind fun t356 => (if t356 = true then (if (bt351.2 != bt353.2) = true then (laws_FnFormsLeft.j11 kj62 t318 t321 t324 t325 t326 bt341.1 bt341.2 bt343.1 bt343.2 bt351.1 true) else (if bt351.1 = bt353.1 then (laws_FnFormsLeft.j11 kj62 t318 t321 t324 t325 t326 bt341.1 bt341.2 bt343.1 bt343.2 bt351.1 (bt351.2 != bt343.2)) else (laws_FnFormsLeft.j11 kj62 t318 t321 t324 t325 t326 bt341.1 bt341.2 bt343.1 bt343.2 bt351.1 true))) else (laws_FnFormsLeft.j11 kj62 t318 t321 t324 t325 t326 bt341.1 bt341.2 bt343.1 bt343.2 bt351.1 true)))) else (laws_FnFormsLeft.j11 kj62 t318 t321 t324 t325 t326 bt341.1 bt341.2 bt343.1 bt343.2 bt351.1 true)))) else (laws_FnFormsLeft.j11 kj62 t318 t321 t324 t325 t326 bt341.1 bt341.2 bt343.1 bt343.2 bt351.1 true)))))))))) = some r := H
         have A73 := Aside0.mk A730
         clear A730
         replace H := Option.bind_eq_some_iff.mp H
         obtain ⟨⟨t333, t334⟩, A740, H⟩ := H
         replace H : ((spec_RemaindersOf.f kj62 t329 t330).bind fun bt337 => ((spec_DrawTurnFormation.f l1).bind fun bt341 => ((impl_TurnFormation.f kj62 bt341.1 bt341.2).bind fun bt343 => ((spec_TurnFormation.f kj62 bt341.1 bt341.2).bind fun bt347 => ((impl_TimesTurned.f kj62 bt341.1 bt341.2).bind fun bt351 => ((spec_TimesTurned.f kj62 bt341.1 bt341.2).bind fun bt353 => (if (t326 != t328) = true then (laws_FnFormsLeft.j11 kj62 t318 t321 t324 t325 t326 bt341.1 bt341.2 bt343.1 bt343.2 bt351.1 true) else (if t325 = t327 then (if (t334 != bt337.2) = true then (laws_FnFormsLeft.j11 kj62 t318 t321 t324 t325 t326 bt341.1 bt341.2 bt343.1 bt343.2 bt351.1 true) else ((laws_mSame.f kj62 t333 bt337.1).bind fun t355 => (if t355 = true then (if (bt343.2 != bt347.2) = true then (laws_FnFormsLeft.j11 kj62 t318 t321 t324 t325 t326 bt341.1 bt341.2 bt343.1 bt343.2 bt351.1 true) else ((laws_mSame.f kj62 bt343.1 bt347.1).bind fun t356 => (if t356 = true then (if (bt351.2 != bt353.2) = true then (laws_FnFormsLeft.j11 kj62 t318 t321 t324 t325 t326 bt341.1 bt341.2 bt343.1 bt343.2 bt351.1 true) else (if bt351.1 = bt353.1 then (laws_FnFormsLeft.j11 kj62 t318 t321 t324 t325 t326 bt341.1 bt341.2 bt343.1 bt343.2 bt351.1 (bt351.2 != bt343.2)) else (laws_FnFormsLeft.j11 kj62 t318 t321 t324 t325 t326 bt341.1 bt341.2 bt343.1 bt343.2 bt351.1 true))) else (laws_FnFormsLeft.j11 kj62 t318 t321 t324 t325 t326 bt341.1 bt341.2 bt343.1 bt343.2 bt351.1 true)))) else (laws_FnFormsLeft.j11 kj62 t318 t321 t324 t325 t326 bt341.1 bt341.2 bt343.1 bt343.2 bt351.1 true)))) else (laws_FnFormsLeft.j11 kj62 t318 t321 t324 t325 t326 bt341.1 bt341.2 bt343.1 bt343.2 bt351.1 true))))))))) = some r := H
         have A74 := Aside0.mk A740
         clear A740
         replace H := Option.bind_eq_some_iff.mp H
         obtain ⟨⟨t337, t338⟩, A750, H⟩ := H
         replace H : ((spec_DrawTurnFormation.f l1).bind fun bt341 => ((impl_TurnFormation.f kj62 bt341.1 bt341.2).bind fun bt343 => ((spec_TurnFormation.f kj62 bt341.1 bt341.2).bind fun bt347 => ((impl_TimesTurned.f kj62 bt341.1 bt341.2).bind fun bt351 => ((spec_TimesTurned.f kj62 bt341.1 bt341.2).bind fun bt353 => (if (t326 != t328) = true then (laws_FnFormsLeft.j11 kj62 t318 t321 t324 t325 t326 bt341.1 bt341.2 bt343.1 bt343.2 bt351.1 true) else (if t325 = t327 then (if (t334 != t338) = true then (laws_FnFormsLeft.j11 kj62 t318 t321 t324 t325 t326 bt341.1 bt341.2 bt343.1 bt343.2 bt351.1 true) else ((laws_mSame.f kj62 t333 t337).bind fun t355 => (if t355 = true then (if (bt343.2 != bt347.2) = true then (laws_FnFormsLeft.j11 kj62 t318 t321 t324 t325 t326 bt341.1 bt341.2 bt343.1 bt343.2 bt351.1 true) else ((laws_mSame.f kj62 bt343.1 bt347.1).bind fun t356 => (if t356 = true then (if (bt351.2 != bt353.2) = true then (laws_FnFormsLeft.j11 kj62 t318 t321 t324 t325 t326 bt341.1 bt341.2 bt343.1 bt343.2 bt351.1 true) else (if bt351.1 = bt353.1 then (laws_FnFormsLeft.j11 kj62 t318 t321 t324 t325 t326 bt341.1 bt341.2 bt343.1 bt343.2 bt351.1 (bt351.2 != bt343.2)) else (laws_FnFormsLeft.j11 kj62 t318 t321 t324 t325 t326 bt341.1 bt341.2 bt343.1 bt343.2 bt351.1 true))) else (laws_FnFormsLeft.j11 kj62 t318 t321 t324 t325 t326 bt341.1 bt341.2 bt343.1 bt343.2 bt351.1 true)))) else (laws_FnFormsLeft.j11 kj62 t318 t321 t324 t325 t326 bt341.1 bt341.2 bt343.1 bt343.2 bt351.1 true)))) else (laws_FnFormsLeft.j11 kj62 t318 t321 t324 t325 t326 bt341.1 bt341.2 bt343.1 bt343.2 bt351.1 true)))))))) = some r := H
         have A75 := Aside0.mk A750
         clear A750
         replace H := Option.bind_eq_some_iff.mp H
         obtain ⟨⟨t341, t342⟩, A760, H⟩ := H
         replace H : ((impl_TurnFormation.f kj62 t341 t342).bind fun bt343 => ((spec_TurnFormation.f kj62 t341 t342).bind fun bt347 => ((impl_TimesTurned.f kj62 t341 t342).bind fun bt351 => ((spec_TimesTurned.f kj62 t341 t342).bind fun bt353 => (if (t326 != t328) = true then (laws_FnFormsLeft.j11 kj62 t318 t321 t324 t325 t326 t341 t342 bt343.1 bt343.2 bt351.1 true) else (if t325 = t327 then (if (t334 != t338) = true then (laws_FnFormsLeft.j11 kj62 t318 t321 t324 t325 t326 t341 t342 bt343.1 bt343.2 bt351.1 true) else ((laws_mSame.f kj62 t333 t337).bind fun t355 => (if t355 = true then (if (bt343.2 != bt347.2) = true then (laws_FnFormsLeft.j11 kj62 t318 t321 t324 t325 t326 t341 t342 bt343.1 bt343.2 bt351.1 true) else ((laws_mSame.f kj62 bt343.1 bt347.1).bind fun t356 => (if t356 = true then (if (bt351.2 != bt353.2) = true then (laws_FnFormsLeft.j11 kj62 t318 t321 t324 t325 t326 t341 t342 bt343.1 bt343.2 bt351.1 true) else (if bt351.1 = bt353.1 then (laws_FnFormsLeft.j11 kj62 t318 t321 t324 t325 t326 t341 t342 bt343.1 bt343.2 bt351.1 (bt351.2 != bt343.2)) else (laws_FnFormsLeft.j11 kj62 t318 t321 t324 t325 t326 t341 t342 bt343.1 bt343.2 bt351.1 true))) else (laws_FnFormsLeft.j11 kj62 t318 t321 t324 t325 t326 t341 t342 bt343.1 bt343.2 bt351.1 true)))) else (laws_FnFormsLeft.j11 kj62 t318 t321 t324 t325 t326 t341 t342 bt343.1 bt343.2 bt351.1 true)))) else (laws_FnFormsLeft.j11 kj62 t318 t321 t324 t325 t326 t341 t342 bt343.1 bt343.2 bt351.1 true))))))) = some r := H
         have A76 := Aside0.mk A760
         clear A760
         replace H := Option.bind_eq_some_iff.mp H
         obtain ⟨⟨t343, t344⟩, A770, H⟩ := H
         replace H : ((spec_TurnFormation.f kj62 t341 t342).bind fun bt347 => ((impl_TimesTurned.f kj62 t341 t342).bind fun bt351 => ((spec_TimesTurned.f kj62 t341 t342).bind fun bt353 => (if (t326 != t328) = true then (laws_FnFormsLeft.j11 kj62 t318 t321 t324 t325 t326 t341 t342 t343 t344 bt351.1 true) else (if t325 = t327 then (if (t334 != t338) = true then (laws_FnFormsLeft.j11 kj62 t318 t321 t324 t325 t326 t341 t342 t343 t344 bt351.1 true) else ((laws_mSame.f kj62 t333 t337).bind fun t355 => (if t355 = true then (if (t344 != bt347.2) = true then (laws_FnFormsLeft.j11 kj62 t318 t321 t324 t325 t326 t341 t342 t343 t344 bt351.1 true) else ((laws_mSame.f kj62 t343 bt347.1).bind fun t356 => (if t356 = true then (if (bt351.2 != bt353.2) = true then (laws_FnFormsLeft.j11 kj62 t318 t321 t324 t325 t326 t341 t342 t343 t344 bt351.1 true) else (if bt351.1 = bt353.1 then (laws_FnFormsLeft.j11 kj62 t318 t321 t324 t325 t326 t341 t342 t343 t344 bt351.1 (bt351.2 != t344)) else (laws_FnFormsLeft.j11 kj62 t318 t321 t324 t325 t326 t341 t342 t343 t344 bt351.1 true))) else (laws_FnFormsLeft.j11 kj62 t318 t321 t324 t325 t326 t341 t342 t343 t344 bt351.1 true)))) else (laws_FnFormsLeft.j11 kj62 t318 t321 t324 t325 t326 t341 t342 t343 t344 bt351.1 true)))) else (laws_FnFormsLeft.j11 kj62 t318 t321 t324 t325 t326 t341 t342 t343 t344 bt351.1 true)))))) = some r := H
         have A77 := Aside0.mk A770
         clear A770
         replace H := Option.bind_eq_some_iff.mp H
         obtain ⟨⟨t347, t348⟩, A780, H⟩ := H
         replace H : ((impl_TimesTurned.f kj62 t341 t342).bind fun bt351 => ((spec_TimesTurned.f kj62 t341 t342).bind fun bt353 => (if (t326 != t328) = true then (laws_FnFormsLeft.j11 kj62 t318 t321 t324 t325 t326 t341 t342 t343 t344 bt351.1 true) else (if t325 = t327 then (if (t334 != t338) = true then (laws_FnFormsLeft.j11 kj62 t318 t321 t324 t325 t326 t341 t342 t343 t344 bt351.1 true) else ((laws_mSame.f kj62 t333 t337).bind fun t355 => (if t355 = true then (if (t344 != t348) = true then (laws_FnFormsLeft.j11 kj62 t318 t321 t324 t325 t326 t341 t342 t343 t344 bt351.1 true) else ((laws_mSame.f kj62 t343 t347).bind fun t356 => (if t356 = true then (if (bt351.2 != bt353.2) = true then (laws_FnFormsLeft.j11 kj62 t318 t321 t324 t325 t326 t341 t342 t343 t344 bt351.1 true) else (if bt351.1 = bt353.1 then (laws_FnFormsLeft.j11 kj62 t318 t321 t324 t325 t326 t341 t342 t343 t344 bt351.1 (bt351.2 != t344)) else (laws_FnFormsLeft.j11 kj62 t318 t321 t324 t325 t326 t341 t342 t343 t344 bt351.1 true))) else (laws_FnFormsLeft.j11 kj62 t318 t321 t324 t325 t326 t341 t342 t343 t344 bt351.1 true)))) else (laws_FnFormsLeft.j11 kj62 t318 t321 t324 t325 t326 t341 t342 t343 t344 bt351.1 true)))) else (laws_FnFormsLeft.j11 kj62 t318 t321 t324 t325 t326 t341 t342 t343 t344 bt351.1 true))))) = some r := H
         have A78 := Aside0.mk A780
         clear A780
         replace H := Option.bind_eq_some_iff.mp H
         obtain ⟨⟨t351, t352⟩, A790, H⟩ := H
         replace H : ((spec_TimesTurned.f kj62 t341 t342).bind fun bt353 => (if (t326 != t328) = true then (laws_FnFormsLeft.j11 kj62 t318 t321 t324 t325 t326 t341 t342 t343 t344 t351 true) else (if t325 = t327 then (if (t334 != t338) = true then (laws_FnFormsLeft.j11 kj62 t318 t321 t324 t325 t326 t341 t342 t343 t344 t351 true) else ((laws_mSame.f kj62 t333 t337).bind fun t355 => (if t355 = true then (if (t344 != t348) = true then (laws_FnFormsLeft.j11 kj62 t318 t321 t324 t325 t326 t341 t342 t343 t344 t351 true) else ((laws_mSame.f kj62 t343 t347).bind fun t356 => (if t356 = true then (if (t352 != bt353.2) = true then (laws_FnFormsLeft.j11 kj62 t318 t321 t324 t325 t326 t341 t342 t343 t344 t351 true) else (if t351 = bt353.1 then (laws_FnFormsLeft.j11 kj62 t318 t321 t324 t325 t326 t341 t342 t343 t344 t351 (t352 != t344)) else (laws_FnFormsLeft.j11 kj62 t318 t321 t324 t325 t326 t341 t342 t343 t344 t351 true))) else (laws_FnFormsLeft.j11 kj62 t318 t321 t324 t325 t326 t341 t342 t343 t344 t351 true)))) else (laws_FnFormsLeft.j11 kj62 t318 t321 t324 t325 t326 t341 t342 t343 t344 t351 true)))) else (laws_FnFormsLeft.j11 kj62 t318 t321 t324 t325 t326 t341 t342 t343 t344 t351 true)))) = some r := H
         have A79 := Aside0.mk A790
         clear A790
         replace H := Option.bind_eq_some_iff.mp H
         obtain ⟨⟨t353, t354⟩, A800, H⟩ := H
         replace H : (if (t326 != t328) = true then (laws_FnFormsLeft.j11 kj62 t318 t321 t324 t325 t326 t341 t342 t343 t344 t351 true) else (if t325 = t327 then (if (t334 != t338) = true then (laws_FnFormsLeft.j11 kj62 t318 t321 t324 t325 t326 t341 t342 t343 t344 t351 true) else ((laws_mSame.f kj62 t333 t337).bind fun t355 => (if t355 = true then (if (t344 != t348) = true then (laws_FnFormsLeft.j11 kj62 t318 t321 t324 t325 t326 t341 t342 t343 t344 t351 true) else ((laws_mSame.f kj62 t343 t347).bind fun t356 => (if t356 = true then (if (t352 != t354) = true then (laws_FnFormsLeft.j11 kj62 t318 t321 t324 t325 t326 t341 t342 t343 t344 t351 true) else (if t351 = t353 then (laws_FnFormsLeft.j11 kj62 t318 t321 t324 t325 t326 t341 t342 t343 t344 t351 (t352 != t344)) else (laws_FnFormsLeft.j11 kj62 t318 t321 t324 t325 t326 t341 t342 t343 t344 t351 true))) else (laws_FnFormsLeft.j11 kj62 t318 t321 t324 t325 t326 t341 t342 t343 t344 t351 true)))) else (laws_FnFormsLeft.j11 kj62 t318 t321 t324 t325 t326 t341 t342 t343 t344 t351 true)))) else (laws_FnFormsLeft.j11 kj62 t318 t321 t324 t325 t326 t341 t342 t343 t344 t351 true))) = some r := H
         have A80 := Aside0.mk A800
         clear A800
         have HC81 := Aside0.mk H
         clear H
         go_upto_region 55 with (first | (go_at_call 28; (with_reducible refine (spec_DrawCountWith.calls kj62 _ _ l1 t318 t321 t324 _ ?side1 ?side2 A70.out).mono ?_); (case side1 => repeat (first | exact (Kd.C_below HR1.out HB.out) | (with_reducible refine Kd.C_alloc ?_ _) | (with_reducible refine Kd.C_drewN ?_ _) | (with_reducible refine Kd.C_drew ?_))); (case side2 => exact HC1.out); rintro e w82 ⟨v319, v322, rfl, ho0, ho1, hb⟩; have n0_ := Aside0.mk (Kd.V_lower (Kd.V_mono (ok' := fun k_ => some k_ ≠ (v322 : Value).ownBlock) ho0 (fun k_ hk_ => hk_.2)) (below_size (by repeat (first | (with_reducible first | exact HB.out | apply below_alloc | apply pw_below_drewN | apply below_drew1) | exact HB.out)))); have n1_ := Aside0.mk (Kd.R_lower (Kd.R_mono (ok' := fun k_ => True) ho1 (fun _ hk_ => trivial)) (below_size (by repeat (first | (with_reducible first | exact HB.out | apply below_alloc | apply pw_below_drewN | apply below_drew1) | exact HB.out)))); have n2_ := Aside0.mk (below_step (by repeat (first | (with_reducible first | exact HB.out | apply below_alloc | apply pw_below_drewN | apply below_drew1) | exact HB.out)) hb); clear HB; have HO320 := n0_; have HO323 := n1_; have HB := n2_; clear n0_ n1_ n2_; (try clear hb); (try clear hb2); (try clear hk); (try clear hi); (try clear ho0); (try clear ho1); obtain ⟨Ao83, co83, eo83⟩ := Kd.V_slice HO320.out; subst eo83; obtain ⟨Ao84, co84, eo84⟩ := Kd.R_slice HO323.out; subst eo84) | (go_at_call 17; (with_reducible refine (impl_CountWith.calls kj62 _ _ t318 _ _ t321 t324 t325 t326 _ ?side1 ?side2 ?side3 ?side4 A71.out).mono ?_); (case side1 => repeat (first | exact (Kd.V_reads' HO320.out).2.2 | (with_reducible refine Kd.C_alloc ?_ _) | (with_reducible refine Kd.C_drewN ?_ _) | (with_reducible refine Kd.C_drew ?_))); (case side2 => exact (Kd.V_reads' HO320.out).2.1); (case side3 => repeat (first | exact (Kd.R_reads' HO323.out).2.2 | (with_reducible refine Kd.C_alloc ?_ _) | (with_reducible refine Kd.C_drewN ?_ _) | (with_reducible refine Kd.C_drew ?_))); (case side4 => exact (Kd.R_reads' HO323.out).2.1); rintro e w' ⟨rfl, ⟨nd, rfl⟩⟩; (try first | exact ⟨rfl, _, World.drewN_drewN _ _ _⟩ | exact ⟨rfl, _, Eq.trans (World.drewN_drewN _ _ _) (congrArg (World.drewN _) (Nat.add_assoc _ _ _))⟩)) | (go_at_call 20; (with_reducible refine (spec_CountWith.calls kj62 _ _ t318 _ _ t321 t324 t327 t328 _ ?side1 ?side2 ?side3 ?side4 A72.out).mono ?_); (case side1 => repeat (first | exact (Kd.V_reads' HO320.out).2.2 | (with_reducible refine Kd.C_alloc ?_ _) | (with_reducible refine Kd.C_drewN ?_ _) | (with_reducible refine Kd.C_drew ?_))); (case side2 => exact (Kd.V_reads' HO320.out).2.1); (case side3 => repeat (first | exact (Kd.R_reads' HO323.out).2.2 | (with_reducible refine Kd.C_alloc ?_ _) | (with_reducible refine Kd.C_drewN ?_ _) | (with_reducible refine Kd.C_drew ?_))); (case side4 => exact (Kd.R_reads' HO323.out).2.1); rintro e w' ⟨rfl, ⟨nd, rfl⟩⟩; (try first | exact ⟨rfl, _, World.drewN_drewN _ _ _⟩ | exact ⟨rfl, _, Eq.trans (World.drewN_drewN _ _ _) (congrArg (World.drewN _) (Nat.add_assoc _ _ _))⟩)) | (go_at_call 29; (with_reducible refine (spec_DrawRemaindersOf.calls kj62 _ _ l1 t329 t330 _ ?side1 ?side2 A73.out).mono ?_); (case side1 => repeat (first | exact (Kd.C_below HR1.out (by repeat (first | (with_reducible first | exact HB.out | apply below_alloc | apply pw_below_drewN | apply below_drew1) | exact HB.out))) | (with_reducible refine Kd.C_alloc ?_ _) | (with_reducible refine Kd.C_drewN ?_ _) | (with_reducible refine Kd.C_drew ?_))); (case side2 => exact HC1.out); rintro e w85 ⟨v331, rfl, ho0, hb⟩; have n0_ := Aside0.mk (Kd.V_below (by (with_reducible repeat (first | apply Kd.V_alloc | apply Kd.V_drewN | apply Kd.V_drew)); exact HO320.out) hb); have n1_ := Aside0.mk (Kd.R_below (by (with_reducible repeat (first | apply Kd.R_alloc | apply Kd.R_drewN | apply Kd.R_drew)); exact HO323.out) hb); have n2_ := Aside0.mk (Kd.V_lower (Kd.V_mono (ok' := fun k_ => some k_ ≠ (.slice Ao84 t321.length co84 : Value).ownBlock) ho0 (fun k_ hk_ => (Kd.fresh' (Kd.R_lt (by (with_reducible repeat (first | apply Kd.R_alloc | apply Kd.R_drewN | apply Kd.R_drew)); exact HO323.out)) k_ hk_))) (below_size (by repeat (first | (with_reducible first | exact HB.out | apply below_alloc | apply pw_below_drewN | apply below_drew1) | exact HB.out)))); have n3_ := Aside0.mk (below_step (by repeat (first | (with_reducible first | exact HB.out | apply below_alloc | apply pw_below_drewN | apply below_drew1) | exact HB.out)) hb); clear HO320; clear HO323; clear HB; have HO320 := n0_; have HO323 := n1_; have HO332 := n2_; have HB := n3_; clear n0_ n1_ n2_ n3_; (try clear hb); (try clear hb2); (try clear hk); (try clear hi); (try clear ho0); obtain ⟨Ao86, co86, eo86⟩ := Kd.V_slice HO332.out; subst eo86) | (go_at_call 18; (with_reducible refine (impl_RemaindersOf.calls kj62 t329 _ _ t330 t333 t334 _ ?side1 ?side2 A74.out).mono ?_); (case side1 => repeat (first | exact (Kd.V_reads' HO332.out).2.2 | (with_reducible refine Kd.C_alloc ?_ _) | (with_reducible refine Kd.C_drewN ?_ _) | (with_reducible refine Kd.C_drew ?_))); (case side2 => exact (Kd.V_reads' HO332.out).2.1); rintro e w87 ⟨v335, rfl, ho0, hb⟩; have n0_ := Aside0.mk (Kd.V_elder' (by (with_reducible repeat (first | apply Kd.V_alloc | apply Kd.V_drewN | apply Kd.V_drew)); exact HO320.out) (Kd.R_base ho0) hb); have n1_ := Aside0.mk (Kd.R_elder' (by (with_reducible repeat (first | apply Kd.R_alloc | apply Kd.R_drewN | apply Kd.R_drew)); exact HO323.out) (Kd.R_base ho0) hb); have n2_ := Aside0.mk (Kd.V_elder' (by (with_reducible repeat (first | apply Kd.V_alloc | apply Kd.V_drewN | apply Kd.V_drew)); exact HO332.out) (Kd.R_base ho0) hb); have n3_ := Aside0.mk (Kd.R_lower (Kd.R_new' ho0 (Kd.R_lt (by (with_reducible repeat (first | apply Kd.R_alloc | apply Kd.R_drewN | apply Kd.R_drew)); exact HO323.out))) (below_size (by repeat (first | (with_reducible first | exact HB.out | apply below_alloc | apply pw_below_drewN | apply below_drew1) | exact HB.out)))); have n4_ := Aside0.mk (below_step (by repeat (first | (with_reducible first | exact HB.out | apply below_alloc | apply pw_below_drewN | apply below_drew1) | exact HB.out)) hb); clear HO320; clear HO323; clear HO332; clear HB; have HO320 := n0_; have HO323 := n1_; have HO332 := n2_; have HO336 := n3_; have HB := n4_; clear n0_ n1_ n2_ n3_ n4_; (try clear hb); (try clear hb2); (try clear hk); (try clear hi); (try clear ho0)) | (go_at_call 21; (with_reducible refine (spec_RemaindersOf.calls kj62 t329 _ _ t330 t337 t338 _ ?side1 ?side2 A75.out).mono ?_); (case side1 => repeat (first | exact (Kd.V_reads' HO332.out).2.2 | (with_reducible refine Kd.C_alloc ?_ _) | (with_reducible refine Kd.C_drewN ?_ _) | (with_reducible refine Kd.C_drew ?_))); (case side2 => exact (Kd.V_reads' HO332.out).2.1); rintro e w88 ⟨v339, rfl, ho0, hb⟩; have n0_ := Aside0.mk (Kd.V_elder' (by (with_reducible repeat (first | apply Kd.V_alloc | apply Kd.V_drewN | apply Kd.V_drew)); exact HO320.out) (Kd.R_base ho0) hb); have n1_ := Aside0.mk (Kd.R_elder' (by (with_reducible repeat (first | apply Kd.R_alloc | apply Kd.R_drewN | apply Kd.R_drew)); exact HO323.out) (Kd.R_base ho0) hb); have n2_ := Aside0.mk (Kd.V_elder' (by (with_reducible repeat (first | apply Kd.V_alloc | apply Kd.V_drewN | apply Kd.V_drew)); exact HO332.out) (Kd.R_base ho0) hb); have n3_ := Aside0.mk (Kd.R_elder' (by (with_reducible repeat (first | apply Kd.R_alloc | apply Kd.R_drewN | apply Kd.R_drew)); exact HO336.out) (Kd.R_base ho0) hb); have n4_ := Aside0.mk (Kd.R_lower (Kd.R_new' (Kd.R_new' ho0 (Kd.R_lt (by (with_reducible repeat (first | apply Kd.R_alloc | apply Kd.R_drewN | apply Kd.R_drew)); exact HO323.out))) (Kd.R_lt (by (with_reducible repeat (first | apply Kd.R_alloc | apply Kd.R_drewN | apply Kd.R_drew)); exact HO336.out))) (below_size (by repeat (first | (with_reducible first | exact HB.out | apply below_alloc | apply pw_below_drewN | apply below_drew1) | exact HB.out)))); have n5_ := Aside0.mk (below_step (by repeat (first | (with_reducible first | exact HB.out | apply below_alloc | apply pw_below_drewN | apply below_drew1) | exact HB.out)) hb); clear HO320; clear HO323; clear HO332; clear HO336; clear HB; have HO320 := n0_; have HO323 := n1_; have HO332 := n2_; have HO336 := n3_; have HO340 := n4_; have HB := n5_; clear n0_ n1_ n2_ n3_ n4_ n5_; (try clear hb); (try clear hb2); (try clear hk); (try clear hi); (try clear ho0)) | (go_at_call 30; (with_reducible refine (spec_DrawTurnFormation.calls _ _ l1 t341 t342 _ ?side1 ?side2 A76.out).mono ?_); (case side1 => repeat (first | exact (Kd.C_below HR1.out HB.out) | (with_reducible refine Kd.C_alloc ?_ _) | (with_reducible refine Kd.C_drewN ?_ _) | (with_reducible refine Kd.C_drew ?_))); (case side2 => exact HC1.out); rintro e w89 ⟨rfl, hb⟩; have n0_ := Aside0.mk (Kd.V_below (by (with_reducible repeat (first | apply Kd.V_alloc | apply Kd.V_drewN | apply Kd.V_drew)); exact HO320.out) hb); have n1_ := Aside0.mk (Kd.R_below (by (with_reducible repeat (first | apply Kd.R_alloc | apply Kd.R_drewN | apply Kd.R_drew)); exact HO323.out) hb); have n2_ := Aside0.mk (Kd.V_below (by (with_reducible repeat (first | apply Kd.V_alloc | apply Kd.V_drewN | apply Kd.V_drew)); exact HO332.out) hb); have n3_ := Aside0.mk (Kd.R_below (by (with_reducible repeat (first | apply Kd.R_alloc | apply Kd.R_drewN | apply Kd.R_drew)); exact HO336.out) hb); have n4_ := Aside0.mk (Kd.R_below (by (with_reducible repeat (first | apply Kd.R_alloc | apply Kd.R_drewN | apply Kd.R_drew)); exact HO340.out) hb); have n5_ := Aside0.mk (below_step (by repeat (first | (with_reducible first | exact HB.out | apply below_alloc | apply pw_below_drewN | apply below_drew1) | exact HB.out)) hb); clear HO320; clear HO323; clear HO332; clear HO336; clear HO340; clear HB; have HO320 := n0_; have HO323 := n1_; have HO332 := n2_; have HO336 := n3_; have HO340 := n4_; have HB := n5_; clear n0_ n1_ n2_ n3_ n4_ n5_; (try clear hb); (try clear hb2); (try clear hk); (try clear hi)) | (go_at_call 22; (with_reducible refine (impl_TurnFormation.calls kj62 t341 t342 t343 t344 _ A77.out).mono ?_); rintro e w90 ⟨v345, rfl, ho0, hb⟩; have n0_ := Aside0.mk (Kd.V_elder' (by (with_reducible repeat (first | apply Kd.V_alloc | apply Kd.V_drewN | apply Kd.V_drew)); exact HO320.out) (Kd.R_base ho0) hb); have n1_ := Aside0.mk (Kd.R_elder' (by (with_reducible repeat (first | apply Kd.R_alloc | apply Kd.R_drewN | apply Kd.R_drew)); exact HO323.out) (Kd.R_base ho0) hb); have n2_ := Aside0.mk (Kd.V_elder' (by (with_reducible repeat (first | apply Kd.V_alloc | apply Kd.V_drewN | apply Kd.V_drew)); exact HO332.out) (Kd.R_base ho0) hb); have n3_ := Aside0.mk (Kd.R_elder' (by (with_reducible repeat (first | apply Kd.R_alloc | apply Kd.R_drewN | apply Kd.R_drew)); exact HO336.out) (Kd.R_base ho0) hb); have n4_ := Aside0.mk (Kd.R_elder' (by (with_reducible repeat (first | apply Kd.R_alloc | apply Kd.R_drewN | apply Kd.R_drew)); exact HO340.out) (Kd.R_base ho0) hb); have n5_ := Aside0.mk (Kd.R_lower (Kd.R_new' (Kd.R_new' (Kd.R_new' ho0 (Kd.R_lt (by (with_reducible repeat (first | apply Kd.R_alloc | apply Kd.R_drewN | apply Kd.R_drew)); exact HO323.out))) (Kd.R_lt (by (with_reducible repeat (first | apply Kd.R_alloc | apply Kd.R_drewN | apply Kd.R_drew)); exact HO336.out))) (Kd.R_lt (by (with_reducible repeat (first | apply Kd.R_alloc | apply Kd.R_drewN | apply Kd.R_drew)); exact HO340.out))) (below_size (by repeat (first | (with_reducible first | exact HB.out | apply below_alloc | apply pw_below_drewN | apply below_drew1) | exact HB.out)))); have n6_ := Aside0.mk (below_step (by repeat (first | (with_reducible first | exact HB.out | apply below_alloc | apply pw_below_drewN | apply below_drew1) | exact HB.out)) hb); clear HO320; clear HO323; clear HO332; clear HO336; clear HO340; clear HB; have HO320 := n0_; have HO323 := n1_; have HO332 := n2_; have HO336 := n3_; have HO340 := n4_; have HO346 := n5_; have HB := n6_; clear n0_ n1_ n2_ n3_ n4_ n5_ n6_; (try clear hb); (try clear hb2); (try clear hk); (try clear hi); (try clear ho0)) | (go_at_call 23; (with_reducible refine (spec_TurnFormation.calls kj62 t341 t342 t347 t348 _ A78.out).mono ?_); rintro e w91 ⟨v349, rfl, ho0, hb⟩; have n0_ := Aside0.mk (Kd.V_elder' (by (with_reducible repeat (first | apply Kd.V_alloc | apply Kd.V_drewN | apply Kd.V_drew)); exact HO320.out) (Kd.R_base ho0) hb); have n1_ := Aside0.mk (Kd.R_elder' (by (with_reducible repeat (first | apply Kd.R_alloc | apply Kd.R_drewN | apply Kd.R_drew)); exact HO323.out) (Kd.R_base ho0) hb); have n2_ := Aside0.mk (Kd.V_elder' (by (with_reducible repeat (first | apply Kd.V_alloc | apply Kd.V_drewN | apply Kd.V_drew)); exact HO332.out) (Kd.R_base ho0) hb); have n3_ := Aside0.mk (Kd.R_elder' (by (with_reducible repeat (first | apply Kd.R_alloc | apply Kd.R_drewN | apply Kd.R_drew)); exact HO336.out) (Kd.R_base ho0) hb); have n4_ := Aside0.mk (Kd.R_elder' (by (with_reducible repeat (first | apply Kd.R_alloc | apply Kd.R_drewN | apply Kd.R_drew)); exact HO340.out) (Kd.R_base ho0) hb); have n5_ := Aside0.mk (Kd.R_elder' (by (with_reducible repeat (first | apply Kd.R_alloc | apply Kd.R_drewN | apply Kd.R_drew)); exact HO346.out) (Kd.R_base ho0) hb); have n6_ := Aside0.mk (Kd.R_lower (Kd.R_new' (Kd.R_new' (Kd.R_new' (Kd.R_new' ho0 (Kd.R_lt (by (with_reducible repeat (first | apply Kd.R_alloc | apply Kd.R_drewN | apply Kd.R_drew)); exact HO323.out))) (Kd.R_lt (by (with_reducible repeat (first | apply Kd.R_alloc | apply Kd.R_drewN | apply Kd.R_drew)); exact HO336.out))) (Kd.R_lt (by (with_reducible repeat (first | apply Kd.R_alloc | apply Kd.R_drewN | apply Kd.R_drew)); exact HO340.out))) (Kd.R_lt (by (with_reducible repeat (first | apply Kd.R_alloc | apply Kd.R_drewN | apply Kd.R_drew)); exact HO346.out))) (below_size (by repeat (first | (with_reducible first | exact HB.out | apply below_alloc | apply pw_below_drewN | apply below_drew1) | exact HB.out)))); have n7_ := Aside0.mk (below_step (by repeat (first | (with_reducible first | exact HB.out | apply below_alloc | apply pw_below_drewN | apply below_drew1) | exact HB.out)) hb); clear HO320; clear HO323; clear HO332; clear HO336; clear HO340; clear HO346; clear HB; have HO320 := n0_; have HO323 := n1_; have HO332 := n2_; have HO336 := n3_; have HO340 := n4_; have HO346 := n5_; have HO350 := n6_; have HB := n7_; clear n0_ n1_ n2_ n3_ n4_ n5_ n6_ n7_; (try clear hb); (try clear hb2); (try clear hk); (try clear hi); (try clear ho0)) | (go_at_call 24; (with_reducible refine (impl_TimesTurned.calls kj62 t341 t342 t351 t352 _ A79.out).mono ?_); rintro e w92 ⟨rfl, hb⟩; have n0_ := Aside0.mk (Kd.V_below (by (with_reducible repeat (first | apply Kd.V_alloc | apply Kd.V_drewN | apply Kd.V_drew)); exact HO320.out) hb); have n1_ := Aside0.mk (Kd.R_below (by (with_reducible repeat (first | apply Kd.R_alloc | apply Kd.R_drewN | apply Kd.R_drew)); exact HO323.out) hb); have n2_ := Aside0.mk (Kd.V_below (by (with_reducible repeat (first | apply Kd.V_alloc | apply Kd.V_drewN | apply Kd.V_drew)); exact HO332.out) hb); have n3_ := Aside0.mk (Kd.R_below (by (with_reducible repeat (first | apply Kd.R_alloc | apply Kd.R_drewN | apply Kd.R_drew)); exact HO336.out) hb); have n4_ := Aside0.mk (Kd.R_below (by (with_reducible repeat (first | apply Kd.R_alloc | apply Kd.R_drewN | apply Kd.R_drew)); exact HO340.out) hb); have n5_ := Aside0.mk (Kd.R_below (by (with_reducible repeat (first | apply Kd.R_alloc | apply Kd.R_drewN | apply Kd.R_drew)); exact HO346.out) hb); have n6_ := Aside0.mk (Kd.R_below (by (with_reducible repeat (first | apply Kd.R_alloc | apply Kd.R_drewN | apply Kd.R_drew)); exact HO350.out) hb); have n7_ := Aside0.mk (below_step (by repeat (first | (with_reducible first | exact HB.out | apply below_alloc | apply pw_below_drewN | apply below_drew1) | exact HB.out)) hb); clear HO320; clear HO323; clear HO332; clear HO336; clear HO340; clear HO346; clear HO350; clear HB; have HO320 := n0_; have HO323 := n1_; have HO332 := n2_; have HO336 := n3_; have HO340 := n4_; have HO346 := n5_; have HO350 := n6_; have HB := n7_; clear n0_ n1_ n2_ n3_ n4_ n5_ n6_ n7_; (try clear hb); (try clear hb2); (try clear hk); (try clear hi)) | (go_at_call 25; (with_reducible refine (spec_TimesTurned.calls kj62 t341 t342 t353 t354 _ A80.out).mono ?_); rintro e w93 ⟨rfl, hb⟩; have n0_ := Aside0.mk (Kd.V_below (by (with_reducible repeat (first | apply Kd.V_alloc | apply Kd.V_drewN | apply Kd.V_drew)); exact HO320.out) hb); have n1_ := Aside0.mk (Kd.R_below (by (with_reducible repeat (first | apply Kd.R_alloc | apply Kd.R_drewN | apply Kd.R_drew)); exact HO323.out) hb); have n2_ := Aside0.mk (Kd.V_below (by (with_reducible repeat (first | apply Kd.V_alloc | apply Kd.V_drewN | apply Kd.V_drew)); exact HO332.out) hb); have n3_ := Aside0.mk (Kd.R_below (by (with_reducible repeat (first | apply Kd.R_alloc | apply Kd.R_drewN | apply Kd.R_drew)); exact HO336.out) hb); have n4_ := Aside0.mk (Kd.R_below (by (with_reducible repeat (first | apply Kd.R_alloc | apply Kd.R_drewN | apply Kd.R_drew)); exact HO340.out) hb); have n5_ := Aside0.mk (Kd.R_below (by (with_reducible repeat (first | apply Kd.R_alloc | apply Kd.R_drewN | apply Kd.R_drew)); exact HO346.out) hb); have n6_ := Aside0.mk (Kd.R_below (by (with_reducible repeat (first | apply Kd.R_alloc | apply Kd.R_drewN | apply Kd.R_drew)); exact HO350.out) hb); have n7_ := Aside0.mk (below_step (by repeat (first | (with_reducible first | exact HB.out | apply below_alloc | apply pw_below_drewN | apply below_drew1) | exact HB.out)) hb); clear HO320; clear HO323; clear HO332; clear HO336; clear HO340; clear HO346; clear HO350; clear HB; have HO320 := n0_; have HO323 := n1_; have HO332 := n2_; have HO336 := n3_; have HO340 := n4_; have HO346 := n5_; have HO350 := n6_; have HB := n7_; clear n0_ n1_ n2_ n3_ n4_ n5_ n6_ n7_; (try clear hb); (try clear hb2); (try clear hk); (try clear hi)))
         (try simp only [Act.put, List.setIfInBounds_toArray, List.set_cons_zero, List.set_cons_succ])
         go_cut [371] from 234 to 371 (fun v371 wc => ∃ (kq : Nat) (x371_80 : Bool), v371 = .bool x371_80 ∧ Aside0 (laws_FnFormsLeft.j11 kq t318 t321 t324 t325 t326 t341 t342 t343 t344 t351 x371_80 = some r) ∧ Aside0 (kq ≤ kj62) ∧ Aside0 (Kd.V (Kd.int .i64) 3 wc w.heap.size (fun k_ => some k_ ≠ ((.slice Ao84 t321.length co84) : Value).ownBlock ∧ some k_ ≠ (v345 : Value).ownBlock) (.slice Ao83 t318.length co83) t318) ∧ Aside0 (Kd.R (Kd.int .i64) 3 wc w.heap.size (fun k_ => some k_ ≠ (v345 : Value).ownBlock) (.slice Ao84 t321.length co84) t321) ∧ Aside0 (Kd.R (Kd.int .i64) 3 wc w.heap.size (fun k_ => some k_ ≠ ((.slice Ao84 t321.length co84) : Value).ownBlock) v345 t343) ∧ Aside0 (Below w.heap.size w wc))
         case first => as_aux_lemma =>
          have H := HC81.out
          clear HC81
          by_cases c94 : (t326 != t328) = true
          ·
           rw [if_pos c94] at H
           exact (laws_FnFormsLeft.j11_no _ _ _ _ _ _ _ _ _ _ _ (H.trans (congrArg some HE_.out))).elim
          ·
           rw [if_neg c94] at H
           have c94b0 : (t326 != t328) = false := by simpa using c94
           (try (have c94b1 : decide (t326 = t328) = true := by simpa using c94))
           (try (have c94b2 : (t326 == t328) = true := by simpa using c94))
           clear c94
           (first | rw [c94b0] | (simp only [i64_w, i32_w]; rw [c94b0]) | skip)
           by_cases c95 : t325 = t327
           ·
            rw [if_pos c95] at H
            have c95b0 : (t325 == t327) = true := beq_iff_eq.mpr c95
            have c95b1 : (t325 != t327) = false := bne_eq_false_iff_eq.mpr c95
            clear c95
            by_cases c96 : (t334 != t338) = true
            ·
             rw [if_pos c96] at H
             exact (laws_FnFormsLeft.j11_no _ _ _ _ _ _ _ _ _ _ _ (H.trans (congrArg some HE_.out))).elim
            ·
             rw [if_neg c96] at H
             have c96b0 : (t334 != t338) = false := by simpa using c96
             (try (have c96b1 : decide (t334 = t338) = true := by simpa using c96))
             (try (have c96b2 : (t334 == t338) = true := by simpa using c96))
             clear c96
             replace H := Option.bind_eq_some_iff.mp H
             obtain ⟨t355, A970, H⟩ := H
             replace H : (if t355 = true then (if (t344 != t348) = true then (laws_FnFormsLeft.j11 kj62 t318 t321 t324 t325 t326 t341 t342 t343 t344 t351 true) else ((laws_mSame.f kj62 t343 t347).bind fun t356 => (if t356 = true then (if (t352 != t354) = true then (laws_FnFormsLeft.j11 kj62 t318 t321 t324 t325 t326 t341 t342 t343 t344 t351 true) else (if t351 = t353 then (laws_FnFormsLeft.j11 kj62 t318 t321 t324 t325 t326 t341 t342 t343 t344 t351 (t352 != t344)) else (laws_FnFormsLeft.j11 kj62 t318 t321 t324 t325 t326 t341 t342 t343 t344 t351 true))) else (laws_FnFormsLeft.j11 kj62 t318 t321 t324 t325 t326 t341 t342 t343 t344 t351 true)))) else (laws_FnFormsLeft.j11 kj62 t318 t321 t324 t325 t326 t341 t342 t343 t344 t351 true)) = some r := H
             have A97 := Aside0.mk A970
             clear A970
             by_cases c98 : t355 = true
             ·
              subst c98
              have H1 : (if (t344 != t348) = true then (laws_FnFormsLeft.j11 kj62 t318 t321 t324 t325 t326 t341 t342 t343 t344 t351 true) else ((laws_mSame.f kj62 t343 t347).bind fun t356 => (if t356 = true then (if (t352 != t354) = true then (laws_FnFormsLeft.j11 kj62 t318 t321 t324 t325 t326 t341 t342 t343 t344 t351 true) else (if t351 = t353 then (laws_FnFormsLeft.j11 kj62 t318 t321 t324 t325 t326 t341 t342 t343 t344 t351 (t352 != t344)) else (laws_FnFormsLeft.j11 kj62 t318 t321 t324 t325 t326 t341 t342 t343 t344 t351 true))) else (laws_FnFormsLeft.j11 kj62 t318 t321 t324 t325 t326 t341 t342 t343 t344 t351 true)))) = some r := by rw [if_pos rfl] at H; exact H
              clear H
              have H := H1
              clear H1
              by_cases c99 : (t344 != t348) = true
              ·
               rw [if_pos c99] at H
               exact (laws_FnFormsLeft.j11_no _ _ _ _ _ _ _ _ _ _ _ (H.trans (congrArg some HE_.out))).elim
              ·
               rw [if_neg c99] at H
               have c99b0 : (t344 != t348) = false := by simpa using c99
               (try (have c99b1 : decide (t344 = t348) = true := by simpa using c99))
               (try (have c99b2 : (t344 == t348) = true := by simpa using c99))
               clear c99
               replace H := Option.bind_eq_some_iff.mp H
               obtain ⟨t356, A1000, H⟩ := H
               replace H : (if t356 = true then (if (t352 != t354) = true then (laws_FnFormsLeft.j11 kj62 t318 t321 t324 t325 t326 t341 t342 t343 t344 t351 true) else (if t351 = t353 then (laws_FnFormsLeft.j11 kj62 t318 t321 t324 t325 t326 t341 t342 t343 t344 t351 (t352 != t344)) else (laws_FnFormsLeft.j11 kj62 t318 t321 t324 t325 t326 t341 t342 t343 t344 t351 true))) else (laws_FnFormsLeft.j11 kj62 t318 t321 t324 t325 t326 t341 t342 t343 t344 t351 true)) = some r := H
               have A100 := Aside0.mk A1000
               clear A1000
               by_cases c101 : t356 = true
               ·
                subst c101
                have H1 : (if (t352 != t354) = true then (laws_FnFormsLeft.j11 kj62 t318 t321 t324 t325 t326 t341 t342 t343 t344 t351 true) else (if t351 = t353 then (laws_FnFormsLeft.j11 kj62 t318 t321 t324 t325 t326 t341 t342 t343 t344 t351 (t352 != t344)) else (laws_FnFormsLeft.j11 kj62 t318 t321 t324 t325 t326 t341 t342 t343 t344 t351 true))) = some r := by rw [if_pos rfl] at H; exact H
                clear H
                have H := H1
                clear H1
                by_cases c102 : (t352 != t354) = true
                ·
                 rw [if_pos c102] at H
                 exact (laws_FnFormsLeft.j11_no _ _ _ _ _ _ _ _ _ _ _ (H.trans (congrArg some HE_.out))).elim
                ·
                 rw [if_neg c102] at H
                 have c102b0 : (t352 != t354) = false := by simpa using c102
                 (try (have c102b1 : decide (t352 = t354) = true := by simpa using c102))
                 (try (have c102b2 : (t352 == t354) = true := by simpa using c102))
                 clear c102
                 by_cases c103 : t351 = t353
                 ·
                  rw [if_pos c103] at H
                  have c103b0 : (t351 == t353) = true := beq_iff_eq.mpr c103
                  have c103b1 : (t351 != t353) = false := bne_eq_false_iff_eq.mpr c103
                  clear c103
                  have H' := Aside0.mk H
                  clear H
                  obtain ⟨Ao104, co104, eo104⟩ := Kd.R_slice HO336.out
                  subst eo104
                  obtain ⟨Ao105, co105, eo105⟩ := Kd.R_slice HO340.out
                  subst eo105
                  go_wp2_with (first | (go_at_call 19; (with_reducible refine (laws_mSame.calls kj62 _ _ t333 _ _ t337 true _ ?side1 ?side2 ?side3 ?side4 A97.out).mono ?_); (case side1 => repeat (first | exact (Kd.R_reads' HO336.out).2.2 | (with_reducible refine Kd.C_alloc ?_ _) | (with_reducible refine Kd.C_drewN ?_ _) | (with_reducible refine Kd.C_drew ?_))); (case side2 => exact (Kd.R_reads' HO336.out).2.1); (case side3 => repeat (first | exact (Kd.R_reads' HO340.out).2.2 | (with_reducible refine Kd.C_alloc ?_ _) | (with_reducible refine Kd.C_drewN ?_ _) | (with_reducible refine Kd.C_drew ?_))); (case side4 => exact (Kd.R_reads' HO340.out).2.1); rintro e w' ⟨rfl, ⟨nd, rfl⟩⟩; (try first | exact ⟨rfl, _, World.drewN_drewN _ _ _⟩ | exact ⟨rfl, _, Eq.trans (World.drewN_drewN _ _ _) (congrArg (World.drewN _) (Nat.add_assoc _ _ _))⟩); obtain ⟨Ao106, co106, eo106⟩ := Kd.R_slice HO346.out; subst eo106; obtain ⟨Ao107, co107, eo107⟩ := Kd.R_slice HO350.out; subst eo107) | (go_at_call 19; (with_reducible refine (laws_mSame.calls kj62 _ _ t343 _ _ t347 true _ ?side1 ?side2 ?side3 ?side4 A100.out).mono ?_); (case side1 => repeat (first | exact (Kd.R_reads' HO346.out).2.2 | (with_reducible refine Kd.C_alloc ?_ _) | (with_reducible refine Kd.C_drewN ?_ _) | (with_reducible refine Kd.C_drew ?_))); (case side2 => exact (Kd.R_reads' HO346.out).2.1); (case side3 => repeat (first | exact (Kd.R_reads' HO350.out).2.2 | (with_reducible refine Kd.C_alloc ?_ _) | (with_reducible refine Kd.C_drewN ?_ _) | (with_reducible refine Kd.C_drew ?_))); (case side4 => exact (Kd.R_reads' HO350.out).2.1); rintro e w' ⟨rfl, ⟨nd, rfl⟩⟩; (try first | exact ⟨rfl, _, World.drewN_drewN _ _ _⟩ | exact ⟨rfl, _, Eq.trans (World.drewN_drewN _ _ _) (congrArg (World.drewN _) (Nat.add_assoc _ _ _))⟩)))
                  repeat (go_quiet (first | (go_at_call 19; (with_reducible refine (laws_mSame.calls kj62 _ _ t333 _ _ t337 true _ ?side1 ?side2 ?side3 ?side4 A97.out).mono ?_); (case side1 => repeat (first | exact (Kd.R_reads' HO336.out).2.2 | (with_reducible refine Kd.C_alloc ?_ _) | (with_reducible refine Kd.C_drewN ?_ _) | (with_reducible refine Kd.C_drew ?_))); (case side2 => exact (Kd.R_reads' HO336.out).2.1); (case side3 => repeat (first | exact (Kd.R_reads' HO340.out).2.2 | (with_reducible refine Kd.C_alloc ?_ _) | (with_reducible refine Kd.C_drewN ?_ _) | (with_reducible refine Kd.C_drew ?_))); (case side4 => exact (Kd.R_reads' HO340.out).2.1); rintro e w' ⟨rfl, ⟨nd, rfl⟩⟩; (try first | exact ⟨rfl, _, World.drewN_drewN _ _ _⟩ | exact ⟨rfl, _, Eq.trans (World.drewN_drewN _ _ _) (congrArg (World.drewN _) (Nat.add_assoc _ _ _))⟩); obtain ⟨Ao106, co106, eo106⟩ := Kd.R_slice HO346.out; subst eo106; obtain ⟨Ao107, co107, eo107⟩ := Kd.R_slice HO350.out; subst eo107) | (go_at_call 19; (with_reducible refine (laws_mSame.calls kj62 _ _ t343 _ _ t347 true _ ?side1 ?side2 ?side3 ?side4 A100.out).mono ?_); (case side1 => repeat (first | exact (Kd.R_reads' HO346.out).2.2 | (with_reducible refine Kd.C_alloc ?_ _) | (with_reducible refine Kd.C_drewN ?_ _) | (with_reducible refine Kd.C_drew ?_))); (case side2 => exact (Kd.R_reads' HO346.out).2.1); (case side3 => repeat (first | exact (Kd.R_reads' HO350.out).2.2 | (with_reducible refine Kd.C_alloc ?_ _) | (with_reducible refine Kd.C_drewN ?_ _) | (with_reducible refine Kd.C_drew ?_))); (case side4 => exact (Kd.R_reads' HO350.out).2.1); rintro e w' ⟨rfl, ⟨nd, rfl⟩⟩; (try first | exact ⟨rfl, _, World.drewN_drewN _ _ _⟩ | exact ⟨rfl, _, Eq.trans (World.drewN_drewN _ _ _) (congrArg (World.drewN _) (Nat.add_assoc _ _ _))⟩))); try go_wp2_with (first | (go_at_call 19; (with_reducible refine (laws_mSame.calls kj62 _ _ t333 _ _ t337 true _ ?side1 ?side2 ?side3 ?side4 A97.out).mono ?_); (case side1 => repeat (first | exact (Kd.R_reads' HO336.out).2.2 | (with_reducible refine Kd.C_alloc ?_ _) | (with_reducible refine Kd.C_drewN ?_ _) | (with_reducible refine Kd.C_drew ?_))); (case side2 => exact (Kd.R_reads' HO336.out).2.1); (case side3 => repeat (first | exact (Kd.R_reads' HO340.out).2.2 | (with_reducible refine Kd.C_alloc ?_ _) | (with_reducible refine Kd.C_drewN ?_ _) | (with_reducible refine Kd.C_drew ?_))); (case side4 => exact (Kd.R_reads' HO340.out).2.1); rintro e w' ⟨rfl, ⟨nd, rfl⟩⟩; (try first | exact ⟨rfl, _, World.drewN_drewN _ _ _⟩ | exact ⟨rfl, _, Eq.trans (World.drewN_drewN _ _ _) (congrArg (World.drewN _) (Nat.add_assoc _ _ _))⟩); obtain ⟨Ao106, co106, eo106⟩ := Kd.R_slice HO346.out; subst eo106; obtain ⟨Ao107, co107, eo107⟩ := Kd.R_slice HO350.out; subst eo107) | (go_at_call 19; (with_reducible refine (laws_mSame.calls kj62 _ _ t343 _ _ t347 true _ ?side1 ?side2 ?side3 ?side4 A100.out).mono ?_); (case side1 => repeat (first | exact (Kd.R_reads' HO346.out).2.2 | (with_reducible refine Kd.C_alloc ?_ _) | (with_reducible refine Kd.C_drewN ?_ _) | (with_reducible refine Kd.C_drew ?_))); (case side2 => exact (Kd.R_reads' HO346.out).2.1); (case side3 => repeat (first | exact (Kd.R_reads' HO350.out).2.2 | (with_reducible refine Kd.C_alloc ?_ _) | (with_reducible refine Kd.C_drewN ?_ _) | (with_reducible refine Kd.C_drew ?_))); (case side4 => exact (Kd.R_reads' HO350.out).2.1); rintro e w' ⟨rfl, ⟨nd, rfl⟩⟩; (try first | exact ⟨rfl, _, World.drewN_drewN _ _ _⟩ | exact ⟨rfl, _, Eq.trans (World.drewN_drewN _ _ _) (congrArg (World.drewN _) (Nat.add_assoc _ _ _))⟩))))
                  go_meet
                  case rel => exact ⟨_, ((t352 != t344)), (by first | rfl | (simp; done) | (simp [*]; done)), H', ⟨by have := HJ11.out; have := HJ24.out; have := HJ62.out; first | omega | exact Nat.le_refl _⟩, ⟨by (with_reducible repeat (first | apply Kd.V_alloc | apply Kd.V_drewN | apply Kd.V_drew)); exact Kd.V_mono HO320.out (fun _ hk => ⟨hk.1.1.1.1, hk.1.2⟩)⟩, ⟨by (with_reducible repeat (first | apply Kd.R_alloc | apply Kd.R_drewN | apply Kd.R_drew)); exact Kd.R_mono HO323.out (fun _ hk => hk.1.2)⟩, ⟨by (with_reducible repeat (first | apply Kd.R_alloc | apply Kd.R_drewN | apply Kd.R_drew)); exact Kd.R_mono HO346.out (fun _ hk => hk.1.1.1.2)⟩, ⟨by repeat (first | (with_reducible first | exact HB.out | apply below_alloc | apply pw_below_drewN | apply below_drew1) | exact HB.out)⟩⟩
                 ·
                  rw [if_neg c103] at H
                  exact (laws_FnFormsLeft.j11_no _ _ _ _ _ _ _ _ _ _ _ (H.trans (congrArg some HE_.out))).elim
               ·
                replace c101 := Bool.eq_false_iff.mpr c101
                subst c101
                have H1 : (laws_FnFormsLeft.j11 kj62 t318 t321 t324 t325 t326 t341 t342 t343 t344 t351 true) = some r := by rw [if_neg (show ¬ (false = true) by decide)] at H; exact H
                clear H
                have H := H1
                clear H1
                exact (laws_FnFormsLeft.j11_no _ _ _ _ _ _ _ _ _ _ _ (H.trans (congrArg some HE_.out))).elim
             ·
              replace c98 := Bool.eq_false_iff.mpr c98
              subst c98
              have H1 : (laws_FnFormsLeft.j11 kj62 t318 t321 t324 t325 t326 t341 t342 t343 t344 t351 true) = some r := by rw [if_neg (show ¬ (false = true) by decide)] at H; exact H
              clear H
              have H := H1
              clear H1
              exact (laws_FnFormsLeft.j11_no _ _ _ _ _ _ _ _ _ _ _ (H.trans (congrArg some HE_.out))).elim
           ·
            rw [if_neg c95] at H
            exact (laws_FnFormsLeft.j11_no _ _ _ _ _ _ _ _ _ _ _ (H.trans (congrArg some HE_.out))).elim
         case rest => as_aux_lemma =>
          clear HC81
          try clear c1
          try clear c4
          try clear c24
          obtain ⟨kq, x371_80, rfl, HA, HJ80, HO_31, HO_32, HO_46, HB⟩ := hcut
          cases kq with
          | zero => exact absurd HA.out (by simp [laws_FnFormsLeft.j11])
          | succ kj80 =>
           have H := HA.out
           clear HA
           simp only [laws_FnFormsLeft.j11] at H
           by_cases c108 : x371_80 = true
           ·
            subst c108
            have H1 : (some false) = some r := by rw [if_pos rfl] at H; exact H
            clear H
            have H := H1
            clear H1
            exact absurd (H.trans (congrArg some HE_.out)) (by simp)
           ·
            replace c108 := Bool.eq_false_iff.mpr c108
            subst c108
            have H1 : (if t326 = true then (laws_FnFormsLeft.j12 kj80 t318 t321 t324 t325 t341 t342 t343 t344 t351 (decide (t324 ≤ 1000))) else (laws_FnFormsLeft.j12 kj80 t318 t321 t324 t325 t341 t342 t343 t344 t351 false)) = some r := by rw [if_neg (show ¬ (false = true) by decide)] at H; exact H
            clear H
            have H := H1
            clear H1
            have HC109 := Aside0.mk H
            clear H
            go_upto_region 57 with (fail)
            repeat (go_quiet (fail); go_upto_region 57 with (fail))
            go_cut [376] from 371 to 376 (fun v376 wc => ∃ (kq : Nat) (x376_108 : Bool), v376 = .bool x376_108 ∧ Aside0 (laws_FnFormsLeft.j12 kq t318 t321 t324 t325 t341 t342 t343 t344 t351 x376_108 = some r) ∧ Aside0 (kq ≤ kj80) ∧ Aside0 (Kd.V (Kd.int .i64) 3 wc w.heap.size (fun k_ => some k_ ≠ ((.slice Ao84 t321.length co84) : Value).ownBlock ∧ some k_ ≠ (v345 : Value).ownBlock) (.slice Ao83 t318.length co83) t318) ∧ Aside0 (Kd.R (Kd.int .i64) 3 wc w.heap.size (fun k_ => some k_ ≠ (v345 : Value).ownBlock) (.slice Ao84 t321.length co84) t321) ∧ Aside0 (Kd.R (Kd.int .i64) 3 wc w.heap.size (fun k_ => some k_ ≠ ((.slice Ao84 t321.length co84) : Value).ownBlock) v345 t343) ∧ Aside0 (Below w.heap.size w wc))
            case first => as_aux_lemma =>
             have H := HC109.out
             clear HC109
             by_cases c110 : t326 = true
             ·
              subst c110
              have H1 : (laws_FnFormsLeft.j12 kj80 t318 t321 t324 t325 t341 t342 t343 t344 t351 (decide (t324 ≤ 1000))) = some r := by rw [if_pos rfl] at H; exact H
              clear H
              have H := H1
              clear H1
              have H' := Aside0.mk H
              clear H
              go_wp2
              repeat (go_quiet (fail); try go_wp2)
              go_meet
              case rel => exact ⟨_, (decide (t324 ≤ 1000)), (by first | rfl | (simp; done) | (simp [*]; done)), H', ⟨by have := HJ11.out; have := HJ24.out; have := HJ62.out; have := HJ80.out; first | omega | exact Nat.le_refl _⟩, ⟨by (with_reducible repeat (first | apply Kd.V_alloc | apply Kd.V_drewN | apply Kd.V_drew)); exact HO_31.out⟩, ⟨by (with_reducible repeat (first | apply Kd.R_alloc | apply Kd.R_drewN | apply Kd.R_drew)); exact HO_32.out⟩, ⟨by (with_reducible repeat (first | apply Kd.R_alloc | apply Kd.R_drewN | apply Kd.R_drew)); exact HO_46.out⟩, ⟨by repeat (first | (with_reducible first | exact HB.out | apply below_alloc | apply pw_below_drewN | apply below_drew1) | exact HB.out)⟩⟩
             ·
              replace c110 := Bool.eq_false_iff.mpr c110
              subst c110
              have H1 : (laws_FnFormsLeft.j12 kj80 t318 t321 t324 t325 t341 t342 t343 t344 t351 false) = some r := by rw [if_neg (show ¬ (false = true) by decide)] at H; exact H
              clear H
              have H := H1
              clear H1
              have H' := Aside0.mk H
              clear H
              go_wp2
              repeat (go_quiet (fail); try go_wp2)
              go_meet
              case rel => exact ⟨_, (false), (by first | rfl | (simp; done) | (simp [*]; done)), H', ⟨by have := HJ11.out; have := HJ24.out; have := HJ62.out; have := HJ80.out; first | omega | exact Nat.le_refl _⟩, ⟨by (with_reducible repeat (first | apply Kd.V_alloc | apply Kd.V_drewN | apply Kd.V_drew)); exact HO_31.out⟩, ⟨by (with_reducible repeat (first | apply Kd.R_alloc | apply Kd.R_drewN | apply Kd.R_drew)); exact HO_32.out⟩, ⟨by (with_reducible repeat (first | apply Kd.R_alloc | apply Kd.R_drewN | apply Kd.R_drew)); exact HO_46.out⟩, ⟨by repeat (first | (with_reducible first | exact HB.out | apply below_alloc | apply pw_below_drewN | apply below_drew1) | exact HB.out)⟩⟩
            case rest => as_aux_lemma =>
             clear HC109
             try clear c1
             try clear c4
             try clear c24
             try clear c108
             obtain ⟨kq, x376_108, rfl, HA, HJ108, HO_31, HO_32, HO_46, HB⟩ := hcut
             cases kq with
             | zero => exact absurd HA.out (by simp [laws_FnFormsLeft.j12])
             | succ kj108 =>
              have H := HA.out
              clear HA
              simp only [laws_FnFormsLeft.j12] at H
              have HC111 := Aside0.mk H
              clear H
              go_upto_if 376 with (fail)
              repeat (go_quiet (fail); go_upto_if 376 with (fail))
              go_cut [] from 371 to 474 (fun wc => ∃ (kq : Nat), Aside0 (laws_FnFormsLeft.j15 kq t341 t342 t343 t344 t351 = some r) ∧ Aside0 (kq ≤ kj108) ∧ Aside0 (Kd.R (Kd.int .i64) 3 wc w.heap.size (fun _ => True) v345 t343) ∧ Aside0 (Below w.heap.size w wc))
              case first => as_aux_lemma =>
               have H := HC111.out
               clear HC111
               by_cases c112 : x376_108 = true
               ·
                subst c112
                have H1 : (laws_FnFormsLeft.l2 kj108 t318 t321 t324 t325 t341 t342 t343 t344 t351 0 0) = some r := by rw [if_pos rfl] at H; exact H
                clear H
                have H := H1
                clear H1
                have H' := Aside0.mk H
                clear H
                go_wp2
                repeat (go_quiet (fail); try go_wp2)
                go_loopg [54, 55] kj108 (fun kq v54 v55 w' => ∃ (x54_6 : Int) (x55_6 : Int), v54 = .int .i64 x54_6 ∧ v55 = .int .i64 x55_6 ∧ Aside0 (laws_FnFormsLeft.l2 kq t318 t321 t324 t325 t341 t342 t343 t344 t351 x54_6 x55_6 = some r) ∧ Aside0 (kq ≤ kj108) ∧ Aside0 (Kd.V (Kd.int .i64) 3 w' w.heap.size (fun k_ => some k_ ≠ ((.slice Ao84 t321.length co84) : Value).ownBlock ∧ some k_ ≠ (v345 : Value).ownBlock) (.slice Ao83 t318.length co83) t318) ∧ Aside0 (Kd.R (Kd.int .i64) 3 w' w.heap.size (fun k_ => some k_ ≠ (v345 : Value).ownBlock) (.slice Ao84 t321.length co84) t321) ∧ Aside0 (Kd.R (Kd.int .i64) 3 w' w.heap.size (fun k_ => some k_ ≠ ((.slice Ao84 t321.length co84) : Value).ownBlock) v345 t343) ∧ Aside0 (Below w.heap.size w w'))
                case atStart => exact ⟨(0), (0), (by first | rfl | (simp; done) | (simp [*]; done)), (by first | rfl | (simp; done) | (simp [*]; done)), H', ⟨Nat.le_refl _⟩, ⟨by (with_reducible repeat (first | apply Kd.V_alloc | apply Kd.V_drewN | apply Kd.V_drew)); exact HO_31.out⟩, ⟨by (with_reducible repeat (first | apply Kd.R_alloc | apply Kd.R_drewN | apply Kd.R_drew)); exact HO_32.out⟩, ⟨by (with_reducible repeat (first | apply Kd.R_alloc | apply Kd.R_drewN | apply Kd.R_drew)); exact HO_46.out⟩, ⟨by repeat (first | (with_reducible first | exact HB.out | apply below_alloc | apply pw_below_drewN | apply below_drew1) | exact HB.out)⟩⟩
                case round =>
                 clear H'
                 try clear c1
                 try clear c4
                 try clear c24
                 try clear c108
                 try clear c112
                 obtain ⟨x54_6, x55_6, rfl, rfl, HA, HK6, HO_31, HO_32, HO_46, HB⟩ := hrel
                 cases gk with
                 | zero => exact absurd HA.out (by simp [laws_FnFormsLeft.l2])
                 | succ k6 =>
                  have H := HA.out
                  clear HA
                  simp only [laws_FnFormsLeft.l2] at H
                  by_cases c113 : x55_6 ≤ t324
                  ·
                   rw [if_pos c113] at H
                   have c113b0 : decide (x55_6 ≤ t324) = true := decide_eq_true c113
                   clear c113
                   (first | rw [c113b0] | (simp only [i64_w, i32_w]; rw [c113b0]) | skip)
                   have H' := Aside0.mk H
                   clear H
                   go_wp2
                   repeat (go_quiet (fail); try go_wp2)
                   go_loopg [56, 384] k6 (fun kq v56 v384 w' => ∃ (x56_7 : Bool) (x384_7 : Int), v56 = .bool x56_7 ∧ v384 = .int .i64 x384_7 ∧ Aside0 (laws_FnFormsLeft.l3 kq t318 t321 t324 t325 t341 t342 t343 t344 t351 x54_6 x55_6 x56_7 t318 (t318.length : Int) x384_7 = some r) ∧ Aside0 (kq ≤ k6) ∧ Aside0 (Kd.V (Kd.int .i64) 3 w' w.heap.size (fun k_ => some k_ ≠ ((.slice Ao84 t321.length co84) : Value).ownBlock ∧ some k_ ≠ (v345 : Value).ownBlock) (.slice Ao83 t318.length co83) t318) ∧ Aside0 (Kd.R (Kd.int .i64) 3 w' w.heap.size (fun k_ => some k_ ≠ (v345 : Value).ownBlock) (.slice Ao84 t321.length co84) t321) ∧ Aside0 (Kd.R (Kd.int .i64) 3 w' w.heap.size (fun k_ => some k_ ≠ ((.slice Ao84 t321.length co84) : Value).ownBlock) v345 t343) ∧ Aside0 (Kd.V (Kd.int .i64) 3 w' w.heap.size (fun k_ => some k_ ≠ ((.slice Ao84 t321.length co84) : Value).ownBlock ∧ some k_ ≠ (v345 : Value).ownBlock) (.slice Ao83 t318.length co83) t318) ∧ Aside0 (Below w.heap.size w w'))
                   case atStart => exact ⟨(true), (0), (by first | rfl | (simp; done) | (simp [*]; done)), (by first | rfl | (simp; done) | (simp [*]; done)), H', ⟨Nat.le_refl _⟩, ⟨by (with_reducible repeat (first | apply Kd.V_alloc | apply Kd.V_drewN | apply Kd.V_drew)); exact HO_31.out⟩, ⟨by (with_reducible repeat (first | apply Kd.R_alloc | apply Kd.R_drewN | apply Kd.R_drew)); exact HO_32.out⟩, ⟨by (with_reducible repeat (first | apply Kd.R_alloc | apply Kd.R_drewN | apply Kd.R_drew)); exact HO_46.out⟩, ⟨by (with_reducible repeat (first | apply Kd.V_alloc | apply Kd.V_drewN | apply Kd.V_drew)); exact HO_31.out⟩, ⟨by repeat (first | (with_reducible first | exact HB.out | apply below_alloc | apply pw_below_drewN | apply below_drew1) | exact HB.out)⟩⟩
                   case round =>
                    clear H'
                    try clear c1
                    try clear c4
                    try clear c24
                    try clear c108
                    try clear c112
                    try clear c113
                    try clear c113b0
                    obtain ⟨x56_7, x384_7, rfl, rfl, HA, HK7, HO_31, HO_32, HO_46, HO_382, HB⟩ := hrel
                    cases gk with
                    | zero => exact absurd HA.out (by simp [laws_FnFormsLeft.l3])
                    | succ k7 =>
                     have H := HA.out
                     clear HA
                     simp only [laws_FnFormsLeft.l3] at H
                     by_cases c114 : x384_7 < (t318.length : Int)
                     ·
                      rw [if_pos c114] at H
                      have c114b0 : decide (x384_7 < (t318.length : Int)) = true := decide_eq_true c114
                      clear c114
                      by_cases c115 : 0 ≤ x384_7
                      ·
                       rw [if_pos c115] at H
                       have c115b0 : decide (0 ≤ x384_7) = true := decide_eq_true c115
                       clear c115
                       by_cases c116 : x384_7 < (t318.length : Int)
                       ·
                        rw [if_pos c116] at H
                        have c116b0 : decide (x384_7 < (t318.length : Int)) = true := decide_eq_true c116
                        clear c116
                        by_cases c117 : x56_7 = true
                        ·
                         subst c117
                         have H1 : (if (rd t318 x384_7) = 0 then (none) else (if x384_7 < (t321.length : Int) then (laws_FnFormsLeft.l3 k7 t318 t321 t324 t325 t341 t342 t343 t344 t351 x54_6 x55_6 ((Int.tmod x55_6 (rd t318 x384_7)) == (rd t321 x384_7)) t318 (t318.length : Int) (wrap64 (x384_7 + 1))) else (none))) = some r := by rw [if_pos rfl] at H; exact H
                         clear H
                         have H := H1
                         clear H1
                         by_cases c118 : (rd t318 x384_7) = 0
                         ·
                          rw [if_pos c118] at H
                          exact absurd H (by simp)
                         ·
                          rw [if_neg c118] at H
                          have c118b0 : ((rd t318 x384_7) == 0) = false := beq_eq_false_iff_ne.mpr c118
                          have c118b1 : ((rd t318 x384_7) != 0) = true := bne_iff_ne.mpr c118
                          by_cases c119 : x384_7 < (t321.length : Int)
                          ·
                           rw [if_pos c119] at H
                           have c119b0 : decide (x384_7 < (t321.length : Int)) = true := decide_eq_true c119
                           clear c119
                           have H' := Aside0.mk H
                           clear H
                           have p357 : 0 ≤ (x384_7 : Int) := of_decide_eq_true (by first | (with_reducible assumption) | assumption)
                           have q357 : x384_7 < (t318.length : Int) := of_decide_eq_true (by first | (with_reducible assumption) | assumption)
                           obtain ⟨ad357, e357, hx357_0⟩ := Kd.at_int (Kd.V_reads' HO_382.out).2.2 x384_7 p357 q357
                           cases e357
                           replace p357 := eq_true p357
                           replace q357 := eq_true q357
                           have p358 : 0 ≤ (x384_7 : Int) := of_decide_eq_true (by first | (with_reducible assumption) | assumption)
                           have q358 : x384_7 < (t321.length : Int) := of_decide_eq_true (by first | (with_reducible assumption) | assumption)
                           obtain ⟨ad358, e358, hx358_0⟩ := Kd.at_int (Kd.R_reads' HO_32.out).2.2 x384_7 p358 q358
                           cases e358
                           replace p358 := eq_true p358
                           replace q358 := eq_true q358
                           go_wp2
                           repeat (go_quiet (fail); try go_wp2)
                           go_roundg k7
                           case measure => have := HJ11.out; have := HJ24.out; have := HJ62.out; have := HJ80.out; have := HJ108.out; have := HK6.out; have := HK7.out; omega
                           case rel => exact ⟨(((Int.tmod x55_6 (rd t318 x384_7)) == (rd t321 x384_7))), (wrap64 (x384_7 + 1)), (by first | rfl | (simp; done) | (simp [*]; done)), (by first | rfl | (simp; done) | (simp [*]; done)), H', ⟨by have := HJ11.out; have := HJ24.out; have := HJ62.out; have := HJ80.out; have := HJ108.out; have := HK6.out; have := HK7.out; omega⟩, ⟨by (with_reducible repeat (first | apply Kd.V_alloc | apply Kd.V_drewN | apply Kd.V_drew)); exact HO_31.out⟩, ⟨by (with_reducible repeat (first | apply Kd.R_alloc | apply Kd.R_drewN | apply Kd.R_drew)); exact HO_32.out⟩, ⟨by (with_reducible repeat (first | apply Kd.R_alloc | apply Kd.R_drewN | apply Kd.R_drew)); exact HO_46.out⟩, ⟨by (with_reducible repeat (first | apply Kd.V_alloc | apply Kd.V_drewN | apply Kd.V_drew)); exact HO_382.out⟩, ⟨by repeat (first | (with_reducible first | exact HB.out | apply below_alloc | apply pw_below_drewN | apply below_drew1) | exact HB.out)⟩⟩
                          ·
                           rw [if_neg c119] at H
                           exact absurd H (by simp)
                        ·
                         replace c117 := Bool.eq_false_iff.mpr c117
                         subst c117
                         have H1 : (laws_FnFormsLeft.l3 k7 t318 t321 t324 t325 t341 t342 t343 t344 t351 x54_6 x55_6 false t318 (t318.length : Int) (wrap64 (x384_7 + 1))) = some r := by rw [if_neg (show ¬ (false = true) by decide)] at H; exact H
                         clear H
                         have H := H1
                         clear H1
                         have H' := Aside0.mk H
                         clear H
                         have p357 : 0 ≤ (x384_7 : Int) := of_decide_eq_true (by first | (with_reducible assumption) | assumption)
                         have q357 : x384_7 < (t318.length : Int) := of_decide_eq_true (by first | (with_reducible assumption) | assumption)
                         obtain ⟨ad357, e357, hx357_0⟩ := Kd.at_int (Kd.V_reads' HO_382.out).2.2 x384_7 p357 q357
                         cases e357
                         replace p357 := eq_true p357
                         replace q357 := eq_true q357
                         go_wp2
                         repeat (go_quiet (fail); try go_wp2)
                         go_roundg k7
                         case measure => have := HJ11.out; have := HJ24.out; have := HJ62.out; have := HJ80.out; have := HJ108.out; have := HK6.out; have := HK7.out; omega
                         case rel => exact ⟨(false), (wrap64 (x384_7 + 1)), (by first | rfl | (simp; done) | (simp [*]; done)), (by first | rfl | (simp; done) | (simp [*]; done)), H', ⟨by have := HJ11.out; have := HJ24.out; have := HJ62.out; have := HJ80.out; have := HJ108.out; have := HK6.out; have := HK7.out; omega⟩, ⟨by (with_reducible repeat (first | apply Kd.V_alloc | apply Kd.V_drewN | apply Kd.V_drew)); exact HO_31.out⟩, ⟨by (with_reducible repeat (first | apply Kd.R_alloc | apply Kd.R_drewN | apply Kd.R_drew)); exact HO_32.out⟩, ⟨by (with_reducible repeat (first | apply Kd.R_alloc | apply Kd.R_drewN | apply Kd.R_drew)); exact HO_46.out⟩, ⟨by (with_reducible repeat (first | apply Kd.V_alloc | apply Kd.V_drewN | apply Kd.V_drew)); exact HO_382.out⟩, ⟨by repeat (first | (with_reducible first | exact HB.out | apply below_alloc | apply pw_below_drewN | apply below_drew1) | exact HB.out)⟩⟩
                       ·
                        rw [if_neg c116] at H
                        exact absurd H (by simp)
                      ·
                       rw [if_neg c115] at H
                       exact absurd H (by simp)
                     ·
                      rw [if_neg c114] at H
                      have c114b0 : decide (x384_7 < (t318.length : Int)) = false := decide_eq_false c114
                      clear c114
                      by_cases c120 : x56_7 = true
                      ·
                       subst c120
                       have H1 : (laws_FnFormsLeft.l2 k7 t318 t321 t324 t325 t341 t342 t343 t344 t351 (wrap64 (x54_6 + 1)) (wrap64 (x55_6 + 1))) = some r := by rw [if_pos rfl] at H; exact H
                       clear H
                       have H := H1
                       clear H1
                       have H' := Aside0.mk H
                       clear H
                       go_wp2
                       repeat (go_quiet (fail); try go_wp2)
                       go_roundg k7
                       case measure => have := HJ11.out; have := HJ24.out; have := HJ62.out; have := HJ80.out; have := HJ108.out; have := HK6.out; have := HK7.out; omega
                       case rel => exact ⟨(wrap64 (x54_6 + 1)), (wrap64 (x55_6 + 1)), (by first | rfl | (simp; done) | (simp [*]; done)), (by first | rfl | (simp; done) | (simp [*]; done)), H', ⟨by have := HJ11.out; have := HJ24.out; have := HJ62.out; have := HJ80.out; have := HJ108.out; have := HK6.out; have := HK7.out; omega⟩, ⟨by (with_reducible repeat (first | apply Kd.V_alloc | apply Kd.V_drewN | apply Kd.V_drew)); exact HO_31.out⟩, ⟨by (with_reducible repeat (first | apply Kd.R_alloc | apply Kd.R_drewN | apply Kd.R_drew)); exact HO_32.out⟩, ⟨by (with_reducible repeat (first | apply Kd.R_alloc | apply Kd.R_drewN | apply Kd.R_drew)); exact HO_46.out⟩, ⟨by repeat (first | (with_reducible first | exact HB.out | apply below_alloc | apply pw_below_drewN | apply below_drew1) | exact HB.out)⟩⟩
                      ·
                       replace c120 := Bool.eq_false_iff.mpr c120
                       subst c120
                       have H1 : (laws_FnFormsLeft.l2 k7 t318 t321 t324 t325 t341 t342 t343 t344 t351 x54_6 (wrap64 (x55_6 + 1))) = some r := by rw [if_neg (show ¬ (false = true) by decide)] at H; exact H
                       clear H
                       have H := H1
                       clear H1
                       have H' := Aside0.mk H
                       clear H
                       go_wp2
                       repeat (go_quiet (fail); try go_wp2)
                       go_roundg k7
                       case measure => have := HJ11.out; have := HJ24.out; have := HJ62.out; have := HJ80.out; have := HJ108.out; have := HK6.out; have := HK7.out; omega
                       case rel => exact ⟨(x54_6), (wrap64 (x55_6 + 1)), (by first | rfl | (simp; done) | (simp [*]; done)), (by first | rfl | (simp; done) | (simp [*]; done)), H', ⟨by have := HJ11.out; have := HJ24.out; have := HJ62.out; have := HJ80.out; have := HJ108.out; have := HK6.out; have := HK7.out; omega⟩, ⟨by (with_reducible repeat (first | apply Kd.V_alloc | apply Kd.V_drewN | apply Kd.V_drew)); exact HO_31.out⟩, ⟨by (with_reducible repeat (first | apply Kd.R_alloc | apply Kd.R_drewN | apply Kd.R_drew)); exact HO_32.out⟩, ⟨by (with_reducible repeat (first | apply Kd.R_alloc | apply Kd.R_drewN | apply Kd.R_drew)); exact HO_46.out⟩, ⟨by repeat (first | (with_reducible first | exact HB.out | apply below_alloc | apply pw_below_drewN | apply below_drew1) | exact HB.out)⟩⟩
                  ·
                   rw [if_neg c113] at H
                   have c113b0 : decide (x55_6 ≤ t324) = false := decide_eq_false c113
                   clear c113
                   (first | rw [c113b0] | (simp only [i64_w, i32_w]; rw [c113b0]) | skip)
                   by_cases c121 : x54_6 = t325
                   ·
                    rw [if_pos c121] at H
                    have c121b0 : (x54_6 == t325) = true := beq_iff_eq.mpr c121
                    have c121b1 : (x54_6 != t325) = false := bne_eq_false_iff_eq.mpr c121
                    clear c121
                    have H' := Aside0.mk H
                    clear H
                    go_wp2
                    repeat (go_quiet (fail); try go_wp2)
                    go_meet
                    case rel => exact ⟨_, H', ⟨by have := HJ11.out; have := HJ24.out; have := HJ62.out; have := HJ80.out; have := HJ108.out; have := HK6.out; first | omega | exact Nat.le_refl _⟩, ⟨by (with_reducible repeat (first | apply Kd.R_alloc | apply Kd.R_drewN | apply Kd.R_drew)); exact Kd.R_mono HO_46.out (fun _ hk => trivial)⟩, ⟨by repeat (first | (with_reducible first | exact HB.out | apply below_alloc | apply pw_below_drewN | apply below_drew1) | exact HB.out)⟩⟩
                   ·
                    rw [if_neg c121] at H
                    exact absurd (H.trans (congrArg some HE_.out)) (by simp)
               ·
                replace c112 := Bool.eq_false_iff.mpr c112
                subst c112
                have H1 : (laws_FnFormsLeft.j15 kj108 t341 t342 t343 t344 t351) = some r := by rw [if_neg (show ¬ (false = true) by decide)] at H; exact H
                clear H
                have H := H1
                clear H1
                have H' := Aside0.mk H
                clear H
                go_wp2
                repeat (go_quiet (fail); try go_wp2)
                go_meet
                case rel => exact ⟨_, H', ⟨by have := HJ11.out; have := HJ24.out; have := HJ62.out; have := HJ80.out; have := HJ108.out; first | omega | exact Nat.le_refl _⟩, ⟨by (with_reducible repeat (first | apply Kd.R_alloc | apply Kd.R_drewN | apply Kd.R_drew)); exact Kd.R_mono HO_46.out (fun _ hk => trivial)⟩, ⟨by repeat (first | (with_reducible first | exact HB.out | apply below_alloc | apply pw_below_drewN | apply below_drew1) | exact HB.out)⟩⟩
              case rest => as_aux_lemma =>
               clear HC111
               try clear c1
               try clear c4
               try clear c24
               try clear c108
               obtain ⟨kq, HA, HJ110, HO_46, HB⟩ := hcut
               cases kq with
               | zero => exact absurd HA.out (by simp [laws_FnFormsLeft.j15])
               | succ kj110 =>
                have H := HA.out
                clear HA
                simp only [laws_FnFormsLeft.j15] at H
                by_cases c122 : t344 = true
                ·
                 subst c122
                 have H1 : (if 0 ≤ (wrap64 (t341 * t342)) then (if (wrap64 (t341 * t342) : Int).toNat ≤ 281474976710656 then (laws_FnFormsLeft.l4 kj110 t341 t342 t343 t351 (List.replicate (wrap64 (t341 * t342) : Int).toNat false) t343 (t343.length : Int) 0) else (none)) else (none)) = some r := by rw [if_pos rfl] at H; exact H
                 clear H
                 have H := H1
                 clear H1
                 obtain ⟨ji123, hji123⟩ : ∃ j_ : Int, (wrap64 (t341 * t342)) = j_ := ⟨_, rfl⟩
                 replace H : (if 0 ≤ (ji123) then (if (ji123 : Int).toNat ≤ 281474976710656 then (laws_FnFormsLeft.l4 kj110 t341 t342 t343 t351 (List.replicate (ji123 : Int).toNat false) t343 (t343.length : Int) 0) else (none)) else (none)) = some r := by first | (rw [hji123] at H; exact H) | (simp only [hji123] at H ⊢; exact H)
                 have hji123w : (IntKind.i64.wrap (t341 * t342)) = ji123 := (i64_w _).trans hji123
                 by_cases c124 : 0 ≤ (ji123)
                 ·
                  rw [if_pos c124] at H
                  have c124b0 := eq_true c124
                  have c124b1 : decide (0 ≤ (ji123)) = true := decide_eq_true c124
                  clear c124
                  by_cases c125 : (ji123 : Int).toNat ≤ 281474976710656
                  ·
                   rw [if_pos c125] at H
                   have c125b0 := eq_true c125
                   have c125b1 : decide ((ji123 : Int).toNat ≤ 281474976710656) = true := decide_eq_true c125
                   clear c125
                   obtain ⟨y359, hy359⟩ : ∃ y_ : List Bool, y_ = (List.replicate (ji123 : Int).toNat false) := ⟨_, rfl⟩
                   replace H : (laws_FnFormsLeft.l4 kj110 t341 t342 t343 t351 y359 t343 (t343.length : Int) 0) = some r := by first | (rw [hy359]; with_reducible exact H) | (have H2_ := (Option.bind_some _ _).symm.trans H; rw [hy359]; with_reducible exact H2_) | (have H2_ := (Option.bind_some _ _).symm.trans H; with_reducible exact H2_) | with_reducible exact H | (rw [hy359]; exact H) | exact H
                   have Ny359 := Aside0.mk hy359
                   clear hy359
                   have H' := Aside0.mk H
                   clear H
                   go_wp2_with (first | ((with_reducible refine gate_dst (N := 411) rfl ?_); (try (refine gate_guard (by rfl) ?_; dsimp only)); refine Kd.R_make Kd.bool _ 4 rfl (N := 411) rfl 40 _ _ rfl ji123 rfl rfl Try.underlying40 (.bool false) 1 info4 rfl (by decide) (by omega) false (ok := fun _ => True) (okp := fun _ => True) rfl (fun _ hk => hk) trivial (of_decide_eq_true (by first | (with_reducible assumption) | assumption)) (Nat.le_trans (Nat.mul_le_mul_right _ (of_decide_eq_true (by first | (with_reducible assumption) | assumption) : ji123.toNat ≤ 281474976710656)) (by omega)) (Below.refl _ _) (Nat.le_refl _) ?_; intro v360 w126 ho127 hb hg_ hnew_; clear hg_ hnew_; (first | rw [← Ny359.out] at ho127 | (simp only [Int.reduceToNat] at ho127; rw [← Ny359.out] at ho127)); have n0_ := Aside0.mk (Kd.R_below (by (with_reducible repeat (first | apply Kd.R_alloc | apply Kd.R_drewN | apply Kd.R_drew)); exact HO_46.out) hb); have n1_ := Aside0.mk (Kd.R_lower ho127 (below_size (by repeat (first | (with_reducible first | exact HB.out | apply below_alloc | apply pw_below_drewN | apply below_drew1) | exact HB.out)))); have n2_ := Aside0.mk (below_step (by repeat (first | (with_reducible first | exact HB.out | apply below_alloc | apply pw_below_drewN | apply below_drew1) | exact HB.out)) hb); clear HO_46; clear HB; have HO_46 := n0_; have HO361 := n1_; have HB := n2_; clear n0_ n1_ n2_; clear hb ho127; obtain ⟨Ao128, co128, eo128⟩ := Kd.R_slice HO_46.out; subst eo128))
                   repeat (go_quiet (first | ((with_reducible refine gate_dst (N := 411) rfl ?_); (try (refine gate_guard (by rfl) ?_; dsimp only)); refine Kd.R_make Kd.bool _ 4 rfl (N := 411) rfl 40 _ _ rfl ji123 rfl rfl Try.underlying40 (.bool false) 1 info4 rfl (by decide) (by omega) false (ok := fun _ => True) (okp := fun _ => True) rfl (fun _ hk => hk) trivial (of_decide_eq_true (by first | (with_reducible assumption) | assumption)) (Nat.le_trans (Nat.mul_le_mul_right _ (of_decide_eq_true (by first | (with_reducible assumption) | assumption) : ji123.toNat ≤ 281474976710656)) (by omega)) (Below.refl _ _) (Nat.le_refl _) ?_; intro v360 w126 ho127 hb hg_ hnew_; clear hg_ hnew_; (first | rw [← Ny359.out] at ho127 | (simp only [Int.reduceToNat] at ho127; rw [← Ny359.out] at ho127)); have n0_ := Aside0.mk (Kd.R_below (by (with_reducible repeat (first | apply Kd.R_alloc | apply Kd.R_drewN | apply Kd.R_drew)); exact HO_46.out) hb); have n1_ := Aside0.mk (Kd.R_lower ho127 (below_size (by repeat (first | (with_reducible first | exact HB.out | apply below_alloc | apply pw_below_drewN | apply below_drew1) | exact HB.out)))); have n2_ := Aside0.mk (below_step (by repeat (first | (with_reducible first | exact HB.out | apply below_alloc | apply pw_below_drewN | apply below_drew1) | exact HB.out)) hb); clear HO_46; clear HB; have HO_46 := n0_; have HO361 := n1_; have HB := n2_; clear n0_ n1_ n2_; clear hb ho127; obtain ⟨Ao128, co128, eo128⟩ := Kd.R_slice HO_46.out; subst eo128)); try go_wp2_with (first | ((with_reducible refine gate_dst (N := 411) rfl ?_); (try (refine gate_guard (by rfl) ?_; dsimp only)); refine Kd.R_make Kd.bool _ 4 rfl (N := 411) rfl 40 _ _ rfl ji123 rfl rfl Try.underlying40 (.bool false) 1 info4 rfl (by decide) (by omega) false (ok := fun _ => True) (okp := fun _ => True) rfl (fun _ hk => hk) trivial (of_decide_eq_true (by first | (with_reducible assumption) | assumption)) (Nat.le_trans (Nat.mul_le_mul_right _ (of_decide_eq_true (by first | (with_reducible assumption) | assumption) : ji123.toNat ≤ 281474976710656)) (by omega)) (Below.refl _ _) (Nat.le_refl _) ?_; intro v360 w126 ho127 hb hg_ hnew_; clear hg_ hnew_; (first | rw [← Ny359.out] at ho127 | (simp only [Int.reduceToNat] at ho127; rw [← Ny359.out] at ho127)); have n0_ := Aside0.mk (Kd.R_below (by (with_reducible repeat (first | apply Kd.R_alloc | apply Kd.R_drewN | apply Kd.R_drew)); exact HO_46.out) hb); have n1_ := Aside0.mk (Kd.R_lower ho127 (below_size (by repeat (first | (with_reducible first | exact HB.out | apply below_alloc | apply pw_below_drewN | apply below_drew1) | exact HB.out)))); have n2_ := Aside0.mk (below_step (by repeat (first | (with_reducible first | exact HB.out | apply below_alloc | apply pw_below_drewN | apply below_drew1) | exact HB.out)) hb); clear HO_46; clear HB; have HO_46 := n0_; have HO361 := n1_; have HB := n2_; clear n0_ n1_ n2_; clear hb ho127; obtain ⟨Ao128, co128, eo128⟩ := Kd.R_slice HO_46.out; subst eo128)))
                   go_loopg [414] kj110 (fun kq v414 w' => ∃ (x59_7 : List Bool) (x414_7 : Int), v414 = .int .i64 x414_7 ∧ Aside0 (laws_FnFormsLeft.l4 kq t341 t342 t343 t351 x59_7 t343 (t343.length : Int) x414_7 = some r) ∧ Aside0 (kq ≤ kj110) ∧ Aside0 (Kd.R (Kd.int .i64) 3 w' w.heap.size (fun _ => True) (.slice Ao128 t343.length co128) t343) ∧ Aside0 (Kd.R Kd.bool 4 w' w.heap.size (fun _ => True) v360 x59_7) ∧ Aside0 (Kd.R (Kd.int .i64) 3 w' w.heap.size (fun _ => True) (.slice Ao128 t343.length co128) t343) ∧ Aside0 (Below w.heap.size w w'))
                   case atStart => exact ⟨(y359), (0), (by first | rfl | (simp; done) | (simp [*]; done)), H', ⟨Nat.le_refl _⟩, ⟨by (with_reducible repeat (first | apply Kd.R_alloc | apply Kd.R_drewN | apply Kd.R_drew)); exact HO_46.out⟩, ⟨by (with_reducible repeat (first | apply Kd.R_alloc | apply Kd.R_drewN | apply Kd.R_drew)); exact HO361.out⟩, ⟨by (with_reducible repeat (first | apply Kd.R_alloc | apply Kd.R_drewN | apply Kd.R_drew)); exact HO_46.out⟩, ⟨by repeat (first | (with_reducible first | exact HB.out | apply below_alloc | apply pw_below_drewN | apply below_drew1) | exact HB.out)⟩⟩
                   case round =>
                    clear H'
                    try clear c1
                    try clear c4
                    try clear c24
                    try clear c108
                    try clear c122
                    try clear c124
                    try clear c124b0
                    try clear c124b1
                    try clear c125
                    try clear c125b0
                    try clear c125b1
                    obtain ⟨x59_7, x414_7, rfl, HA, HK7, HO_46, HO_59, HO_412, HB⟩ := hrel
                    cases gk with
                    | zero => exact absurd HA.out (by simp [laws_FnFormsLeft.l4])
                    | succ k7 =>
                     have H := HA.out
                     clear HA
                     simp only [laws_FnFormsLeft.l4] at H
                     by_cases c129 : x414_7 < (t343.length : Int)
                     ·
                      rw [if_pos c129] at H
                      have c129b0 : decide (x414_7 < (t343.length : Int)) = true := decide_eq_true c129
                      clear c129
                      by_cases c130 : 0 ≤ x414_7
                      ·
                       rw [if_pos c130] at H
                       have c130b0 : decide (0 ≤ x414_7) = true := decide_eq_true c130
                       clear c130
                       by_cases c131 : x414_7 < (t343.length : Int)
                       ·
                        rw [if_pos c131] at H
                        have c131b0 : decide (x414_7 < (t343.length : Int)) = true := decide_eq_true c131
                        clear c131
                        by_cases c132 : (rd t343 x414_7) < 0
                        ·
                         rw [if_pos c132] at H
                         exact absurd (H.trans (congrArg some HE_.out)) (by simp)
                        ·
                         rw [if_neg c132] at H
                         have c132b0 : decide ((rd t343 x414_7) < 0) = false := decide_eq_false c132
                         clear c132
                         by_cases c133 : (rd t343 x414_7) ≥ (x59_7.length : Int)
                         ·
                          rw [if_pos c133] at H
                          exact absurd (H.trans (congrArg some HE_.out)) (by simp)
                         ·
                          rw [if_neg c133] at H
                          have c133b0 : decide ((x59_7.length : Int) ≤ (rd t343 x414_7)) = false := decide_eq_false c133
                          clear c133
                          by_cases c134 : 0 ≤ (rd t343 x414_7)
                          ·
                           rw [if_pos c134] at H
                           have c134b0 : decide (0 ≤ (rd t343 x414_7)) = true := decide_eq_true c134
                           clear c134
                           by_cases c135 : (rd t343 x414_7) < (x59_7.length : Int)
                           ·
                            rw [if_pos c135] at H
                            have c135b0 : decide ((rd t343 x414_7) < (x59_7.length : Int)) = true := decide_eq_true c135
                            clear c135
                            obtain ⟨bq136, hbq136⟩ : ∃ b_ : Bool, b_ = (rdOf false x59_7 (rd t343 x414_7)) := ⟨_, rfl⟩
                            replace H : (if bq136 = true then (some false) else (if t342 = 0 then (none) else (if t341 = 0 then (none) else (if (Int.tmod (rd t343 x414_7) t342) = (wrap64 (Int.tdiv x414_7 t341)) then (if (wrap64 (Int.tdiv (rd t343 x414_7) t342)) = (wrap64 ((wrap64 (t341 - 1)) - (Int.tmod x414_7 t341))) then (laws_FnFormsLeft.l4 k7 t341 t342 t343 t351 (x59_7.set ((rd t343 x414_7) : Int).toNat true) t343 (t343.length : Int) (wrap64 (x414_7 + 1))) else (some false)) else (some false))))) = some r := by rw [← hbq136] at H; exact H
                            have Nbq136 := Aside0.mk hbq136
                            clear hbq136
                            by_cases c137 : bq136 = true
                            ·
                             subst c137
                             have H1 : (some false) = some r := by rw [if_pos rfl] at H; exact H
                             clear H
                             have H := H1
                             clear H1
                             exact absurd (H.trans (congrArg some HE_.out)) (by simp)
                            ·
                             replace c137 := Bool.eq_false_iff.mpr c137
                             subst c137
                             have H1 : (if t342 = 0 then (none) else (if t341 = 0 then (none) else (if (Int.tmod (rd t343 x414_7) t342) = (wrap64 (Int.tdiv x414_7 t341)) then (if (wrap64 (Int.tdiv (rd t343 x414_7) t342)) = (wrap64 ((wrap64 (t341 - 1)) - (Int.tmod x414_7 t341))) then (laws_FnFormsLeft.l4 k7 t341 t342 t343 t351 (x59_7.set ((rd t343 x414_7) : Int).toNat true) t343 (t343.length : Int) (wrap64 (x414_7 + 1))) else (some false)) else (some false)))) = some r := by rw [if_neg (show ¬ (false = true) by decide)] at H; exact H
                             clear H
                             have H := H1
                             clear H1
                             by_cases c138 : t342 = 0
                             ·
                              rw [if_pos c138] at H
                              exact absurd H (by simp)
                             ·
                              rw [if_neg c138] at H
                              have c138b0 : (t342 == 0) = false := beq_eq_false_iff_ne.mpr c138
                              have c138b1 : (t342 != 0) = true := bne_iff_ne.mpr c138
                              by_cases c139 : t341 = 0
                              ·
                               rw [if_pos c139] at H
                               exact absurd H (by simp)
                              ·
                               rw [if_neg c139] at H
                               have c139b0 : (t341 == 0) = false := beq_eq_false_iff_ne.mpr c139
                               have c139b1 : (t341 != 0) = true := bne_iff_ne.mpr c139
                               by_cases c140 : (Int.tmod (rd t343 x414_7) t342) = (wrap64 (Int.tdiv x414_7 t341))
                               ·
                                rw [if_pos c140] at H
                                have c140b0 : ((Int.tmod (rd t343 x414_7) t342) == (wrap64 (Int.tdiv x414_7 t341))) = true := beq_iff_eq.mpr c140
                                have c140b1 : ((Int.tmod (rd t343 x414_7) t342) != (wrap64 (Int.tdiv x414_7 t341))) = false := bne_eq_false_iff_eq.mpr c140
                                clear c140
                                by_cases c141 : (wrap64 (Int.tdiv (rd t343 x414_7) t342)) = (wrap64 ((wrap64 (t341 - 1)) - (Int.tmod x414_7 t341)))
                                ·
                                 rw [if_pos c141] at H
                                 have c141b0 : ((wrap64 (Int.tdiv (rd t343 x414_7) t342)) == (wrap64 ((wrap64 (t341 - 1)) - (Int.tmod x414_7 t341)))) = true := beq_iff_eq.mpr c141
                                 have c141b1 : ((wrap64 (Int.tdiv (rd t343 x414_7) t342)) != (wrap64 ((wrap64 (t341 - 1)) - (Int.tmod x414_7 t341)))) = false := bne_eq_false_iff_eq.mpr c141
                                 clear c141
                                 obtain ⟨y364, hy364⟩ : ∃ y_ : List Bool, y_ = (x59_7.set ((rd t343 x414_7) : Int).toNat true) := ⟨_, rfl⟩
                                 replace H : (laws_FnFormsLeft.l4 k7 t341 t342 t343 t351 y364 t343 (t343.length : Int) (wrap64 (x414_7 + 1))) = some r := by first | (rw [hy364]; with_reducible exact H) | (have H2_ := (Option.bind_some _ _).symm.trans H; rw [hy364]; with_reducible exact H2_) | (have H2_ := (Option.bind_some _ _).symm.trans H; with_reducible exact H2_) | with_reducible exact H | (rw [hy364]; exact H) | exact H
                                 have Ny364 := Aside0.mk hy364
                                 clear hy364
                                 have H' := Aside0.mk H
                                 clear H
                                 have p362 : 0 ≤ (x414_7 : Int) := of_decide_eq_true (by first | (with_reducible assumption) | assumption)
                                 have q362 : x414_7 < (t343.length : Int) := of_decide_eq_true (by first | (with_reducible assumption) | assumption)
                                 obtain ⟨ad362, e362, hx362_0⟩ := Kd.at_int (Kd.R_reads' HO_412.out).2.2 x414_7 p362 q362
                                 cases e362
                                 replace p362 := eq_true p362
                                 replace q362 := eq_true q362
                                 obtain ⟨Ao143, co143, eo143⟩ := Kd.R_slice HO_59.out
                                 subst eo143
                                 have p363 : 0 ≤ ((rd t343 x414_7) : Int) := of_decide_eq_true (by first | (with_reducible assumption) | assumption)
                                 have q363 : (rd t343 x414_7) < (x59_7.length : Int) := of_decide_eq_true (by first | (with_reducible assumption) | assumption)
                                 obtain ⟨ad363, e363, hx363_0⟩ := Kd.at_bool (Kd.R_reads' HO_59.out).2.2 (rd t343 x414_7) p363 q363
                                 (try rw [← Nbq136.out] at hx363_0)
                                 cases e363
                                 replace p363 := eq_true p363
                                 replace q363 := eq_true q363
                                 have p142 : 0 ≤ ((rd t343 x414_7) : Int) := of_decide_eq_true (by first | (with_reducible assumption) | assumption)
                                 have q142 : ((rd t343 x414_7) : Int) < ((x59_7.length : Int) : Int) := of_decide_eq_true (by first | (with_reducible assumption) | assumption)
                                 obtain ⟨go142, co142, eo142, gb142, gl142, cl142, HG142⟩ := Kd.R_form HO_59.out (by omega)
                                 (first | cases eo142 | (injection eo142 with ea_ en_ ec_; (first | subst ea_ | (injection ea_ with ea_; subst ea_)); subst ec_; clear en_))
                                 have GB142 := Aside0.mk gb142
                                 have GG142 := Aside0.mk HG142
                                 clear gb142 gl142 HG142
                                 (first | simp only [add_plain] at hx363_0 | skip)
                                 obtain ⟨hx142_0, hf142_0⟩ := Kd.R_celln false HO_59.out ((rd t343 x414_7) : Int) p142 q142
                                 replace p142 := eq_true p142
                                 replace q142 := eq_true q142
                                 have HP144 := Kd.R_putg HO_59.out ((rd t343 x414_7) : Int) true
                                 go_wp2_with (first | ((with_reducible refine gate_store (t := 4) (p := 456) rfl ?_); (try (rw [drewN_self wr]; generalize hq_ : World.drewN wr _ = wr; have n0_ := Aside0.mk (Kd.R_at hq_ HO_46.out); have n1_ := Aside0.mk (Kd.R_at hq_ HO_59.out); have n2_ := Aside0.mk (Kd.R_at hq_ HO_412.out); have n3_ := Aside0.mk (below_at hq_ HB.out); clear hq_ HO_46 HO_59 HO_412 HB; have HO_46 := n0_; have HO_59 := n1_; have HO_412 := n2_; have HB := n3_; clear n0_ n1_ n2_ n3_; (try (have HP144 := Kd.R_putg HO_59.out ((rd t343 x414_7) : Int) true; obtain ⟨hx142_0, hf142_0⟩ := Kd.R_celln false HO_59.out ((rd t343 x414_7) : Int) (of_eq_true p142) (of_eq_true q142))))); refine store_event (t := 4) (p := 456) (v := ?vo_w145) (w1 := (wr.setCell ⟨go142, ((rd t343 x414_7) : Int).toNat, none⟩ (.bool true))) ?hg ?ho ?hn ?hr ?_; (case ho => rfl); (case hg => rfl); (case hn => rfl); (case hr => first | (go_simp; done) | (go_simp; rfl)); intro w145 hw; have hg : wr.grownBy w145 (some go142) := (by rw [hw]; exact HP144.2); have hp_ : Kd.R Kd.bool 4 w145 w.heap.size (fun _ => True) (.slice (some ⟨go142, 0, none⟩) x59_7.length co143) y364 := (by rw [hw, Ny364.out]; exact HP144.1); clear HP144; have n0_ := Aside0.mk (Kd.R_over' (v := (.slice (some ⟨go142, 0, none⟩) x59_7.length co143)) (by (with_reducible repeat (first | apply Kd.R_alloc | apply Kd.R_drewN | apply Kd.R_drew)); exact HO_46.out) (Kd.R_typed HO_59.out) (by decide) hg); have n1_ := Aside0.mk (hp_); have n2_ := Aside0.mk (Kd.R_over' (v := (.slice (some ⟨go142, 0, none⟩) x59_7.length co143)) (by (with_reducible repeat (first | apply Kd.R_alloc | apply Kd.R_drewN | apply Kd.R_drew)); exact HO_412.out) (Kd.R_typed HO_59.out) (by decide) hg); have n3_ := Aside0.mk ((by rw [hw]; exact below_set (HB.out) GB142.out : Below w.heap.size w w145)); clear HO_46; clear HO_59; clear HO_412; clear HB; have HO_46 := n0_; have HO_59 := n1_; have HO_412 := n2_; have HB := n3_; clear n0_ n1_ n2_ n3_; clear hg hw hp_))
                                 repeat (go_quiet (first | ((with_reducible refine gate_store (t := 4) (p := 456) rfl ?_); (try (rw [drewN_self wr]; generalize hq_ : World.drewN wr _ = wr; have n0_ := Aside0.mk (Kd.R_at hq_ HO_46.out); have n1_ := Aside0.mk (Kd.R_at hq_ HO_59.out); have n2_ := Aside0.mk (Kd.R_at hq_ HO_412.out); have n3_ := Aside0.mk (below_at hq_ HB.out); clear hq_ HO_46 HO_59 HO_412 HB; have HO_46 := n0_; have HO_59 := n1_; have HO_412 := n2_; have HB := n3_; clear n0_ n1_ n2_ n3_; (try (have HP144 := Kd.R_putg HO_59.out ((rd t343 x414_7) : Int) true; obtain ⟨hx142_0, hf142_0⟩ := Kd.R_celln false HO_59.out ((rd t343 x414_7) : Int) (of_eq_true p142) (of_eq_true q142))))); refine store_event (t := 4) (p := 456) (v := ?vo_w145) (w1 := (wr.setCell ⟨go142, ((rd t343 x414_7) : Int).toNat, none⟩ (.bool true))) ?hg ?ho ?hn ?hr ?_; (case ho => rfl); (case hg => rfl); (case hn => rfl); (case hr => first | (go_simp; done) | (go_simp; rfl)); intro w145 hw; have hg : wr.grownBy w145 (some go142) := (by rw [hw]; exact HP144.2); have hp_ : Kd.R Kd.bool 4 w145 w.heap.size (fun _ => True) (.slice (some ⟨go142, 0, none⟩) x59_7.length co143) y364 := (by rw [hw, Ny364.out]; exact HP144.1); clear HP144; have n0_ := Aside0.mk (Kd.R_over' (v := (.slice (some ⟨go142, 0, none⟩) x59_7.length co143)) (by (with_reducible repeat (first | apply Kd.R_alloc | apply Kd.R_drewN | apply Kd.R_drew)); exact HO_46.out) (Kd.R_typed HO_59.out) (by decide) hg); have n1_ := Aside0.mk (hp_); have n2_ := Aside0.mk (Kd.R_over' (v := (.slice (some ⟨go142, 0, none⟩) x59_7.length co143)) (by (with_reducible repeat (first | apply Kd.R_alloc | apply Kd.R_drewN | apply Kd.R_drew)); exact HO_412.out) (Kd.R_typed HO_59.out) (by decide) hg); have n3_ := Aside0.mk ((by rw [hw]; exact below_set (HB.out) GB142.out : Below w.heap.size w w145)); clear HO_46; clear HO_59; clear HO_412; clear HB; have HO_46 := n0_; have HO_59 := n1_; have HO_412 := n2_; have HB := n3_; clear n0_ n1_ n2_ n3_; clear hg hw hp_)); try go_wp2_with (first | ((with_reducible refine gate_store (t := 4) (p := 456) rfl ?_); (try (rw [drewN_self wr]; generalize hq_ : World.drewN wr _ = wr; have n0_ := Aside0.mk (Kd.R_at hq_ HO_46.out); have n1_ := Aside0.mk (Kd.R_at hq_ HO_59.out); have n2_ := Aside0.mk (Kd.R_at hq_ HO_412.out); have n3_ := Aside0.mk (below_at hq_ HB.out); clear hq_ HO_46 HO_59 HO_412 HB; have HO_46 := n0_; have HO_59 := n1_; have HO_412 := n2_; have HB := n3_; clear n0_ n1_ n2_ n3_; (try (have HP144 := Kd.R_putg HO_59.out ((rd t343 x414_7) : Int) true; obtain ⟨hx142_0, hf142_0⟩ := Kd.R_celln false HO_59.out ((rd t343 x414_7) : Int) (of_eq_true p142) (of_eq_true q142))))); refine store_event (t := 4) (p := 456) (v := ?vo_w145) (w1 := (wr.setCell ⟨go142, ((rd t343 x414_7) : Int).toNat, none⟩ (.bool true))) ?hg ?ho ?hn ?hr ?_; (case ho => rfl); (case hg => rfl); (case hn => rfl); (case hr => first | (go_simp; done) | (go_simp; rfl)); intro w145 hw; have hg : wr.grownBy w145 (some go142) := (by rw [hw]; exact HP144.2); have hp_ : Kd.R Kd.bool 4 w145 w.heap.size (fun _ => True) (.slice (some ⟨go142, 0, none⟩) x59_7.length co143) y364 := (by rw [hw, Ny364.out]; exact HP144.1); clear HP144; have n0_ := Aside0.mk (Kd.R_over' (v := (.slice (some ⟨go142, 0, none⟩) x59_7.length co143)) (by (with_reducible repeat (first | apply Kd.R_alloc | apply Kd.R_drewN | apply Kd.R_drew)); exact HO_46.out) (Kd.R_typed HO_59.out) (by decide) hg); have n1_ := Aside0.mk (hp_); have n2_ := Aside0.mk (Kd.R_over' (v := (.slice (some ⟨go142, 0, none⟩) x59_7.length co143)) (by (with_reducible repeat (first | apply Kd.R_alloc | apply Kd.R_drewN | apply Kd.R_drew)); exact HO_412.out) (Kd.R_typed HO_59.out) (by decide) hg); have n3_ := Aside0.mk ((by rw [hw]; exact below_set (HB.out) GB142.out : Below w.heap.size w w145)); clear HO_46; clear HO_59; clear HO_412; clear HB; have HO_46 := n0_; have HO_59 := n1_; have HO_412 := n2_; have HB := n3_; clear n0_ n1_ n2_ n3_; clear hg hw hp_)))
                                 go_roundg k7
                                 case measure => have := HJ11.out; have := HJ24.out; have := HJ62.out; have := HJ80.out; have := HJ108.out; have := HJ110.out; have := HK7.out; omega
                                 case rel => exact ⟨(y364), (wrap64 (x414_7 + 1)), (by first | rfl | (simp; done) | (simp [*]; done)), H', ⟨by have := HJ11.out; have := HJ24.out; have := HJ62.out; have := HJ80.out; have := HJ108.out; have := HJ110.out; have := HK7.out; omega⟩, ⟨by (with_reducible repeat (first | apply Kd.R_alloc | apply Kd.R_drewN | apply Kd.R_drew)); exact HO_46.out⟩, ⟨by (with_reducible repeat (first | apply Kd.R_alloc | apply Kd.R_drewN | apply Kd.R_drew)); exact HO_59.out⟩, ⟨by (with_reducible repeat (first | apply Kd.R_alloc | apply Kd.R_drewN | apply Kd.R_drew)); exact HO_412.out⟩, ⟨by repeat (first | (with_reducible first | exact HB.out | apply below_alloc | apply pw_below_drewN | apply below_drew1) | exact HB.out)⟩⟩
                                ·
                                 rw [if_neg c141] at H
                                 exact absurd (H.trans (congrArg some HE_.out)) (by simp)
                               ·
                                rw [if_neg c140] at H
                                exact absurd (H.trans (congrArg some HE_.out)) (by simp)
                           ·
                            rw [if_neg c135] at H
                            exact absurd H (by simp)
                          ·
                           rw [if_neg c134] at H
                           exact absurd H (by simp)
                       ·
                        rw [if_neg c131] at H
                        exact absurd H (by simp)
                      ·
                       rw [if_neg c130] at H
                       exact absurd H (by simp)
                     ·
                      rw [if_neg c129] at H
                      have c129b0 : decide (x414_7 < (t343.length : Int)) = false := decide_eq_false c129
                      clear c129
                      have HC146 := Aside0.mk H
                      clear H
                      go_upto_region 81 with (fail)
                      repeat (go_quiet (fail); go_upto_region 81 with (fail))
                      go_cut [474] from 376 to 474 (fun v474 wc => ∃ (kq : Nat) (x474_145 : Bool), v474 = .bool x474_145 ∧ Aside0 (laws_FnFormsLeft.j17 kq t343 t351 x474_145 = some r) ∧ Aside0 (kq ≤ k7) ∧ Aside0 (Kd.R (Kd.int .i64) 3 wc w.heap.size (fun _ => True) (.slice Ao128 t343.length co128) t343) ∧ Aside0 (Below w.heap.size w wc))
                      case first => as_aux_lemma =>
                       have H := HC146.out
                       clear HC146
                       by_cases c147 : (t343.length : Int) = (x59_7.length : Int)
                       ·
                        rw [if_pos c147] at H
                        have c147b0 : ((t343.length : Int) == (x59_7.length : Int)) = true := beq_iff_eq.mpr c147
                        have c147b1 : ((t343.length : Int) != (x59_7.length : Int)) = false := bne_eq_false_iff_eq.mpr c147
                        have c147b2 : (t343.length == x59_7.length) = true := by first | simpa using c147 | (simp at c147 ⊢; omega)
                        clear c147
                        (first | rw [c147b0] | (simp only [i64_w, i32_w]; rw [c147b0]) | skip)
                        by_cases c148 : t351 < 1
                        ·
                         rw [if_pos c148] at H
                         exact (laws_FnFormsLeft.j17_no _ _ _ (H.trans (congrArg some HE_.out))).elim
                        ·
                         rw [if_neg c148] at H
                         have c148b0 : decide (t351 < 1) = false := decide_eq_false c148
                         clear c148
                         by_cases c149 : t341 = 1
                         ·
                          rw [if_pos c149] at H
                          have c149b0 : (t341 == 1) = true := beq_iff_eq.mpr c149
                          have c149b1 : (t341 != 1) = false := bne_eq_false_iff_eq.mpr c149
                          clear c149
                          have H' := Aside0.mk H
                          clear H
                          obtain ⟨Ao150, co150, eo150⟩ := Kd.R_slice HO_59.out
                          subst eo150
                          go_wp2
                          repeat (go_quiet (fail); try go_wp2)
                          go_meet
                          case rel => exact ⟨_, ((t351 != 1)), (by first | rfl | (simp; done) | (simp [*]; done)), H', ⟨by have := HJ11.out; have := HJ24.out; have := HJ62.out; have := HJ80.out; have := HJ108.out; have := HJ110.out; have := HK7.out; first | omega | exact Nat.le_refl _⟩, ⟨by (with_reducible repeat (first | apply Kd.R_alloc | apply Kd.R_drewN | apply Kd.R_drew)); exact HO_46.out⟩, ⟨by repeat (first | (with_reducible first | exact HB.out | apply below_alloc | apply pw_below_drewN | apply below_drew1) | exact HB.out)⟩⟩
                         ·
                          rw [if_neg c149] at H
                          have c149b0 : (t341 == 1) = false := beq_eq_false_iff_ne.mpr c149
                          have c149b1 : (t341 != 1) = true := bne_iff_ne.mpr c149
                          have H' := Aside0.mk H
                          clear H
                          obtain ⟨Ao151, co151, eo151⟩ := Kd.R_slice HO_59.out
                          subst eo151
                          go_wp2
                          repeat (go_quiet (fail); try go_wp2)
                          go_meet
                          case rel => exact ⟨_, (false), (by first | rfl | (simp; done) | (simp [*]; done)), H', ⟨by have := HJ11.out; have := HJ24.out; have := HJ62.out; have := HJ80.out; have := HJ108.out; have := HJ110.out; have := HK7.out; first | omega | exact Nat.le_refl _⟩, ⟨by (with_reducible repeat (first | apply Kd.R_alloc | apply Kd.R_drewN | apply Kd.R_drew)); exact HO_46.out⟩, ⟨by repeat (first | (with_reducible first | exact HB.out | apply below_alloc | apply pw_below_drewN | apply below_drew1) | exact HB.out)⟩⟩
                       ·
                        rw [if_neg c147] at H
                        exact (laws_FnFormsLeft.j17_no _ _ _ (H.trans (congrArg some HE_.out))).elim
                      case rest => as_aux_lemma =>
                       clear HC146
                       try clear c1
                       try clear c4
                       try clear c24
                       try clear c108
                       try clear c122
                       try clear c124
                       try clear c124b0
                       try clear c124b1
                       try clear c125
                       try clear c125b0
                       try clear c125b1
                       try clear c129
                       try clear c129b0
                       obtain ⟨kq, x474_145, rfl, HA, HJ145, HO_46, HB⟩ := hcut
                       cases kq with
                       | zero => exact absurd HA.out (by simp [laws_FnFormsLeft.j17])
                       | succ kj145 =>
                        have H := HA.out
                        clear HA
                        simp only [laws_FnFormsLeft.j17] at H
                        by_cases c152 : x474_145 = true
                        ·
                         subst c152
                         have H1 : (some false) = some r := by rw [if_pos rfl] at H; exact H
                         clear H
                         have H := H1
                         clear H1
                         exact absurd (H.trans (congrArg some HE_.out)) (by simp)
                        ·
                         replace c152 := Bool.eq_false_iff.mpr c152
                         subst c152
                         have H1 : (if t351 ≤ 60 then (if 0 ≤ (t343.length : Int) then (if ((t343.length : Int) : Int).toNat ≤ 35184372088832 then ((some (List.replicate ((t343.length : Int) : Int).toNat 0 : List Int)).bind fun y365 => (laws_FnFormsLeft.l5 kj145 t343 t351 y365 (y365.length : Int) 0)) else (none)) else (none)) else (some true)) = some r := by rw [if_neg (show ¬ (false = true) by decide)] at H; exact H
                         clear H
                         have H := H1
                         clear H1
                         by_cases c153 : t351 ≤ 60
                         ·
                          rw [if_pos c153] at H
                          have c153b0 : decide (t351 ≤ 60) = true := decide_eq_true c153
                          clear c153
                          by_cases c154 : 0 ≤ (t343.length : Int)
                          ·
                           rw [if_pos c154] at H
                           have c154b0 := eq_true c154
                           have c154b1 : decide (0 ≤ (t343.length : Int)) = true := decide_eq_true c154
                           clear c154
                           by_cases c155 : ((t343.length : Int) : Int).toNat ≤ 35184372088832
                           ·
                            rw [if_pos c155] at H
                            have c155b0 := eq_true c155
                            have c155b1 : decide (((t343.length : Int) : Int).toNat ≤ 35184372088832) = true := decide_eq_true c155
                            clear c155
                            obtain ⟨y365, hy365⟩ : ∃ y_ : List Int, y_ = (List.replicate ((t343.length : Int) : Int).toNat 0) := ⟨_, rfl⟩
                            replace H : (laws_FnFormsLeft.l5 kj145 t343 t351 y365 (y365.length : Int) 0) = some r := by first | (rw [hy365]; with_reducible exact H) | (have H2_ := (Option.bind_some _ _).symm.trans H; rw [hy365]; with_reducible exact H2_) | (have H2_ := (Option.bind_some _ _).symm.trans H; with_reducible exact H2_) | with_reducible exact H | (rw [hy365]; exact H) | exact H
                            have Ny365 := Aside0.mk hy365
                            clear hy365
                            have H' := Aside0.mk H
                            clear H
                            go_wp2_with (first | ((with_reducible refine gate_dst (N := 479) rfl ?_); (try (refine gate_guard (by rfl) ?_; dsimp only)); refine Kd.R_make (Kd.int .i64) _ 3 rfl (N := 479) rfl 28 _ _ rfl (t343.length : Int) rfl rfl Try.underlying28 (.int .i64 0) 8 info3 rfl (by decide) (by omega) 0 (ok := fun _ => True) (okp := fun _ => True) rfl (fun _ hk => hk) trivial (of_decide_eq_true (by first | (with_reducible assumption) | assumption)) (Nat.le_trans (Nat.mul_le_mul_right _ (of_decide_eq_true (by first | (with_reducible assumption) | assumption) : (t343.length : Int).toNat ≤ 35184372088832)) (by omega)) (Below.refl _ _) (Nat.le_refl _) ?_; intro v366 w156 ho157 hb hg_ hnew_; clear hg_ hnew_; (first | rw [← Ny365.out] at ho157 | (simp only [Int.reduceToNat] at ho157; rw [← Ny365.out] at ho157)); have n0_ := Aside0.mk (Kd.R_elder' (by (with_reducible repeat (first | apply Kd.R_alloc | apply Kd.R_drewN | apply Kd.R_drew)); exact HO_46.out) (Kd.R_base ho157) hb); have n1_ := Aside0.mk (Kd.R_lower (Kd.R_new' ho157 (Kd.R_lt (by (with_reducible repeat (first | apply Kd.R_alloc | apply Kd.R_drewN | apply Kd.R_drew)); exact HO_46.out))) (below_size (by repeat (first | (with_reducible first | exact HB.out | apply below_alloc | apply pw_below_drewN | apply below_drew1) | exact HB.out)))); have n2_ := Aside0.mk (below_step (by repeat (first | (with_reducible first | exact HB.out | apply below_alloc | apply pw_below_drewN | apply below_drew1) | exact HB.out)) hb); clear HO_46; clear HB; have HO_46 := n0_; have HO367 := n1_; have HB := n2_; clear n0_ n1_ n2_; clear hb ho157; obtain ⟨Ao158, co158, eo158⟩ := Kd.R_slice HO367.out; subst eo158))
                            repeat (go_quiet (first | ((with_reducible refine gate_dst (N := 479) rfl ?_); (try (refine gate_guard (by rfl) ?_; dsimp only)); refine Kd.R_make (Kd.int .i64) _ 3 rfl (N := 479) rfl 28 _ _ rfl (t343.length : Int) rfl rfl Try.underlying28 (.int .i64 0) 8 info3 rfl (by decide) (by omega) 0 (ok := fun _ => True) (okp := fun _ => True) rfl (fun _ hk => hk) trivial (of_decide_eq_true (by first | (with_reducible assumption) | assumption)) (Nat.le_trans (Nat.mul_le_mul_right _ (of_decide_eq_true (by first | (with_reducible assumption) | assumption) : (t343.length : Int).toNat ≤ 35184372088832)) (by omega)) (Below.refl _ _) (Nat.le_refl _) ?_; intro v366 w156 ho157 hb hg_ hnew_; clear hg_ hnew_; (first | rw [← Ny365.out] at ho157 | (simp only [Int.reduceToNat] at ho157; rw [← Ny365.out] at ho157)); have n0_ := Aside0.mk (Kd.R_elder' (by (with_reducible repeat (first | apply Kd.R_alloc | apply Kd.R_drewN | apply Kd.R_drew)); exact HO_46.out) (Kd.R_base ho157) hb); have n1_ := Aside0.mk (Kd.R_lower (Kd.R_new' ho157 (Kd.R_lt (by (with_reducible repeat (first | apply Kd.R_alloc | apply Kd.R_drewN | apply Kd.R_drew)); exact HO_46.out))) (below_size (by repeat (first | (with_reducible first | exact HB.out | apply below_alloc | apply pw_below_drewN | apply below_drew1) | exact HB.out)))); have n2_ := Aside0.mk (below_step (by repeat (first | (with_reducible first | exact HB.out | apply below_alloc | apply pw_below_drewN | apply below_drew1) | exact HB.out)) hb); clear HO_46; clear HB; have HO_46 := n0_; have HO367 := n1_; have HB := n2_; clear n0_ n1_ n2_; clear hb ho157; obtain ⟨Ao158, co158, eo158⟩ := Kd.R_slice HO367.out; subst eo158)); try go_wp2_with (first | ((with_reducible refine gate_dst (N := 479) rfl ?_); (try (refine gate_guard (by rfl) ?_; dsimp only)); refine Kd.R_make (Kd.int .i64) _ 3 rfl (N := 479) rfl 28 _ _ rfl (t343.length : Int) rfl rfl Try.underlying28 (.int .i64 0) 8 info3 rfl (by decide) (by omega) 0 (ok := fun _ => True) (okp := fun _ => True) rfl (fun _ hk => hk) trivial (of_decide_eq_true (by first | (with_reducible assumption) | assumption)) (Nat.le_trans (Nat.mul_le_mul_right _ (of_decide_eq_true (by first | (with_reducible assumption) | assumption) : (t343.length : Int).toNat ≤ 35184372088832)) (by omega)) (Below.refl _ _) (Nat.le_refl _) ?_; intro v366 w156 ho157 hb hg_ hnew_; clear hg_ hnew_; (first | rw [← Ny365.out] at ho157 | (simp only [Int.reduceToNat] at ho157; rw [← Ny365.out] at ho157)); have n0_ := Aside0.mk (Kd.R_elder' (by (with_reducible repeat (first | apply Kd.R_alloc | apply Kd.R_drewN | apply Kd.R_drew)); exact HO_46.out) (Kd.R_base ho157) hb); have n1_ := Aside0.mk (Kd.R_lower (Kd.R_new' ho157 (Kd.R_lt (by (with_reducible repeat (first | apply Kd.R_alloc | apply Kd.R_drewN | apply Kd.R_drew)); exact HO_46.out))) (below_size (by repeat (first | (with_reducible first | exact HB.out | apply below_alloc | apply pw_below_drewN | apply below_drew1) | exact HB.out)))); have n2_ := Aside0.mk (below_step (by repeat (first | (with_reducible first | exact HB.out | apply below_alloc | apply pw_below_drewN | apply below_drew1) | exact HB.out)) hb); clear HO_46; clear HB; have HO_46 := n0_; have HO367 := n1_; have HB := n2_; clear n0_ n1_ n2_; clear hb ho157; obtain ⟨Ao158, co158, eo158⟩ := Kd.R_slice HO367.out; subst eo158)))
                            go_loopg [482] kj145 (fun kq v482 w' => ∃ (x62_9 : List Int) (x482_9 : Int), v482 = .int .i64 x482_9 ∧ Aside0 (laws_FnFormsLeft.l5 kq t343 t351 x62_9 (y365.length : Int) x482_9 = some r) ∧ Aside0 (kq ≤ kj145) ∧ Aside0 (Kd.R (Kd.int .i64) 3 w' w.heap.size (fun k_ => some k_ ≠ ((.slice Ao158 y365.length co158) : Value).ownBlock) (.slice Ao128 t343.length co128) t343) ∧ Aside0 (Kd.R (Kd.int .i64) 3 w' w.heap.size (fun k_ => some k_ ≠ ((.slice Ao128 t343.length co128) : Value).ownBlock) (.slice Ao158 y365.length co158) x62_9) ∧ Aside0 (Below w.heap.size w w'))
                            case atStart => exact ⟨(y365), (0), (by first | rfl | (simp; done) | (simp [*]; done)), H', ⟨Nat.le_refl _⟩, ⟨by (with_reducible repeat (first | apply Kd.R_alloc | apply Kd.R_drewN | apply Kd.R_drew)); exact Kd.R_mono HO_46.out (fun _ hk => hk.2)⟩, ⟨by (with_reducible repeat (first | apply Kd.R_alloc | apply Kd.R_drewN | apply Kd.R_drew)); exact Kd.R_mono HO367.out (fun _ hk => hk.2)⟩, ⟨by repeat (first | (with_reducible first | exact HB.out | apply below_alloc | apply pw_below_drewN | apply below_drew1) | exact HB.out)⟩⟩
                            case round =>
                             clear H'
                             try clear c1
                             try clear c4
                             try clear c24
                             try clear c108
                             try clear c122
                             try clear c124
                             try clear c124b0
                             try clear c124b1
                             try clear c125
                             try clear c125b0
                             try clear c125b1
                             try clear c129
                             try clear c129b0
                             try clear c152
                             try clear c153
                             try clear c153b0
                             try clear c154
                             try clear c154b0
                             try clear c154b1
                             try clear c155
                             try clear c155b0
                             try clear c155b1
                             obtain ⟨x62_9, x482_9, rfl, HA, HK9, HO_46, HO_62, HB⟩ := hrel
                             have hl62_9 := (Kd.R_reads' HO_62.out).1
                             rw [hl62_9] at HO_62
                             (try simp only [hl62_9])
                             (try simp only [hl62_9] at HO_46)
                             cases gk with
                             | zero => exact absurd HA.out (by simp [laws_FnFormsLeft.l5])
                             | succ k9 =>
                              have H := HA.out
                              clear HA
                              simp only [laws_FnFormsLeft.l5] at H
                              by_cases c159 : x482_9 < (y365.length : Int)
                              ·
                               rw [if_pos c159] at H
                               have c159b0 : decide (x482_9 < (y365.length : Int)) = true := decide_eq_true c159
                               (try (have c159b0l := c159b0; rw [hl62_9] at c159b0l))
                               clear c159
                               by_cases c160 : 0 ≤ x482_9
                               ·
                                rw [if_pos c160] at H
                                have c160b0 : decide (0 ≤ x482_9) = true := decide_eq_true c160
                                clear c160
                                by_cases c161 : x482_9 < (x62_9.length : Int)
                                ·
                                 rw [if_pos c161] at H
                                 have c161b0 : decide (x482_9 < (x62_9.length : Int)) = true := decide_eq_true c161
                                 (try (have c161b0l := c161b0; rw [hl62_9] at c161b0l))
                                 clear c161
                                 obtain ⟨y368, hy368⟩ : ∃ y_ : List Int, y_ = (x62_9.set (x482_9 : Int).toNat x482_9) := ⟨_, rfl⟩
                                 replace H : (laws_FnFormsLeft.l5 k9 t343 t351 y368 (y365.length : Int) (wrap64 (x482_9 + 1))) = some r := by first | (rw [hy368]; with_reducible exact H) | (have H2_ := (Option.bind_some _ _).symm.trans H; rw [hy368]; with_reducible exact H2_) | (have H2_ := (Option.bind_some _ _).symm.trans H; with_reducible exact H2_) | with_reducible exact H | (rw [hy368]; exact H) | exact H
                                 have Ny368 := Aside0.mk hy368
                                 clear hy368
                                 have H' := Aside0.mk H
                                 clear H
                                 have p162 : 0 ≤ (x482_9 : Int) := of_decide_eq_true (by first | (with_reducible assumption) | assumption)
                                 have q162 : (x482_9 : Int) < ((x62_9.length : Int) : Int) := of_decide_eq_true (by first | (with_reducible assumption) | assumption)
                                 obtain ⟨go162, co162, eo162, gb162, gl162, cl162, HG162⟩ := Kd.R_form HO_62.out (by omega)
                                 (first | cases eo162 | (injection eo162 with ea_ en_ ec_; (first | subst ea_ | (injection ea_ with ea_; subst ea_)); subst ec_; clear en_))
                                 have GB162 := Aside0.mk gb162
                                 have GG162 := Aside0.mk HG162
                                 clear gb162 gl162 HG162
                                 obtain ⟨hx162_0, hf162_0⟩ := Kd.R_celln 0 HO_62.out (x482_9 : Int) p162 q162
                                 replace p162 := eq_true p162
                                 replace q162 := eq_true q162
                                 have HP163 := Kd.R_putg HO_62.out (x482_9 : Int) x482_9
                                 go_wp2_with (first | ((with_reducible refine gate_store (t := 3) (p := 488) rfl ?_); (try (rw [drewN_self wr]; generalize hq_ : World.drewN wr _ = wr; have n0_ := Aside0.mk (Kd.R_at hq_ HO_46.out); have n1_ := Aside0.mk (Kd.R_at hq_ HO_62.out); have n2_ := Aside0.mk (below_at hq_ HB.out); clear hq_ HO_46 HO_62 HB; have HO_46 := n0_; have HO_62 := n1_; have HB := n2_; clear n0_ n1_ n2_; (try (have HP163 := Kd.R_putg HO_62.out (x482_9 : Int) x482_9; obtain ⟨hx162_0, hf162_0⟩ := Kd.R_celln 0 HO_62.out (x482_9 : Int) (of_eq_true p162) (of_eq_true q162))))); refine store_event (t := 3) (p := 488) (v := ?vo_w164) (w1 := (wr.setCell ⟨go162, (x482_9 : Int).toNat, none⟩ (.int .i64 x482_9))) ?hg ?ho ?hn ?hr ?_; (case ho => rfl); (case hg => rfl); (case hn => rfl); (case hr => first | (go_simp; done) | (go_simp; rfl)); intro w164 hw; have hg : wr.grownBy w164 (some go162) := (by rw [hw]; exact HP163.2); have hp_ : Kd.R (Kd.int .i64) 3 w164 w.heap.size (fun k_ => some k_ ≠ (.slice Ao128 t343.length co128 : Value).ownBlock) (.slice (some ⟨go162, 0, none⟩) x62_9.length co158) y368 := (by rw [hw, Ny368.out]; exact HP163.1); clear HP163; have n0_ := Aside0.mk (Kd.R_after (v := (.slice (some ⟨go162, 0, none⟩) x62_9.length co158)) (v1 := (.slice (some ⟨go162, 0, none⟩) x62_9.length co158)) (ok := (fun _ => True)) (by (with_reducible repeat (first | apply Kd.R_alloc | apply Kd.R_drewN | apply Kd.R_drew)); exact Kd.R_mono HO_46.out (fun _ hk => ⟨trivial, hk⟩)) hg (.inl rfl)); have n1_ := Aside0.mk (hp_); have n2_ := Aside0.mk ((by rw [hw]; exact below_set (HB.out) GB162.out : Below w.heap.size w w164)); clear HO_46; clear HO_62; clear HB; have HO_46 := n0_; have HO_62 := n1_; have HB := n2_; clear n0_ n1_ n2_; clear hg hw hp_))
                                 repeat (go_quiet (first | ((with_reducible refine gate_store (t := 3) (p := 488) rfl ?_); (try (rw [drewN_self wr]; generalize hq_ : World.drewN wr _ = wr; have n0_ := Aside0.mk (Kd.R_at hq_ HO_46.out); have n1_ := Aside0.mk (Kd.R_at hq_ HO_62.out); have n2_ := Aside0.mk (below_at hq_ HB.out); clear hq_ HO_46 HO_62 HB; have HO_46 := n0_; have HO_62 := n1_; have HB := n2_; clear n0_ n1_ n2_; (try (have HP163 := Kd.R_putg HO_62.out (x482_9 : Int) x482_9; obtain ⟨hx162_0, hf162_0⟩ := Kd.R_celln 0 HO_62.out (x482_9 : Int) (of_eq_true p162) (of_eq_true q162))))); refine store_event (t := 3) (p := 488) (v := ?vo_w164) (w1 := (wr.setCell ⟨go162, (x482_9 : Int).toNat, none⟩ (.int .i64 x482_9))) ?hg ?ho ?hn ?hr ?_; (case ho => rfl); (case hg => rfl); (case hn => rfl); (case hr => first | (go_simp; done) | (go_simp; rfl)); intro w164 hw; have hg : wr.grownBy w164 (some go162) := (by rw [hw]; exact HP163.2); have hp_ : Kd.R (Kd.int .i64) 3 w164 w.heap.size (fun k_ => some k_ ≠ (.slice Ao128 t343.length co128 : Value).ownBlock) (.slice (some ⟨go162, 0, none⟩) x62_9.length co158) y368 := (by rw [hw, Ny368.out]; exact HP163.1); clear HP163; have n0_ := Aside0.mk (Kd.R_after (v := (.slice (some ⟨go162, 0, none⟩) x62_9.length co158)) (v1 := (.slice (some ⟨go162, 0, none⟩) x62_9.length co158)) (ok := (fun _ => True)) (by (with_reducible repeat (first | apply Kd.R_alloc | apply Kd.R_drewN | apply Kd.R_drew)); exact Kd.R_mono HO_46.out (fun _ hk => ⟨trivial, hk⟩)) hg (.inl rfl)); have n1_ := Aside0.mk (hp_); have n2_ := Aside0.mk ((by rw [hw]; exact below_set (HB.out) GB162.out : Below w.heap.size w w164)); clear HO_46; clear HO_62; clear HB; have HO_46 := n0_; have HO_62 := n1_; have HB := n2_; clear n0_ n1_ n2_; clear hg hw hp_)); try go_wp2_with (first | ((with_reducible refine gate_store (t := 3) (p := 488) rfl ?_); (try (rw [drewN_self wr]; generalize hq_ : World.drewN wr _ = wr; have n0_ := Aside0.mk (Kd.R_at hq_ HO_46.out); have n1_ := Aside0.mk (Kd.R_at hq_ HO_62.out); have n2_ := Aside0.mk (below_at hq_ HB.out); clear hq_ HO_46 HO_62 HB; have HO_46 := n0_; have HO_62 := n1_; have HB := n2_; clear n0_ n1_ n2_; (try (have HP163 := Kd.R_putg HO_62.out (x482_9 : Int) x482_9; obtain ⟨hx162_0, hf162_0⟩ := Kd.R_celln 0 HO_62.out (x482_9 : Int) (of_eq_true p162) (of_eq_true q162))))); refine store_event (t := 3) (p := 488) (v := ?vo_w164) (w1 := (wr.setCell ⟨go162, (x482_9 : Int).toNat, none⟩ (.int .i64 x482_9))) ?hg ?ho ?hn ?hr ?_; (case ho => rfl); (case hg => rfl); (case hn => rfl); (case hr => first | (go_simp; done) | (go_simp; rfl)); intro w164 hw; have hg : wr.grownBy w164 (some go162) := (by rw [hw]; exact HP163.2); have hp_ : Kd.R (Kd.int .i64) 3 w164 w.heap.size (fun k_ => some k_ ≠ (.slice Ao128 t343.length co128 : Value).ownBlock) (.slice (some ⟨go162, 0, none⟩) x62_9.length co158) y368 := (by rw [hw, Ny368.out]; exact HP163.1); clear HP163; have n0_ := Aside0.mk (Kd.R_after (v := (.slice (some ⟨go162, 0, none⟩) x62_9.length co158)) (v1 := (.slice (some ⟨go162, 0, none⟩) x62_9.length co158)) (ok := (fun _ => True)) (by (with_reducible repeat (first | apply Kd.R_alloc | apply Kd.R_drewN | apply Kd.R_drew)); exact Kd.R_mono HO_46.out (fun _ hk => ⟨trivial, hk⟩)) hg (.inl rfl)); have n1_ := Aside0.mk (hp_); have n2_ := Aside0.mk ((by rw [hw]; exact below_set (HB.out) GB162.out : Below w.heap.size w w164)); clear HO_46; clear HO_62; clear HB; have HO_46 := n0_; have HO_62 := n1_; have HB := n2_; clear n0_ n1_ n2_; clear hg hw hp_)))
                                 (try simp only [← hl62_9])
                                 go_roundg k9
                                 case measure => have := HJ11.out; have := HJ24.out; have := HJ62.out; have := HJ80.out; have := HJ108.out; have := HJ110.out; have := HK7.out; have := HJ145.out; have := HK9.out; omega
                                 case rel => exact ⟨(y368), (wrap64 (x482_9 + 1)), (by first | rfl | (simp; done) | (simp [*]; done)), H', ⟨by have := HJ11.out; have := HJ24.out; have := HJ62.out; have := HJ80.out; have := HJ108.out; have := HJ110.out; have := HK7.out; have := HJ145.out; have := HK9.out; omega⟩, ⟨by (try simp only [hl62_9]); (with_reducible repeat (first | apply Kd.R_alloc | apply Kd.R_drewN | apply Kd.R_drew)); exact Kd.R_mono HO_46.out (fun _ hk => hk.2)⟩, ⟨by (try simp only [hl62_9]); (with_reducible repeat (first | apply Kd.R_alloc | apply Kd.R_drewN | apply Kd.R_drew)); exact HO_62.out⟩, ⟨by repeat (first | (with_reducible first | exact HB.out | apply below_alloc | apply pw_below_drewN | apply below_drew1) | exact HB.out)⟩⟩
                                ·
                                 rw [if_neg c161] at H
                                 exact absurd H (by simp)
                               ·
                                rw [if_neg c160] at H
                                exact absurd H (by simp)
                              ·
                               rw [if_neg c159] at H
                               have c159b0 : decide (x482_9 < (y365.length : Int)) = false := decide_eq_false c159
                               (try (have c159b0l := c159b0; rw [hl62_9] at c159b0l))
                               clear c159
                               have H' := Aside0.mk H
                               clear H
                               go_wp2
                               repeat (go_quiet (fail); try go_wp2)
                               go_loopg [62, 64] k9 (fun kq v62 v64 w' => ∃ (x46_10 : List Int) (x62_10 : List Int) (x64_10 : Int), v64 = .int .i64 x64_10 ∧ Aside0 (laws_FnFormsLeft.l6 kq x46_10 t351 x62_10 x64_10 = some r) ∧ Aside0 (kq ≤ k9) ∧ Aside0 (Kd.R (Kd.int .i64) 3 w' w.heap.size (fun k_ => some k_ ≠ (v62 : Value).ownBlock) (.slice Ao128 t343.length co128) x46_10) ∧ Aside0 (Kd.R (Kd.int .i64) 3 w' w.heap.size (fun k_ => some k_ ≠ ((.slice Ao128 t343.length co128) : Value).ownBlock) v62 x62_10) ∧ Aside0 (Below w.heap.size w w'))
                               case atStart => exact ⟨(t343), (x62_9), (1), (by first | rfl | (simp; done) | (simp [*]; done)), H', ⟨Nat.le_refl _⟩, ⟨by (try simp only [hl62_9]); (with_reducible repeat (first | apply Kd.R_alloc | apply Kd.R_drewN | apply Kd.R_drew)); exact HO_46.out⟩, ⟨by (try simp only [hl62_9]); (with_reducible repeat (first | apply Kd.R_alloc | apply Kd.R_drewN | apply Kd.R_drew)); exact HO_62.out⟩, ⟨by repeat (first | (with_reducible first | exact HB.out | apply below_alloc | apply pw_below_drewN | apply below_drew1) | exact HB.out)⟩⟩
                               case round =>
                                clear H'
                                try clear c1
                                try clear c4
                                try clear c24
                                try clear c108
                                try clear c122
                                try clear c124
                                try clear c124b0
                                try clear c124b1
                                try clear c125
                                try clear c125b0
                                try clear c125b1
                                try clear c129
                                try clear c129b0
                                try clear c152
                                try clear c153
                                try clear c153b0
                                try clear c154
                                try clear c154b0
                                try clear c154b1
                                try clear c155
                                try clear c155b0
                                try clear c155b1
                                try clear c159
                                try clear c159b0
                                obtain ⟨x46_10, x62_10, x64_10, rfl, HA, HK10, HO_46, HO_62, HB⟩ := hrel
                                have hl46_10 := (Kd.R_reads' HO_46.out).1
                                rw [hl46_10] at HO_46
                                (try simp only [hl46_10])
                                (try simp only [hl46_10] at HO_62)
                                cases gk with
                                | zero => exact absurd HA.out (by simp [laws_FnFormsLeft.l6])
                                | succ k10 =>
                                 have H := HA.out
                                 clear HA
                                 simp only [laws_FnFormsLeft.l6] at H
                                 by_cases c165 : x64_10 ≤ t351
                                 ·
                                  rw [if_pos c165] at H
                                  have c165b0 : decide (x64_10 ≤ t351) = true := decide_eq_true c165
                                  clear c165
                                  by_cases c166 : 0 ≤ (x62_10.length : Int)
                                  ·
                                   rw [if_pos c166] at H
                                   have c166b0 := eq_true c166
                                   have c166b1 : decide (0 ≤ (x62_10.length : Int)) = true := decide_eq_true c166
                                   (try (have c166b1l := c166b1; rw [hl62_9] at c166b1l))
                                   (try (have c166b1l := c166b1; rw [hl46_10] at c166b1l))
                                   clear c166
                                   by_cases c167 : ((x62_10.length : Int) : Int).toNat ≤ 35184372088832
                                   ·
                                    rw [if_pos c167] at H
                                    have c167b0 := eq_true c167
                                    have c167b1 : decide (((x62_10.length : Int) : Int).toNat ≤ 35184372088832) = true := decide_eq_true c167
                                    (try (have c167b1l := c167b1; rw [hl62_9] at c167b1l))
                                    (try (have c167b1l := c167b1; rw [hl46_10] at c167b1l))
                                    clear c167
                                    obtain ⟨y369, hy369⟩ : ∃ y_ : List Int, y_ = (List.replicate ((x62_10.length : Int) : Int).toNat 0) := ⟨_, rfl⟩
                                    replace H : (laws_FnFormsLeft.l7 k10 x46_10 t351 x62_10 x64_10 y369 x46_10 (x46_10.length : Int) 0) = some r := by first | (rw [hy369]; with_reducible exact H) | (have H2_ := (Option.bind_some _ _).symm.trans H; rw [hy369]; with_reducible exact H2_) | (have H2_ := (Option.bind_some _ _).symm.trans H; with_reducible exact H2_) | with_reducible exact H | (rw [hy369]; exact H) | exact H
                                    have Ny369 := Aside0.mk hy369
                                    clear hy369
                                    have H' := Aside0.mk H
                                    clear H
                                    obtain ⟨Ao168, co168, eo168⟩ := Kd.R_slice HO_62.out
                                    subst eo168
                                    go_wp2_with (first | ((with_reducible refine gate_dst (N := 497) rfl ?_); (try (refine gate_guard (by rfl) ?_; dsimp only)); refine Kd.R_make (Kd.int .i64) _ 3 rfl (N := 497) rfl 28 _ _ rfl (x62_10.length : Int) rfl rfl Try.underlying28 (.int .i64 0) 8 info3 rfl (by decide) (by omega) 0 (ok := fun _ => True) (okp := fun _ => True) rfl (fun _ hk => hk) trivial (of_decide_eq_true (by first | (with_reducible assumption) | assumption)) (Nat.le_trans (Nat.mul_le_mul_right _ (of_decide_eq_true (by first | (with_reducible assumption) | assumption) : (x62_10.length : Int).toNat ≤ 35184372088832)) (by omega)) (Below.refl _ _) (Nat.le_refl _) ?_; intro v370 w169 ho170 hb hg_ hnew_; clear hg_ hnew_; (first | rw [← Ny369.out] at ho170 | (simp only [Int.reduceToNat] at ho170; rw [← Ny369.out] at ho170)); have n0_ := Aside0.mk (Kd.R_elder' (by (with_reducible repeat (first | apply Kd.R_alloc | apply Kd.R_drewN | apply Kd.R_drew)); exact HO_46.out) (Kd.R_base ho170) hb); have n1_ := Aside0.mk (Kd.R_elder' (by (with_reducible repeat (first | apply Kd.R_alloc | apply Kd.R_drewN | apply Kd.R_drew)); exact HO_62.out) (Kd.R_base ho170) hb); have n2_ := Aside0.mk (Kd.R_lower (Kd.R_new' (Kd.R_new' ho170 (Kd.R_lt (by (with_reducible repeat (first | apply Kd.R_alloc | apply Kd.R_drewN | apply Kd.R_drew)); exact HO_46.out))) (Kd.R_lt (by (with_reducible repeat (first | apply Kd.R_alloc | apply Kd.R_drewN | apply Kd.R_drew)); exact HO_62.out))) (below_size (by repeat (first | (with_reducible first | exact HB.out | apply below_alloc | apply pw_below_drewN | apply below_drew1) | exact HB.out)))); have n3_ := Aside0.mk (below_step (by repeat (first | (with_reducible first | exact HB.out | apply below_alloc | apply pw_below_drewN | apply below_drew1) | exact HB.out)) hb); clear HO_46; clear HO_62; clear HB; have HO_46 := n0_; have HO_62 := n1_; have HO371 := n2_; have HB := n3_; clear n0_ n1_ n2_ n3_; clear hb ho170))
                                    repeat (go_quiet (first | ((with_reducible refine gate_dst (N := 497) rfl ?_); (try (refine gate_guard (by rfl) ?_; dsimp only)); refine Kd.R_make (Kd.int .i64) _ 3 rfl (N := 497) rfl 28 _ _ rfl (x62_10.length : Int) rfl rfl Try.underlying28 (.int .i64 0) 8 info3 rfl (by decide) (by omega) 0 (ok := fun _ => True) (okp := fun _ => True) rfl (fun _ hk => hk) trivial (of_decide_eq_true (by first | (with_reducible assumption) | assumption)) (Nat.le_trans (Nat.mul_le_mul_right _ (of_decide_eq_true (by first | (with_reducible assumption) | assumption) : (x62_10.length : Int).toNat ≤ 35184372088832)) (by omega)) (Below.refl _ _) (Nat.le_refl _) ?_; intro v370 w169 ho170 hb hg_ hnew_; clear hg_ hnew_; (first | rw [← Ny369.out] at ho170 | (simp only [Int.reduceToNat] at ho170; rw [← Ny369.out] at ho170)); have n0_ := Aside0.mk (Kd.R_elder' (by (with_reducible repeat (first | apply Kd.R_alloc | apply Kd.R_drewN | apply Kd.R_drew)); exact HO_46.out) (Kd.R_base ho170) hb); have n1_ := Aside0.mk (Kd.R_elder' (by (with_reducible repeat (first | apply Kd.R_alloc | apply Kd.R_drewN | apply Kd.R_drew)); exact HO_62.out) (Kd.R_base ho170) hb); have n2_ := Aside0.mk (Kd.R_lower (Kd.R_new' (Kd.R_new' ho170 (Kd.R_lt (by (with_reducible repeat (first | apply Kd.R_alloc | apply Kd.R_drewN | apply Kd.R_drew)); exact HO_46.out))) (Kd.R_lt (by (with_reducible repeat (first | apply Kd.R_alloc | apply Kd.R_drewN | apply Kd.R_drew)); exact HO_62.out))) (below_size (by repeat (first | (with_reducible first | exact HB.out | apply below_alloc | apply pw_below_drewN | apply below_drew1) | exact HB.out)))); have n3_ := Aside0.mk (below_step (by repeat (first | (with_reducible first | exact HB.out | apply below_alloc | apply pw_below_drewN | apply below_drew1) | exact HB.out)) hb); clear HO_46; clear HO_62; clear HB; have HO_46 := n0_; have HO_62 := n1_; have HO371 := n2_; have HB := n3_; clear n0_ n1_ n2_ n3_; clear hb ho170)); try go_wp2_with (first | ((with_reducible refine gate_dst (N := 497) rfl ?_); (try (refine gate_guard (by rfl) ?_; dsimp only)); refine Kd.R_make (Kd.int .i64) _ 3 rfl (N := 497) rfl 28 _ _ rfl (x62_10.length : Int) rfl rfl Try.underlying28 (.int .i64 0) 8 info3 rfl (by decide) (by omega) 0 (ok := fun _ => True) (okp := fun _ => True) rfl (fun _ hk => hk) trivial (of_decide_eq_true (by first | (with_reducible assumption) | assumption)) (Nat.le_trans (Nat.mul_le_mul_right _ (of_decide_eq_true (by first | (with_reducible assumption) | assumption) : (x62_10.length : Int).toNat ≤ 35184372088832)) (by omega)) (Below.refl _ _) (Nat.le_refl _) ?_; intro v370 w169 ho170 hb hg_ hnew_; clear hg_ hnew_; (first | rw [← Ny369.out] at ho170 | (simp only [Int.reduceToNat] at ho170; rw [← Ny369.out] at ho170)); have n0_ := Aside0.mk (Kd.R_elder' (by (with_reducible repeat (first | apply Kd.R_alloc | apply Kd.R_drewN | apply Kd.R_drew)); exact HO_46.out) (Kd.R_base ho170) hb); have n1_ := Aside0.mk (Kd.R_elder' (by (with_reducible repeat (first | apply Kd.R_alloc | apply Kd.R_drewN | apply Kd.R_drew)); exact HO_62.out) (Kd.R_base ho170) hb); have n2_ := Aside0.mk (Kd.R_lower (Kd.R_new' (Kd.R_new' ho170 (Kd.R_lt (by (with_reducible repeat (first | apply Kd.R_alloc | apply Kd.R_drewN | apply Kd.R_drew)); exact HO_46.out))) (Kd.R_lt (by (with_reducible repeat (first | apply Kd.R_alloc | apply Kd.R_drewN | apply Kd.R_drew)); exact HO_62.out))) (below_size (by repeat (first | (with_reducible first | exact HB.out | apply below_alloc | apply pw_below_drewN | apply below_drew1) | exact HB.out)))); have n3_ := Aside0.mk (below_step (by repeat (first | (with_reducible first | exact HB.out | apply below_alloc | apply pw_below_drewN | apply below_drew1) | exact HB.out)) hb); clear HO_46; clear HO_62; clear HB; have HO_46 := n0_; have HO_62 := n1_; have HO371 := n2_; have HB := n3_; clear n0_ n1_ n2_ n3_; clear hb ho170)))
                                    go_loopg [500] k10 (fun kq v500 w' => ∃ (x65_11 : List Int) (x500_11 : Int), v500 = .int .i64 x500_11 ∧ Aside0 (laws_FnFormsLeft.l7 kq x46_10 t351 x62_10 x64_10 x65_11 x46_10 (x46_10.length : Int) x500_11 = some r) ∧ Aside0 (kq ≤ k10) ∧ Aside0 (Kd.R (Kd.int .i64) 3 w' w.heap.size (fun k_ => some k_ ≠ ((.slice Ao168 x62_10.length co168) : Value).ownBlock ∧ some k_ ≠ (v370 : Value).ownBlock) (.slice Ao128 x46_10.length co128) x46_10) ∧ Aside0 (Kd.R (Kd.int .i64) 3 w' w.heap.size (fun k_ => some k_ ≠ ((.slice Ao128 x46_10.length co128) : Value).ownBlock ∧ some k_ ≠ (v370 : Value).ownBlock ∧ some k_ ≠ ((.slice Ao128 x46_10.length co128) : Value).ownBlock) (.slice Ao168 x62_10.length co168) x62_10) ∧ Aside0 (Kd.R (Kd.int .i64) 3 w' w.heap.size (fun k_ => some k_ ≠ ((.slice Ao128 x46_10.length co128) : Value).ownBlock ∧ some k_ ≠ ((.slice Ao168 x62_10.length co168) : Value).ownBlock ∧ some k_ ≠ ((.slice Ao128 x46_10.length co128) : Value).ownBlock) v370 x65_11) ∧ Aside0 (Kd.R (Kd.int .i64) 3 w' w.heap.size (fun k_ => some k_ ≠ ((.slice Ao168 x62_10.length co168) : Value).ownBlock ∧ some k_ ≠ (v370 : Value).ownBlock) (.slice Ao128 x46_10.length co128) x46_10) ∧ Aside0 (Below w.heap.size w w'))
                                    case atStart => exact ⟨(y369), (0), (by first | rfl | (simp; done) | (simp [*]; done)), H', ⟨Nat.le_refl _⟩, ⟨by (try simp only [hl62_9]); (try simp only [hl46_10]); (with_reducible repeat (first | apply Kd.R_alloc | apply Kd.R_drewN | apply Kd.R_drew)); exact HO_46.out⟩, ⟨by (try simp only [hl62_9]); (try simp only [hl46_10]); (with_reducible repeat (first | apply Kd.R_alloc | apply Kd.R_drewN | apply Kd.R_drew)); exact Kd.R_mono HO_62.out (fun _ hk => ⟨hk.1, ⟨hk.2, hk.1⟩⟩)⟩, ⟨by (try simp only [hl62_9]); (try simp only [hl46_10]); (with_reducible repeat (first | apply Kd.R_alloc | apply Kd.R_drewN | apply Kd.R_drew)); exact Kd.R_mono HO371.out (fun _ hk => ⟨hk.1.2, ⟨hk.2, hk.1.2⟩⟩)⟩, ⟨by (try simp only [hl62_9]); (try simp only [hl46_10]); (with_reducible repeat (first | apply Kd.R_alloc | apply Kd.R_drewN | apply Kd.R_drew)); exact HO_46.out⟩, ⟨by repeat (first | (with_reducible first | exact HB.out | apply below_alloc | apply pw_below_drewN | apply below_drew1) | exact HB.out)⟩⟩
                                    case round =>
                                     clear H'
                                     try clear c1
                                     try clear c4
                                     try clear c24
                                     try clear c108
                                     try clear c122
                                     try clear c124
                                     try clear c124b0
                                     try clear c124b1
                                     try clear c125
                                     try clear c125b0
                                     try clear c125b1
                                     try clear c129
                                     try clear c129b0
                                     try clear c152
                                     try clear c153
                                     try clear c153b0
                                     try clear c154
                                     try clear c154b0
                                     try clear c154b1
                                     try clear c155
                                     try clear c155b0
                                     try clear c155b1
                                     try clear c159
                                     try clear c159b0
                                     try clear c165
                                     try clear c165b0
                                     try clear c166
                                     try clear c166b0
                                     try clear c166b1
                                     try clear c167
                                     try clear c167b0
                                     try clear c167b1
                                     obtain ⟨x65_11, x500_11, rfl, HA, HK11, HO_46, HO_62, HO_65, HO_498, HB⟩ := hrel
                                     cases gk with
                                     | zero => exact absurd HA.out (by simp [laws_FnFormsLeft.l7])
                                     | succ k11 =>
                                      have H := HA.out
                                      clear HA
                                      simp only [laws_FnFormsLeft.l7] at H
                                      by_cases c171 : x500_11 < (x46_10.length : Int)
                                      ·
                                       rw [if_pos c171] at H
                                       have c171b0 : decide (x500_11 < (x46_10.length : Int)) = true := decide_eq_true c171
                                       (try (have c171b0l := c171b0; rw [hl62_9] at c171b0l))
                                       (try (have c171b0l := c171b0; rw [hl46_10] at c171b0l))
                                       clear c171
                                       by_cases c172 : 0 ≤ x500_11
                                       ·
                                        rw [if_pos c172] at H
                                        have c172b0 : decide (0 ≤ x500_11) = true := decide_eq_true c172
                                        clear c172
                                        by_cases c173 : x500_11 < (x46_10.length : Int)
                                        ·
                                         rw [if_pos c173] at H
                                         have c173b0 : decide (x500_11 < (x46_10.length : Int)) = true := decide_eq_true c173
                                         (try (have c173b0l := c173b0; rw [hl62_9] at c173b0l))
                                         (try (have c173b0l := c173b0; rw [hl46_10] at c173b0l))
                                         clear c173
                                         by_cases c174 : 0 ≤ (rd x46_10 x500_11)
                                         ·
                                          rw [if_pos c174] at H
                                          have c174b0 : decide (0 ≤ (rd x46_10 x500_11)) = true := decide_eq_true c174
                                          clear c174
                                          by_cases c175 : (rd x46_10 x500_11) < (x62_10.length : Int)
                                          ·
                                           rw [if_pos c175] at H
                                           have c175b0 : decide ((rd x46_10 x500_11) < (x62_10.length : Int)) = true := decide_eq_true c175
                                           (try (have c175b0l := c175b0; rw [hl62_9] at c175b0l))
                                           (try (have c175b0l := c175b0; rw [hl46_10] at c175b0l))
                                           clear c175
                                           by_cases c176 : x500_11 < (x65_11.length : Int)
                                           ·
                                            rw [if_pos c176] at H
                                            have c176b0 : decide (x500_11 < (x65_11.length : Int)) = true := decide_eq_true c176
                                            (try (have c176b0l := c176b0; rw [hl62_9] at c176b0l))
                                            (try (have c176b0l := c176b0; rw [hl46_10] at c176b0l))
                                            clear c176
                                            obtain ⟨y374, hy374⟩ : ∃ y_ : List Int, y_ = (x65_11.set (x500_11 : Int).toNat (rd x62_10 (rd x46_10 x500_11))) := ⟨_, rfl⟩
                                            replace H : (laws_FnFormsLeft.l7 k11 x46_10 t351 x62_10 x64_10 y374 x46_10 (x46_10.length : Int) (wrap64 (x500_11 + 1))) = some r := by first | (rw [hy374]; with_reducible exact H) | (have H2_ := (Option.bind_some _ _).symm.trans H; rw [hy374]; with_reducible exact H2_) | (have H2_ := (Option.bind_some _ _).symm.trans H; with_reducible exact H2_) | with_reducible exact H | (rw [hy374]; exact H) | exact H
                                            have Ny374 := Aside0.mk hy374
                                            clear hy374
                                            have H' := Aside0.mk H
                                            clear H
                                            have p372 : 0 ≤ (x500_11 : Int) := of_decide_eq_true (by first | (with_reducible assumption) | assumption)
                                            have q372 : x500_11 < (x46_10.length : Int) := of_decide_eq_true (by first | (with_reducible assumption) | assumption)
                                            obtain ⟨ad372, e372, hx372_0⟩ := Kd.at_int (Kd.R_reads' HO_498.out).2.2 x500_11 p372 q372
                                            cases e372
                                            replace p372 := eq_true p372
                                            replace q372 := eq_true q372
                                            have p373 : 0 ≤ ((rd x46_10 x500_11) : Int) := of_decide_eq_true (by first | (with_reducible assumption) | assumption)
                                            have q373 : (rd x46_10 x500_11) < (x62_10.length : Int) := of_decide_eq_true (by first | (with_reducible assumption) | assumption)
                                            obtain ⟨ad373, e373, hx373_0⟩ := Kd.at_int (Kd.R_reads' HO_62.out).2.2 (rd x46_10 x500_11) p373 q373
                                            cases e373
                                            replace p373 := eq_true p373
                                            replace q373 := eq_true q373
                                            have p177 : 0 ≤ (x500_11 : Int) := of_decide_eq_true (by first | (with_reducible assumption) | assumption)
                                            have q177 : (x500_11 : Int) < ((x65_11.length : Int) : Int) := of_decide_eq_true (by first | (with_reducible assumption) | assumption)
                                            obtain ⟨go177, co177, eo177, gb177, gl177, cl177, HG177⟩ := Kd.R_form HO_65.out (by omega)
                                            (first | cases eo177 | (injection eo177 with ea_ en_ ec_; (first | subst ea_ | (injection ea_ with ea_; subst ea_)); subst ec_; clear en_))
                                            have GB177 := Aside0.mk gb177
                                            have GG177 := Aside0.mk HG177
                                            clear gb177 gl177 HG177
                                            obtain ⟨hx177_0, hf177_0⟩ := Kd.R_celln 0 HO_65.out (x500_11 : Int) p177 q177
                                            replace p177 := eq_true p177
                                            replace q177 := eq_true q177
                                            have HP178 := Kd.R_putg HO_65.out (x500_11 : Int) (rd x62_10 (rd x46_10 x500_11))
                                            go_wp2_with (first | ((with_reducible refine gate_store (t := 3) (p := 511) rfl ?_); (try (rw [drewN_self wr]; generalize hq_ : World.drewN wr _ = wr; have n0_ := Aside0.mk (Kd.R_at hq_ HO_46.out); have n1_ := Aside0.mk (Kd.R_at hq_ HO_62.out); have n2_ := Aside0.mk (Kd.R_at hq_ HO_65.out); have n3_ := Aside0.mk (Kd.R_at hq_ HO_498.out); have n4_ := Aside0.mk (below_at hq_ HB.out); clear hq_ HO_46 HO_62 HO_65 HO_498 HB; have HO_46 := n0_; have HO_62 := n1_; have HO_65 := n2_; have HO_498 := n3_; have HB := n4_; clear n0_ n1_ n2_ n3_ n4_; (try (have HP178 := Kd.R_putg HO_65.out (x500_11 : Int) (rd x62_10 (rd x46_10 x500_11)); obtain ⟨hx177_0, hf177_0⟩ := Kd.R_celln 0 HO_65.out (x500_11 : Int) (of_eq_true p177) (of_eq_true q177))))); refine store_event (t := 3) (p := 511) (v := ?vo_w179) (w1 := (wr.setCell ⟨go177, (x500_11 : Int).toNat, none⟩ (.int .i64 (rd x62_10 (rd x46_10 x500_11))))) ?hg ?ho ?hn ?hr ?_; (case ho => rfl); (case hg => rfl); (case hn => rfl); (case hr => first | (go_simp; done) | (go_simp; rfl)); intro w179 hw; have hg : wr.grownBy w179 (some go177) := (by rw [hw]; exact HP178.2); have hp_ : Kd.R (Kd.int .i64) 3 w179 w.heap.size (fun k_ => some k_ ≠ (.slice (some ad372) x46_10.length co128 : Value).ownBlock ∧ some k_ ≠ (.slice (some ad373) x62_10.length co168 : Value).ownBlock ∧ some k_ ≠ (.slice (some ad372) x46_10.length co128 : Value).ownBlock) (.slice (some ⟨go177, 0, none⟩) x65_11.length co177) y374 := (by rw [hw, Ny374.out]; exact HP178.1); clear HP178; have n0_ := Aside0.mk (Kd.R_after (v := (.slice (some ⟨go177, 0, none⟩) x65_11.length co177)) (v1 := (.slice (some ⟨go177, 0, none⟩) x65_11.length co177)) (ok := (fun k_ => some k_ ≠ (.slice (some ad373) x62_10.length co168 : Value).ownBlock)) (by (with_reducible repeat (first | apply Kd.R_alloc | apply Kd.R_drewN | apply Kd.R_drew)); exact HO_46.out) hg (.inl rfl)); have n1_ := Aside0.mk (Kd.R_after (v := (.slice (some ⟨go177, 0, none⟩) x65_11.length co177)) (v1 := (.slice (some ⟨go177, 0, none⟩) x65_11.length co177)) (ok := (fun k_ => some k_ ≠ (.slice (some ad372) x46_10.length co128 : Value).ownBlock ∧ some k_ ≠ (.slice (some ad372) x46_10.length co128 : Value).ownBlock)) (by (with_reducible repeat (first | apply Kd.R_alloc | apply Kd.R_drewN | apply Kd.R_drew)); exact Kd.R_mono HO_62.out (fun _ hk => ⟨⟨hk.1, hk.2.2⟩, hk.2.1⟩)) hg (.inl rfl)); have n2_ := Aside0.mk (hp_); have n3_ := Aside0.mk (Kd.R_after (v := (.slice (some ⟨go177, 0, none⟩) x65_11.length co177)) (v1 := (.slice (some ⟨go177, 0, none⟩) x65_11.length co177)) (ok := (fun k_ => some k_ ≠ (.slice (some ad373) x62_10.length co168 : Value).ownBlock)) (by (with_reducible repeat (first | apply Kd.R_alloc | apply Kd.R_drewN | apply Kd.R_drew)); exact HO_498.out) hg (.inl rfl)); have n4_ := Aside0.mk ((by rw [hw]; exact below_set (HB.out) GB177.out : Below w.heap.size w w179)); clear HO_46; clear HO_62; clear HO_65; clear HO_498; clear HB; have HO_46 := n0_; have HO_62 := n1_; have HO_65 := n2_; have HO_498 := n3_; have HB := n4_; clear n0_ n1_ n2_ n3_ n4_; clear hg hw hp_))
                                            repeat (go_quiet (first | ((with_reducible refine gate_store (t := 3) (p := 511) rfl ?_); (try (rw [drewN_self wr]; generalize hq_ : World.drewN wr _ = wr; have n0_ := Aside0.mk (Kd.R_at hq_ HO_46.out); have n1_ := Aside0.mk (Kd.R_at hq_ HO_62.out); have n2_ := Aside0.mk (Kd.R_at hq_ HO_65.out); have n3_ := Aside0.mk (Kd.R_at hq_ HO_498.out); have n4_ := Aside0.mk (below_at hq_ HB.out); clear hq_ HO_46 HO_62 HO_65 HO_498 HB; have HO_46 := n0_; have HO_62 := n1_; have HO_65 := n2_; have HO_498 := n3_; have HB := n4_; clear n0_ n1_ n2_ n3_ n4_; (try (have HP178 := Kd.R_putg HO_65.out (x500_11 : Int) (rd x62_10 (rd x46_10 x500_11)); obtain ⟨hx177_0, hf177_0⟩ := Kd.R_celln 0 HO_65.out (x500_11 : Int) (of_eq_true p177) (of_eq_true q177))))); refine store_event (t := 3) (p := 511) (v := ?vo_w179) (w1 := (wr.setCell ⟨go177, (x500_11 : Int).toNat, none⟩ (.int .i64 (rd x62_10 (rd x46_10 x500_11))))) ?hg ?ho ?hn ?hr ?_; (case ho => rfl); (case hg => rfl); (case hn => rfl); (case hr => first | (go_simp; done) | (go_simp; rfl)); intro w179 hw; have hg : wr.grownBy w179 (some go177) := (by rw [hw]; exact HP178.2); have hp_ : Kd.R (Kd.int .i64) 3 w179 w.heap.size (fun k_ => some k_ ≠ (.slice (some ad372) x46_10.length co128 : Value).ownBlock ∧ some k_ ≠ (.slice (some ad373) x62_10.length co168 : Value).ownBlock ∧ some k_ ≠ (.slice (some ad372) x46_10.length co128 : Value).ownBlock) (.slice (some ⟨go177, 0, none⟩) x65_11.length co177) y374 := (by rw [hw, Ny374.out]; exact HP178.1); clear HP178; have n0_ := Aside0.mk (Kd.R_after (v := (.slice (some ⟨go177, 0, none⟩) x65_11.length co177)) (v1 := (.slice (some ⟨go177, 0, none⟩) x65_11.length co177)) (ok := (fun k_ => some k_ ≠ (.slice (some ad373) x62_10.length co168 : Value).ownBlock)) (by (with_reducible repeat (first | apply Kd.R_alloc | apply Kd.R_drewN | apply Kd.R_drew)); exact HO_46.out) hg (.inl rfl)); have n1_ := Aside0.mk (Kd.R_after (v := (.slice (some ⟨go177, 0, none⟩) x65_11.length co177)) (v1 := (.slice (some ⟨go177, 0, none⟩) x65_11.length co177)) (ok := (fun k_ => some k_ ≠ (.slice (some ad372) x46_10.length co128 : Value).ownBlock ∧ some k_ ≠ (.slice (some ad372) x46_10.length co128 : Value).ownBlock)) (by (with_reducible repeat (first | apply Kd.R_alloc | apply Kd.R_drewN | apply Kd.R_drew)); exact Kd.R_mono HO_62.out (fun _ hk => ⟨⟨hk.1, hk.2.2⟩, hk.2.1⟩)) hg (.inl rfl)); have n2_ := Aside0.mk (hp_); have n3_ := Aside0.mk (Kd.R_after (v := (.slice (some ⟨go177, 0, none⟩) x65_11.length co177)) (v1 := (.slice (some ⟨go177, 0, none⟩) x65_11.length co177)) (ok := (fun k_ => some k_ ≠ (.slice (some ad373) x62_10.length co168 : Value).ownBlock)) (by (with_reducible repeat (first | apply Kd.R_alloc | apply Kd.R_drewN | apply Kd.R_drew)); exact HO_498.out) hg (.inl rfl)); have n4_ := Aside0.mk ((by rw [hw]; exact below_set (HB.out) GB177.out : Below w.heap.size w w179)); clear HO_46; clear HO_62; clear HO_65; clear HO_498; clear HB; have HO_46 := n0_; have HO_62 := n1_; have HO_65 := n2_; have HO_498 := n3_; have HB := n4_; clear n0_ n1_ n2_ n3_ n4_; clear hg hw hp_)); try go_wp2_with (first | ((with_reducible refine gate_store (t := 3) (p := 511) rfl ?_); (try (rw [drewN_self wr]; generalize hq_ : World.drewN wr _ = wr; have n0_ := Aside0.mk (Kd.R_at hq_ HO_46.out); have n1_ := Aside0.mk (Kd.R_at hq_ HO_62.out); have n2_ := Aside0.mk (Kd.R_at hq_ HO_65.out); have n3_ := Aside0.mk (Kd.R_at hq_ HO_498.out); have n4_ := Aside0.mk (below_at hq_ HB.out); clear hq_ HO_46 HO_62 HO_65 HO_498 HB; have HO_46 := n0_; have HO_62 := n1_; have HO_65 := n2_; have HO_498 := n3_; have HB := n4_; clear n0_ n1_ n2_ n3_ n4_; (try (have HP178 := Kd.R_putg HO_65.out (x500_11 : Int) (rd x62_10 (rd x46_10 x500_11)); obtain ⟨hx177_0, hf177_0⟩ := Kd.R_celln 0 HO_65.out (x500_11 : Int) (of_eq_true p177) (of_eq_true q177))))); refine store_event (t := 3) (p := 511) (v := ?vo_w179) (w1 := (wr.setCell ⟨go177, (x500_11 : Int).toNat, none⟩ (.int .i64 (rd x62_10 (rd x46_10 x500_11))))) ?hg ?ho ?hn ?hr ?_; (case ho => rfl); (case hg => rfl); (case hn => rfl); (case hr => first | (go_simp; done) | (go_simp; rfl)); intro w179 hw; have hg : wr.grownBy w179 (some go177) := (by rw [hw]; exact HP178.2); have hp_ : Kd.R (Kd.int .i64) 3 w179 w.heap.size (fun k_ => some k_ ≠ (.slice (some ad372) x46_10.length co128 : Value).ownBlock ∧ some k_ ≠ (.slice (some ad373) x62_10.length co168 : Value).ownBlock ∧ some k_ ≠ (.slice (some ad372) x46_10.length co128 : Value).ownBlock) (.slice (some ⟨go177, 0, none⟩) x65_11.length co177) y374 := (by rw [hw, Ny374.out]; exact HP178.1); clear HP178; have n0_ := Aside0.mk (Kd.R_after (v := (.slice (some ⟨go177, 0, none⟩) x65_11.length co177)) (v1 := (.slice (some ⟨go177, 0, none⟩) x65_11.length co177)) (ok := (fun k_ => some k_ ≠ (.slice (some ad373) x62_10.length co168 : Value).ownBlock)) (by (with_reducible repeat (first | apply Kd.R_alloc | apply Kd.R_drewN | apply Kd.R_drew)); exact HO_46.out) hg (.inl rfl)); have n1_ := Aside0.mk (Kd.R_after (v := (.slice (some ⟨go177, 0, none⟩) x65_11.length co177)) (v1 := (.slice (some ⟨go177, 0, none⟩) x65_11.length co177)) (ok := (fun k_ => some k_ ≠ (.slice (some ad372) x46_10.length co128 : Value).ownBlock ∧ some k_ ≠ (.slice (some ad372) x46_10.length co128 : Value).ownBlock)) (by (with_reducible repeat (first | apply Kd.R_alloc | apply Kd.R_drewN | apply Kd.R_drew)); exact Kd.R_mono HO_62.out (fun _ hk => ⟨⟨hk.1, hk.2.2⟩, hk.2.1⟩)) hg (.inl rfl)); have n2_ := Aside0.mk (hp_); have n3_ := Aside0.mk (Kd.R_after (v := (.slice (some ⟨go177, 0, none⟩) x65_11.length co177)) (v1 := (.slice (some ⟨go177, 0, none⟩) x65_11.length co177)) (ok := (fun k_ => some k_ ≠ (.slice (some ad373) x62_10.length co168 : Value).ownBlock)) (by (with_reducible repeat (first | apply Kd.R_alloc | apply Kd.R_drewN | apply Kd.R_drew)); exact HO_498.out) hg (.inl rfl)); have n4_ := Aside0.mk ((by rw [hw]; exact below_set (HB.out) GB177.out : Below w.heap.size w w179)); clear HO_46; clear HO_62; clear HO_65; clear HO_498; clear HB; have HO_46 := n0_; have HO_62 := n1_; have HO_65 := n2_; have HO_498 := n3_; have HB := n4_; clear n0_ n1_ n2_ n3_ n4_; clear hg hw hp_)))
                                            go_roundg k11
                                            case measure => have := HJ11.out; have := HJ24.out; have := HJ62.out; have := HJ80.out; have := HJ108.out; have := HJ110.out; have := HK7.out; have := HJ145.out; have := HK9.out; have := HK10.out; have := HK11.out; omega
                                            case rel => exact ⟨(y374), (wrap64 (x500_11 + 1)), (by first | rfl | (simp; done) | (simp [*]; done)), H', ⟨by have := HJ11.out; have := HJ24.out; have := HJ62.out; have := HJ80.out; have := HJ108.out; have := HJ110.out; have := HK7.out; have := HJ145.out; have := HK9.out; have := HK10.out; have := HK11.out; omega⟩, ⟨by (try simp only [hl62_9]); (try simp only [hl46_10]); (with_reducible repeat (first | apply Kd.R_alloc | apply Kd.R_drewN | apply Kd.R_drew)); exact HO_46.out⟩, ⟨by (try simp only [hl62_9]); (try simp only [hl46_10]); (with_reducible repeat (first | apply Kd.R_alloc | apply Kd.R_drewN | apply Kd.R_drew)); exact Kd.R_mono HO_62.out (fun _ hk => ⟨hk.1.1, ⟨hk.2, hk.1.2⟩⟩)⟩, ⟨by (try simp only [hl62_9]); (try simp only [hl46_10]); (with_reducible repeat (first | apply Kd.R_alloc | apply Kd.R_drewN | apply Kd.R_drew)); exact HO_65.out⟩, ⟨by (try simp only [hl62_9]); (try simp only [hl46_10]); (with_reducible repeat (first | apply Kd.R_alloc | apply Kd.R_drewN | apply Kd.R_drew)); exact HO_498.out⟩, ⟨by repeat (first | (with_reducible first | exact HB.out | apply below_alloc | apply pw_below_drewN | apply below_drew1) | exact HB.out)⟩⟩
                                           ·
                                            rw [if_neg c176] at H
                                            exact absurd H (by simp)
                                          ·
                                           rw [if_neg c175] at H
                                           exact absurd H (by simp)
                                         ·
                                          rw [if_neg c174] at H
                                          exact absurd H (by simp)
                                        ·
                                         rw [if_neg c173] at H
                                         exact absurd H (by simp)
                                       ·
                                        rw [if_neg c172] at H
                                        exact absurd H (by simp)
                                      ·
                                       rw [if_neg c171] at H
                                       have c171b0 : decide (x500_11 < (x46_10.length : Int)) = false := decide_eq_false c171
                                       (try (have c171b0l := c171b0; rw [hl62_9] at c171b0l))
                                       (try (have c171b0l := c171b0; rw [hl46_10] at c171b0l))
                                       clear c171
                                       have H' := Aside0.mk H
                                       clear H
                                       obtain ⟨Ao180, co180, eo180⟩ := Kd.R_slice HO_65.out
                                       subst eo180
                                       go_wp2
                                       repeat (go_quiet (fail); try go_wp2)
                                       go_loopg [68, 516] k11 (fun kq v68 v516 w' => ∃ (x68_12 : Bool) (x516_12 : Int), v68 = .bool x68_12 ∧ v516 = .int .i64 x516_12 ∧ Aside0 (laws_FnFormsLeft.l8 kq x46_10 t351 x65_11 x64_10 x68_12 x65_11 (x65_11.length : Int) x516_12 = some r) ∧ Aside0 (kq ≤ k11) ∧ Aside0 (Kd.R (Kd.int .i64) 3 w' w.heap.size (fun k_ => some k_ ≠ ((.slice Ao180 x65_11.length co180) : Value).ownBlock ∧ some k_ ≠ ((.slice Ao180 x65_11.length co180) : Value).ownBlock) (.slice Ao128 x46_10.length co128) x46_10) ∧ Aside0 (Kd.R (Kd.int .i64) 3 w' w.heap.size (fun k_ => some k_ ≠ ((.slice Ao128 x46_10.length co128) : Value).ownBlock) (.slice Ao180 x65_11.length co180) x65_11) ∧ Aside0 (Kd.R (Kd.int .i64) 3 w' w.heap.size (fun k_ => some k_ ≠ ((.slice Ao128 x46_10.length co128) : Value).ownBlock) (.slice Ao180 x65_11.length co180) x65_11) ∧ Aside0 (Below w.heap.size w w'))
                                       case atStart => exact ⟨(true), (0), (by first | rfl | (simp; done) | (simp [*]; done)), (by first | rfl | (simp; done) | (simp [*]; done)), H', ⟨Nat.le_refl _⟩, ⟨by (try simp only [hl62_9]); (try simp only [hl46_10]); (with_reducible repeat (first | apply Kd.R_alloc | apply Kd.R_drewN | apply Kd.R_drew)); exact Kd.R_mono HO_46.out (fun _ hk => ⟨hk.2, hk.2⟩)⟩, ⟨by (try simp only [hl62_9]); (try simp only [hl46_10]); (with_reducible repeat (first | apply Kd.R_alloc | apply Kd.R_drewN | apply Kd.R_drew)); exact Kd.R_mono HO_65.out (fun _ hk => hk.1)⟩, ⟨by (try simp only [hl62_9]); (try simp only [hl46_10]); (with_reducible repeat (first | apply Kd.R_alloc | apply Kd.R_drewN | apply Kd.R_drew)); exact Kd.R_mono HO_65.out (fun _ hk => hk.1)⟩, ⟨by repeat (first | (with_reducible first | exact HB.out | apply below_alloc | apply pw_below_drewN | apply below_drew1) | exact HB.out)⟩⟩
                                       case round =>
                                        clear H'
                                        try clear c1
                                        try clear c4
                                        try clear c24
                                        try clear c108
                                        try clear c122
                                        try clear c124
                                        try clear c124b0
                                        try clear c124b1
                                        try clear c125
                                        try clear c125b0
                                        try clear c125b1
                                        try clear c129
                                        try clear c129b0
                                        try clear c152
                                        try clear c153
                                        try clear c153b0
                                        try clear c154
                                        try clear c154b0
                                        try clear c154b1
                                        try clear c155
                                        try clear c155b0
                                        try clear c155b1
                                        try clear c159
                                        try clear c159b0
                                        try clear c165
                                        try clear c165b0
                                        try clear c166
                                        try clear c166b0
                                        try clear c166b1
                                        try clear c167
                                        try clear c167b0
                                        try clear c167b1
                                        try clear c171
                                        try clear c171b0
                                        obtain ⟨x68_12, x516_12, rfl, rfl, HA, HK12, HO_46, HO_62, HO_514, HB⟩ := hrel
                                        cases gk with
                                        | zero => exact absurd HA.out (by simp [laws_FnFormsLeft.l8])
                                        | succ k12 =>
                                         have H := HA.out
                                         clear HA
                                         simp only [laws_FnFormsLeft.l8] at H
                                         by_cases c181 : x516_12 < (x65_11.length : Int)
                                         ·
                                          rw [if_pos c181] at H
                                          have c181b0 : decide (x516_12 < (x65_11.length : Int)) = true := decide_eq_true c181
                                          (try (have c181b0l := c181b0; rw [hl62_9] at c181b0l))
                                          (try (have c181b0l := c181b0; rw [hl46_10] at c181b0l))
                                          clear c181
                                          by_cases c182 : 0 ≤ x516_12
                                          ·
                                           rw [if_pos c182] at H
                                           have c182b0 : decide (0 ≤ x516_12) = true := decide_eq_true c182
                                           clear c182
                                           by_cases c183 : x516_12 < (x65_11.length : Int)
                                           ·
                                            rw [if_pos c183] at H
                                            have c183b0 : decide (x516_12 < (x65_11.length : Int)) = true := decide_eq_true c183
                                            (try (have c183b0l := c183b0; rw [hl62_9] at c183b0l))
                                            (try (have c183b0l := c183b0; rw [hl46_10] at c183b0l))
                                            clear c183
                                            by_cases c184 : x68_12 = true
                                            ·
                                             subst c184
                                             have H1 : (laws_FnFormsLeft.l8 k12 x46_10 t351 x65_11 x64_10 (x516_12 == (rd x65_11 x516_12)) x65_11 (x65_11.length : Int) (wrap64 (x516_12 + 1))) = some r := by rw [if_pos rfl] at H; exact H
                                             clear H
                                             have H := H1
                                             clear H1
                                             have H' := Aside0.mk H
                                             clear H
                                             have p375 : 0 ≤ (x516_12 : Int) := of_decide_eq_true (by first | (with_reducible assumption) | assumption)
                                             have q375 : x516_12 < (x65_11.length : Int) := of_decide_eq_true (by first | (with_reducible assumption) | assumption)
                                             obtain ⟨ad375, e375, hx375_0⟩ := Kd.at_int (Kd.R_reads' HO_514.out).2.2 x516_12 p375 q375
                                             cases e375
                                             replace p375 := eq_true p375
                                             replace q375 := eq_true q375
                                             go_wp2
                                             repeat (go_quiet (fail); try go_wp2)
                                             go_roundg k12
                                             case measure => have := HJ11.out; have := HJ24.out; have := HJ62.out; have := HJ80.out; have := HJ108.out; have := HJ110.out; have := HK7.out; have := HJ145.out; have := HK9.out; have := HK10.out; have := HK11.out; have := HK12.out; omega
                                             case rel => exact ⟨((x516_12 == (rd x65_11 x516_12))), (wrap64 (x516_12 + 1)), (by first | rfl | (simp; done) | (simp [*]; done)), (by first | rfl | (simp; done) | (simp [*]; done)), H', ⟨by have := HJ11.out; have := HJ24.out; have := HJ62.out; have := HJ80.out; have := HJ108.out; have := HJ110.out; have := HK7.out; have := HJ145.out; have := HK9.out; have := HK10.out; have := HK11.out; have := HK12.out; omega⟩, ⟨by (try simp only [hl62_9]); (try simp only [hl46_10]); (with_reducible repeat (first | apply Kd.R_alloc | apply Kd.R_drewN | apply Kd.R_drew)); exact HO_46.out⟩, ⟨by (try simp only [hl62_9]); (try simp only [hl46_10]); (with_reducible repeat (first | apply Kd.R_alloc | apply Kd.R_drewN | apply Kd.R_drew)); exact HO_62.out⟩, ⟨by (try simp only [hl62_9]); (try simp only [hl46_10]); (with_reducible repeat (first | apply Kd.R_alloc | apply Kd.R_drewN | apply Kd.R_drew)); exact HO_514.out⟩, ⟨by repeat (first | (with_reducible first | exact HB.out | apply below_alloc | apply pw_below_drewN | apply below_drew1) | exact HB.out)⟩⟩
                                            ·
                                             replace c184 := Bool.eq_false_iff.mpr c184
                                             subst c184
                                             have H1 : (laws_FnFormsLeft.l8 k12 x46_10 t351 x65_11 x64_10 false x65_11 (x65_11.length : Int) (wrap64 (x516_12 + 1))) = some r := by rw [if_neg (show ¬ (false = true) by decide)] at H; exact H
                                             clear H
                                             have H := H1
                                             clear H1
                                             have H' := Aside0.mk H
                                             clear H
                                             have p375 : 0 ≤ (x516_12 : Int) := of_decide_eq_true (by first | (with_reducible assumption) | assumption)
                                             have q375 : x516_12 < (x65_11.length : Int) := of_decide_eq_true (by first | (with_reducible assumption) | assumption)
                                             obtain ⟨ad375, e375, hx375_0⟩ := Kd.at_int (Kd.R_reads' HO_514.out).2.2 x516_12 p375 q375
                                             cases e375
                                             replace p375 := eq_true p375
                                             replace q375 := eq_true q375
                                             go_wp2
                                             repeat (go_quiet (fail); try go_wp2)
                                             go_roundg k12
                                             case measure => have := HJ11.out; have := HJ24.out; have := HJ62.out; have := HJ80.out; have := HJ108.out; have := HJ110.out; have := HK7.out; have := HJ145.out; have := HK9.out; have := HK10.out; have := HK11.out; have := HK12.out; omega
                                             case rel => exact ⟨(false), (wrap64 (x516_12 + 1)), (by first | rfl | (simp; done) | (simp [*]; done)), (by first | rfl | (simp; done) | (simp [*]; done)), H', ⟨by have := HJ11.out; have := HJ24.out; have := HJ62.out; have := HJ80.out; have := HJ108.out; have := HJ110.out; have := HK7.out; have := HJ145.out; have := HK9.out; have := HK10.out; have := HK11.out; have := HK12.out; omega⟩, ⟨by (try simp only [hl62_9]); (try simp only [hl46_10]); (with_reducible repeat (first | apply Kd.R_alloc | apply Kd.R_drewN | apply Kd.R_drew)); exact HO_46.out⟩, ⟨by (try simp only [hl62_9]); (try simp only [hl46_10]); (with_reducible repeat (first | apply Kd.R_alloc | apply Kd.R_drewN | apply Kd.R_drew)); exact HO_62.out⟩, ⟨by (try simp only [hl62_9]); (try simp only [hl46_10]); (with_reducible repeat (first | apply Kd.R_alloc | apply Kd.R_drewN | apply Kd.R_drew)); exact HO_514.out⟩, ⟨by repeat (first | (with_reducible first | exact HB.out | apply below_alloc | apply pw_below_drewN | apply below_drew1) | exact HB.out)⟩⟩
                                           ·
                                            rw [if_neg c183] at H
                                            exact absurd H (by simp)
                                          ·
                                           rw [if_neg c182] at H
                                           exact absurd H (by simp)
                                         ·
                                          rw [if_neg c181] at H
                                          have c181b0 : decide (x516_12 < (x65_11.length : Int)) = false := decide_eq_false c181
                                          (try (have c181b0l := c181b0; rw [hl62_9] at c181b0l))
                                          (try (have c181b0l := c181b0; rw [hl46_10] at c181b0l))
                                          clear c181
                                          by_cases c185 : (x68_12 != (x64_10 == t351)) = true
                                          ·
                                           rw [if_pos c185] at H
                                           exact absurd (H.trans (congrArg some HE_.out)) (by simp)
                                          ·
                                           rw [if_neg c185] at H
                                           have c185b0 : (x68_12 != (x64_10 == t351)) = false := by simpa using c185
                                           (try (have c185b1 : decide (x68_12 = (x64_10 == t351)) = true := by simpa using c185))
                                           (try (have c185b2 : (x68_12 == (x64_10 == t351)) = true := by simpa using c185))
                                           clear c185
                                           have H' := Aside0.mk H
                                           clear H
                                           go_wp2
                                           repeat (go_quiet (fail); try go_wp2)
                                           (try simp only [← hl46_10])
                                           go_roundg k12
                                           case measure => have := HJ11.out; have := HJ24.out; have := HJ62.out; have := HJ80.out; have := HJ108.out; have := HJ110.out; have := HK7.out; have := HJ145.out; have := HK9.out; have := HK10.out; have := HK11.out; have := HK12.out; omega
                                           case rel => exact ⟨(x46_10), (x65_11), (wrap64 (x64_10 + 1)), (by first | rfl | (simp; done) | (simp [*]; done)), H', ⟨by have := HJ11.out; have := HJ24.out; have := HJ62.out; have := HJ80.out; have := HJ108.out; have := HJ110.out; have := HK7.out; have := HJ145.out; have := HK9.out; have := HK10.out; have := HK11.out; have := HK12.out; omega⟩, ⟨by (try simp only [hl62_9]); (try simp only [hl46_10]); (with_reducible repeat (first | apply Kd.R_alloc | apply Kd.R_drewN | apply Kd.R_drew)); exact Kd.R_mono HO_46.out (fun _ hk => hk.1)⟩, ⟨by (try simp only [hl62_9]); (try simp only [hl46_10]); (with_reducible repeat (first | apply Kd.R_alloc | apply Kd.R_drewN | apply Kd.R_drew)); exact HO_62.out⟩, ⟨by repeat (first | (with_reducible first | exact HB.out | apply below_alloc | apply pw_below_drewN | apply below_drew1) | exact HB.out)⟩⟩
                                   ·
                                    rw [if_neg c167] at H
                                    exact absurd H (by simp)
                                  ·
                                   rw [if_neg c166] at H
                                   exact absurd H (by simp)
                                 ·
                                  rw [if_neg c165] at H
                                  have c165b0 : decide (x64_10 ≤ t351) = false := decide_eq_false c165
                                  clear c165
                                  obtain rfl := Option.some.inj H
                                  go_wp2
                                  repeat (go_quiet (fail); try go_wp2)
                                  go_ret
                                  exact ⟨by first | rfl | (simp [errW_none, errW_some] <;> rfl) | (simp only [← hji123]; first | rfl | (simp [errW_none, errW_some] <;> rfl)) | (simp [*, errW_none, errW_some] <;> rfl), by repeat (first | (with_reducible first | exact HB.out | apply below_alloc | apply pw_below_drewN | apply below_drew1) | exact HB.out)⟩
                           ·
                            rw [if_neg c155] at H
                            exact absurd H (by simp)
                          ·
                           rw [if_neg c154] at H
                           exact absurd H (by simp)
                         ·
                          rw [if_neg c153] at H
                          have c153b0 : decide (t351 ≤ 60) = false := decide_eq_false c153
                          clear c153
                          obtain rfl := Option.some.inj H
                          go_wp2
                          repeat (go_quiet (fail); try go_wp2)
                          go_ret
                          exact ⟨by first | rfl | (simp [errW_none, errW_some] <;> rfl) | (simp only [← hji123]; first | rfl | (simp [errW_none, errW_some] <;> rfl)) | (simp [*, errW_none, errW_some] <;> rfl), by repeat (first | (with_reducible first | exact HB.out | apply below_alloc | apply pw_below_drewN | apply below_drew1) | exact HB.out)⟩
                  ·
                   rw [if_neg c125] at H
                   exact absurd H (by simp)
                 ·
                  rw [if_neg c124] at H
                  exact absurd H (by simp)
                ·
                 replace c122 := Bool.eq_false_iff.mpr c122
                 subst c122
                 have H1 : (some true) = some r := by rw [if_neg (show ¬ (false = true) by decide)] at H; exact H
                 clear H
                 have H := H1
                 clear H1
                 obtain rfl := Option.some.inj H
                 go_wp2
                 repeat (go_quiet (fail); try go_wp2)
                 go_ret
                 exact ⟨by first | rfl | (simp [errW_none, errW_some] <;> rfl) | (simp [*, errW_none, errW_some] <;> rfl), by repeat (first | (with_reducible first | exact HB.out | apply below_alloc | apply pw_below_drewN | apply below_drew1) | exact HB.out)⟩

/-- THE ONE PURE STATEMENT of laws_FnFormsLeft: yours. -/
def laws_FnFormsLeft.Pure : Prop := ∀ (l0 : List Int) (l1 : List Int), l0.length ≤ maxLen → l0.length * 1 ≤ 140737488351232 → (∀ x ∈ l0, (Lit.int .u8 x).wf = true) → l1.length ≤ maxLen → l1.length * 1 ≤ 140737488351232 → (∀ x ∈ l1, (Lit.int .u8 x).wf = true) → ∃ k, laws_FnFormsLeft.f k l0 l1 = some true
theorem laws_FnFormsLeft.walk (P : laws_FnFormsLeft.Pure) (a0 : Option Addr) (len0 cap0 : Nat) (z0 : List Int) (a1 : Option Addr) (len1 cap1 : Nat) (z1 : List Int) (w : World) (w0 : (a0 = none ∧ len0 = 0 ∧ cap0 = 0 ∧ z0 = []) ∨ ∃ x, a0 = some x ∧ len0 ≤ cap0 ∧ cap0 ≤ maxLen ∧ z0.length = cap0 ∧ (∀ i, i < z0.length → w.cell? (x.add i) = some (.int .u8 (z0.getD i 0))) ∧ ∀ n ∈ z0, (Lit.int .u8 n).wf = true) (y0 : len0 * 1 ≤ 140737488351232) (w1 : (a1 = none ∧ len1 = 0 ∧ cap1 = 0 ∧ z1 = []) ∨ ∃ x, a1 = some x ∧ len1 ≤ cap1 ∧ cap1 ≤ maxLen ∧ z1.length = cap1 ∧ (∀ i, i < z1.length → w.cell? (x.add i) = some (.int .u8 (z1.getD i 0))) ∧ ∀ n ∈ z1, (Lit.int .u8 n).wf = true) (y1 : len1 * 1 ≤ 140737488351232) :
    Calls Try.prog 5 #[.slice a0 len0 cap0, .slice a1 len1 cap1] w fun e w' => e = .returned (.bool true) ∧ Below w.heap.size w w' := by
  obtain ⟨l0, rfl, hr0, hm0, hw0, hc0⟩ := ReadsInt.ofRowC w0
  obtain ⟨l1, rfl, hr1, hm1, hw1, hc1⟩ := ReadsInt.ofRowC w1
  obtain ⟨k, h⟩ := P l0 l1 hm0 y0 hw0 hm1 y1 hw1
  refine (laws_FnFormsLeft.calls k _ _ l0 _ _ l1 true w (Kd.C_of_reads (d := (0 : Int)) (h1 := fun _ => rfl) hr0) hc0 (Kd.C_of_reads (d := (0 : Int)) (h1 := fun _ => rfl) hr1) hc1 h rfl).mono ?_
  rintro e w' ⟨rfl, hd⟩
  exact ⟨rfl, hd⟩

end Go.Proofs.Yteekggogodjffaa.PFnFormsLeft
