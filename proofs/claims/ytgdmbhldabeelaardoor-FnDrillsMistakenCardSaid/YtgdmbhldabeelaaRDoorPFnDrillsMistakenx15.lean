-- Written by a program of this session's (pg.py) over the kit's print.
import Derived.Test.YtgdmbhldabeelaaRDoorPFnDrillsMistakenx0
import Derived.Test.YtgdmbhldabeelaaRDoorPFnDrillsMistakenx3
import Derived.Test.YtgdmbhldabeelaaRDoorPFnDrillsMistakenx6
import Derived.Test.YtgdmbhldabeelaaRDoorPFnDrillsMistakenx7
import Derived.Test.YtgdmbhldabeelaaRDoorPFnDrillsMistakenx8
import Derived.Test.YtgdmbhldabeelaaRDoorPFnDrillsMistakenx9
import Derived.Test.YtgdmbhldabeelaaRDoorPFnDrillsMistakenx10
import Derived.Test.YtgdmbhldabeelaaRDoorPFnDrillsMistakenx13
import Derived.Test.YtgdmbhldabeelaaRDoorPFnDrillsMistakenx14
import Derived.Deep.CutRange
namespace Go.Proofs.YtgdmbhldabeelaaRDoor.PFnDrillsMistaken
open Go.RowKit Go.Proofs.YtgdmbhldabeelaaRDoorW.PrintWords Go.Proofs.YtgdmbhldabeelaaRDoorW.PrintLast Go.Proofs.YtgdmbhldabeelaaRDoorW.PrintMore
attribute [local go_sem] max2_int min2_int max_two min_two max_three min_three max_four min_four   -- for this text's walks alone
set_option linter.unusedVariables false
set_option linter.unusedSimpArgs false


set_option maxHeartbeats 8000000 in
set_option maxRecDepth 100000 in
def laws_FnDrillsMistaken.part0 : Σ' (R1 R2 : Prop), PLift R1 → PLift R2 → (∀ (k : Nat) (A0 : Option Addr) (c0 : Nat) (l0 : List Int) (A1 : Option Addr) (c1 : Nat) (l1 : List Int) (r : Bool) (w : World) (hr0 : Kd.C (Kd.int .u8) w A0 l0.length l0) (hc0 : l0.length ≤ c0) (hr1 : Kd.C (Kd.int .u8) w A1 l1.length l1) (hc1 : l1.length ≤ c1) (h : laws_FnDrillsMistaken.f k l0 l1 = some r) (he_ : r = true),
  Calls Tryd.prog 4 #[.slice A0 l0.length c0, .slice A1 l1.length c1] w fun e w' => e = .returned (.bool r) ∧ Below w.heap.size w w') := by
 refine' ⟨_, _, fun hole1 hole2 => _⟩
 rotate_left 2
 ·
  intro k A0 c0 l0 A1 c1 l1 r w hr0 hc0 hr1 hc1 h he_
  have hu34 := Tryd.underlying34
  have HR0 := Aside0.mk hr0
  have HC0 := Aside0.mk hc0
  clear hr0 hc0
  have HR1 := Aside0.mk hr1
  have HC1 := Aside0.mk hc1
  clear hr1 hc1
  have HB := Aside0.mk (Below.refl w.heap.size w)
  have H : ((laws_big.f l0 l1).bind fun t382 => (if t382 = true then (some true) else ((spec_DrawFacingWithMistakes.f k l0).bind fun bt383 => ((impl_FacingWithMistakes.f k bt383.1 bt383.2.1 bt383.2.2).bind fun bt388 => ((spec_FacingWithMistakes.f k bt383.1 bt383.2.1 bt383.2.2).bind fun bt390 => ((impl_WrongSoldiers.f k bt383.1 bt383.2.1 bt383.2.2).bind fun bt392 => ((spec_WrongSoldiers.f k bt383.1 bt383.2.1 bt383.2.2).bind fun bt396 => ((impl_CorrectionsOf.f k bt383.1 bt383.2.1 bt383.2.2).bind fun bt400 => ((spec_CorrectionsOf.f k bt383.1 bt383.2.1 bt383.2.2).bind fun bt402 => (if (bt388.2 != bt390.2) = true then (laws_FnDrillsMistaken.j0 k l1 bt383.1 bt383.2.1 bt383.2.2 bt388.1 bt388.2 bt392.1 bt400.1 true) else (if bt388.1.toList = bt390.1.toList then (if (bt392.2 != bt396.2) = true then (laws_FnDrillsMistaken.j0 k l1 bt383.1 bt383.2.1 bt383.2.2 bt388.1 bt388.2 bt392.1 bt400.1 true) else ((laws_vSame.f k bt392.1 bt396.1).bind fun t404 => (if t404 = true then (if (bt400.2 != bt402.2) = true then (laws_FnDrillsMistaken.j0 k l1 bt383.1 bt383.2.1 bt383.2.2 bt388.1 bt388.2 bt392.1 bt400.1 true) else (if bt400.1.toList = bt402.1.toList then (if (bt392.2 != bt388.2) = true then (laws_FnDrillsMistaken.j0 k l1 bt383.1 bt383.2.1 bt383.2.2 bt388.1 bt388.2 bt392.1 bt400.1 true) else (laws_FnDrillsMistaken.j0 k l1 bt383.1 bt383.2.1 bt383.2.2 bt388.1 bt388.2 bt392.1 bt400.1 (bt400.2 != bt388.2))) else (laws_FnDrillsMistaken.j0 k l1 bt383.1 bt383.2.1 bt383.2.2 bt388.1 bt388.2 bt392.1 bt400.1 true))) else (laws_FnDrillsMistaken.j0 k l1 bt383.1 bt383.2.1 bt383.2.2 bt388.1 bt388.2 bt392.1 bt400.1 true)))) else (laws_FnDrillsMistaken.j0 k l1 bt383.1 bt383.2.1 bt383.2.2 bt388.1 bt388.2 bt392.1 bt400.1 true)))))))))))) = some r := h
  clear h
  have HE_ := Aside0.mk he_
  clear he_
  replace H := Option.bind_eq_some_iff.mp H
  obtain ⟨t382, A30, H⟩ := H
  replace H : (if t382 = true then (some true) else ((spec_DrawFacingWithMistakes.f k l0).bind fun bt383 => ((impl_FacingWithMistakes.f k bt383.1 bt383.2.1 bt383.2.2).bind fun bt388 => ((spec_FacingWithMistakes.f k bt383.1 bt383.2.1 bt383.2.2).bind fun bt390 => ((impl_WrongSoldiers.f k bt383.1 bt383.2.1 bt383.2.2).bind fun bt392 => ((spec_WrongSoldiers.f k bt383.1 bt383.2.1 bt383.2.2).bind fun bt396 => ((impl_CorrectionsOf.f k bt383.1 bt383.2.1 bt383.2.2).bind fun bt400 => ((spec_CorrectionsOf.f k bt383.1 bt383.2.1 bt383.2.2).bind fun bt402 => (if (bt388.2 != bt390.2) = true then (laws_FnDrillsMistaken.j0 k l1 bt383.1 bt383.2.1 bt383.2.2 bt388.1 bt388.2 bt392.1 bt400.1 true) else (if bt388.1.toList = bt390.1.toList then (if (bt392.2 != bt396.2) = true then (laws_FnDrillsMistaken.j0 k l1 bt383.1 bt383.2.1 bt383.2.2 bt388.1 bt388.2 bt392.1 bt400.1 true) else ((laws_vSame.f k bt392.1 bt396.1).bind fun t404 => (if t404 = true then (if (bt400.2 != bt402.2) = true then (laws_FnDrillsMistaken.j0 k l1 bt383.1 bt383.2.1 bt383.2.2 bt388.1 bt388.2 bt392.1 bt400.1 true) else (if bt400.1.toList = bt402.1.toList then (if (bt392.2 != bt388.2) = true then (laws_FnDrillsMistaken.j0 k l1 bt383.1 bt383.2.1 bt383.2.2 bt388.1 bt388.2 bt392.1 bt400.1 true) else (laws_FnDrillsMistaken.j0 k l1 bt383.1 bt383.2.1 bt383.2.2 bt388.1 bt388.2 bt392.1 bt400.1 (bt400.2 != bt388.2))) else (laws_FnDrillsMistaken.j0 k l1 bt383.1 bt383.2.1 bt383.2.2 bt388.1 bt388.2 bt392.1 bt400.1 true))) else (laws_FnDrillsMistaken.j0 k l1 bt383.1 bt383.2.1 bt383.2.2 bt388.1 bt388.2 bt392.1 bt400.1 true)))) else (laws_FnDrillsMistaken.j0 k l1 bt383.1 bt383.2.1 bt383.2.2 bt388.1 bt388.2 bt392.1 bt400.1 true))))))))))) = some r := H
  have A3 := Aside0.mk A30
  clear A30
  by_cases c4 : t382 = true
  ·
   subst c4
   have H1 : (some true) = some r := by rw [if_pos rfl] at H; exact H
   clear H
   have H := H1
   clear H1
   obtain rfl := Option.some.inj H
   go_enter Tryd.func4, Tryd.ntmps4
   go_wp2_with (first | ((with_reducible refine gate_callee (f := 20) rfl ?_); refine goesL_ (some 50) rfl rfl Tryd.func20 (by kernel_rfl) rfl #[.slice A0 l0.length c0, .slice A1 l1.length c1] rfl (by (try simp only [List.map_toArray, List.map_cons, List.map_nil]); first | done | rfl | (simp only [List.length_drop, List.length_take]; rfl)) ?_; (with_reducible refine (laws_big.calls _ _ l0 _ _ l1 true _ ?side1 ?side2 ?side3 ?side4 A3.out).mono ?_); (case side1 => repeat (first | exact HR0.out | (with_reducible refine Kd.C_alloc ?_ _) | (with_reducible refine Kd.C_drewN ?_ _) | (with_reducible refine Kd.C_drew ?_))); (case side2 => exact HC0.out); (case side3 => repeat (first | exact HR1.out | (with_reducible refine Kd.C_alloc ?_ _) | (with_reducible refine Kd.C_drewN ?_ _) | (with_reducible refine Kd.C_drew ?_))); (case side4 => exact HC1.out); rintro e w' ⟨rfl, ⟨nd, rfl⟩⟩; refine ⟨_, rfl, ?_⟩))
   go_ret
   exact ⟨by first | rfl | (simp [errW_none, errW_some] <;> rfl) | (simp [*, errW_none, errW_some] <;> rfl), by repeat (first | (with_reducible first | exact HB.out | apply below_alloc | apply pw_below_drewN | apply below_drew1) | exact HB.out)⟩
  ·
   replace c4 := Bool.eq_false_iff.mpr c4
   subst c4
   have H1 : ((spec_DrawFacingWithMistakes.f k l0).bind fun bt383 => ((impl_FacingWithMistakes.f k bt383.1 bt383.2.1 bt383.2.2).bind fun bt388 => ((spec_FacingWithMistakes.f k bt383.1 bt383.2.1 bt383.2.2).bind fun bt390 => ((impl_WrongSoldiers.f k bt383.1 bt383.2.1 bt383.2.2).bind fun bt392 => ((spec_WrongSoldiers.f k bt383.1 bt383.2.1 bt383.2.2).bind fun bt396 => ((impl_CorrectionsOf.f k bt383.1 bt383.2.1 bt383.2.2).bind fun bt400 => ((spec_CorrectionsOf.f k bt383.1 bt383.2.1 bt383.2.2).bind fun bt402 => (if (bt388.2 != bt390.2) = true then (laws_FnDrillsMistaken.j0 k l1 bt383.1 bt383.2.1 bt383.2.2 bt388.1 bt388.2 bt392.1 bt400.1 true) else (if bt388.1.toList = bt390.1.toList then (if (bt392.2 != bt396.2) = true then (laws_FnDrillsMistaken.j0 k l1 bt383.1 bt383.2.1 bt383.2.2 bt388.1 bt388.2 bt392.1 bt400.1 true) else ((laws_vSame.f k bt392.1 bt396.1).bind fun t404 => (if t404 = true then (if (bt400.2 != bt402.2) = true then (laws_FnDrillsMistaken.j0 k l1 bt383.1 bt383.2.1 bt383.2.2 bt388.1 bt388.2 bt392.1 bt400.1 true) else (if bt400.1.toList = bt402.1.toList then (if (bt392.2 != bt388.2) = true then (laws_FnDrillsMistaken.j0 k l1 bt383.1 bt383.2.1 bt383.2.2 bt388.1 bt388.2 bt392.1 bt400.1 true) else (laws_FnDrillsMistaken.j0 k l1 bt383.1 bt383.2.1 bt383.2.2 bt388.1 bt388.2 bt392.1 bt400.1 (bt400.2 != bt388.2))) else (laws_FnDrillsMistaken.j0 k l1 bt383.1 bt383.2.1 bt383.2.2 bt388.1 bt388.2 bt392.1 bt400.1 true))) else (laws_FnDrillsMistaken.j0 k l1 bt383.1 bt383.2.1 bt383.2.2 bt388.1 bt388.2 bt392.1 bt400.1 true)))) else (laws_FnDrillsMistaken.j0 k l1 bt383.1 bt383.2.1 bt383.2.2 bt388.1 bt388.2 bt392.1 bt400.1 true)))))))))) = some r := by rw [if_neg (show ¬ (false = true) by decide)] at H; exact H
   clear H
   have H := H1
   clear H1
   replace H := Option.bind_eq_some_iff.mp H
   obtain ⟨⟨t383, t384, t385⟩, A50, H⟩ := H
   replace H : ((impl_FacingWithMistakes.f k t383 t384 t385).bind fun bt388 => ((spec_FacingWithMistakes.f k t383 t384 t385).bind fun bt390 => ((impl_WrongSoldiers.f k t383 t384 t385).bind fun bt392 => ((spec_WrongSoldiers.f k t383 t384 t385).bind fun bt396 => ((impl_CorrectionsOf.f k t383 t384 t385).bind fun bt400 => ((spec_CorrectionsOf.f k t383 t384 t385).bind fun bt402 => (if (bt388.2 != bt390.2) = true then (laws_FnDrillsMistaken.j0 k l1 t383 t384 t385 bt388.1 bt388.2 bt392.1 bt400.1 true) else (if bt388.1.toList = bt390.1.toList then (if (bt392.2 != bt396.2) = true then (laws_FnDrillsMistaken.j0 k l1 t383 t384 t385 bt388.1 bt388.2 bt392.1 bt400.1 true) else ((laws_vSame.f k bt392.1 bt396.1).bind fun t404 => (if t404 = true then (if (bt400.2 != bt402.2) = true then (laws_FnDrillsMistaken.j0 k l1 t383 t384 t385 bt388.1 bt388.2 bt392.1 bt400.1 true) else (if bt400.1.toList = bt402.1.toList then (if (bt392.2 != bt388.2) = true then (laws_FnDrillsMistaken.j0 k l1 t383 t384 t385 bt388.1 bt388.2 bt392.1 bt400.1 true) else (laws_FnDrillsMistaken.j0 k l1 t383 t384 t385 bt388.1 bt388.2 bt392.1 bt400.1 (bt400.2 != bt388.2))) else (laws_FnDrillsMistaken.j0 k l1 t383 t384 t385 bt388.1 bt388.2 bt392.1 bt400.1 true))) else (laws_FnDrillsMistaken.j0 k l1 t383 t384 t385 bt388.1 bt388.2 bt392.1 bt400.1 true)))) else (laws_FnDrillsMistaken.j0 k l1 t383 t384 t385 bt388.1 bt388.2 bt392.1 bt400.1 true))))))))) = some r := H
   have A5 := Aside0.mk A50
   clear A50
   replace H := Option.bind_eq_some_iff.mp H
   obtain ⟨⟨t388, t389⟩, A60, H⟩ := H
   replace H : ((spec_FacingWithMistakes.f k t383 t384 t385).bind fun bt390 => ((impl_WrongSoldiers.f k t383 t384 t385).bind fun bt392 => ((spec_WrongSoldiers.f k t383 t384 t385).bind fun bt396 => ((impl_CorrectionsOf.f k t383 t384 t385).bind fun bt400 => ((spec_CorrectionsOf.f k t383 t384 t385).bind fun bt402 => (if (t389 != bt390.2) = true then (laws_FnDrillsMistaken.j0 k l1 t383 t384 t385 t388 t389 bt392.1 bt400.1 true) else (if t388.toList = bt390.1.toList then (if (bt392.2 != bt396.2) = true then (laws_FnDrillsMistaken.j0 k l1 t383 t384 t385 t388 t389 bt392.1 bt400.1 true) else ((laws_vSame.f k bt392.1 bt396.1).bind fun t404 => (if t404 = true then (if (bt400.2 != bt402.2) = true then (laws_FnDrillsMistaken.j0 k l1 t383 t384 t385 t388 t389 bt392.1 bt400.1 true) else (if bt400.1.toList = bt402.1.toList then (if (bt392.2 != t389) = true then (laws_FnDrillsMistaken.j0 k l1 t383 t384 t385 t388 t389 bt392.1 bt400.1 true) else (laws_FnDrillsMistaken.j0 k l1 t383 t384 t385 t388 t389 bt392.1 bt400.1 (bt400.2 != t389))) else (laws_FnDrillsMistaken.j0 k l1 t383 t384 t385 t388 t389 bt392.1 bt400.1 true))) else (laws_FnDrillsMistaken.j0 k l1 t383 t384 t385 t388 t389 bt392.1 bt400.1 true)))) else (laws_FnDrillsMistaken.j0 k l1 t383 t384 t385 t388 t389 bt392.1 bt400.1 true)))))))) = some r := H
   have A6 := Aside0.mk A60
   clear A60
   replace H := Option.bind_eq_some_iff.mp H
   obtain ⟨⟨t390, t391⟩, A70, H⟩ := H
   replace H : ((impl_WrongSoldiers.f k t383 t384 t385).bind fun bt392 => ((spec_WrongSoldiers.f k t383 t384 t385).bind fun bt396 => ((impl_CorrectionsOf.f k t383 t384 t385).bind fun bt400 => ((spec_CorrectionsOf.f k t383 t384 t385).bind fun bt402 => (if (t389 != t391) = true then (laws_FnDrillsMistaken.j0 k l1 t383 t384 t385 t388 t389 bt392.1 bt400.1 true) else (if t388.toList = t390.toList then (if (bt392.2 != bt396.2) = true then (laws_FnDrillsMistaken.j0 k l1 t383 t384 t385 t388 t389 bt392.1 bt400.1 true) else ((laws_vSame.f k bt392.1 bt396.1).bind fun t404 => (if t404 = true then (if (bt400.2 != bt402.2) = true then (laws_FnDrillsMistaken.j0 k l1 t383 t384 t385 t388 t389 bt392.1 bt400.1 true) else (if bt400.1.toList = bt402.1.toList then (if (bt392.2 != t389) = true then (laws_FnDrillsMistaken.j0 k l1 t383 t384 t385 t388 t389 bt392.1 bt400.1 true) else (laws_FnDrillsMistaken.j0 k l1 t383 t384 t385 t388 t389 bt392.1 bt400.1 (bt400.2 != t389))) else (laws_FnDrillsMistaken.j0 k l1 t383 t384 t385 t388 t389 bt392.1 bt400.1 true))) else (laws_FnDrillsMistaken.j0 k l1 t383 t384 t385 t388 t389 bt392.1 bt400.1 true)))) else (laws_FnDrillsMistaken.j0 k l1 t383 t384 t385 t388 t389 bt392.1 bt400.1 true))))))) = some r := H
   have A7 := Aside0.mk A70
   clear A70
   replace H := Option.bind_eq_some_iff.mp H
   obtain ⟨⟨t392, t393⟩, A80, H⟩ := H
   replace H : ((spec_WrongSoldiers.f k t383 t384 t385).bind fun bt396 => ((impl_CorrectionsOf.f k t383 t384 t385).bind fun bt400 => ((spec_CorrectionsOf.f k t383 t384 t385).bind fun bt402 => (if (t389 != t391) = true then (laws_FnDrillsMistaken.j0 k l1 t383 t384 t385 t388 t389 t392 bt400.1 true) else (if t388.toList = t390.toList then (if (t393 != bt396.2) = true then (laws_FnDrillsMistaken.j0 k l1 t383 t384 t385 t388 t389 t392 bt400.1 true) else ((laws_vSame.f k t392 bt396.1).bind fun t404 => (if t404 = true then (if (bt400.2 != bt402.2) = true then (laws_FnDrillsMistaken.j0 k l1 t383 t384 t385 t388 t389 t392 bt400.1 true) else (if bt400.1.toList = bt402.1.toList then (if (t393 != t389) = true then (laws_FnDrillsMistaken.j0 k l1 t383 t384 t385 t388 t389 t392 bt400.1 true) else (laws_FnDrillsMistaken.j0 k l1 t383 t384 t385 t388 t389 t392 bt400.1 (bt400.2 != t389))) else (laws_FnDrillsMistaken.j0 k l1 t383 t384 t385 t388 t389 t392 bt400.1 true))) else (laws_FnDrillsMistaken.j0 k l1 t383 t384 t385 t388 t389 t392 bt400.1 true)))) else (laws_FnDrillsMistaken.j0 k l1 t383 t384 t385 t388 t389 t392 bt400.1 true)))))) = some r := H
   have A8 := Aside0.mk A80
   clear A80
   replace H := Option.bind_eq_some_iff.mp H
   obtain ⟨⟨t396, t397⟩, A90, H⟩ := H
   replace H : ((impl_CorrectionsOf.f k t383 t384 t385).bind fun bt400 => ((spec_CorrectionsOf.f k t383 t384 t385).bind fun bt402 => (if (t389 != t391) = true then (laws_FnDrillsMistaken.j0 k l1 t383 t384 t385 t388 t389 t392 bt400.1 true) else (if t388.toList = t390.toList then (if (t393 != t397) = true then (laws_FnDrillsMistaken.j0 k l1 t383 t384 t385 t388 t389 t392 bt400.1 true) else ((laws_vSame.f k t392 t396).bind fun t404 => (if t404 = true then (if (bt400.2 != bt402.2) = true then (laws_FnDrillsMistaken.j0 k l1 t383 t384 t385 t388 t389 t392 bt400.1 true) else (if bt400.1.toList = bt402.1.toList then (if (t393 != t389) = true then (laws_FnDrillsMistaken.j0 k l1 t383 t384 t385 t388 t389 t392 bt400.1 true) else (laws_FnDrillsMistaken.j0 k l1 t383 t384 t385 t388 t389 t392 bt400.1 (bt400.2 != t389))) else (laws_FnDrillsMistaken.j0 k l1 t383 t384 t385 t388 t389 t392 bt400.1 true))) else (laws_FnDrillsMistaken.j0 k l1 t383 t384 t385 t388 t389 t392 bt400.1 true)))) else (laws_FnDrillsMistaken.j0 k l1 t383 t384 t385 t388 t389 t392 bt400.1 true))))) = some r := H
   have A9 := Aside0.mk A90
   clear A90
   replace H := Option.bind_eq_some_iff.mp H
   obtain ⟨⟨t400, t401⟩, A100, H⟩ := H
   replace H : ((spec_CorrectionsOf.f k t383 t384 t385).bind fun bt402 => (if (t389 != t391) = true then (laws_FnDrillsMistaken.j0 k l1 t383 t384 t385 t388 t389 t392 t400 true) else (if t388.toList = t390.toList then (if (t393 != t397) = true then (laws_FnDrillsMistaken.j0 k l1 t383 t384 t385 t388 t389 t392 t400 true) else ((laws_vSame.f k t392 t396).bind fun t404 => (if t404 = true then (if (t401 != bt402.2) = true then (laws_FnDrillsMistaken.j0 k l1 t383 t384 t385 t388 t389 t392 t400 true) else (if t400.toList = bt402.1.toList then (if (t393 != t389) = true then (laws_FnDrillsMistaken.j0 k l1 t383 t384 t385 t388 t389 t392 t400 true) else (laws_FnDrillsMistaken.j0 k l1 t383 t384 t385 t388 t389 t392 t400 (t401 != t389))) else (laws_FnDrillsMistaken.j0 k l1 t383 t384 t385 t388 t389 t392 t400 true))) else (laws_FnDrillsMistaken.j0 k l1 t383 t384 t385 t388 t389 t392 t400 true)))) else (laws_FnDrillsMistaken.j0 k l1 t383 t384 t385 t388 t389 t392 t400 true)))) = some r := H
   have A10 := Aside0.mk A100
   clear A100
   replace H := Option.bind_eq_some_iff.mp H
   obtain ⟨⟨t402, t403⟩, A110, H⟩ := H
   replace H : (if (t389 != t391) = true then (laws_FnDrillsMistaken.j0 k l1 t383 t384 t385 t388 t389 t392 t400 true) else (if t388.toList = t390.toList then (if (t393 != t397) = true then (laws_FnDrillsMistaken.j0 k l1 t383 t384 t385 t388 t389 t392 t400 true) else ((laws_vSame.f k t392 t396).bind fun t404 => (if t404 = true then (if (t401 != t403) = true then (laws_FnDrillsMistaken.j0 k l1 t383 t384 t385 t388 t389 t392 t400 true) else (if t400.toList = t402.toList then (if (t393 != t389) = true then (laws_FnDrillsMistaken.j0 k l1 t383 t384 t385 t388 t389 t392 t400 true) else (laws_FnDrillsMistaken.j0 k l1 t383 t384 t385 t388 t389 t392 t400 (t401 != t389))) else (laws_FnDrillsMistaken.j0 k l1 t383 t384 t385 t388 t389 t392 t400 true))) else (laws_FnDrillsMistaken.j0 k l1 t383 t384 t385 t388 t389 t392 t400 true)))) else (laws_FnDrillsMistaken.j0 k l1 t383 t384 t385 t388 t389 t392 t400 true))) = some r := H
   have A11 := Aside0.mk A110
   clear A110
   have HC12 := Aside0.mk H
   clear H
   go_enter Tryd.func4, Tryd.ntmps4
   go_upto_region 10 with (first | ((with_reducible refine gate_callee (f := 20) rfl ?_); refine goesL_ (some 50) rfl rfl Tryd.func20 (by kernel_rfl) rfl #[.slice A0 l0.length c0, .slice A1 l1.length c1] rfl (by (try simp only [List.map_toArray, List.map_cons, List.map_nil]); first | done | rfl | (simp only [List.length_drop, List.length_take]; rfl)) ?_; (with_reducible refine (laws_big.calls _ _ l0 _ _ l1 false _ ?side1 ?side2 ?side3 ?side4 A3.out).mono ?_); (case side1 => repeat (first | exact HR0.out | (with_reducible refine Kd.C_alloc ?_ _) | (with_reducible refine Kd.C_drewN ?_ _) | (with_reducible refine Kd.C_drew ?_))); (case side2 => exact HC0.out); (case side3 => repeat (first | exact HR1.out | (with_reducible refine Kd.C_alloc ?_ _) | (with_reducible refine Kd.C_drewN ?_ _) | (with_reducible refine Kd.C_drew ?_))); (case side4 => exact HC1.out); rintro e w' ⟨rfl, ⟨nd, rfl⟩⟩; refine ⟨_, rfl, ?_⟩) | ((with_reducible refine gate_callee (f := 21) rfl ?_); refine goesL_ (some 53) rfl rfl Tryd.func21 (by kernel_rfl) rfl #[.slice A0 l0.length c0] rfl (by (try simp only [List.map_toArray, List.map_cons, List.map_nil]); first | done | rfl | (simp only [List.length_drop, List.length_take]; rfl)) ?_; (with_reducible refine (spec_DrawFacingWithMistakes.calls k _ _ l0 t383 t384 t385 _ ?side1 ?side2 A5.out).mono ?_); (case side1 => repeat (first | exact HR0.out | (with_reducible refine Kd.C_alloc ?_ _) | (with_reducible refine Kd.C_drewN ?_ _) | (with_reducible refine Kd.C_drew ?_))); (case side2 => exact HC0.out); rintro e w13 ⟨v386, rfl, ho0, hb⟩; refine ⟨_, rfl, ?_⟩; have n0_ := Aside0.mk (Kd.R_lower ho0 (below_size (by repeat (first | (with_reducible first | exact HB.out | apply below_alloc | apply pw_below_drewN | apply below_drew1) | exact HB.out)))); have n1_ := Aside0.mk (below_step (by repeat (first | (with_reducible first | exact HB.out | apply below_alloc | apply pw_below_drewN | apply below_drew1) | exact HB.out)) hb); clear HB; have HO387 := n0_; have HB := n1_; clear n0_ n1_; (try clear hb); (try clear hb2); (try clear hk); (try clear hi); (try clear ho0); obtain ⟨Ao14, co14, eo14⟩ := Kd.R_slice HO387.out; subst eo14) | ((with_reducible refine gate_callee (f := 5) rfl ?_); refine goesL_ (some 61) rfl rfl Tryd.func5 (by kernel_rfl) rfl #[.string t383, .string t384, .slice Ao14 t385.length co14] rfl (by (try simp only [List.map_toArray, List.map_cons, List.map_nil]); first | done | rfl | (simp only [List.length_drop, List.length_take]; rfl)) ?_; (with_reducible refine (impl_FacingWithMistakes.calls k t383 t384 _ _ t385 t388 t389 _ ?side1 ?side2 A6.out).mono ?_); (case side1 => repeat (first | exact (Kd.R_reads' HO387.out).2.2 | (with_reducible refine Kd.C_alloc ?_ _) | (with_reducible refine Kd.C_drewN ?_ _) | (with_reducible refine Kd.C_drew ?_))); (case side2 => exact (Kd.R_reads' HO387.out).2.1); rintro e w15 ⟨rfl, hb⟩; refine ⟨_, rfl, ?_⟩; have n0_ := Aside0.mk (Kd.R_below (by (with_reducible repeat (first | apply Kd.R_alloc | apply Kd.R_drewN | apply Kd.R_drew)); exact HO387.out) hb); have n1_ := Aside0.mk (below_step (by repeat (first | (with_reducible first | exact HB.out | apply below_alloc | apply pw_below_drewN | apply below_drew1) | exact HB.out)) hb); clear HO387; clear HB; have HO387 := n0_; have HB := n1_; clear n0_ n1_; (try clear hb); (try clear hb2); (try clear hk); (try clear hi)) | ((with_reducible refine gate_callee (f := 6) rfl ?_); refine goesL_ (some 68) rfl rfl Tryd.func6 (by kernel_rfl) rfl #[.string t383, .string t384, .slice Ao14 t385.length co14] rfl (by (try simp only [List.map_toArray, List.map_cons, List.map_nil]); first | done | rfl | (simp only [List.length_drop, List.length_take]; rfl)) ?_; (with_reducible refine (spec_FacingWithMistakes.calls k t383 t384 _ _ t385 t390 t391 _ ?side1 ?side2 A7.out).mono ?_); (case side1 => repeat (first | exact (Kd.R_reads' HO387.out).2.2 | (with_reducible refine Kd.C_alloc ?_ _) | (with_reducible refine Kd.C_drewN ?_ _) | (with_reducible refine Kd.C_drew ?_))); (case side2 => exact (Kd.R_reads' HO387.out).2.1); rintro e w16 ⟨rfl, hb⟩; refine ⟨_, rfl, ?_⟩; have n0_ := Aside0.mk (Kd.R_below (by (with_reducible repeat (first | apply Kd.R_alloc | apply Kd.R_drewN | apply Kd.R_drew)); exact HO387.out) hb); have n1_ := Aside0.mk (below_step (by repeat (first | (with_reducible first | exact HB.out | apply below_alloc | apply pw_below_drewN | apply below_drew1) | exact HB.out)) hb); clear HO387; clear HB; have HO387 := n0_; have HB := n1_; clear n0_ n1_; (try clear hb); (try clear hb2); (try clear hk); (try clear hi)) | ((with_reducible refine gate_callee (f := 7) rfl ?_); refine goesL_ (some 75) rfl rfl Tryd.func7 (by kernel_rfl) rfl #[.string t383, .string t384, .slice Ao14 t385.length co14] rfl (by (try simp only [List.map_toArray, List.map_cons, List.map_nil]); first | done | rfl | (simp only [List.length_drop, List.length_take]; rfl)) ?_; (with_reducible refine (impl_WrongSoldiers.calls k t383 t384 _ _ t385 t392 t393 _ ?side1 ?side2 A8.out).mono ?_); (case side1 => repeat (first | exact (Kd.R_reads' HO387.out).2.2 | (with_reducible refine Kd.C_alloc ?_ _) | (with_reducible refine Kd.C_drewN ?_ _) | (with_reducible refine Kd.C_drew ?_))); (case side2 => exact (Kd.R_reads' HO387.out).2.1); rintro e w17 ⟨v394, rfl, ho0, hb⟩; refine ⟨_, rfl, ?_⟩; have n0_ := Aside0.mk (Kd.R_below (by (with_reducible repeat (first | apply Kd.R_alloc | apply Kd.R_drewN | apply Kd.R_drew)); exact HO387.out) hb); have n1_ := Aside0.mk (Kd.R_lower ho0 (below_size (by repeat (first | (with_reducible first | exact HB.out | apply below_alloc | apply pw_below_drewN | apply below_drew1) | exact HB.out)))); have n2_ := Aside0.mk (below_step (by repeat (first | (with_reducible first | exact HB.out | apply below_alloc | apply pw_below_drewN | apply below_drew1) | exact HB.out)) hb); clear HO387; clear HB; have HO387 := n0_; have HO395 := n1_; have HB := n2_; clear n0_ n1_ n2_; (try clear hb); (try clear hb2); (try clear hk); (try clear hi); (try clear ho0)) | ((with_reducible refine gate_callee (f := 8) rfl ?_); refine goesL_ (some 82) rfl rfl Tryd.func8 (by kernel_rfl) rfl #[.string t383, .string t384, .slice Ao14 t385.length co14] rfl (by (try simp only [List.map_toArray, List.map_cons, List.map_nil]); first | done | rfl | (simp only [List.length_drop, List.length_take]; rfl)) ?_; (with_reducible refine (spec_WrongSoldiers.calls k t383 t384 _ _ t385 t396 t397 _ ?side1 ?side2 A9.out).mono ?_); (case side1 => repeat (first | exact (Kd.R_reads' HO387.out).2.2 | (with_reducible refine Kd.C_alloc ?_ _) | (with_reducible refine Kd.C_drewN ?_ _) | (with_reducible refine Kd.C_drew ?_))); (case side2 => exact (Kd.R_reads' HO387.out).2.1); rintro e w18 ⟨v398, rfl, ho0, hb⟩; refine ⟨_, rfl, ?_⟩; have n0_ := Aside0.mk (Kd.R_below (by (with_reducible repeat (first | apply Kd.R_alloc | apply Kd.R_drewN | apply Kd.R_drew)); exact HO387.out) hb); have n1_ := Aside0.mk (Kd.R_elder' (by (with_reducible repeat (first | apply Kd.R_alloc | apply Kd.R_drewN | apply Kd.R_drew)); exact HO395.out) (Kd.R_base ho0) hb); have n2_ := Aside0.mk (Kd.R_lower (Kd.R_new' ho0 (Kd.R_lt (by (with_reducible repeat (first | apply Kd.R_alloc | apply Kd.R_drewN | apply Kd.R_drew)); exact HO395.out))) (below_size (by repeat (first | (with_reducible first | exact HB.out | apply below_alloc | apply pw_below_drewN | apply below_drew1) | exact HB.out)))); have n3_ := Aside0.mk (below_step (by repeat (first | (with_reducible first | exact HB.out | apply below_alloc | apply pw_below_drewN | apply below_drew1) | exact HB.out)) hb); clear HO387; clear HO395; clear HB; have HO387 := n0_; have HO395 := n1_; have HO399 := n2_; have HB := n3_; clear n0_ n1_ n2_ n3_; (try clear hb); (try clear hb2); (try clear hk); (try clear hi); (try clear ho0)) | ((with_reducible refine gate_callee (f := 9) rfl ?_); refine goesL_ (some 89) rfl rfl Tryd.func9 (by kernel_rfl) rfl #[.string t383, .string t384, .slice Ao14 t385.length co14] rfl (by (try simp only [List.map_toArray, List.map_cons, List.map_nil]); first | done | rfl | (simp only [List.length_drop, List.length_take]; rfl)) ?_; (with_reducible refine (impl_CorrectionsOf.calls k t383 t384 _ _ t385 t400 t401 _ ?side1 ?side2 A10.out).mono ?_); (case side1 => repeat (first | exact (Kd.R_reads' HO387.out).2.2 | (with_reducible refine Kd.C_alloc ?_ _) | (with_reducible refine Kd.C_drewN ?_ _) | (with_reducible refine Kd.C_drew ?_))); (case side2 => exact (Kd.R_reads' HO387.out).2.1); rintro e w19 ⟨rfl, hb⟩; refine ⟨_, rfl, ?_⟩; have n0_ := Aside0.mk (Kd.R_below (by (with_reducible repeat (first | apply Kd.R_alloc | apply Kd.R_drewN | apply Kd.R_drew)); exact HO387.out) hb); have n1_ := Aside0.mk (Kd.R_below (by (with_reducible repeat (first | apply Kd.R_alloc | apply Kd.R_drewN | apply Kd.R_drew)); exact HO395.out) hb); have n2_ := Aside0.mk (Kd.R_below (by (with_reducible repeat (first | apply Kd.R_alloc | apply Kd.R_drewN | apply Kd.R_drew)); exact HO399.out) hb); have n3_ := Aside0.mk (below_step (by repeat (first | (with_reducible first | exact HB.out | apply below_alloc | apply pw_below_drewN | apply below_drew1) | exact HB.out)) hb); clear HO387; clear HO395; clear HO399; clear HB; have HO387 := n0_; have HO395 := n1_; have HO399 := n2_; have HB := n3_; clear n0_ n1_ n2_ n3_; (try clear hb); (try clear hb2); (try clear hk); (try clear hi)) | ((with_reducible refine gate_callee (f := 10) rfl ?_); refine goesL_ (some 96) rfl rfl Tryd.func10 (by kernel_rfl) rfl #[.string t383, .string t384, .slice Ao14 t385.length co14] rfl (by (try simp only [List.map_toArray, List.map_cons, List.map_nil]); first | done | rfl | (simp only [List.length_drop, List.length_take]; rfl)) ?_; (with_reducible refine (spec_CorrectionsOf.calls k t383 t384 _ _ t385 t402 t403 _ ?side1 ?side2 A11.out).mono ?_); (case side1 => repeat (first | exact (Kd.R_reads' HO387.out).2.2 | (with_reducible refine Kd.C_alloc ?_ _) | (with_reducible refine Kd.C_drewN ?_ _) | (with_reducible refine Kd.C_drew ?_))); (case side2 => exact (Kd.R_reads' HO387.out).2.1); rintro e w20 ⟨rfl, hb⟩; refine ⟨_, rfl, ?_⟩; have n0_ := Aside0.mk (Kd.R_below (by (with_reducible repeat (first | apply Kd.R_alloc | apply Kd.R_drewN | apply Kd.R_drew)); exact HO387.out) hb); have n1_ := Aside0.mk (Kd.R_below (by (with_reducible repeat (first | apply Kd.R_alloc | apply Kd.R_drewN | apply Kd.R_drew)); exact HO395.out) hb); have n2_ := Aside0.mk (Kd.R_below (by (with_reducible repeat (first | apply Kd.R_alloc | apply Kd.R_drewN | apply Kd.R_drew)); exact HO399.out) hb); have n3_ := Aside0.mk (below_step (by repeat (first | (with_reducible first | exact HB.out | apply below_alloc | apply pw_below_drewN | apply below_drew1) | exact HB.out)) hb); clear HO387; clear HO395; clear HO399; clear HB; have HO387 := n0_; have HO395 := n1_; have HO399 := n2_; have HB := n3_; clear n0_ n1_ n2_ n3_; (try clear hb); (try clear hb2); (try clear hk); (try clear hi)))
   (try simp only [Act.put, List.setIfInBounds_toArray, List.set_cons_zero, List.set_cons_succ])
   go_cut [137] from 137 to 137 (fun v137 wc => ∃ (kq : Nat) (x137_11 : Bool), v137 = .bool x137_11 ∧ Aside0 (laws_FnDrillsMistaken.j0 kq l1 t383 t384 t385 t388 t389 t392 t400 x137_11 = some r) ∧ Aside0 (kq ≤ k) ∧ Aside0 (Kd.R k34 34 wc w.heap.size (fun _ => True) (.slice Ao14 t385.length co14) t385) ∧ Aside0 (Kd.R (Kd.int .i64) 3 wc w.heap.size (fun _ => True) v394 t392) ∧ Aside0 (Below w.heap.size w wc))
   case first =>
    -- part 1
    (repeat revert ‹World›)
    (repeat revert ‹Value›)
    (repeat revert ‹Nat → Act → World → Prop›)
    (repeat revert ‹Act → World → Prop›)
    (repeat revert ‹Int›)
    (repeat revert ‹Nat›)
    (repeat revert ‹Bool›)
    (repeat revert ‹List (List Int)›)
    (repeat revert ‹List Int›)
    (repeat revert ‹Addr›)
    (repeat revert ‹Option Addr›)
    (repeat revert ‹ByteArray›)
    (repeat revert ‹List ByteArray›)
    (repeat revert ‹List (S34)›)
    exact hole1.down
   case rest =>
    -- part 2
    (repeat revert ‹World›)
    (repeat revert ‹Value›)
    (repeat revert ‹Nat → Act → World → Prop›)
    (repeat revert ‹Act → World → Prop›)
    (repeat revert ‹Int›)
    (repeat revert ‹Nat›)
    (repeat revert ‹Bool›)
    (repeat revert ‹List (List Int)›)
    (repeat revert ‹List Int›)
    (repeat revert ‹Addr›)
    (repeat revert ‹Option Addr›)
    (repeat revert ‹ByteArray›)
    (repeat revert ‹List ByteArray›)
    (repeat revert ‹List (S34)›)
    exact hole2.down

set_option maxHeartbeats 8000000 in
set_option maxRecDepth 100000 in
theorem laws_FnDrillsMistaken.part1 : laws_FnDrillsMistaken.part0.1 := by
 conv => whnf
 intro t385 t383 t384 t388 t390 t400 t402 A0 A1 Ao14 l0 l1 A3 t392 t396 r HE_ t389 t391 t393 t397 t401 t403 k A5 A6 A7 A8 A9 A10 A11 HC12 c0 HC0 c1 HC1 nd co14 K K J K' a v394 v398 w HR0 HR1 Q' a a a w13 w15 w16 w17 w18 w19 w20 HO387 HO395 HO399 HB
 have H := HC12.out
 clear HC12
 by_cases c21 : (t389 != t391) = true
 ·
  rw [if_pos c21] at H
  exact (laws_FnDrillsMistaken.j0_no _ _ _ _ _ _ _ _ _ (H.trans (congrArg some HE_.out))).elim
 ·
  rw [if_neg c21] at H
  have c21b0 : (t389 != t391) = false := by simpa using c21
  (try (have c21b1 : decide (t389 = t391) = true := by simpa using c21))
  (try (have c21b2 : (t389 == t391) = true := by simpa using c21))
  clear c21
  (first | rw [c21b0] | (simp only [i64_w, i32_w]; rw [c21b0]) | skip)
  by_cases c22 : t388.toList = t390.toList
  ·
   rw [if_pos c22] at H
   have c22b0 : (t388.toList == t390.toList) = true := beq_iff_eq.mpr c22
   have c22b1 : (t388.toList != t390.toList) = false := bne_eq_false_iff_eq.mpr c22
   clear c22
   by_cases c23 : (t393 != t397) = true
   ·
    rw [if_pos c23] at H
    exact (laws_FnDrillsMistaken.j0_no _ _ _ _ _ _ _ _ _ (H.trans (congrArg some HE_.out))).elim
   ·
    rw [if_neg c23] at H
    have c23b0 : (t393 != t397) = false := by simpa using c23
    (try (have c23b1 : decide (t393 = t397) = true := by simpa using c23))
    (try (have c23b2 : (t393 == t397) = true := by simpa using c23))
    clear c23
    replace H := Option.bind_eq_some_iff.mp H
    obtain ⟨t404, A240, H⟩ := H
    replace H : (if t404 = true then (if (t401 != t403) = true then (laws_FnDrillsMistaken.j0 k l1 t383 t384 t385 t388 t389 t392 t400 true) else (if t400.toList = t402.toList then (if (t393 != t389) = true then (laws_FnDrillsMistaken.j0 k l1 t383 t384 t385 t388 t389 t392 t400 true) else (laws_FnDrillsMistaken.j0 k l1 t383 t384 t385 t388 t389 t392 t400 (t401 != t389))) else (laws_FnDrillsMistaken.j0 k l1 t383 t384 t385 t388 t389 t392 t400 true))) else (laws_FnDrillsMistaken.j0 k l1 t383 t384 t385 t388 t389 t392 t400 true)) = some r := H
    have A24 := Aside0.mk A240
    clear A240
    by_cases c25 : t404 = true
    ·
     subst c25
     have H1 : (if (t401 != t403) = true then (laws_FnDrillsMistaken.j0 k l1 t383 t384 t385 t388 t389 t392 t400 true) else (if t400.toList = t402.toList then (if (t393 != t389) = true then (laws_FnDrillsMistaken.j0 k l1 t383 t384 t385 t388 t389 t392 t400 true) else (laws_FnDrillsMistaken.j0 k l1 t383 t384 t385 t388 t389 t392 t400 (t401 != t389))) else (laws_FnDrillsMistaken.j0 k l1 t383 t384 t385 t388 t389 t392 t400 true))) = some r := by rw [if_pos rfl] at H; exact H
     clear H
     have H := H1
     clear H1
     by_cases c26 : (t401 != t403) = true
     ·
      rw [if_pos c26] at H
      exact (laws_FnDrillsMistaken.j0_no _ _ _ _ _ _ _ _ _ (H.trans (congrArg some HE_.out))).elim
     ·
      rw [if_neg c26] at H
      have c26b0 : (t401 != t403) = false := by simpa using c26
      (try (have c26b1 : decide (t401 = t403) = true := by simpa using c26))
      (try (have c26b2 : (t401 == t403) = true := by simpa using c26))
      clear c26
      by_cases c27 : t400.toList = t402.toList
      ·
       rw [if_pos c27] at H
       have c27b0 : (t400.toList == t402.toList) = true := beq_iff_eq.mpr c27
       have c27b1 : (t400.toList != t402.toList) = false := bne_eq_false_iff_eq.mpr c27
       clear c27
       by_cases c28 : (t393 != t389) = true
       ·
        rw [if_pos c28] at H
        exact (laws_FnDrillsMistaken.j0_no _ _ _ _ _ _ _ _ _ (H.trans (congrArg some HE_.out))).elim
       ·
        rw [if_neg c28] at H
        have c28b0 : (t393 != t389) = false := by simpa using c28
        (try (have c28b1 : decide (t393 = t389) = true := by simpa using c28))
        (try (have c28b2 : (t393 == t389) = true := by simpa using c28))
        clear c28
        have H' := Aside0.mk H
        clear H
        obtain ⟨Ao29, co29, eo29⟩ := Kd.R_slice HO395.out
        subst eo29
        obtain ⟨Ao30, co30, eo30⟩ := Kd.R_slice HO399.out
        subst eo30
        go_wp2_with (first | (go_at_call 11; (with_reducible refine (laws_vSame.calls k _ _ t392 _ _ t396 true _ ?side1 ?side2 ?side3 ?side4 A24.out).mono ?_); (case side1 => repeat (first | exact (Kd.R_reads' HO395.out).2.2 | (with_reducible refine Kd.C_alloc ?_ _) | (with_reducible refine Kd.C_drewN ?_ _) | (with_reducible refine Kd.C_drew ?_))); (case side2 => exact (Kd.R_reads' HO395.out).2.1); (case side3 => repeat (first | exact (Kd.R_reads' HO399.out).2.2 | (with_reducible refine Kd.C_alloc ?_ _) | (with_reducible refine Kd.C_drewN ?_ _) | (with_reducible refine Kd.C_drew ?_))); (case side4 => exact (Kd.R_reads' HO399.out).2.1); rintro e w' ⟨rfl, ⟨nd, rfl⟩⟩))
        go_meet
        case rel => exact ⟨_, ((t401 != t389)), (by first | rfl | (simp; done) | (simp [*]; done)), H', ⟨by first | omega | exact Nat.le_refl _⟩, ⟨by (with_reducible repeat (first | apply Kd.R_alloc | apply Kd.R_drewN | apply Kd.R_drew)); exact HO387.out⟩, ⟨by (with_reducible repeat (first | apply Kd.R_alloc | apply Kd.R_drewN | apply Kd.R_drew)); exact Kd.R_mono HO395.out (fun _ hk => trivial)⟩, ⟨by repeat (first | (with_reducible first | exact HB.out | apply below_alloc | apply pw_below_drewN | apply below_drew1) | exact HB.out)⟩⟩
      ·
       rw [if_neg c27] at H
       exact (laws_FnDrillsMistaken.j0_no _ _ _ _ _ _ _ _ _ (H.trans (congrArg some HE_.out))).elim
    ·
     replace c25 := Bool.eq_false_iff.mpr c25
     subst c25
     have H1 : (laws_FnDrillsMistaken.j0 k l1 t383 t384 t385 t388 t389 t392 t400 true) = some r := by rw [if_neg (show ¬ (false = true) by decide)] at H; exact H
     clear H
     have H := H1
     clear H1
     exact (laws_FnDrillsMistaken.j0_no _ _ _ _ _ _ _ _ _ (H.trans (congrArg some HE_.out))).elim
  ·
   rw [if_neg c22] at H
   exact (laws_FnDrillsMistaken.j0_no _ _ _ _ _ _ _ _ _ (H.trans (congrArg some HE_.out))).elim

set_option maxHeartbeats 8000000 in
set_option maxRecDepth 100000 in
def laws_FnDrillsMistaken.part2 : Σ' (R1 R2 : Prop), PLift R1 → PLift R2 → (laws_FnDrillsMistaken.part0.2.1) := by
 refine' ⟨_, _, fun hole1 hole2 => _⟩
 rotate_left 2
 ·
  conv => whnf
  intro t385 t383 t384 t388 t390 t400 t402 A0 A1 Ao14 l0 l1 A3 t392 t396 r HE_ t389 t391 t393 t397 t401 t403 k A5 A6 A7 A8 A9 A10 A11 HC12 c0 HC0 c1 HC1 nd co14 K K v394 v398 u99 u100 u101 u102 u103 u104 u105 u106 u107 u108 u109 u110 u111 u112 u113 u114 u115 u116 u117 u118 u119 u120 u121 u122 u123 u124 u125 u126 u127 u128 u129 u130 u131 u132 u133 u134 u135 u136 u137 w HR0 HR1 Q' a a w13 w15 w16 w17 w18 w19 w20 HO387 HO395 HO399 HB wc hcut
  clear HC12
  try clear c1
  try clear c4
  obtain ⟨kq, x137_11, rfl, HA, HJ11, HO_7, HO_12, HB⟩ := hcut
  cases kq with
  | zero => exact absurd HA.out (by simp [laws_FnDrillsMistaken.j0])
  | succ kj11 =>
   have H := HA.out
   clear HA
   simp only [laws_FnDrillsMistaken.j0] at H
   by_cases c31 : x137_11 = true
   ·
    subst c31
    have H1 : (some false) = some r := by rw [if_pos rfl] at H; exact H
    clear H
    have H := H1
    clear H1
    exact absurd (H.trans (congrArg some HE_.out)) (by simp)
   ·
    replace c31 := Bool.eq_false_iff.mpr c31
    subst c31
    have H1 : (if t389 = true then ((impl_FacingAfter.f kj11 t383 t384).bind fun bt405 => (if bt405.2 = true then (if (t388.size : Int) = (t383.size : Int) then (if (t400.size : Int) = (t383.size : Int) then ((laws_vRises.f kj11 t392).bind fun t407 => (if t407 = true then ((impl_AreMistakes.f kj11 (t383.size : Int) t384 t385).bind fun t408 => (laws_FnDrillsMistaken.j1 kj11 l1 t383 t385 t388 t392 t400 bt405.1 (!t408))) else (laws_FnDrillsMistaken.j1 kj11 l1 t383 t385 t388 t392 t400 bt405.1 true))) else (laws_FnDrillsMistaken.j1 kj11 l1 t383 t385 t388 t392 t400 bt405.1 true)) else (laws_FnDrillsMistaken.j1 kj11 l1 t383 t385 t388 t392 t400 bt405.1 true)) else (laws_FnDrillsMistaken.j1 kj11 l1 t383 t385 t388 t392 t400 bt405.1 true))) else (laws_FnDrillsMistaken.j3 kj11 l1)) = some r := by rw [if_neg (show ¬ (false = true) by decide)] at H; exact H
    clear H
    have H := H1
    clear H1
    have HC32 := Aside0.mk H
    clear H
    go_upto_if 138 with (fail)
    go_cut [] from 137 to 173 (fun wc => ∃ (kq : Nat), Aside0 (laws_FnDrillsMistaken.j3 kq l1 = some r) ∧ Aside0 (kq ≤ kj11) ∧ Aside0 (Below w.heap.size w wc))
    case first =>
     -- part 3
     (repeat revert ‹World›)
     (repeat revert ‹Value›)
     (repeat revert ‹Nat → Act → World → Prop›)
     (repeat revert ‹Act → World → Prop›)
     (repeat revert ‹Int›)
     (repeat revert ‹Nat›)
     (repeat revert ‹Bool›)
     (repeat revert ‹List (List Int)›)
     (repeat revert ‹List Int›)
     (repeat revert ‹Addr›)
     (repeat revert ‹Option Addr›)
     (repeat revert ‹ByteArray›)
     (repeat revert ‹List ByteArray›)
     (repeat revert ‹List (S34)›)
     exact hole1.down
    case rest =>
     -- part 6
     (repeat revert ‹World›)
     (repeat revert ‹Value›)
     (repeat revert ‹Nat → Act → World → Prop›)
     (repeat revert ‹Act → World → Prop›)
     (repeat revert ‹Int›)
     (repeat revert ‹Nat›)
     (repeat revert ‹Bool›)
     (repeat revert ‹List (List Int)›)
     (repeat revert ‹List Int›)
     (repeat revert ‹Addr›)
     (repeat revert ‹Option Addr›)
     (repeat revert ‹ByteArray›)
     (repeat revert ‹List ByteArray›)
     (repeat revert ‹List (S34)›)
     exact hole2.down
end Go.Proofs.YtgdmbhldabeelaaRDoor.PFnDrillsMistaken
