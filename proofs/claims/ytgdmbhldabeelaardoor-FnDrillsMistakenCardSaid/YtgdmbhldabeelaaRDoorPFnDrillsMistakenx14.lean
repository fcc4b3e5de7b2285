-- Written by a program of this session's (pg.py) over the kit's print.
import Derived.Test.YtgdmbhldabeelaaRDoorPFnDrillsMistakenx0
import Derived.Test.YtgdmbhldabeelaaRDoorPFnDrillsMistakenx3
import Derived.Test.YtgdmbhldabeelaaRDoorPFnDrillsMistakenx6
import Derived.Test.YtgdmbhldabeelaaRDoorPFnDrillsMistakenx7
import Derived.Test.YtgdmbhldabeelaaRDoorPFnDrillsMistakenx8
import Derived.Test.YtgdmbhldabeelaaRDoorPFnDrillsMistakenx9
import Derived.Test.YtgdmbhldabeelaaRDoorPFnDrillsMistakenx10
import Derived.Test.YtgdmbhldabeelaaRDoorPFnDrillsMistakenx13
import Derived.Lib.OthersKept
import Derived.Deep.RegionWith
namespace Go.Proofs.YtgdmbhldabeelaaRDoor.PFnDrillsMistaken
open Go.RowKit Go.Proofs.YtgdmbhldabeelaaRDoorW.PrintWords Go.Proofs.YtgdmbhldabeelaaRDoorW.PrintLast Go.Proofs.YtgdmbhldabeelaaRDoorW.PrintMore
attribute [local go_sem] max2_int min2_int max_two min_two max_three min_three max_four min_four   -- for this text's walks alone
set_option linter.unusedVariables false
set_option linter.unusedSimpArgs false

/-! ### the loop over a facing's places: who is wrong, and what corrects him -/
def laws_doneLoop.l0 : Nat → ByteArray → ByteArray → ByteArray → ByteArray → List Int → Nat → Option Bool
  | 0, _, _, _, _, _, _ => none
  | k + 1, s, a, c, p, l, i => if i < s.size then (if bt s (i : Int) < 128 ∧ i < a.size ∧ i < c.size ∧ i < p.size then ((impl_FacingAfter.f k (a.extract i (i + 1)) (c.extract i (i + 1))).bind fun y => ((laws_vHas.f k l (i : Int)).bind fun h => (if y.2 = true ∧ y.1 = p.extract i (i + 1) ∧ h = (bt a (i : Int) != bt p (i : Int)) ∧ h = !(bt c (i : Int) == 83) then laws_doneLoop.l0 k s a c p l (i + 1) else some false))) else none) else some true
def laws_doneLoop.f (k : Nat) (s a c p : ByteArray) (l : List Int) : Option Bool := if s.size ≤ 1000000000 then laws_doneLoop.l0 k s a c p l 0 else none
theorem laws_doneLoop.mono_l (s a c p : ByteArray) (l : List Int) : ∀ k i, LeO (laws_doneLoop.l0 k s a c p l i) (laws_doneLoop.l0 (k + 1) s a c p l i)
  | 0, i => fun r h => by simp [laws_doneLoop.l0] at h
  | k + 1, i => by
    rw [laws_doneLoop.l0, laws_doneLoop.l0]
    refine LeO.ite (LeO.ite (LeO.bind (impl_FacingAfter.mono _ _ _) fun y => LeO.bind (laws_vHas.mono _ _ _) fun h => LeO.ite (laws_doneLoop.mono_l s a c p l k _) (LeO.refl _)) (LeO.refl _)) (LeO.refl _)
theorem laws_doneLoop.mono : ∀ a0 a1 a2 a3 a4 k, LeO (laws_doneLoop.f k a0 a1 a2 a3 a4) (laws_doneLoop.f (k + 1) a0 a1 a2 a3 a4) := fun a0 a1 a2 a3 a4 k => LeO.ite (laws_doneLoop.mono_l a0 a1 a2 a3 a4 k 0) (LeO.refl _)

/-! ### laws_FnDrillsMistaken: function 4 -/
mutual
def laws_FnDrillsMistaken.j0 : Nat → List Int → ByteArray → ByteArray → List (S34) → ByteArray → Bool → List Int → ByteArray → Bool → Option (Bool)
  | 0, _, _, _, _, _, _, _, _, _ => none
  | k + 1, x1, x5, x6, x7, x8, x9, x12, x16, x137 => if x137 = true then (some false) else (if x9 = true then ((impl_FacingAfter.f k x5 x6).bind fun bt405 => (if bt405.2 = true then (if (x8.size : Int) = (x5.size : Int) then (if (x16.size : Int) = (x5.size : Int) then ((laws_vRises.f k x12).bind fun t407 => (if t407 = true then ((impl_AreMistakes.f k (x5.size : Int) x6 x7).bind fun t408 => (laws_FnDrillsMistaken.j1 k x1 x5 x7 x8 x12 x16 bt405.1 (!t408))) else (laws_FnDrillsMistaken.j1 k x1 x5 x7 x8 x12 x16 bt405.1 true))) else (laws_FnDrillsMistaken.j1 k x1 x5 x7 x8 x12 x16 bt405.1 true)) else (laws_FnDrillsMistaken.j1 k x1 x5 x7 x8 x12 x16 bt405.1 true)) else (laws_FnDrillsMistaken.j1 k x1 x5 x7 x8 x12 x16 bt405.1 true))) else (laws_FnDrillsMistaken.j3 k x1))
def laws_FnDrillsMistaken.j3 : Nat → List Int → Option (Bool)
  | 0, _ => none
  | k + 1, x1 => (spec_DrawWaysToFace.f k x1).bind fun bt415 => ((impl_WaysToFace.f k bt415.1 bt415.2.1 bt415.2.2).bind fun bt418 => ((spec_WaysToFace.f k bt415.1 bt415.2.1 bt415.2.2).bind fun bt420 => ((spec_DrawAreMistakes.f k x1).bind fun bt422 => (if (bt418.2 != bt420.2) = true then (laws_FnDrillsMistaken.j4 k bt415.1 bt415.2.1 bt415.2.2 bt418.1 bt418.2 true) else (if bt418.1 = bt420.1 then ((impl_AreMistakes.f k bt422.1 bt422.2.1 bt422.2.2).bind fun t427 => ((spec_AreMistakes.f k bt422.1 bt422.2.1 bt422.2.2).bind fun t428 => (laws_FnDrillsMistaken.j4 k bt415.1 bt415.2.1 bt415.2.2 bt418.1 bt418.2 (t427 != t428)))) else (laws_FnDrillsMistaken.j4 k bt415.1 bt415.2.1 bt415.2.2 bt418.1 bt418.2 true))))))
def laws_FnDrillsMistaken.j4 : Nat → ByteArray → Int → Int → Int → Bool → Bool → Option (Bool)
  | 0, _, _, _, _, _, _ => none
  | k + 1, x29, x30, x31, x32, x33, x297 => if x297 = true then (some false) else (if x33 = true then (laws_FnDrillsMistaken.j5 k x29 x30 x31 x32 (decide ((x29.size : Int) ≤ 12))) else (laws_FnDrillsMistaken.j5 k x29 x30 x31 x32 false))
def laws_FnDrillsMistaken.j5 : Nat → ByteArray → Int → Int → Int → Bool → Option (Bool)
  | 0, _, _, _, _, _ => none
  | k + 1, x29, x30, x31, x32, x303 => if x303 = true then (laws_FnDrillsMistaken.l1 k x29 x30 x31 x32 0 0) else (some true)
def laws_FnDrillsMistaken.l1 : Nat → ByteArray → Int → Int → Int → Int → Int → Option (Bool)
  | 0, _, _, _, _, _, _ => none
  | k + 1, x29, x30, x31, x32, x39, x40 => if x40 < 4 then ((impl_WaysToFace.f k x29 x30 x40).bind fun bt429 => (if bt429.2 = true then (if bt429.1 < 0 then (some false) else (laws_FnDrillsMistaken.l1 k x29 x30 x31 x32 (wrap64 (x39 + bt429.1)) (wrap64 (x40 + 1)))) else (some false))) else (laws_FnDrillsMistaken.l2 k x29 x30 x31 x32 x39 1 1)
def laws_FnDrillsMistaken.l2 : Nat → ByteArray → Int → Int → Int → Int → Int → Int → Option (Bool)
  | 0, _, _, _, _, _, _, _ => none
  | k + 1, x29, x30, x31, x32, x39, x43, x44 => if x44 ≤ x30 then (if x44 = 0 then (none) else (laws_FnDrillsMistaken.l2 k x29 x30 x31 x32 x39 (wrap64 (Int.tdiv (wrap64 (x43 * (wrap64 ((wrap64 ((x29.size : Int) - x44)) + 1)))) x44)) (wrap64 (x44 + 1)))) else (laws_FnDrillsMistaken.l3 k x29 x30 x31 x32 x39 x43 0)
def laws_FnDrillsMistaken.l3 : Nat → ByteArray → Int → Int → Int → Int → Int → Int → Option (Bool)
  | 0, _, _, _, _, _, _, _ => none
  | k + 1, x29, x30, x31, x32, x39, x43, x45 => if x45 < x30 then (laws_FnDrillsMistaken.l3 k x29 x30 x31 x32 x39 (wrap64 (x43 * 3)) (wrap64 (x45 + 1))) else (if x30 > (x29.size : Int) then (laws_FnDrillsMistaken.j9 k x29 x30 x31 x32 x39 0) else (laws_FnDrillsMistaken.j9 k x29 x30 x31 x32 x39 x43))
def laws_FnDrillsMistaken.j9 : Nat → ByteArray → Int → Int → Int → Int → Int → Option (Bool)
  | 0, _, _, _, _, _, _ => none
  | k + 1, x29, x30, x31, x32, x39, x43 => if x39 = x43 then (if x30 = 0 then ((impl_NetTurn.f k x29).bind fun bt431 => (if bt431.2 = true then (if ((x32 == 1) != (bt431.1 == x31)) = true then (some false) else (if x32 > 1 then (some false) else (some true))) else (some false))) else (some true)) else (some false)
def laws_FnDrillsMistaken.j1 : Nat → List Int → ByteArray → List (S34) → ByteArray → List Int → ByteArray → ByteArray → Bool → Option (Bool)
  | 0, _, _, _, _, _, _, _, _ => none
  | k + 1, x1, x5, x7, x8, x12, x16, x20, x173 => if x173 = true then (some false) else ((laws_doneLoop.f k x5 x8 x16 x20 x12).bind fun t409 => (if t409 = true then (laws_FnDrillsMistaken.l0 k x1 x12 0 x7 (x7.length : Int) 0) else (some false)))
def laws_FnDrillsMistaken.l0 : Nat → List Int → List Int → Int → List (S34) → Int → Int → Option (Bool)
  | 0, _, _, _, _, _, _ => none
  | k + 1, x1, x12, x26, x226, x227, x228 => if x228 < x227 then (if 0 ≤ x228 then (if x228 < (x226.length : Int) then (if ((rd_T34 x226 x228).f0) = 0 then (laws_FnDrillsMistaken.l0 k x1 x12 (wrap64 (x26 + 1)) x226 x227 (wrap64 (x228 + 1))) else (laws_FnDrillsMistaken.l0 k x1 x12 x26 x226 x227 (wrap64 (x228 + 1)))) else (none)) else (none)) else (if x26 = 0 then ((laws_vHas.f k x12 0).bind fun t412 => (if t412 = true then (some false) else (if x26 = 1 then ((laws_vHas.f k x12 0).bind fun t413 => (if t413 = true then (laws_FnDrillsMistaken.j3 k x1) else (some false))) else (laws_FnDrillsMistaken.j3 k x1)))) else (if x26 = 1 then ((laws_vHas.f k x12 0).bind fun t414 => (if t414 = true then (laws_FnDrillsMistaken.j3 k x1) else (some false))) else (laws_FnDrillsMistaken.j3 k x1)))
end
def laws_FnDrillsMistaken.f (k : Nat) (l0 : List Int) (l1 : List Int) : Option (Bool) := (laws_big.f l0 l1).bind fun t382 => (if t382 = true then (some true) else ((spec_DrawFacingWithMistakes.f k l0).bind fun bt383 => ((impl_FacingWithMistakes.f k bt383.1 bt383.2.1 bt383.2.2).bind fun bt388 => ((spec_FacingWithMistakes.f k bt383.1 bt383.2.1 bt383.2.2).bind fun bt390 => ((impl_WrongSoldiers.f k bt383.1 bt383.2.1 bt383.2.2).bind fun bt392 => ((spec_WrongSoldiers.f k bt383.1 bt383.2.1 bt383.2.2).bind fun bt396 => ((impl_CorrectionsOf.f k bt383.1 bt383.2.1 bt383.2.2).bind fun bt400 => ((spec_CorrectionsOf.f k bt383.1 bt383.2.1 bt383.2.2).bind fun bt402 => (if (bt388.2 != bt390.2) = true then (laws_FnDrillsMistaken.j0 k l1 bt383.1 bt383.2.1 bt383.2.2 bt388.1 bt388.2 bt392.1 bt400.1 true) else (if bt388.1.toList = bt390.1.toList then (if (bt392.2 != bt396.2) = true then (laws_FnDrillsMistaken.j0 k l1 bt383.1 bt383.2.1 bt383.2.2 bt388.1 bt388.2 bt392.1 bt400.1 true) else ((laws_vSame.f k bt392.1 bt396.1).bind fun t404 => (if t404 = true then (if (bt400.2 != bt402.2) = true then (laws_FnDrillsMistaken.j0 k l1 bt383.1 bt383.2.1 bt383.2.2 bt388.1 bt388.2 bt392.1 bt400.1 true) else (if bt400.1.toList = bt402.1.toList then (if (bt392.2 != bt388.2) = true then (laws_FnDrillsMistaken.j0 k l1 bt383.1 bt383.2.1 bt383.2.2 bt388.1 bt388.2 bt392.1 bt400.1 true) else (laws_FnDrillsMistaken.j0 k l1 bt383.1 bt383.2.1 bt383.2.2 bt388.1 bt388.2 bt392.1 bt400.1 (bt400.2 != bt388.2))) else (laws_FnDrillsMistaken.j0 k l1 bt383.1 bt383.2.1 bt383.2.2 bt388.1 bt388.2 bt392.1 bt400.1 true))) else (laws_FnDrillsMistaken.j0 k l1 bt383.1 bt383.2.1 bt383.2.2 bt388.1 bt388.2 bt392.1 bt400.1 true)))) else (laws_FnDrillsMistaken.j0 k l1 bt383.1 bt383.2.1 bt383.2.2 bt388.1 bt388.2 bt392.1 bt400.1 true)))))))))))
theorem laws_FnDrillsMistaken.mono_l : ∀ k, (∀ y0 y1 y2 y3 y4 y5 y6 y7 y8, LeO (laws_FnDrillsMistaken.j0 k y0 y1 y2 y3 y4 y5 y6 y7 y8) (laws_FnDrillsMistaken.j0 (k + 1) y0 y1 y2 y3 y4 y5 y6 y7 y8)) ∧ (∀ y0, LeO (laws_FnDrillsMistaken.j3 k y0) (laws_FnDrillsMistaken.j3 (k + 1) y0)) ∧ (∀ y0 y1 y2 y3 y4 y5, LeO (laws_FnDrillsMistaken.j4 k y0 y1 y2 y3 y4 y5) (laws_FnDrillsMistaken.j4 (k + 1) y0 y1 y2 y3 y4 y5)) ∧ (∀ y0 y1 y2 y3 y4, LeO (laws_FnDrillsMistaken.j5 k y0 y1 y2 y3 y4) (laws_FnDrillsMistaken.j5 (k + 1) y0 y1 y2 y3 y4)) ∧ (∀ y0 y1 y2 y3 y4 y5, LeO (laws_FnDrillsMistaken.l1 k y0 y1 y2 y3 y4 y5) (laws_FnDrillsMistaken.l1 (k + 1) y0 y1 y2 y3 y4 y5)) ∧ (∀ y0 y1 y2 y3 y4 y5 y6, LeO (laws_FnDrillsMistaken.l2 k y0 y1 y2 y3 y4 y5 y6) (laws_FnDrillsMistaken.l2 (k + 1) y0 y1 y2 y3 y4 y5 y6)) ∧ (∀ y0 y1 y2 y3 y4 y5 y6, LeO (laws_FnDrillsMistaken.l3 k y0 y1 y2 y3 y4 y5 y6) (laws_FnDrillsMistaken.l3 (k + 1) y0 y1 y2 y3 y4 y5 y6)) ∧ (∀ y0 y1 y2 y3 y4 y5, LeO (laws_FnDrillsMistaken.j9 k y0 y1 y2 y3 y4 y5) (laws_FnDrillsMistaken.j9 (k + 1) y0 y1 y2 y3 y4 y5)) ∧ (∀ y0 y1 y2 y3 y4 y5 y6 y7, LeO (laws_FnDrillsMistaken.j1 k y0 y1 y2 y3 y4 y5 y6 y7) (laws_FnDrillsMistaken.j1 (k + 1) y0 y1 y2 y3 y4 y5 y6 y7)) ∧ (∀ y0 y1 y2 y3 y4 y5, LeO (laws_FnDrillsMistaken.l0 k y0 y1 y2 y3 y4 y5) (laws_FnDrillsMistaken.l0 (k + 1) y0 y1 y2 y3 y4 y5))
  | 0 => ⟨fun _ _ _ _ _ _ _ _ _ r h => by simp [laws_FnDrillsMistaken.j0] at h, fun _ r h => by simp [laws_FnDrillsMistaken.j3] at h, fun _ _ _ _ _ _ r h => by simp [laws_FnDrillsMistaken.j4] at h, fun _ _ _ _ _ r h => by simp [laws_FnDrillsMistaken.j5] at h, fun _ _ _ _ _ _ r h => by simp [laws_FnDrillsMistaken.l1] at h, fun _ _ _ _ _ _ _ r h => by simp [laws_FnDrillsMistaken.l2] at h, fun _ _ _ _ _ _ _ r h => by simp [laws_FnDrillsMistaken.l3] at h, fun _ _ _ _ _ _ r h => by simp [laws_FnDrillsMistaken.j9] at h, fun _ _ _ _ _ _ _ _ r h => by simp [laws_FnDrillsMistaken.j1] at h, fun _ _ _ _ _ _ r h => by simp [laws_FnDrillsMistaken.l0] at h⟩
  | k + 1 => by
    obtain ⟨ih0, ih1, ih2, ih3, ih4, ih5, ih6, ih7, ih8, ih9⟩ := laws_FnDrillsMistaken.mono_l k
    refine ⟨?_, ?_, ?_, ?_, ?_, ?_, ?_, ?_, ?_, ?_⟩
    all_goals intros
    all_goals first
      | unfold laws_FnDrillsMistaken.j0
      | unfold laws_FnDrillsMistaken.j3
      | unfold laws_FnDrillsMistaken.j4
      | unfold laws_FnDrillsMistaken.j5
      | unfold laws_FnDrillsMistaken.l1
      | unfold laws_FnDrillsMistaken.l2
      | unfold laws_FnDrillsMistaken.l3
      | unfold laws_FnDrillsMistaken.j9
      | unfold laws_FnDrillsMistaken.j1
      | unfold laws_FnDrillsMistaken.l0
    all_goals
      repeat' first
      | (with_reducible exact ih0 _ _ _ _ _ _ _ _ _)
      | (with_reducible exact ih1 _)
      | (with_reducible exact ih2 _ _ _ _ _ _)
      | (with_reducible exact ih3 _ _ _ _ _)
      | (with_reducible exact ih4 _ _ _ _ _ _)
      | (with_reducible exact ih5 _ _ _ _ _ _ _)
      | (with_reducible exact ih6 _ _ _ _ _ _ _)
      | (with_reducible exact ih7 _ _ _ _ _ _)
      | (with_reducible exact ih8 _ _ _ _ _ _ _ _)
      | (with_reducible exact ih9 _ _ _ _ _ _)
      | (with_reducible exact impl_AreMistakes.mono _ _ _ _)
      | (with_reducible exact impl_CorrectionsOf.mono _ _ _ _)
      | (with_reducible exact impl_FacingAfter.mono _ _ _)
      | (with_reducible exact impl_FacingWithMistakes.mono _ _ _ _)
      | (with_reducible exact impl_NetTurn.mono _ _)
      | (with_reducible exact impl_WaysToFace.mono _ _ _ _)
      | (with_reducible exact impl_WrongSoldiers.mono _ _ _ _)
      | (with_reducible exact laws_doneLoop.mono _ _ _ _ _ _)
      | (with_reducible exact laws_vHas.mono _ _ _)
      | (with_reducible exact laws_vRises.mono _ _)
      | (with_reducible exact laws_vSame.mono _ _ _)
      | (with_reducible exact spec_AreMistakes.mono _ _ _ _)
      | (with_reducible exact spec_CorrectionsOf.mono _ _ _ _)
      | (with_reducible exact spec_DrawAreMistakes.mono _ _)
      | (with_reducible exact spec_DrawFacingWithMistakes.mono _ _)
      | (with_reducible exact spec_DrawWaysToFace.mono _ _)
      | (with_reducible exact spec_FacingWithMistakes.mono _ _ _ _)
      | (with_reducible exact spec_WaysToFace.mono _ _ _ _)
      | (with_reducible exact spec_WrongSoldiers.mono _ _ _ _)
      | (with_reducible exact LeO.refl _)
      | (with_reducible exact LeO.none _)
      | (with_reducible refine LeO.ite ?_ ?_)
      | (with_reducible refine LeO.bind ?_ (fun _ => ?_))
      | exact ih0 _ _ _ _ _ _ _ _ _
      | exact ih1 _
      | exact ih2 _ _ _ _ _ _
      | exact ih3 _ _ _ _ _
      | exact ih4 _ _ _ _ _ _
      | exact ih5 _ _ _ _ _ _ _
      | exact ih6 _ _ _ _ _ _ _
      | exact ih7 _ _ _ _ _ _
      | exact ih8 _ _ _ _ _ _ _ _
      | exact ih9 _ _ _ _ _ _
      | exact impl_AreMistakes.mono _ _ _ _
      | exact impl_CorrectionsOf.mono _ _ _ _
      | exact impl_FacingAfter.mono _ _ _
      | exact impl_FacingWithMistakes.mono _ _ _ _
      | exact impl_NetTurn.mono _ _
      | exact impl_WaysToFace.mono _ _ _ _
      | exact impl_WrongSoldiers.mono _ _ _ _
      | exact laws_doneLoop.mono _ _ _ _ _ _
      | exact laws_vHas.mono _ _ _
      | exact laws_vRises.mono _ _
      | exact laws_vSame.mono _ _ _
      | exact spec_AreMistakes.mono _ _ _ _
      | exact spec_CorrectionsOf.mono _ _ _ _
      | exact spec_DrawAreMistakes.mono _ _
      | exact spec_DrawFacingWithMistakes.mono _ _
      | exact spec_DrawWaysToFace.mono _ _
      | exact spec_FacingWithMistakes.mono _ _ _ _
      | exact spec_WaysToFace.mono _ _ _ _
      | exact spec_WrongSoldiers.mono _ _ _ _
      | exact LeO.none _
      | refine LeO.ite ?_ ?_
      | refine LeO.bind ?_ (fun _ => ?_)
theorem laws_FnDrillsMistaken.mono : ∀ a0 a1 k, LeO (laws_FnDrillsMistaken.f k a0 a1) (laws_FnDrillsMistaken.f (k + 1) a0 a1) := by
  intro a0 a1 k
  obtain ⟨ih0, ih1, ih2, ih3, ih4, ih5, ih6, ih7, ih8, ih9⟩ := laws_FnDrillsMistaken.mono_l k
  unfold laws_FnDrillsMistaken.f
  repeat' first
      | (with_reducible exact ih0 _ _ _ _ _ _ _ _ _)
      | (with_reducible exact ih1 _)
      | (with_reducible exact ih2 _ _ _ _ _ _)
      | (with_reducible exact ih3 _ _ _ _ _)
      | (with_reducible exact ih4 _ _ _ _ _ _)
      | (with_reducible exact ih5 _ _ _ _ _ _ _)
      | (with_reducible exact ih6 _ _ _ _ _ _ _)
      | (with_reducible exact ih7 _ _ _ _ _ _)
      | (with_reducible exact ih8 _ _ _ _ _ _ _ _)
      | (with_reducible exact ih9 _ _ _ _ _ _)
      | (with_reducible exact impl_AreMistakes.mono _ _ _ _)
      | (with_reducible exact impl_CorrectionsOf.mono _ _ _ _)
      | (with_reducible exact impl_FacingAfter.mono _ _ _)
      | (with_reducible exact impl_FacingWithMistakes.mono _ _ _ _)
      | (with_reducible exact impl_NetTurn.mono _ _)
      | (with_reducible exact impl_WaysToFace.mono _ _ _ _)
      | (with_reducible exact impl_WrongSoldiers.mono _ _ _ _)
      | (with_reducible exact laws_doneLoop.mono _ _ _ _ _ _)
      | (with_reducible exact laws_vHas.mono _ _ _)
      | (with_reducible exact laws_vRises.mono _ _)
      | (with_reducible exact laws_vSame.mono _ _ _)
      | (with_reducible exact spec_AreMistakes.mono _ _ _ _)
      | (with_reducible exact spec_CorrectionsOf.mono _ _ _ _)
      | (with_reducible exact spec_DrawAreMistakes.mono _ _)
      | (with_reducible exact spec_DrawFacingWithMistakes.mono _ _)
      | (with_reducible exact spec_DrawWaysToFace.mono _ _)
      | (with_reducible exact spec_FacingWithMistakes.mono _ _ _ _)
      | (with_reducible exact spec_WaysToFace.mono _ _ _ _)
      | (with_reducible exact spec_WrongSoldiers.mono _ _ _ _)
      | (with_reducible exact LeO.refl _)
      | (with_reducible exact LeO.none _)
      | (with_reducible refine LeO.ite ?_ ?_)
      | (with_reducible refine LeO.bind ?_ (fun _ => ?_))
      | exact ih0 _ _ _ _ _ _ _ _ _
      | exact ih1 _
      | exact ih2 _ _ _ _ _ _
      | exact ih3 _ _ _ _ _
      | exact ih4 _ _ _ _ _ _
      | exact ih5 _ _ _ _ _ _ _
      | exact ih6 _ _ _ _ _ _ _
      | exact ih7 _ _ _ _ _ _
      | exact ih8 _ _ _ _ _ _ _ _
      | exact ih9 _ _ _ _ _ _
      | exact impl_AreMistakes.mono _ _ _ _
      | exact impl_CorrectionsOf.mono _ _ _ _
      | exact impl_FacingAfter.mono _ _ _
      | exact impl_FacingWithMistakes.mono _ _ _ _
      | exact impl_NetTurn.mono _ _
      | exact impl_WaysToFace.mono _ _ _ _
      | exact impl_WrongSoldiers.mono _ _ _ _
      | exact laws_doneLoop.mono _ _ _ _ _ _
      | exact laws_vHas.mono _ _ _
      | exact laws_vRises.mono _ _
      | exact laws_vSame.mono _ _ _
      | exact spec_AreMistakes.mono _ _ _ _
      | exact spec_CorrectionsOf.mono _ _ _ _
      | exact spec_DrawAreMistakes.mono _ _
      | exact spec_DrawFacingWithMistakes.mono _ _
      | exact spec_DrawWaysToFace.mono _ _
      | exact spec_FacingWithMistakes.mono _ _ _ _
      | exact spec_WaysToFace.mono _ _ _ _
      | exact spec_WrongSoldiers.mono _ _ _ _
      | exact LeO.none _
      | refine LeO.ite ?_ ?_
      | refine LeO.bind ?_ (fun _ => ?_)
theorem laws_FnDrillsMistaken.j0_no : ∀ (k : Nat) (x1 : List Int) (x5 : ByteArray) (x6 : ByteArray) (x7 : List (S34)) (x8 : ByteArray) (x9 : Bool) (x12 : List Int) (x16 : ByteArray), laws_FnDrillsMistaken.j0 k x1 x5 x6 x7 x8 x9 x12 x16 true = some true → False := by
  intro k x1 x5 x6 x7 x8 x9 x12 x16
  cases k <;> simp [laws_FnDrillsMistaken.j0]
theorem laws_FnDrillsMistaken.j4_no : ∀ (k : Nat) (x29 : ByteArray) (x30 : Int) (x31 : Int) (x32 : Int) (x33 : Bool), laws_FnDrillsMistaken.j4 k x29 x30 x31 x32 x33 true = some true → False := by
  intro k x29 x30 x31 x32 x33
  cases k <;> simp [laws_FnDrillsMistaken.j4]
theorem laws_FnDrillsMistaken.j1_no : ∀ (k : Nat) (x1 : List Int) (x5 : ByteArray) (x7 : List (S34)) (x8 : ByteArray) (x12 : List Int) (x16 : ByteArray) (x20 : ByteArray), laws_FnDrillsMistaken.j1 k x1 x5 x7 x8 x12 x16 x20 true = some true → False := by
  intro k x1 x5 x7 x8 x12 x16 x20
  cases k <;> simp [laws_FnDrillsMistaken.j1]
end Go.Proofs.YtgdmbhldabeelaaRDoor.PFnDrillsMistaken
