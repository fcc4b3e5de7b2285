-- Written by a program of this session's (pg.py) over the kit's print.
import Derived.Test.YtgdmbhldabeelaaRDoorPFnDrillsMistakenOfAllx0
import Derived.Test.YtgdmbhldabeelaaRDoorPFnDrillsMistakenOfAllx3
import Derived.Test.YtgdmbhldabeelaaRDoorPFnDrillsMistakenOfAllx6
import Derived.Test.YtgdmbhldabeelaaRDoorPFnDrillsMistakenOfAllx7
import Derived.Test.YtgdmbhldabeelaaRDoorPFnDrillsMistakenOfAllx8
import Derived.Test.YtgdmbhldabeelaaRDoorPFnDrillsMistakenOfAllx9
import Derived.Lib.OthersKept
import Derived.Deep.RegionWith
namespace Go.Proofs.YtgdmbhldabeelaaRDoor.PFnDrillsMistakenOfAll
open Go.RowKit Go.Proofs.YtgdmbhldabeelaaRDoorW.PrintWords Go.Proofs.YtgdmbhldabeelaaRDoorW.PrintLast Go.Proofs.YtgdmbhldabeelaaRDoorW.PrintMore
attribute [local go_sem] max2_int min2_int max_two min_two max_three min_three max_four min_four   -- for this text's walks alone
set_option linter.unusedVariables false
set_option linter.unusedSimpArgs false

/-! ### the loop over a facing's places: who is wrong, and what corrects him -/
def laws_doneLoop.l0 : Nat → ByteArray → ByteArray → ByteArray → ByteArray → List Int → Nat → Option Bool
  | 0, _, _, _, _, _, _ => none
  | k + 1, s, a, c, p, l, i => if i < s.size then (if bt s (i : Int) < 128 ∧ i < a.size ∧ i < c.size ∧ i < p.size then ((impl_FacingAfter.f k (a.extract i (i + 1)) (c.extract i (i + 1))).bind fun y => ((laws_vHas.f k l (i : Int)).bind fun h => (if y.2 = true ∧ y.1 = p.extract i (i + 1) ∧ h = (bt a (i : Int) != bt p (i : Int)) ∧ h = !(bt c (i : Int) == 83) then laws_doneLoop.l0 k s a c p l (i + 1) else some false))) else none) else some true
def laws_doneLoop.f (k : Nat) (s a c p : ByteArray) (l : List Int) : Option Bool := if s.size ≤ 1000000000 then laws_doneLoop.l0 k s a c p l 0 else none
theorem laws_doneLoop.mono_l (s a c p : ByteArray) (l : List Int) : ∀ k i, LeO (laws_doneLoop.l0 k s a c p l i) (laws_doneLoop.l0 (k + 1) s a c p l i)
  | 0, i => fun r h => by simp [laws_doneLoop.l0] at h
  | k + 1, i => by
    rw [laws_doneLoop.l0, laws_doneLoop.l0]
    refine LeO.ite (LeO.ite (LeO.bind (impl_FacingAfter.mono _ _ _) fun y => LeO.bind (laws_vHas.mono _ _ _) fun h => LeO.ite (laws_doneLoop.mono_l s a c p l k _) (LeO.refl _)) (LeO.refl _)) (LeO.refl _)
theorem laws_doneLoop.mono : ∀ a0 a1 a2 a3 a4 k, LeO (laws_doneLoop.f k a0 a1 a2 a3 a4) (laws_doneLoop.f (k + 1) a0 a1 a2 a3 a4) := fun a0 a1 a2 a3 a4 k => LeO.ite (laws_doneLoop.mono_l a0 a1 a2 a3 a4 k 0) (LeO.refl _)

/-! ### laws_FnDrillsMistakenOfAll: function 3 -/
mutual
def laws_FnDrillsMistakenOfAll.j0 : Nat → ByteArray → ByteArray → List (S34) → ByteArray → Int → Int → Int → ByteArray → List (S34) → Bool → Option (Bool)
  | 0, _, _, _, _, _, _, _, _, _, _ => none
  | k + 1, x0, x1, x2, x3, x4, x5, x6, x7, x8, x80 => if x80 = true then (some true) else ((impl_FacingWithMistakes.f k x0 x1 x2).bind fun bt233 => ((spec_FacingWithMistakes.f k x0 x1 x2).bind fun bt235 => ((impl_WrongSoldiers.f k x0 x1 x2).bind fun bt237 => ((spec_WrongSoldiers.f k x0 x1 x2).bind fun bt241 => ((impl_CorrectionsOf.f k x0 x1 x2).bind fun bt245 => ((spec_CorrectionsOf.f k x0 x1 x2).bind fun bt247 => (if (bt233.2 != bt235.2) = true then (laws_FnDrillsMistakenOfAll.j1 k x0 x1 x2 x3 x4 x5 x6 x7 x8 bt233.1 bt233.2 bt237.1 bt245.1 true) else (if bt233.1.toList = bt235.1.toList then (if (bt237.2 != bt241.2) = true then (laws_FnDrillsMistakenOfAll.j1 k x0 x1 x2 x3 x4 x5 x6 x7 x8 bt233.1 bt233.2 bt237.1 bt245.1 true) else ((laws_vSame.f k bt237.1 bt241.1).bind fun t249 => (if t249 = true then (if (bt245.2 != bt247.2) = true then (laws_FnDrillsMistakenOfAll.j1 k x0 x1 x2 x3 x4 x5 x6 x7 x8 bt233.1 bt233.2 bt237.1 bt245.1 true) else (if bt245.1.toList = bt247.1.toList then (if (bt237.2 != bt233.2) = true then (laws_FnDrillsMistakenOfAll.j1 k x0 x1 x2 x3 x4 x5 x6 x7 x8 bt233.1 bt233.2 bt237.1 bt245.1 true) else (laws_FnDrillsMistakenOfAll.j1 k x0 x1 x2 x3 x4 x5 x6 x7 x8 bt233.1 bt233.2 bt237.1 bt245.1 (bt245.2 != bt233.2))) else (laws_FnDrillsMistakenOfAll.j1 k x0 x1 x2 x3 x4 x5 x6 x7 x8 bt233.1 bt233.2 bt237.1 bt245.1 true))) else (laws_FnDrillsMistakenOfAll.j1 k x0 x1 x2 x3 x4 x5 x6 x7 x8 bt233.1 bt233.2 bt237.1 bt245.1 true)))) else (laws_FnDrillsMistakenOfAll.j1 k x0 x1 x2 x3 x4 x5 x6 x7 x8 bt233.1 bt233.2 bt237.1 bt245.1 true)))))))))
def laws_FnDrillsMistakenOfAll.j1 : Nat → ByteArray → ByteArray → List (S34) → ByteArray → Int → Int → Int → ByteArray → List (S34) → ByteArray → Bool → List Int → ByteArray → Bool → Option (Bool)
  | 0, _, _, _, _, _, _, _, _, _, _, _, _, _, _ => none
  | k + 1, x0, x1, x2, x3, x4, x5, x6, x7, x8, x19, x20, x23, x27, x161 => if x161 = true then (some false) else (if x20 = true then ((impl_FacingAfter.f k x0 x1).bind fun bt250 => (if bt250.2 = true then (if (x19.size : Int) = (x0.size : Int) then (if (x27.size : Int) = (x0.size : Int) then ((laws_vRises.f k x23).bind fun t252 => (if t252 = true then ((impl_AreMistakes.f k (x0.size : Int) x1 x2).bind fun t253 => (laws_FnDrillsMistakenOfAll.j2 k x0 x2 x3 x4 x5 x6 x7 x8 x19 x23 x27 bt250.1 (!t253))) else (laws_FnDrillsMistakenOfAll.j2 k x0 x2 x3 x4 x5 x6 x7 x8 x19 x23 x27 bt250.1 true))) else (laws_FnDrillsMistakenOfAll.j2 k x0 x2 x3 x4 x5 x6 x7 x8 x19 x23 x27 bt250.1 true)) else (laws_FnDrillsMistakenOfAll.j2 k x0 x2 x3 x4 x5 x6 x7 x8 x19 x23 x27 bt250.1 true)) else (laws_FnDrillsMistakenOfAll.j2 k x0 x2 x3 x4 x5 x6 x7 x8 x19 x23 x27 bt250.1 true))) else (laws_FnDrillsMistakenOfAll.j4 k x3 x4 x5 x6 x7 x8))
def laws_FnDrillsMistakenOfAll.j4 : Nat → ByteArray → Int → Int → Int → ByteArray → List (S34) → Option (Bool)
  | 0, _, _, _, _, _, _ => none
  | k + 1, x3, x4, x5, x6, x7, x8 => (impl_WaysToFace.f k x3 x4 x5).bind fun bt260 => ((spec_WaysToFace.f k x3 x4 x5).bind fun bt262 => (if (bt260.2 != bt262.2) = true then (laws_FnDrillsMistakenOfAll.j5 k x3 x4 x5 bt260.1 bt260.2 true) else (if bt260.1 = bt262.1 then ((impl_AreMistakes.f k x6 x7 x8).bind fun t264 => ((spec_AreMistakes.f k x6 x7 x8).bind fun t265 => (laws_FnDrillsMistakenOfAll.j5 k x3 x4 x5 bt260.1 bt260.2 (t264 != t265)))) else (laws_FnDrillsMistakenOfAll.j5 k x3 x4 x5 bt260.1 bt260.2 true))))
def laws_FnDrillsMistakenOfAll.j5 : Nat → ByteArray → Int → Int → Int → Bool → Bool → Option (Bool)
  | 0, _, _, _, _, _, _ => none
  | k + 1, x3, x4, x5, x40, x41, x309 => if x309 = true then (some false) else (if x41 = true then (laws_FnDrillsMistakenOfAll.j6 k x3 x4 x5 x40 (decide ((x3.size : Int) ≤ 12))) else (laws_FnDrillsMistakenOfAll.j6 k x3 x4 x5 x40 false))
def laws_FnDrillsMistakenOfAll.j6 : Nat → ByteArray → Int → Int → Int → Bool → Option (Bool)
  | 0, _, _, _, _, _ => none
  | k + 1, x3, x4, x5, x40, x315 => if x315 = true then (laws_FnDrillsMistakenOfAll.l1 k x3 x4 x5 x40 0 0) else (some true)
def laws_FnDrillsMistakenOfAll.l1 : Nat → ByteArray → Int → Int → Int → Int → Int → Option (Bool)
  | 0, _, _, _, _, _, _ => none
  | k + 1, x3, x4, x5, x40, x44, x45 => if x45 < 4 then ((impl_WaysToFace.f k x3 x4 x45).bind fun bt266 => (if bt266.2 = true then (if bt266.1 < 0 then (some false) else (laws_FnDrillsMistakenOfAll.l1 k x3 x4 x5 x40 (wrap64 (x44 + bt266.1)) (wrap64 (x45 + 1)))) else (some false))) else (laws_FnDrillsMistakenOfAll.l2 k x3 x4 x5 x40 x44 1 1)
def laws_FnDrillsMistakenOfAll.l2 : Nat → ByteArray → Int → Int → Int → Int → Int → Int → Option (Bool)
  | 0, _, _, _, _, _, _, _ => none
  | k + 1, x3, x4, x5, x40, x44, x48, x49 => if x49 ≤ x4 then (if x49 = 0 then (none) else (laws_FnDrillsMistakenOfAll.l2 k x3 x4 x5 x40 x44 (wrap64 (Int.tdiv (wrap64 (x48 * (wrap64 ((wrap64 ((x3.size : Int) - x49)) + 1)))) x49)) (wrap64 (x49 + 1)))) else (laws_FnDrillsMistakenOfAll.l3 k x3 x4 x5 x40 x44 x48 0)
def laws_FnDrillsMistakenOfAll.l3 : Nat → ByteArray → Int → Int → Int → Int → Int → Int → Option (Bool)
  | 0, _, _, _, _, _, _, _ => none
  | k + 1, x3, x4, x5, x40, x44, x48, x50 => if x50 < x4 then (laws_FnDrillsMistakenOfAll.l3 k x3 x4 x5 x40 x44 (wrap64 (x48 * 3)) (wrap64 (x50 + 1))) else (if x4 > (x3.size : Int) then (laws_FnDrillsMistakenOfAll.j10 k x3 x4 x5 x40 x44 0) else (laws_FnDrillsMistakenOfAll.j10 k x3 x4 x5 x40 x44 x48))
def laws_FnDrillsMistakenOfAll.j10 : Nat → ByteArray → Int → Int → Int → Int → Int → Option (Bool)
  | 0, _, _, _, _, _, _ => none
  | k + 1, x3, x4, x5, x40, x44, x48 => if x44 = x48 then (if x4 = 0 then ((impl_NetTurn.f k x3).bind fun bt268 => (if bt268.2 = true then (if ((x40 == 1) != (bt268.1 == x5)) = true then (some false) else (if x40 > 1 then (some false) else (some true))) else (some false))) else (some true)) else (some false)
def laws_FnDrillsMistakenOfAll.j2 : Nat → ByteArray → List (S34) → ByteArray → Int → Int → Int → ByteArray → List (S34) → ByteArray → List Int → ByteArray → ByteArray → Bool → Option (Bool)
  | 0, _, _, _, _, _, _, _, _, _, _, _, _, _ => none
  | k + 1, x0, x2, x3, x4, x5, x6, x7, x8, x19, x23, x27, x31, x197 => if x197 = true then (some false) else ((laws_doneLoop.f k x0 x19 x27 x31 x23).bind fun t254 => (if t254 = true then (laws_FnDrillsMistakenOfAll.l0 k x3 x4 x5 x6 x7 x8 x23 0 x2 (x2.length : Int) 0) else (some false)))
def laws_FnDrillsMistakenOfAll.l0 : Nat → ByteArray → Int → Int → Int → ByteArray → List (S34) → List Int → Int → List (S34) → Int → Int → Option (Bool)
  | 0, _, _, _, _, _, _, _, _, _, _, _ => none
  | k + 1, x3, x4, x5, x6, x7, x8, x23, x37, x250, x251, x252 => if x252 < x251 then (if 0 ≤ x252 then (if x252 < (x250.length : Int) then (if ((rd_T34 x250 x252).f0) = 0 then (laws_FnDrillsMistakenOfAll.l0 k x3 x4 x5 x6 x7 x8 x23 (wrap64 (x37 + 1)) x250 x251 (wrap64 (x252 + 1))) else (laws_FnDrillsMistakenOfAll.l0 k x3 x4 x5 x6 x7 x8 x23 x37 x250 x251 (wrap64 (x252 + 1)))) else (none)) else (none)) else (if x37 = 0 then ((laws_vHas.f k x23 0).bind fun t257 => (if t257 = true then (some false) else (if x37 = 1 then ((laws_vHas.f k x23 0).bind fun t258 => (if t258 = true then (laws_FnDrillsMistakenOfAll.j4 k x3 x4 x5 x6 x7 x8) else (some false))) else (laws_FnDrillsMistakenOfAll.j4 k x3 x4 x5 x6 x7 x8)))) else (if x37 = 1 then ((laws_vHas.f k x23 0).bind fun t259 => (if t259 = true then (laws_FnDrillsMistakenOfAll.j4 k x3 x4 x5 x6 x7 x8) else (some false))) else (laws_FnDrillsMistakenOfAll.j4 k x3 x4 x5 x6 x7 x8)))
end
def laws_FnDrillsMistakenOfAll.f (k : Nat) (a0 : ByteArray) (a1 : ByteArray) (l2 : List (S34)) (a3 : ByteArray) (a4 : Int) (a5 : Int) (a6 : Int) (a7 : ByteArray) (l8 : List (S34)) : Option (Bool) := if (a0.size : Int) > 1048576 then (laws_FnDrillsMistakenOfAll.j0 k a0 a1 l2 a3 a4 a5 a6 a7 l8 true) else (if (a1.size : Int) > 1048576 then (laws_FnDrillsMistakenOfAll.j0 k a0 a1 l2 a3 a4 a5 a6 a7 l8 true) else (if (l2.length : Int) > 10000 then (laws_FnDrillsMistakenOfAll.j0 k a0 a1 l2 a3 a4 a5 a6 a7 l8 true) else (if (a3.size : Int) > 1048576 then (laws_FnDrillsMistakenOfAll.j0 k a0 a1 l2 a3 a4 a5 a6 a7 l8 true) else (if (a7.size : Int) > 1048576 then (laws_FnDrillsMistakenOfAll.j0 k a0 a1 l2 a3 a4 a5 a6 a7 l8 true) else (laws_FnDrillsMistakenOfAll.j0 k a0 a1 l2 a3 a4 a5 a6 a7 l8 (decide ((l8.length : Int) > 10000)))))))
theorem laws_FnDrillsMistakenOfAll.mono_l : ∀ k, (∀ y0 y1 y2 y3 y4 y5 y6 y7 y8 y9, LeO (laws_FnDrillsMistakenOfAll.j0 k y0 y1 y2 y3 y4 y5 y6 y7 y8 y9) (laws_FnDrillsMistakenOfAll.j0 (k + 1) y0 y1 y2 y3 y4 y5 y6 y7 y8 y9)) ∧ (∀ y0 y1 y2 y3 y4 y5 y6 y7 y8 y9 y10 y11 y12 y13, LeO (laws_FnDrillsMistakenOfAll.j1 k y0 y1 y2 y3 y4 y5 y6 y7 y8 y9 y10 y11 y12 y13) (laws_FnDrillsMistakenOfAll.j1 (k + 1) y0 y1 y2 y3 y4 y5 y6 y7 y8 y9 y10 y11 y12 y13)) ∧ (∀ y0 y1 y2 y3 y4 y5, LeO (laws_FnDrillsMistakenOfAll.j4 k y0 y1 y2 y3 y4 y5) (laws_FnDrillsMistakenOfAll.j4 (k + 1) y0 y1 y2 y3 y4 y5)) ∧ (∀ y0 y1 y2 y3 y4 y5, LeO (laws_FnDrillsMistakenOfAll.j5 k y0 y1 y2 y3 y4 y5) (laws_FnDrillsMistakenOfAll.j5 (k + 1) y0 y1 y2 y3 y4 y5)) ∧ (∀ y0 y1 y2 y3 y4, LeO (laws_FnDrillsMistakenOfAll.j6 k y0 y1 y2 y3 y4) (laws_FnDrillsMistakenOfAll.j6 (k + 1) y0 y1 y2 y3 y4)) ∧ (∀ y0 y1 y2 y3 y4 y5, LeO (laws_FnDrillsMistakenOfAll.l1 k y0 y1 y2 y3 y4 y5) (laws_FnDrillsMistakenOfAll.l1 (k + 1) y0 y1 y2 y3 y4 y5)) ∧ (∀ y0 y1 y2 y3 y4 y5 y6, LeO (laws_FnDrillsMistakenOfAll.l2 k y0 y1 y2 y3 y4 y5 y6) (laws_FnDrillsMistakenOfAll.l2 (k + 1) y0 y1 y2 y3 y4 y5 y6)) ∧ (∀ y0 y1 y2 y3 y4 y5 y6, LeO (laws_FnDrillsMistakenOfAll.l3 k y0 y1 y2 y3 y4 y5 y6) (laws_FnDrillsMistakenOfAll.l3 (k + 1) y0 y1 y2 y3 y4 y5 y6)) ∧ (∀ y0 y1 y2 y3 y4 y5, LeO (laws_FnDrillsMistakenOfAll.j10 k y0 y1 y2 y3 y4 y5) (laws_FnDrillsMistakenOfAll.j10 (k + 1) y0 y1 y2 y3 y4 y5)) ∧ (∀ y0 y1 y2 y3 y4 y5 y6 y7 y8 y9 y10 y11 y12, LeO (laws_FnDrillsMistakenOfAll.j2 k y0 y1 y2 y3 y4 y5 y6 y7 y8 y9 y10 y11 y12) (laws_FnDrillsMistakenOfAll.j2 (k + 1) y0 y1 y2 y3 y4 y5 y6 y7 y8 y9 y10 y11 y12)) ∧ (∀ y0 y1 y2 y3 y4 y5 y6 y7 y8 y9 y10, LeO (laws_FnDrillsMistakenOfAll.l0 k y0 y1 y2 y3 y4 y5 y6 y7 y8 y9 y10) (laws_FnDrillsMistakenOfAll.l0 (k + 1) y0 y1 y2 y3 y4 y5 y6 y7 y8 y9 y10))
  | 0 => ⟨fun _ _ _ _ _ _ _ _ _ _ r h => by simp [laws_FnDrillsMistakenOfAll.j0] at h, fun _ _ _ _ _ _ _ _ _ _ _ _ _ _ r h => by simp [laws_FnDrillsMistakenOfAll.j1] at h, fun _ _ _ _ _ _ r h => by simp [laws_FnDrillsMistakenOfAll.j4] at h, fun _ _ _ _ _ _ r h => by simp [laws_FnDrillsMistakenOfAll.j5] at h, fun _ _ _ _ _ r h => by simp [laws_FnDrillsMistakenOfAll.j6] at h, fun _ _ _ _ _ _ r h => by simp [laws_FnDrillsMistakenOfAll.l1] at h, fun _ _ _ _ _ _ _ r h => by simp [laws_FnDrillsMistakenOfAll.l2] at h, fun _ _ _ _ _ _ _ r h => by simp [laws_FnDrillsMistakenOfAll.l3] at h, fun _ _ _ _ _ _ r h => by simp [laws_FnDrillsMistakenOfAll.j10] at h, fun _ _ _ _ _ _ _ _ _ _ _ _ _ r h => by simp [laws_FnDrillsMistakenOfAll.j2] at h, fun _ _ _ _ _ _ _ _ _ _ _ r h => by simp [laws_FnDrillsMistakenOfAll.l0] at h⟩
  | k + 1 => by
    obtain ⟨ih0, ih1, ih2, ih3, ih4, ih5, ih6, ih7, ih8, ih9, ih10⟩ := laws_FnDrillsMistakenOfAll.mono_l k
    refine ⟨?_, ?_, ?_, ?_, ?_, ?_, ?_, ?_, ?_, ?_, ?_⟩
    all_goals intros
    all_goals first
      | unfold laws_FnDrillsMistakenOfAll.j0
      | unfold laws_FnDrillsMistakenOfAll.j1
      | unfold laws_FnDrillsMistakenOfAll.j4
      | unfold laws_FnDrillsMistakenOfAll.j5
      | unfold laws_FnDrillsMistakenOfAll.j6
      | unfold laws_FnDrillsMistakenOfAll.l1
      | unfold laws_FnDrillsMistakenOfAll.l2
      | unfold laws_FnDrillsMistakenOfAll.l3
      | unfold laws_FnDrillsMistakenOfAll.j10
      | unfold laws_FnDrillsMistakenOfAll.j2
      | unfold laws_FnDrillsMistakenOfAll.l0
    all_goals
      repeat' first
      | (with_reducible exact ih0 _ _ _ _ _ _ _ _ _ _)
      | (with_reducible exact ih1 _ _ _ _ _ _ _ _ _ _ _ _ _ _)
      | (with_reducible exact ih2 _ _ _ _ _ _)
      | (with_reducible exact ih3 _ _ _ _ _ _)
      | (with_reducible exact ih4 _ _ _ _ _)
      | (with_reducible exact ih5 _ _ _ _ _ _)
      | (with_reducible exact ih6 _ _ _ _ _ _ _)
      | (with_reducible exact ih7 _ _ _ _ _ _ _)
      | (with_reducible exact ih8 _ _ _ _ _ _)
      | (with_reducible exact ih9 _ _ _ _ _ _ _ _ _ _ _ _ _)
      | (with_reducible exact ih10 _ _ _ _ _ _ _ _ _ _ _)
      | (with_reducible exact impl_AreMistakes.mono _ _ _ _)
      | (with_reducible exact impl_CorrectionsOf.mono _ _ _ _)
      | (with_reducible exact impl_FacingAfter.mono _ _ _)
      | (with_reducible exact impl_FacingWithMistakes.mono _ _ _ _)
      | (with_reducible exact impl_NetTurn.mono _ _)
      | (with_reducible exact impl_WaysToFace.mono _ _ _ _)
      | (with_reducible exact impl_WrongSoldiers.mono _ _ _ _)
      | (with_reducible exact laws_doneLoop.mono _ _ _ _ _ _)
      | (with_reducible exact laws_vHas.mono _ _ _)
      | (with_reducible exact laws_vRises.mono _ _)
      | (with_reducible exact laws_vSame.mono _ _ _)
      | (with_reducible exact spec_AreMistakes.mono _ _ _ _)
      | (with_reducible exact spec_CorrectionsOf.mono _ _ _ _)
      | (with_reducible exact spec_FacingWithMistakes.mono _ _ _ _)
      | (with_reducible exact spec_WaysToFace.mono _ _ _ _)
      | (with_reducible exact spec_WrongSoldiers.mono _ _ _ _)
      | (with_reducible exact LeO.refl _)
      | (with_reducible exact LeO.none _)
      | (with_reducible refine LeO.ite ?_ ?_)
      | (with_reducible refine LeO.bind ?_ (fun _ => ?_))
      | exact ih0 _ _ _ _ _ _ _ _ _ _
      | exact ih1 _ _ _ _ _ _ _ _ _ _ _ _ _ _
      | exact ih2 _ _ _ _ _ _
      | exact ih3 _ _ _ _ _ _
      | exact ih4 _ _ _ _ _
      | exact ih5 _ _ _ _ _ _
      | exact ih6 _ _ _ _ _ _ _
      | exact ih7 _ _ _ _ _ _ _
      | exact ih8 _ _ _ _ _ _
      | exact ih9 _ _ _ _ _ _ _ _ _ _ _ _ _
      | exact ih10 _ _ _ _ _ _ _ _ _ _ _
      | exact impl_AreMistakes.mono _ _ _ _
      | exact impl_CorrectionsOf.mono _ _ _ _
      | exact impl_FacingAfter.mono _ _ _
      | exact impl_FacingWithMistakes.mono _ _ _ _
      | exact impl_NetTurn.mono _ _
      | exact impl_WaysToFace.mono _ _ _ _
      | exact impl_WrongSoldiers.mono _ _ _ _
      | exact laws_doneLoop.mono _ _ _ _ _ _
      | exact laws_vHas.mono _ _ _
      | exact laws_vRises.mono _ _
      | exact laws_vSame.mono _ _ _
      | exact spec_AreMistakes.mono _ _ _ _
      | exact spec_CorrectionsOf.mono _ _ _ _
      | exact spec_FacingWithMistakes.mono _ _ _ _
      | exact spec_WaysToFace.mono _ _ _ _
      | exact spec_WrongSoldiers.mono _ _ _ _
      | exact LeO.none _
      | refine LeO.ite ?_ ?_
      | refine LeO.bind ?_ (fun _ => ?_)
theorem laws_FnDrillsMistakenOfAll.mono : ∀ a0 a1 a2 a3 a4 a5 a6 a7 a8 k, LeO (laws_FnDrillsMistakenOfAll.f k a0 a1 a2 a3 a4 a5 a6 a7 a8) (laws_FnDrillsMistakenOfAll.f (k + 1) a0 a1 a2 a3 a4 a5 a6 a7 a8) := by
  intro a0 a1 a2 a3 a4 a5 a6 a7 a8 k
  obtain ⟨ih0, ih1, ih2, ih3, ih4, ih5, ih6, ih7, ih8, ih9, ih10⟩ := laws_FnDrillsMistakenOfAll.mono_l k
  unfold laws_FnDrillsMistakenOfAll.f
  repeat' first
      | (with_reducible exact ih0 _ _ _ _ _ _ _ _ _ _)
      | (with_reducible exact ih1 _ _ _ _ _ _ _ _ _ _ _ _ _ _)
      | (with_reducible exact ih2 _ _ _ _ _ _)
      | (with_reducible exact ih3 _ _ _ _ _ _)
      | (with_reducible exact ih4 _ _ _ _ _)
      | (with_reducible exact ih5 _ _ _ _ _ _)
      | (with_reducible exact ih6 _ _ _ _ _ _ _)
      | (with_reducible exact ih7 _ _ _ _ _ _ _)
      | (with_reducible exact ih8 _ _ _ _ _ _)
      | (with_reducible exact ih9 _ _ _ _ _ _ _ _ _ _ _ _ _)
      | (with_reducible exact ih10 _ _ _ _ _ _ _ _ _ _ _)
      | (with_reducible exact impl_AreMistakes.mono _ _ _ _)
      | (with_reducible exact impl_CorrectionsOf.mono _ _ _ _)
      | (with_reducible exact impl_FacingAfter.mono _ _ _)
      | (with_reducible exact impl_FacingWithMistakes.mono _ _ _ _)
      | (with_reducible exact impl_NetTurn.mono _ _)
      | (with_reducible exact impl_WaysToFace.mono _ _ _ _)
      | (with_reducible exact impl_WrongSoldiers.mono _ _ _ _)
      | (with_reducible exact laws_doneLoop.mono _ _ _ _ _ _)
      | (with_reducible exact laws_vHas.mono _ _ _)
      | (with_reducible exact laws_vRises.mono _ _)
      | (with_reducible exact laws_vSame.mono _ _ _)
      | (with_reducible exact spec_AreMistakes.mono _ _ _ _)
      | (with_reducible exact spec_CorrectionsOf.mono _ _ _ _)
      | (with_reducible exact spec_FacingWithMistakes.mono _ _ _ _)
      | (with_reducible exact spec_WaysToFace.mono _ _ _ _)
      | (with_reducible exact spec_WrongSoldiers.mono _ _ _ _)
      | (with_reducible exact LeO.refl _)
      | (with_reducible exact LeO.none _)
      | (with_reducible refine LeO.ite ?_ ?_)
      | (with_reducible refine LeO.bind ?_ (fun _ => ?_))
      | exact ih0 _ _ _ _ _ _ _ _ _ _
      | exact ih1 _ _ _ _ _ _ _ _ _ _ _ _ _ _
      | exact ih2 _ _ _ _ _ _
      | exact ih3 _ _ _ _ _ _
      | exact ih4 _ _ _ _ _
      | exact ih5 _ _ _ _ _ _
      | exact ih6 _ _ _ _ _ _ _
      | exact ih7 _ _ _ _ _ _ _
      | exact ih8 _ _ _ _ _ _
      | exact ih9 _ _ _ _ _ _ _ _ _ _ _ _ _
      | exact ih10 _ _ _ _ _ _ _ _ _ _ _
      | exact impl_AreMistakes.mono _ _ _ _
      | exact impl_CorrectionsOf.mono _ _ _ _
      | exact impl_FacingAfter.mono _ _ _
      | exact impl_FacingWithMistakes.mono _ _ _ _
      | exact impl_NetTurn.mono _ _
      | exact impl_WaysToFace.mono _ _ _ _
      | exact impl_WrongSoldiers.mono _ _ _ _
      | exact laws_doneLoop.mono _ _ _ _ _ _
      | exact laws_vHas.mono _ _ _
      | exact laws_vRises.mono _ _
      | exact laws_vSame.mono _ _ _
      | exact spec_AreMistakes.mono _ _ _ _
      | exact spec_CorrectionsOf.mono _ _ _ _
      | exact spec_FacingWithMistakes.mono _ _ _ _
      | exact spec_WaysToFace.mono _ _ _ _
      | exact spec_WrongSoldiers.mono _ _ _ _
      | exact LeO.none _
      | refine LeO.ite ?_ ?_
      | refine LeO.bind ?_ (fun _ => ?_)
theorem laws_FnDrillsMistakenOfAll.j1_no : ∀ (k : Nat) (x0 : ByteArray) (x1 : ByteArray) (x2 : List (S34)) (x3 : ByteArray) (x4 : Int) (x5 : Int) (x6 : Int) (x7 : ByteArray) (x8 : List (S34)) (x19 : ByteArray) (x20 : Bool) (x23 : List Int) (x27 : ByteArray), laws_FnDrillsMistakenOfAll.j1 k x0 x1 x2 x3 x4 x5 x6 x7 x8 x19 x20 x23 x27 true = some true → False := by
  intro k x0 x1 x2 x3 x4 x5 x6 x7 x8 x19 x20 x23 x27
  cases k <;> simp [laws_FnDrillsMistakenOfAll.j1]
theorem laws_FnDrillsMistakenOfAll.j5_no : ∀ (k : Nat) (x3 : ByteArray) (x4 : Int) (x5 : Int) (x40 : Int) (x41 : Bool), laws_FnDrillsMistakenOfAll.j5 k x3 x4 x5 x40 x41 true = some true → False := by
  intro k x3 x4 x5 x40 x41
  cases k <;> simp [laws_FnDrillsMistakenOfAll.j5]
theorem laws_FnDrillsMistakenOfAll.j2_no : ∀ (k : Nat) (x0 : ByteArray) (x2 : List (S34)) (x3 : ByteArray) (x4 : Int) (x5 : Int) (x6 : Int) (x7 : ByteArray) (x8 : List (S34)) (x19 : ByteArray) (x23 : List Int) (x27 : ByteArray) (x31 : ByteArray), laws_FnDrillsMistakenOfAll.j2 k x0 x2 x3 x4 x5 x6 x7 x8 x19 x23 x27 x31 true = some true → False := by
  intro k x0 x2 x3 x4 x5 x6 x7 x8 x19 x23 x27 x31
  cases k <;> simp [laws_FnDrillsMistakenOfAll.j2]
end Go.Proofs.YtgdmbhldabeelaaRDoor.PFnDrillsMistakenOfAll
