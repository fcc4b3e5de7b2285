-- Written by a program of this session's (pg.py) over the kit's print.
import Derived.Test.YtgdmbhldabeelaaRGreatDoorPFnDrillsTurnx0
import Derived.Test.YtgdmbhldabeelaaRGreatDoorPFnDrillsTurnx1
import Derived.Test.YtgdmbhldabeelaaRGreatDoorPFnDrillsTurnx2
import Derived.Test.YtgdmbhldabeelaaRGreatDoorPFnDrillsTurnx3
import Derived.Test.YtgdmbhldabeelaaRGreatDoorPFnDrillsTurnx4
import Derived.Test.YtgdmbhldabeelaaRGreatDoorPFnDrillsTurnx5
import Derived.Test.YtgdmbhldabeelaaRGreatDoorPFnDrillsTurnx6
import Derived.Test.YtgdmbhldabeelaaRGreatDoorPFnDrillsTurnx7
import Derived.Test.YtgdmbhldabeelaaRGreatDoorPFnDrillsTurnx8
import Derived.Test.YtgdmbhldabeelaaRGreatDoorPFnDrillsTurnx9
import Derived.Lib.OthersKept
import Derived.Deep.RegionWith
namespace Go.Proofs.YtgdmbhldabeelaaRGreatDoor.PFnDrillsTurn
open Go.RowKit Go.Proofs.YtgdmbhldabeelaaRGreatDoorW.PrintWords Go.Proofs.YtgdmbhldabeelaaRGreatDoorW.PrintLast Go.Proofs.YtgdmbhldabeelaaRGreatDoorW.PrintMore
attribute [local go_sem] max2_int min2_int max_two min_two max_three min_three max_four min_four   -- for this text's walks alone
set_option linter.unusedVariables false
set_option linter.unusedSimpArgs false

/-! ### the loop over a text's places: each sign of it turns as told -/
def laws_turnLoop.l0 : Nat → ByteArray → Int → Nat → Option Bool
  | 0, _, _, _ => none
  | k + 1, s, t, i => if i < s.size then (if bt s (i : Int) < 128 then ((impl_NetTurn.f k (s.extract i (i + 1))).bind fun y => (if y.2 = true then (if y.1 = t then laws_turnLoop.l0 k s t (i + 1) else some false) else some false)) else none) else some true
def laws_turnLoop.f (k : Nat) (s : ByteArray) (t : Int) : Option Bool := if s.size ≤ 1000000000 then laws_turnLoop.l0 k s t 0 else none
theorem laws_turnLoop.mono_l (s : ByteArray) (t : Int) : ∀ k i, LeO (laws_turnLoop.l0 k s t i) (laws_turnLoop.l0 (k + 1) s t i)
  | 0, i => fun r h => by simp [laws_turnLoop.l0] at h
  | k + 1, i => by
    rw [laws_turnLoop.l0, laws_turnLoop.l0]
    refine LeO.ite (LeO.ite (LeO.bind (impl_NetTurn.mono _ _) fun y => LeO.ite (LeO.ite (laws_turnLoop.mono_l s t k _) (LeO.refl _)) (LeO.refl _)) (LeO.refl _)) (LeO.refl _)
theorem laws_turnLoop.mono : ∀ a0 a1 k, LeO (laws_turnLoop.f k a0 a1) (laws_turnLoop.f (k + 1) a0 a1) := fun a0 a1 k => LeO.ite (laws_turnLoop.mono_l a0 a1 k 0) (LeO.refl _)

/-! ### laws_FnDrillsTurn: function 4 -/
mutual
def laws_FnDrillsTurn.j0 : Nat → List Int → ByteArray → ByteArray → ByteArray → Bool → Int → Bool → ByteArray → ByteArray → ByteArray → Int → Bool → Option (Bool)
  | 0, _, _, _, _, _, _, _, _, _, _, _, _ => none
  | k + 1, x1, x5, x6, x7, x8, x11, x12, x15, x19, x23, x27, x262 => if x262 = true then (some false) else (if x12 = true then ((impl_NetTurn.f k x15).bind fun bt304 => ((impl_NetTurn.f k x19).bind fun bt306 => ((impl_NetTurn.f k x23).bind fun bt308 => ((impl_MirrorCommands.f x23).bind fun bt310 => ((impl_BackCommands.f x19).bind fun bt312 => (if x11 < 0 then (some false) else (if x11 > 3 then (some false) else (if (x15.size : Int) > 1 then (some false) else (if bt304.2 = true then (if bt304.1 = x11 then (if bt306.2 = true then (if (Int.tmod (wrap64 (bt306.1 + x11)) 4) = 0 then (if bt308.2 = true then (if bt308.1 = bt306.1 then (if bt310.2 = true then (if bt310.1.toList = x6.toList then (if bt312.2 = true then (if bt312.1.toList = x6.toList then (if (x19.size : Int) = (x6.size : Int) then (if x27 < 1 then (some false) else (if (Int.tmod (wrap64 (x27 * x11)) 4) = 0 then (if x27 > 4 then (some false) else (laws_FnDrillsTurn.j1 k x1 x5 x7 x8 x11 x15 x19)) else (some false))) else (some false)) else (some false)) else (some false)) else (some false)) else (some false)) else (some false)) else (some false)) else (some false)) else (some false)) else (some false)) else (some false)))))))))) else (laws_FnDrillsTurn.j1 k x1 x5 x7 x8 x11 x15 x19))
def laws_FnDrillsTurn.j1 : Nat → List Int → ByteArray → ByteArray → Bool → Int → ByteArray → ByteArray → Option (Bool)
  | 0, _, _, _, _, _, _, _ => none
  | k + 1, x1, x5, x7, x8, x11, x15, x19 => if x8 = true then ((impl_FacingAfter.f k x7 x19).bind fun bt314 => ((impl_FacingAfter.f k x5 x15).bind fun bt316 => ((impl_CommandsBetween.f k x5 x7).bind fun bt318 => (if bt314.2 = true then (if bt314.1.toList = x5.toList then (if bt316.2 = true then (if bt316.1.toList = x7.toList then (if bt318.2 = true then (laws_FnDrillsTurn.j2 k x1 x11 bt318.1 ((bt318.1.size : Int) != (x5.size : Int))) else (laws_FnDrillsTurn.j2 k x1 x11 bt318.1 true)) else (laws_FnDrillsTurn.j2 k x1 x11 bt318.1 true)) else (laws_FnDrillsTurn.j2 k x1 x11 bt318.1 true)) else (laws_FnDrillsTurn.j2 k x1 x11 bt318.1 true)) else (laws_FnDrillsTurn.j2 k x1 x11 bt318.1 true))))) else (laws_FnDrillsTurn.j3 k x1)
def laws_FnDrillsTurn.j3 : Nat → List Int → Option (Bool)
  | 0, _ => none
  | k + 1, x1 => (spec_DrawCountCommandWords.f x1).bind fun bt321 => ((impl_CountCommandWords.f k bt321.1 bt321.2).bind fun bt323 => ((spec_CountCommandWords.f k bt321.1 bt321.2).bind fun bt325 => ((spec_DrawCommandsBetween.f k x1).bind fun bt327 => ((impl_CommandsBetween.f k bt327.1 bt327.2).bind fun bt329 => ((spec_CommandsBetween.f k bt327.1 bt327.2).bind fun bt331 => ((spec_DrawBestCommand.f k x1).bind fun bt333 => ((impl_BestCommand.f k bt333.1 bt333.2).bind fun bt335 => ((spec_BestCommand.f k bt333.1 bt333.2).bind fun bt338 => ((spec_DrawMostFaced.f k x1).bind fun t341 => ((impl_MostFaced.f k t341).bind fun bt342 => ((spec_MostFaced.f k t341).bind fun bt345 => (if (bt323.2 != bt325.2) = true then (laws_FnDrillsTurn.j4 k bt321.1 bt323.2 bt333.1 bt335.1 bt335.2.1 bt335.2.2 t341 bt342.1 bt342.2.1 bt342.2.2 true) else (if bt323.1 = bt325.1 then (if (bt329.2 != bt331.2) = true then (laws_FnDrillsTurn.j4 k bt321.1 bt323.2 bt333.1 bt335.1 bt335.2.1 bt335.2.2 t341 bt342.1 bt342.2.1 bt342.2.2 true) else (if bt329.1.toList = bt331.1.toList then (if (bt335.2.2 != bt338.2.2) = true then (laws_FnDrillsTurn.j4 k bt321.1 bt323.2 bt333.1 bt335.1 bt335.2.1 bt335.2.2 t341 bt342.1 bt342.2.1 bt342.2.2 true) else (if bt335.1.toList = bt338.1.toList then (if bt335.2.1 = bt338.2.1 then (if (bt342.2.2 != bt345.2.2) = true then (laws_FnDrillsTurn.j4 k bt321.1 bt323.2 bt333.1 bt335.1 bt335.2.1 bt335.2.2 t341 bt342.1 bt342.2.1 bt342.2.2 true) else (if bt342.1 = bt345.1 then (laws_FnDrillsTurn.j4 k bt321.1 bt323.2 bt333.1 bt335.1 bt335.2.1 bt335.2.2 t341 bt342.1 bt342.2.1 bt342.2.2 (bt342.2.1 != bt345.2.1)) else (laws_FnDrillsTurn.j4 k bt321.1 bt323.2 bt333.1 bt335.1 bt335.2.1 bt335.2.2 t341 bt342.1 bt342.2.1 bt342.2.2 true))) else (laws_FnDrillsTurn.j4 k bt321.1 bt323.2 bt333.1 bt335.1 bt335.2.1 bt335.2.2 t341 bt342.1 bt342.2.1 bt342.2.2 true)) else (laws_FnDrillsTurn.j4 k bt321.1 bt323.2 bt333.1 bt335.1 bt335.2.1 bt335.2.2 t341 bt342.1 bt342.2.1 bt342.2.2 true))) else (laws_FnDrillsTurn.j4 k bt321.1 bt323.2 bt333.1 bt335.1 bt335.2.1 bt335.2.2 t341 bt342.1 bt342.2.1 bt342.2.2 true))) else (laws_FnDrillsTurn.j4 k bt321.1 bt323.2 bt333.1 bt335.1 bt335.2.1 bt335.2.2 t341 bt342.1 bt342.2.1 bt342.2.2 true))))))))))))))
def laws_FnDrillsTurn.j4 : Nat → Int → Bool → ByteArray → ByteArray → Int → Bool → ByteArray → Int → Int → Bool → Bool → Option (Bool)
  | 0, _, _, _, _, _, _, _, _, _, _, _ => none
  | k + 1, x50, x53, x62, x64, x65, x66, x70, x71, x72, x73, x550 => if x550 = true then (some false) else (if x53 = true then (laws_FnDrillsTurn.l0 k x50 x62 x64 x65 x66 x70 x71 x72 x73 0 1 0) else (laws_FnDrillsTurn.j7 k x62 x64 x65 x66 x70 x71 x72 x73))
def laws_FnDrillsTurn.j7 : Nat → ByteArray → ByteArray → Int → Bool → ByteArray → Int → Int → Bool → Option (Bool)
  | 0, _, _, _, _, _, _, _, _ => none
  | k + 1, x62, x64, x65, x66, x70, x71, x72, x73 => if x66 = true then ((impl_MostFaced.f k x62).bind fun bt350 => (if bt350.2.2 = true then (if bt350.2.1 = x65 then (if (x64.size : Int) = 1 then (if x73 = true then (if (wrap64 (4 * x72)) ≥ (x70.size : Int) then (if x71 ≥ 0 then (some (decide (x71 < 4))) else (some false)) else (some false)) else (some true)) else (some false)) else (some false)) else (some false))) else (if x73 = true then (if (wrap64 (4 * x72)) ≥ (x70.size : Int) then (if x71 ≥ 0 then (some (decide (x71 < 4))) else (some false)) else (some false)) else (some true))
def laws_FnDrillsTurn.l0 : Nat → Int → ByteArray → ByteArray → Int → Bool → ByteArray → Int → Int → Bool → Int → Int → Int → Option (Bool)
  | 0, _, _, _, _, _, _, _, _, _, _, _, _ => none
  | k + 1, x50, x62, x64, x65, x66, x70, x71, x72, x73, x77, x78, x79 => if x79 < x50 then (laws_FnDrillsTurn.l0 k x50 x62 x64 x65 x66 x70 x71 x72 x73 x77 (wrap64 (x78 * 4)) (wrap64 (x79 + 1))) else (laws_FnDrillsTurn.l1 k x50 x62 x64 x65 x66 x70 x71 x72 x73 x77 x78 0)
def laws_FnDrillsTurn.l1 : Nat → Int → ByteArray → ByteArray → Int → Bool → ByteArray → Int → Int → Bool → Int → Int → Int → Option (Bool)
  | 0, _, _, _, _, _, _, _, _, _, _, _, _ => none
  | k + 1, x50, x62, x64, x65, x66, x70, x71, x72, x73, x77, x78, x80 => if x80 < 4 then ((impl_CountCommandWords.f k x50 x80).bind fun bt348 => (if bt348.2 = true then (laws_FnDrillsTurn.l1 k x50 x62 x64 x65 x66 x70 x71 x72 x73 (wrap64 (x77 + bt348.1)) x78 (wrap64 (x80 + 1))) else (some false))) else (if x77 = x78 then (laws_FnDrillsTurn.j7 k x62 x64 x65 x66 x70 x71 x72 x73) else (some false))
def laws_FnDrillsTurn.j2 : Nat → List Int → Int → ByteArray → Bool → Option (Bool)
  | 0, _, _, _, _ => none
  | k + 1, x1, x11, x45, x414 => if x414 = true then (some false) else ((laws_turnLoop.f k x45 x11).bind fun t320 => (if t320 = true then (laws_FnDrillsTurn.j3 k x1) else (some false)))
end
def laws_FnDrillsTurn.f (k : Nat) (l0 : List Int) (l1 : List Int) : Option (Bool) := (laws_big.f l0 l1).bind fun t269 => (if t269 = true then (some true) else ((spec_DrawFacingAfter.f k l0).bind fun bt270 => ((impl_FacingAfter.f k bt270.1 bt270.2).bind fun bt272 => ((spec_FacingAfter.f k bt270.1 bt270.2).bind fun bt274 => ((impl_NetTurn.f k bt270.2).bind fun bt276 => ((spec_NetTurn.f k bt270.2).bind fun bt278 => ((impl_ShortCommands.f k bt270.2).bind fun bt280 => ((spec_ShortCommands.f k bt270.2).bind fun bt282 => ((impl_BackCommands.f bt270.2).bind fun bt284 => ((spec_BackCommands.f k bt270.2).bind fun bt286 => ((impl_MirrorCommands.f bt270.2).bind fun bt288 => ((spec_MirrorCommands.f k bt270.2).bind fun bt290 => ((impl_RepeatsToFront.f k bt270.2).bind fun bt292 => ((spec_RepeatsToFront.f k bt270.2).bind fun bt294 => (if (bt272.2 != bt274.2) = true then (laws_FnDrillsTurn.j0 k l1 bt270.1 bt270.2 bt272.1 bt272.2 bt276.1 bt276.2 bt280.1 bt284.1 bt288.1 bt292.1 true) else (if bt272.1.toList = bt274.1.toList then (if (bt276.2 != bt278.2) = true then (laws_FnDrillsTurn.j0 k l1 bt270.1 bt270.2 bt272.1 bt272.2 bt276.1 bt276.2 bt280.1 bt284.1 bt288.1 bt292.1 true) else (if bt276.1 = bt278.1 then (if (bt280.2 != bt282.2) = true then (laws_FnDrillsTurn.j0 k l1 bt270.1 bt270.2 bt272.1 bt272.2 bt276.1 bt276.2 bt280.1 bt284.1 bt288.1 bt292.1 true) else (if bt280.1.toList = bt282.1.toList then (if (bt284.2 != bt286.2) = true then (laws_FnDrillsTurn.j0 k l1 bt270.1 bt270.2 bt272.1 bt272.2 bt276.1 bt276.2 bt280.1 bt284.1 bt288.1 bt292.1 true) else (if bt284.1.toList = bt286.1.toList then (if (bt288.2 != bt290.2) = true then (laws_FnDrillsTurn.j0 k l1 bt270.1 bt270.2 bt272.1 bt272.2 bt276.1 bt276.2 bt280.1 bt284.1 bt288.1 bt292.1 true) else (if bt288.1.toList = bt290.1.toList then (if (bt292.2 != bt294.2) = true then (laws_FnDrillsTurn.j0 k l1 bt270.1 bt270.2 bt272.1 bt272.2 bt276.1 bt276.2 bt280.1 bt284.1 bt288.1 bt292.1 true) else (if bt292.1 = bt294.1 then ((impl_AreCommands.f bt270.2).bind fun t296 => (if (bt276.2 != t296) = true then (laws_FnDrillsTurn.j0 k l1 bt270.1 bt270.2 bt272.1 bt272.2 bt276.1 bt276.2 bt280.1 bt284.1 bt288.1 bt292.1 true) else ((impl_AreCommands.f bt270.2).bind fun t297 => ((spec_AreCommands.f k bt270.2).bind fun t298 => (if (t297 != t298) = true then (laws_FnDrillsTurn.j0 k l1 bt270.1 bt270.2 bt272.1 bt272.2 bt276.1 bt276.2 bt280.1 bt284.1 bt288.1 bt292.1 true) else (if (bt280.2 != bt276.2) = true then (laws_FnDrillsTurn.j0 k l1 bt270.1 bt270.2 bt272.1 bt272.2 bt276.1 bt276.2 bt280.1 bt284.1 bt288.1 bt292.1 true) else (if (bt284.2 != bt276.2) = true then (laws_FnDrillsTurn.j0 k l1 bt270.1 bt270.2 bt272.1 bt272.2 bt276.1 bt276.2 bt280.1 bt284.1 bt288.1 bt292.1 true) else (if (bt288.2 != bt276.2) = true then (laws_FnDrillsTurn.j0 k l1 bt270.1 bt270.2 bt272.1 bt272.2 bt276.1 bt276.2 bt280.1 bt284.1 bt288.1 bt292.1 true) else (if (bt292.2 != bt276.2) = true then (laws_FnDrillsTurn.j0 k l1 bt270.1 bt270.2 bt272.1 bt272.2 bt276.1 bt276.2 bt280.1 bt284.1 bt288.1 bt292.1 true) else (if bt276.2 = true then ((impl_AreFacing.f bt270.1).bind fun t299 => (if (bt272.2 != t299) = true then (laws_FnDrillsTurn.j0 k l1 bt270.1 bt270.2 bt272.1 bt272.2 bt276.1 bt276.2 bt280.1 bt284.1 bt288.1 bt292.1 true) else ((impl_AreFacing.f bt270.1).bind fun t300 => ((spec_AreFacing.f k bt270.1).bind fun t301 => (laws_FnDrillsTurn.j0 k l1 bt270.1 bt270.2 bt272.1 bt272.2 bt276.1 bt276.2 bt280.1 bt284.1 bt288.1 bt292.1 (t300 != t301)))))) else (if (bt272.2 != false) = true then (laws_FnDrillsTurn.j0 k l1 bt270.1 bt270.2 bt272.1 bt272.2 bt276.1 bt276.2 bt280.1 bt284.1 bt288.1 bt292.1 true) else ((impl_AreFacing.f bt270.1).bind fun t302 => ((spec_AreFacing.f k bt270.1).bind fun t303 => (laws_FnDrillsTurn.j0 k l1 bt270.1 bt270.2 bt272.1 bt272.2 bt276.1 bt276.2 bt280.1 bt284.1 bt288.1 bt292.1 (t302 != t303))))))))))))))) else (laws_FnDrillsTurn.j0 k l1 bt270.1 bt270.2 bt272.1 bt272.2 bt276.1 bt276.2 bt280.1 bt284.1 bt288.1 bt292.1 true))) else (laws_FnDrillsTurn.j0 k l1 bt270.1 bt270.2 bt272.1 bt272.2 bt276.1 bt276.2 bt280.1 bt284.1 bt288.1 bt292.1 true))) else (laws_FnDrillsTurn.j0 k l1 bt270.1 bt270.2 bt272.1 bt272.2 bt276.1 bt276.2 bt280.1 bt284.1 bt288.1 bt292.1 true))) else (laws_FnDrillsTurn.j0 k l1 bt270.1 bt270.2 bt272.1 bt272.2 bt276.1 bt276.2 bt280.1 bt284.1 bt288.1 bt292.1 true))) else (laws_FnDrillsTurn.j0 k l1 bt270.1 bt270.2 bt272.1 bt272.2 bt276.1 bt276.2 bt280.1 bt284.1 bt288.1 bt292.1 true))) else (laws_FnDrillsTurn.j0 k l1 bt270.1 bt270.2 bt272.1 bt272.2 bt276.1 bt276.2 bt280.1 bt284.1 bt288.1 bt292.1 true)))))))))))))))))
theorem laws_FnDrillsTurn.mono_l : ∀ k, (∀ y0 y1 y2 y3 y4 y5 y6 y7 y8 y9 y10 y11, LeO (laws_FnDrillsTurn.j0 k y0 y1 y2 y3 y4 y5 y6 y7 y8 y9 y10 y11) (laws_FnDrillsTurn.j0 (k + 1) y0 y1 y2 y3 y4 y5 y6 y7 y8 y9 y10 y11)) ∧ (∀ y0 y1 y2 y3 y4 y5 y6, LeO (laws_FnDrillsTurn.j1 k y0 y1 y2 y3 y4 y5 y6) (laws_FnDrillsTurn.j1 (k + 1) y0 y1 y2 y3 y4 y5 y6)) ∧ (∀ y0, LeO (laws_FnDrillsTurn.j3 k y0) (laws_FnDrillsTurn.j3 (k + 1) y0)) ∧ (∀ y0 y1 y2 y3 y4 y5 y6 y7 y8 y9 y10, LeO (laws_FnDrillsTurn.j4 k y0 y1 y2 y3 y4 y5 y6 y7 y8 y9 y10) (laws_FnDrillsTurn.j4 (k + 1) y0 y1 y2 y3 y4 y5 y6 y7 y8 y9 y10)) ∧ (∀ y0 y1 y2 y3 y4 y5 y6 y7, LeO (laws_FnDrillsTurn.j7 k y0 y1 y2 y3 y4 y5 y6 y7) (laws_FnDrillsTurn.j7 (k + 1) y0 y1 y2 y3 y4 y5 y6 y7)) ∧ (∀ y0 y1 y2 y3 y4 y5 y6 y7 y8 y9 y10 y11, LeO (laws_FnDrillsTurn.l0 k y0 y1 y2 y3 y4 y5 y6 y7 y8 y9 y10 y11) (laws_FnDrillsTurn.l0 (k + 1) y0 y1 y2 y3 y4 y5 y6 y7 y8 y9 y10 y11)) ∧ (∀ y0 y1 y2 y3 y4 y5 y6 y7 y8 y9 y10 y11, LeO (laws_FnDrillsTurn.l1 k y0 y1 y2 y3 y4 y5 y6 y7 y8 y9 y10 y11) (laws_FnDrillsTurn.l1 (k + 1) y0 y1 y2 y3 y4 y5 y6 y7 y8 y9 y10 y11)) ∧ (∀ y0 y1 y2 y3, LeO (laws_FnDrillsTurn.j2 k y0 y1 y2 y3) (laws_FnDrillsTurn.j2 (k + 1) y0 y1 y2 y3))
  | 0 => ⟨fun _ _ _ _ _ _ _ _ _ _ _ _ r h => by simp [laws_FnDrillsTurn.j0] at h, fun _ _ _ _ _ _ _ r h => by simp [laws_FnDrillsTurn.j1] at h, fun _ r h => by simp [laws_FnDrillsTurn.j3] at h, fun _ _ _ _ _ _ _ _ _ _ _ r h => by simp [laws_FnDrillsTurn.j4] at h, fun _ _ _ _ _ _ _ _ r h => by simp [laws_FnDrillsTurn.j7] at h, fun _ _ _ _ _ _ _ _ _ _ _ _ r h => by simp [laws_FnDrillsTurn.l0] at h, fun _ _ _ _ _ _ _ _ _ _ _ _ r h => by simp [laws_FnDrillsTurn.l1] at h, fun _ _ _ _ r h => by simp [laws_FnDrillsTurn.j2] at h⟩
  | k + 1 => by
    obtain ⟨ih0, ih1, ih2, ih3, ih4, ih5, ih6, ih7⟩ := laws_FnDrillsTurn.mono_l k
    refine ⟨?_, ?_, ?_, ?_, ?_, ?_, ?_, ?_⟩
    all_goals intros
    all_goals first
      | unfold laws_FnDrillsTurn.j0
      | unfold laws_FnDrillsTurn.j1
      | unfold laws_FnDrillsTurn.j3
      | unfold laws_FnDrillsTurn.j4
      | unfold laws_FnDrillsTurn.j7
      | unfold laws_FnDrillsTurn.l0
      | unfold laws_FnDrillsTurn.l1
      | unfold laws_FnDrillsTurn.j2
    all_goals
      repeat' first
      | (with_reducible exact ih0 _ _ _ _ _ _ _ _ _ _ _ _)
      | (with_reducible exact ih1 _ _ _ _ _ _ _)
      | (with_reducible exact ih2 _)
      | (with_reducible exact ih3 _ _ _ _ _ _ _ _ _ _ _)
      | (with_reducible exact ih4 _ _ _ _ _ _ _ _)
      | (with_reducible exact ih5 _ _ _ _ _ _ _ _ _ _ _ _)
      | (with_reducible exact ih6 _ _ _ _ _ _ _ _ _ _ _ _)
      | (with_reducible exact ih7 _ _ _ _)
      | (with_reducible exact impl_BestCommand.mono _ _ _)
      | (with_reducible exact impl_CommandsBetween.mono _ _ _)
      | (with_reducible exact impl_CountCommandWords.mono _ _ _)
      | (with_reducible exact impl_FacingAfter.mono _ _ _)
      | (with_reducible exact impl_MostFaced.mono _ _)
      | (with_reducible exact impl_NetTurn.mono _ _)
      | (with_reducible exact impl_RepeatsToFront.mono _ _)
      | (with_reducible exact impl_ShortCommands.mono _ _)
      | (with_reducible exact laws_turnLoop.mono _ _ _)
      | (with_reducible exact spec_AreCommands.mono _ _)
      | (with_reducible exact spec_AreFacing.mono _ _)
      | (with_reducible exact spec_BackCommands.mono _ _)
      | (with_reducible exact spec_BestCommand.mono _ _ _)
      | (with_reducible exact spec_CommandsBetween.mono _ _ _)
      | (with_reducible exact spec_CountCommandWords.mono _ _ _)
      | (with_reducible exact spec_DrawBestCommand.mono _ _)
      | (with_reducible exact spec_DrawCommandsBetween.mono _ _)
      | (with_reducible exact spec_DrawFacingAfter.mono _ _)
      | (with_reducible exact spec_DrawMostFaced.mono _ _)
      | (with_reducible exact spec_FacingAfter.mono _ _ _)
      | (with_reducible exact spec_MirrorCommands.mono _ _)
      | (with_reducible exact spec_MostFaced.mono _ _)
      | (with_reducible exact spec_NetTurn.mono _ _)
      | (with_reducible exact spec_RepeatsToFront.mono _ _)
      | (with_reducible exact spec_ShortCommands.mono _ _)
      | (with_reducible exact LeO.refl _)
      | (with_reducible exact LeO.none _)
      | (with_reducible refine LeO.ite ?_ ?_)
      | (with_reducible refine LeO.bind ?_ (fun _ => ?_))
      | exact ih0 _ _ _ _ _ _ _ _ _ _ _ _
      | exact ih1 _ _ _ _ _ _ _
      | exact ih2 _
      | exact ih3 _ _ _ _ _ _ _ _ _ _ _
      | exact ih4 _ _ _ _ _ _ _ _
      | exact ih5 _ _ _ _ _ _ _ _ _ _ _ _
      | exact ih6 _ _ _ _ _ _ _ _ _ _ _ _
      | exact ih7 _ _ _ _
      | exact impl_BestCommand.mono _ _ _
      | exact impl_CommandsBetween.mono _ _ _
      | exact impl_CountCommandWords.mono _ _ _
      | exact impl_FacingAfter.mono _ _ _
      | exact impl_MostFaced.mono _ _
      | exact impl_NetTurn.mono _ _
      | exact impl_RepeatsToFront.mono _ _
      | exact impl_ShortCommands.mono _ _
      | exact laws_turnLoop.mono _ _ _
      | exact spec_AreCommands.mono _ _
      | exact spec_AreFacing.mono _ _
      | exact spec_BackCommands.mono _ _
      | exact spec_BestCommand.mono _ _ _
      | exact spec_CommandsBetween.mono _ _ _
      | exact spec_CountCommandWords.mono _ _ _
      | exact spec_DrawBestCommand.mono _ _
      | exact spec_DrawCommandsBetween.mono _ _
      | exact spec_DrawFacingAfter.mono _ _
      | exact spec_DrawMostFaced.mono _ _
      | exact spec_FacingAfter.mono _ _ _
      | exact spec_MirrorCommands.mono _ _
      | exact spec_MostFaced.mono _ _
      | exact spec_NetTurn.mono _ _
      | exact spec_RepeatsToFront.mono _ _
      | exact spec_ShortCommands.mono _ _
      | exact LeO.none _
      | refine LeO.ite ?_ ?_
      | refine LeO.bind ?_ (fun _ => ?_)
theorem laws_FnDrillsTurn.mono : ∀ a0 a1 k, LeO (laws_FnDrillsTurn.f k a0 a1) (laws_FnDrillsTurn.f (k + 1) a0 a1) := by
  intro a0 a1 k
  obtain ⟨ih0, ih1, ih2, ih3, ih4, ih5, ih6, ih7⟩ := laws_FnDrillsTurn.mono_l k
  unfold laws_FnDrillsTurn.f
  repeat' first
      | (with_reducible exact ih0 _ _ _ _ _ _ _ _ _ _ _ _)
      | (with_reducible exact ih1 _ _ _ _ _ _ _)
      | (with_reducible exact ih2 _)
      | (with_reducible exact ih3 _ _ _ _ _ _ _ _ _ _ _)
      | (with_reducible exact ih4 _ _ _ _ _ _ _ _)
      | (with_reducible exact ih5 _ _ _ _ _ _ _ _ _ _ _ _)
      | (with_reducible exact ih6 _ _ _ _ _ _ _ _ _ _ _ _)
      | (with_reducible exact ih7 _ _ _ _)
      | (with_reducible exact impl_BestCommand.mono _ _ _)
      | (with_reducible exact impl_CommandsBetween.mono _ _ _)
      | (with_reducible exact impl_CountCommandWords.mono _ _ _)
      | (with_reducible exact impl_FacingAfter.mono _ _ _)
      | (with_reducible exact impl_MostFaced.mono _ _)
      | (with_reducible exact impl_NetTurn.mono _ _)
      | (with_reducible exact impl_RepeatsToFront.mono _ _)
      | (with_reducible exact impl_ShortCommands.mono _ _)
      | (with_reducible exact laws_turnLoop.mono _ _ _)
      | (with_reducible exact spec_AreCommands.mono _ _)
      | (with_reducible exact spec_AreFacing.mono _ _)
      | (with_reducible exact spec_BackCommands.mono _ _)
      | (with_reducible exact spec_BestCommand.mono _ _ _)
      | (with_reducible exact spec_CommandsBetween.mono _ _ _)
      | (with_reducible exact spec_CountCommandWords.mono _ _ _)
      | (with_reducible exact spec_DrawBestCommand.mono _ _)
      | (with_reducible exact spec_DrawCommandsBetween.mono _ _)
      | (with_reducible exact spec_DrawFacingAfter.mono _ _)
      | (with_reducible exact spec_DrawMostFaced.mono _ _)
      | (with_reducible exact spec_FacingAfter.mono _ _ _)
      | (with_reducible exact spec_MirrorCommands.mono _ _)
      | (with_reducible exact spec_MostFaced.mono _ _)
      | (with_reducible exact spec_NetTurn.mono _ _)
      | (with_reducible exact spec_RepeatsToFront.mono _ _)
      | (with_reducible exact spec_ShortCommands.mono _ _)
      | (with_reducible exact LeO.refl _)
      | (with_reducible exact LeO.none _)
      | (with_reducible refine LeO.ite ?_ ?_)
      | (with_reducible refine LeO.bind ?_ (fun _ => ?_))
      | exact ih0 _ _ _ _ _ _ _ _ _ _ _ _
      | exact ih1 _ _ _ _ _ _ _
      | exact ih2 _
      | exact ih3 _ _ _ _ _ _ _ _ _ _ _
      | exact ih4 _ _ _ _ _ _ _ _
      | exact ih5 _ _ _ _ _ _ _ _ _ _ _ _
      | exact ih6 _ _ _ _ _ _ _ _ _ _ _ _
      | exact ih7 _ _ _ _
      | exact impl_BestCommand.mono _ _ _
      | exact impl_CommandsBetween.mono _ _ _
      | exact impl_CountCommandWords.mono _ _ _
      | exact impl_FacingAfter.mono _ _ _
      | exact impl_MostFaced.mono _ _
      | exact impl_NetTurn.mono _ _
      | exact impl_RepeatsToFront.mono _ _
      | exact impl_ShortCommands.mono _ _
      | exact laws_turnLoop.mono _ _ _
      | exact spec_AreCommands.mono _ _
      | exact spec_AreFacing.mono _ _
      | exact spec_BackCommands.mono _ _
      | exact spec_BestCommand.mono _ _ _
      | exact spec_CommandsBetween.mono _ _ _
      | exact spec_CountCommandWords.mono _ _ _
      | exact spec_DrawBestCommand.mono _ _
      | exact spec_DrawCommandsBetween.mono _ _
      | exact spec_DrawFacingAfter.mono _ _
      | exact spec_DrawMostFaced.mono _ _
      | exact spec_FacingAfter.mono _ _ _
      | exact spec_MirrorCommands.mono _ _
      | exact spec_MostFaced.mono _ _
      | exact spec_NetTurn.mono _ _
      | exact spec_RepeatsToFront.mono _ _
      | exact spec_ShortCommands.mono _ _
      | exact LeO.none _
      | refine LeO.ite ?_ ?_
      | refine LeO.bind ?_ (fun _ => ?_)
theorem laws_FnDrillsTurn.j0_no : ∀ (k : Nat) (x1 : List Int) (x5 : ByteArray) (x6 : ByteArray) (x7 : ByteArray) (x8 : Bool) (x11 : Int) (x12 : Bool) (x15 : ByteArray) (x19 : ByteArray) (x23 : ByteArray) (x27 : Int), laws_FnDrillsTurn.j0 k x1 x5 x6 x7 x8 x11 x12 x15 x19 x23 x27 true = some true → False := by
  intro k x1 x5 x6 x7 x8 x11 x12 x15 x19 x23 x27
  cases k <;> simp [laws_FnDrillsTurn.j0]
theorem laws_FnDrillsTurn.j4_no : ∀ (k : Nat) (x50 : Int) (x53 : Bool) (x62 : ByteArray) (x64 : ByteArray) (x65 : Int) (x66 : Bool) (x70 : ByteArray) (x71 : Int) (x72 : Int) (x73 : Bool), laws_FnDrillsTurn.j4 k x50 x53 x62 x64 x65 x66 x70 x71 x72 x73 true = some true → False := by
  intro k x50 x53 x62 x64 x65 x66 x70 x71 x72 x73
  cases k <;> simp [laws_FnDrillsTurn.j4]
theorem laws_FnDrillsTurn.j2_no : ∀ (k : Nat) (x1 : List Int) (x11 : Int) (x45 : ByteArray), laws_FnDrillsTurn.j2 k x1 x11 x45 true = some true → False := by
  intro k x1 x11 x45
  cases k <;> simp [laws_FnDrillsTurn.j2]
end Go.Proofs.YtgdmbhldabeelaaRGreatDoor.PFnDrillsTurn
