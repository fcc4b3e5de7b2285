-- Written by a program of this session's (pg.py) over the kit's print.
import Derived.Test.YteekggogodjffaaPFnFormsLeftx0
import Derived.Test.YteekggogodjffaaPFnFormsLeftx1
import Derived.Test.YteekggogodjffaaPFnFormsLeftx3
import Derived.Test.YteekggogodjffaaPFnFormsLeftx4
import Derived.Test.YteekggogodjffaaPFnFormsLeftx5
import Derived.Test.YteekggogodjffaaPFnFormsLeftx6
import Derived.Test.YteekggogodjffaaPFnFormsLeftx7
namespace Go.Proofs.Yteekggogodjffaa.PFnFormsLeft
open Go.RowKit Go.Proofs.YteekggogodjffaaW.PrintWords Go.Proofs.YteekggogodjffaaW.PrintLast Go.Proofs.YteekggogodjffaaW.PrintMore
attribute [local go_sem] max2_int min2_int max_two min_two max_three min_three max_four min_four   -- for this text's walks alone
set_option linter.unusedVariables false
set_option linter.unusedSimpArgs false

/-! ### laws_FnFormsLeft: function 5 -/
mutual
def laws_FnFormsLeft.j0 : Nat → List Int → List Int → List Int → Int → Bool → Int → Bool → Bool → Option (Bool)
  | 0, _, _, _, _, _, _, _, _ => none
  | k + 1, x1, x5, x6, x7, x8, x15, x16, x148 => if x148 = true then (some false) else (if x8 = true then (laws_FnFormsLeft.l0 k x1 x5 x6 x7 x15 x16 x5 (x5.length : Int) 0) else (laws_FnFormsLeft.j8 k x1 x5 x15 x16))
def laws_FnFormsLeft.j8 : Nat → List Int → List Int → Int → Bool → Option (Bool)
  | 0, _, _, _, _ => none
  | k + 1, x1, x5, x15, x16 => if x16 = true then (laws_FnFormsLeft.l1 k x1 x15 x5 (x5.length : Int) 0) else (laws_FnFormsLeft.j10 k x1)
def laws_FnFormsLeft.j10 : Nat → List Int → Option (Bool)
  | 0, _ => none
  | k + 1, x1 => (spec_DrawCountWith.f k x1).bind fun bt318 => ((impl_CountWith.f k bt318.1 bt318.2.1 bt318.2.2).bind fun bt325 => ((spec_CountWith.f k bt318.1 bt318.2.1 bt318.2.2).bind fun bt327 => ((spec_DrawRemaindersOf.f k x1).bind fun bt329 => ((impl_RemaindersOf.f k bt329.1 bt329.2).bind fun bt333 => ((spec_RemaindersOf.f k bt329.1 bt329.2).bind fun bt337 => ((spec_DrawTurnFormation.f x1).bind fun bt341 => ((impl_TurnFormation.f k bt341.1 bt341.2).bind fun bt343 => ((spec_TurnFormation.f k bt341.1 bt341.2).bind fun bt347 => ((impl_TimesTurned.f k bt341.1 bt341.2).bind fun bt351 => ((spec_TimesTurned.f k bt341.1 bt341.2).bind fun bt353 => (if (bt325.2 != bt327.2) = true then (laws_FnFormsLeft.j11 k bt318.1 bt318.2.1 bt318.2.2 bt325.1 bt325.2 bt341.1 bt341.2 bt343.1 bt343.2 bt351.1 true) else (if bt325.1 = bt327.1 then (if (bt333.2 != bt337.2) = true then (laws_FnFormsLeft.j11 k bt318.1 bt318.2.1 bt318.2.2 bt325.1 bt325.2 bt341.1 bt341.2 bt343.1 bt343.2 bt351.1 true) else ((laws_mSame.f k bt333.1 bt337.1).bind fun t355 => (if t355 = true then (if (bt343.2 != bt347.2) = true then (laws_FnFormsLeft.j11 k bt318.1 bt318.2.1 bt318.2.2 bt325.1 bt325.2 bt341.1 bt341.2 bt343.1 bt343.2 bt351.1 true) else ((laws_mSame.f k bt343.1 bt347.1).bind fun t356 => (if t356 = true then (if (bt351.2 != bt353.2) = true then (laws_FnFormsLeft.j11 k bt318.1 bt318.2.1 bt318.2.2 bt325.1 bt325.2 bt341.1 bt341.2 bt343.1 bt343.2 bt351.1 true) else (if bt351.1 = bt353.1 then (laws_FnFormsLeft.j11 k bt318.1 bt318.2.1 bt318.2.2 bt325.1 bt325.2 bt341.1 bt341.2 bt343.1 bt343.2 bt351.1 (bt351.2 != bt343.2)) else (laws_FnFormsLeft.j11 k bt318.1 bt318.2.1 bt318.2.2 bt325.1 bt325.2 bt341.1 bt341.2 bt343.1 bt343.2 bt351.1 true))) else (laws_FnFormsLeft.j11 k bt318.1 bt318.2.1 bt318.2.2 bt325.1 bt325.2 bt341.1 bt341.2 bt343.1 bt343.2 bt351.1 true)))) else (laws_FnFormsLeft.j11 k bt318.1 bt318.2.1 bt318.2.2 bt325.1 bt325.2 bt341.1 bt341.2 bt343.1 bt343.2 bt351.1 true)))) else (laws_FnFormsLeft.j11 k bt318.1 bt318.2.1 bt318.2.2 bt325.1 bt325.2 bt341.1 bt341.2 bt343.1 bt343.2 bt351.1 true)))))))))))))
def laws_FnFormsLeft.j11 : Nat → List Int → List Int → Int → Int → Bool → Int → Int → List Int → Bool → Int → Bool → Option (Bool)
  | 0, _, _, _, _, _, _, _, _, _, _, _ => none
  | k + 1, x31, x32, x33, x34, x35, x44, x45, x46, x47, x50, x371 => if x371 = true then (some false) else (if x35 = true then (laws_FnFormsLeft.j12 k x31 x32 x33 x34 x44 x45 x46 x47 x50 (decide (x33 ≤ 1000))) else (laws_FnFormsLeft.j12 k x31 x32 x33 x34 x44 x45 x46 x47 x50 false))
def laws_FnFormsLeft.j12 : Nat → List Int → List Int → Int → Int → Int → Int → List Int → Bool → Int → Bool → Option (Bool)
  | 0, _, _, _, _, _, _, _, _, _, _ => none
  | k + 1, x31, x32, x33, x34, x44, x45, x46, x47, x50, x376 => if x376 = true then (laws_FnFormsLeft.l2 k x31 x32 x33 x34 x44 x45 x46 x47 x50 0 0) else (laws_FnFormsLeft.j15 k x44 x45 x46 x47 x50)
def laws_FnFormsLeft.j15 : Nat → Int → Int → List Int → Bool → Int → Option (Bool)
  | 0, _, _, _, _, _ => none
  | k + 1, x44, x45, x46, x47, x50 => if x47 = true then (if 0 ≤ (wrap64 (x44 * x45)) then (if (wrap64 (x44 * x45) : Int).toNat ≤ 281474976710656 then (laws_FnFormsLeft.l4 k x44 x45 x46 x50 (List.replicate (wrap64 (x44 * x45) : Int).toNat false) x46 (x46.length : Int) 0) else (none)) else (none)) else (some true)
def laws_FnFormsLeft.l4 : Nat → Int → Int → List Int → Int → List Bool → List Int → Int → Int → Option (Bool)
  | 0, _, _, _, _, _, _, _, _ => none
  | k + 1, x44, x45, x46, x50, x59, x412, x413, x414 => if x414 < x413 then (if 0 ≤ x414 then (if x414 < (x412.length : Int) then (if (rd x412 x414) < 0 then (some false) else (if (rd x412 x414) ≥ (x59.length : Int) then (some false) else (if 0 ≤ (rd x412 x414) then (if (rd x412 x414) < (x59.length : Int) then (if rdOf false x59 (rd x412 x414) = true then (some false) else (if x45 = 0 then (none) else (if x44 = 0 then (none) else (if (Int.tmod (rd x412 x414) x45) = (wrap64 (Int.tdiv x414 x44)) then (if (wrap64 (Int.tdiv (rd x412 x414) x45)) = (wrap64 ((wrap64 (x44 - 1)) - (Int.tmod x414 x44))) then (laws_FnFormsLeft.l4 k x44 x45 x46 x50 (x59.set ((rd x412 x414) : Int).toNat true) x412 x413 (wrap64 (x414 + 1))) else (some false)) else (some false))))) else (none)) else (none)))) else (none)) else (none)) else (if (x46.length : Int) = (x59.length : Int) then (if x50 < 1 then (laws_FnFormsLeft.j17 k x46 x50 true) else (if x44 = 1 then (laws_FnFormsLeft.j17 k x46 x50 (x50 != 1)) else (laws_FnFormsLeft.j17 k x46 x50 false))) else (laws_FnFormsLeft.j17 k x46 x50 true))
def laws_FnFormsLeft.j17 : Nat → List Int → Int → Bool → Option (Bool)
  | 0, _, _, _ => none
  | k + 1, x46, x50, x474 => if x474 = true then (some false) else (if x50 ≤ 60 then (if 0 ≤ (x46.length : Int) then (if ((x46.length : Int) : Int).toNat ≤ 35184372088832 then ((some (List.replicate ((x46.length : Int) : Int).toNat 0 : List Int)).bind fun y365 => (laws_FnFormsLeft.l5 k x46 x50 y365 (y365.length : Int) 0)) else (none)) else (none)) else (some true))
def laws_FnFormsLeft.l5 : Nat → List Int → Int → List Int → Int → Int → Option (Bool)
  | 0, _, _, _, _, _ => none
  | k + 1, x46, x50, x62, x481, x482 => if x482 < x481 then (if 0 ≤ x482 then (if x482 < (x62.length : Int) then (laws_FnFormsLeft.l5 k x46 x50 (x62.set (x482 : Int).toNat x482) x481 (wrap64 (x482 + 1))) else (none)) else (none)) else (laws_FnFormsLeft.l6 k x46 x50 x62 1)
def laws_FnFormsLeft.l6 : Nat → List Int → Int → List Int → Int → Option (Bool)
  | 0, _, _, _, _ => none
  | k + 1, x46, x50, x62, x64 => if x64 ≤ x50 then (if 0 ≤ (x62.length : Int) then (if ((x62.length : Int) : Int).toNat ≤ 35184372088832 then (laws_FnFormsLeft.l7 k x46 x50 x62 x64 (List.replicate ((x62.length : Int) : Int).toNat 0) x46 (x46.length : Int) 0) else (none)) else (none)) else (some true)
def laws_FnFormsLeft.l7 : Nat → List Int → Int → List Int → Int → List Int → List Int → Int → Int → Option (Bool)
  | 0, _, _, _, _, _, _, _, _ => none
  | k + 1, x46, x50, x62, x64, x65, x498, x499, x500 => if x500 < x499 then (if 0 ≤ x500 then (if x500 < (x498.length : Int) then (if 0 ≤ (rd x498 x500) then (if (rd x498 x500) < (x62.length : Int) then (if x500 < (x65.length : Int) then (laws_FnFormsLeft.l7 k x46 x50 x62 x64 (x65.set (x500 : Int).toNat (rd x62 (rd x498 x500))) x498 x499 (wrap64 (x500 + 1))) else (none)) else (none)) else (none)) else (none)) else (none)) else (laws_FnFormsLeft.l8 k x46 x50 x65 x64 true x65 (x65.length : Int) 0)
def laws_FnFormsLeft.l8 : Nat → List Int → Int → List Int → Int → Bool → List Int → Int → Int → Option (Bool)
  | 0, _, _, _, _, _, _, _, _ => none
  | k + 1, x46, x50, x62, x64, x68, x514, x515, x516 => if x516 < x515 then (if 0 ≤ x516 then (if x516 < (x514.length : Int) then (if x68 = true then (laws_FnFormsLeft.l8 k x46 x50 x62 x64 (x516 == (rd x514 x516)) x514 x515 (wrap64 (x516 + 1))) else (laws_FnFormsLeft.l8 k x46 x50 x62 x64 false x514 x515 (wrap64 (x516 + 1)))) else (none)) else (none)) else (if (x68 != (x64 == x50)) = true then (some false) else (laws_FnFormsLeft.l6 k x46 x50 x62 (wrap64 (x64 + 1))))
def laws_FnFormsLeft.l2 : Nat → List Int → List Int → Int → Int → Int → Int → List Int → Bool → Int → Int → Int → Option (Bool)
  | 0, _, _, _, _, _, _, _, _, _, _, _ => none
  | k + 1, x31, x32, x33, x34, x44, x45, x46, x47, x50, x54, x55 => if x55 ≤ x33 then (laws_FnFormsLeft.l3 k x31 x32 x33 x34 x44 x45 x46 x47 x50 x54 x55 true x31 (x31.length : Int) 0) else (if x54 = x34 then (laws_FnFormsLeft.j15 k x44 x45 x46 x47 x50) else (some false))
def laws_FnFormsLeft.l3 : Nat → List Int → List Int → Int → Int → Int → Int → List Int → Bool → Int → Int → Int → Bool → List Int → Int → Int → Option (Bool)
  | 0, _, _, _, _, _, _, _, _, _, _, _, _, _, _, _ => none
  | k + 1, x31, x32, x33, x34, x44, x45, x46, x47, x50, x54, x55, x56, x382, x383, x384 => if x384 < x383 then (if 0 ≤ x384 then (if x384 < (x382.length : Int) then (if x56 = true then (if (rd x382 x384) = 0 then (none) else (if x384 < (x32.length : Int) then (laws_FnFormsLeft.l3 k x31 x32 x33 x34 x44 x45 x46 x47 x50 x54 x55 ((Int.tmod x55 (rd x382 x384)) == (rd x32 x384)) x382 x383 (wrap64 (x384 + 1))) else (none))) else (laws_FnFormsLeft.l3 k x31 x32 x33 x34 x44 x45 x46 x47 x50 x54 x55 false x382 x383 (wrap64 (x384 + 1)))) else (none)) else (none)) else (if x56 = true then (laws_FnFormsLeft.l2 k x31 x32 x33 x34 x44 x45 x46 x47 x50 (wrap64 (x54 + 1)) (wrap64 (x55 + 1))) else (laws_FnFormsLeft.l2 k x31 x32 x33 x34 x44 x45 x46 x47 x50 x54 (wrap64 (x55 + 1))))
def laws_FnFormsLeft.l1 : Nat → List Int → Int → List Int → Int → Int → Option (Bool)
  | 0, _, _, _, _, _ => none
  | k + 1, x1, x15, x250, x251, x252 => if x252 < x251 then (if 0 ≤ x252 then (if x252 < (x250.length : Int) then (if (rd x250 x252) = 0 then (none) else (if (Int.tmod x15 (rd x250 x252)) = 0 then (laws_FnFormsLeft.l1 k x1 x15 x250 x251 (wrap64 (x252 + 1))) else (some false))) else (none)) else (none)) else (laws_FnFormsLeft.j10 k x1)
def laws_FnFormsLeft.l0 : Nat → List Int → List Int → List Int → Int → Int → Bool → List Int → Int → Int → Option (Bool)
  | 0, _, _, _, _, _, _, _, _, _ => none
  | k + 1, x1, x5, x6, x7, x15, x16, x150, x151, x152 => if x152 < x151 then (if 0 ≤ x152 then (if x152 < (x150.length : Int) then (if (rd x150 x152) = 0 then (none) else (if x152 < (x6.length : Int) then (if (Int.tmod x7 (rd x150 x152)) = (rd x6 x152) then (laws_FnFormsLeft.l0 k x1 x5 x6 x7 x15 x16 x150 x151 (wrap64 (x152 + 1))) else (some false)) else (none))) else (none)) else (none)) else (if x7 < 0 then (laws_FnFormsLeft.j2 k x1 x5 x6 x7 x15 x16 true) else (if x16 = true then (laws_FnFormsLeft.j2 k x1 x5 x6 x7 x15 x16 (decide (x7 ≥ x15))) else (laws_FnFormsLeft.j2 k x1 x5 x6 x7 x15 x16 false)))
def laws_FnFormsLeft.j2 : Nat → List Int → List Int → List Int → Int → Int → Bool → Bool → Option (Bool)
  | 0, _, _, _, _, _, _, _ => none
  | k + 1, x1, x5, x6, x7, x15, x16, x175 => if x175 = true then (some false) else (if x7 ≤ 1000000000 then ((impl_CountWith.f k x5 x6 x7).bind fun bt306 => (if bt306.2 = true then (laws_FnFormsLeft.j3 k x1 x5 x6 x7 x15 x16 (bt306.1 != 1)) else (laws_FnFormsLeft.j3 k x1 x5 x6 x7 x15 x16 true))) else (laws_FnFormsLeft.j6 k x1 x5 x6 x7 x15 x16))
def laws_FnFormsLeft.j6 : Nat → List Int → List Int → List Int → Int → Int → Bool → Option (Bool)
  | 0, _, _, _, _, _, _ => none
  | k + 1, x1, x5, x6, x7, x15, x16 => if x7 ≥ 1 then (laws_FnFormsLeft.j7 k x1 x5 x6 x7 x15 x16 (decide (x7 ≤ 1000000))) else (laws_FnFormsLeft.j7 k x1 x5 x6 x7 x15 x16 false)
def laws_FnFormsLeft.j7 : Nat → List Int → List Int → List Int → Int → Int → Bool → Bool → Option (Bool)
  | 0, _, _, _, _, _, _, _ => none
  | k + 1, x1, x5, x6, x7, x15, x16, x234 => if x234 = true then ((impl_RemaindersOf.f k x7 x5).bind fun bt312 => (if bt312.2 = true then ((laws_mSame.f k bt312.1 x6).bind fun t316 => (if t316 = true then (laws_FnFormsLeft.j8 k x1 x5 x15 x16) else (some false))) else (some false))) else (laws_FnFormsLeft.j8 k x1 x5 x15 x16)
def laws_FnFormsLeft.j3 : Nat → List Int → List Int → List Int → Int → Int → Bool → Bool → Option (Bool)
  | 0, _, _, _, _, _, _, _ => none
  | k + 1, x1, x5, x6, x7, x15, x16, x190 => if x190 = true then (some false) else (if x7 > 0 then ((impl_CountWith.f k x5 x6 (wrap64 (x7 - 1))).bind fun bt308 => (if bt308.2 = true then (if bt308.1 = 0 then (laws_FnFormsLeft.j4 k x1 x5 x6 x7 x15 x16) else (some false)) else (some false))) else (laws_FnFormsLeft.j4 k x1 x5 x6 x7 x15 x16))
def laws_FnFormsLeft.j4 : Nat → List Int → List Int → List Int → Int → Int → Bool → Option (Bool)
  | 0, _, _, _, _, _, _ => none
  | k + 1, x1, x5, x6, x7, x15, x16 => if x16 = true then (laws_FnFormsLeft.j5 k x1 x5 x6 x7 x15 x16 (decide ((wrap64 (x7 + x15)) ≤ 1000000000))) else (laws_FnFormsLeft.j5 k x1 x5 x6 x7 x15 x16 false)
def laws_FnFormsLeft.j5 : Nat → List Int → List Int → List Int → Int → Int → Bool → Bool → Option (Bool)
  | 0, _, _, _, _, _, _, _ => none
  | k + 1, x1, x5, x6, x7, x15, x16, x213 => if x213 = true then ((impl_CountWith.f k x5 x6 (wrap64 (x7 + x15))).bind fun bt310 => (if bt310.2 = true then (if bt310.1 = 2 then (laws_FnFormsLeft.j6 k x1 x5 x6 x7 x15 x16) else (some false)) else (some false))) else (laws_FnFormsLeft.j6 k x1 x5 x6 x7 x15 x16)
end
def laws_FnFormsLeft.f (k : Nat) (l0 : List Int) (l1 : List Int) : Option (Bool) := (laws_big.f l0 l1).bind fun t285 => (if t285 = true then (some true) else ((spec_DrawLeastWith.f k l0).bind fun bt286 => ((impl_LeastWith.f k bt286.1 bt286.2).bind fun bt292 => ((spec_LeastWith.f k bt286.1 bt286.2).bind fun bt294 => ((impl_CanBeLeft.f k bt286.1 bt286.2).bind fun bt296 => ((spec_CanBeLeft.f k bt286.1 bt286.2).bind fun bt298 => ((impl_StepOf.f k bt286.1).bind fun bt300 => ((spec_StepOf.f k bt286.1).bind fun bt302 => (if (bt292.2 != bt294.2) = true then (laws_FnFormsLeft.j0 k l1 bt286.1 bt286.2 bt292.1 bt292.2 bt300.1 bt300.2 true) else (if bt292.1 = bt294.1 then (if (bt296.2 != bt298.2) = true then (laws_FnFormsLeft.j0 k l1 bt286.1 bt286.2 bt292.1 bt292.2 bt300.1 bt300.2 true) else (if (bt296.1 != bt298.1) = true then (laws_FnFormsLeft.j0 k l1 bt286.1 bt286.2 bt292.1 bt292.2 bt300.1 bt300.2 true) else (if (bt300.2 != bt302.2) = true then (laws_FnFormsLeft.j0 k l1 bt286.1 bt286.2 bt292.1 bt292.2 bt300.1 bt300.2 true) else (if bt300.1 = bt302.1 then (if bt296.2 = true then (laws_FnFormsLeft.j0 k l1 bt286.1 bt286.2 bt292.1 bt292.2 bt300.1 bt300.2 (bt292.2 != bt296.1)) else (laws_FnFormsLeft.j0 k l1 bt286.1 bt286.2 bt292.1 bt292.2 bt300.1 bt300.2 (bt292.2 != false))) else (laws_FnFormsLeft.j0 k l1 bt286.1 bt286.2 bt292.1 bt292.2 bt300.1 bt300.2 true))))) else (laws_FnFormsLeft.j0 k l1 bt286.1 bt286.2 bt292.1 bt292.2 bt300.1 bt300.2 true)))))))))))
theorem laws_FnFormsLeft.mono_l : ∀ k, (∀ y0 y1 y2 y3 y4 y5 y6 y7, LeO (laws_FnFormsLeft.j0 k y0 y1 y2 y3 y4 y5 y6 y7) (laws_FnFormsLeft.j0 (k + 1) y0 y1 y2 y3 y4 y5 y6 y7)) ∧ (∀ y0 y1 y2 y3, LeO (laws_FnFormsLeft.j8 k y0 y1 y2 y3) (laws_FnFormsLeft.j8 (k + 1) y0 y1 y2 y3)) ∧ (∀ y0, LeO (laws_FnFormsLeft.j10 k y0) (laws_FnFormsLeft.j10 (k + 1) y0)) ∧ (∀ y0 y1 y2 y3 y4 y5 y6 y7 y8 y9 y10, LeO (laws_FnFormsLeft.j11 k y0 y1 y2 y3 y4 y5 y6 y7 y8 y9 y10) (laws_FnFormsLeft.j11 (k + 1) y0 y1 y2 y3 y4 y5 y6 y7 y8 y9 y10)) ∧ (∀ y0 y1 y2 y3 y4 y5 y6 y7 y8 y9, LeO (laws_FnFormsLeft.j12 k y0 y1 y2 y3 y4 y5 y6 y7 y8 y9) (laws_FnFormsLeft.j12 (k + 1) y0 y1 y2 y3 y4 y5 y6 y7 y8 y9)) ∧ (∀ y0 y1 y2 y3 y4, LeO (laws_FnFormsLeft.j15 k y0 y1 y2 y3 y4) (laws_FnFormsLeft.j15 (k + 1) y0 y1 y2 y3 y4)) ∧ (∀ y0 y1 y2 y3 y4 y5 y6 y7, LeO (laws_FnFormsLeft.l4 k y0 y1 y2 y3 y4 y5 y6 y7) (laws_FnFormsLeft.l4 (k + 1) y0 y1 y2 y3 y4 y5 y6 y7)) ∧ (∀ y0 y1 y2, LeO (laws_FnFormsLeft.j17 k y0 y1 y2) (laws_FnFormsLeft.j17 (k + 1) y0 y1 y2)) ∧ (∀ y0 y1 y2 y3 y4, LeO (laws_FnFormsLeft.l5 k y0 y1 y2 y3 y4) (laws_FnFormsLeft.l5 (k + 1) y0 y1 y2 y3 y4)) ∧ (∀ y0 y1 y2 y3, LeO (laws_FnFormsLeft.l6 k y0 y1 y2 y3) (laws_FnFormsLeft.l6 (k + 1) y0 y1 y2 y3)) ∧ (∀ y0 y1 y2 y3 y4 y5 y6 y7, LeO (laws_FnFormsLeft.l7 k y0 y1 y2 y3 y4 y5 y6 y7) (laws_FnFormsLeft.l7 (k + 1) y0 y1 y2 y3 y4 y5 y6 y7)) ∧ (∀ y0 y1 y2 y3 y4 y5 y6 y7, LeO (laws_FnFormsLeft.l8 k y0 y1 y2 y3 y4 y5 y6 y7) (laws_FnFormsLeft.l8 (k + 1) y0 y1 y2 y3 y4 y5 y6 y7)) ∧ (∀ y0 y1 y2 y3 y4 y5 y6 y7 y8 y9 y10, LeO (laws_FnFormsLeft.l2 k y0 y1 y2 y3 y4 y5 y6 y7 y8 y9 y10) (laws_FnFormsLeft.l2 (k + 1) y0 y1 y2 y3 y4 y5 y6 y7 y8 y9 y10)) ∧ (∀ y0 y1 y2 y3 y4 y5 y6 y7 y8 y9 y10 y11 y12 y13 y14, LeO (laws_FnFormsLeft.l3 k y0 y1 y2 y3 y4 y5 y6 y7 y8 y9 y10 y11 y12 y13 y14) (laws_FnFormsLeft.l3 (k + 1) y0 y1 y2 y3 y4 y5 y6 y7 y8 y9 y10 y11 y12 y13 y14)) ∧ (∀ y0 y1 y2 y3 y4, LeO (laws_FnFormsLeft.l1 k y0 y1 y2 y3 y4) (laws_FnFormsLeft.l1 (k + 1) y0 y1 y2 y3 y4)) ∧ (∀ y0 y1 y2 y3 y4 y5 y6 y7 y8, LeO (laws_FnFormsLeft.l0 k y0 y1 y2 y3 y4 y5 y6 y7 y8) (laws_FnFormsLeft.l0 (k + 1) y0 y1 y2 y3 y4 y5 y6 y7 y8)) ∧ (∀ y0 y1 y2 y3 y4 y5 y6, LeO (laws_FnFormsLeft.j2 k y0 y1 y2 y3 y4 y5 y6) (laws_FnFormsLeft.j2 (k + 1) y0 y1 y2 y3 y4 y5 y6)) ∧ (∀ y0 y1 y2 y3 y4 y5, LeO (laws_FnFormsLeft.j6 k y0 y1 y2 y3 y4 y5) (laws_FnFormsLeft.j6 (k + 1) y0 y1 y2 y3 y4 y5)) ∧ (∀ y0 y1 y2 y3 y4 y5 y6, LeO (laws_FnFormsLeft.j7 k y0 y1 y2 y3 y4 y5 y6) (laws_FnFormsLeft.j7 (k + 1) y0 y1 y2 y3 y4 y5 y6)) ∧ (∀ y0 y1 y2 y3 y4 y5 y6, LeO (laws_FnFormsLeft.j3 k y0 y1 y2 y3 y4 y5 y6) (laws_FnFormsLeft.j3 (k + 1) y0 y1 y2 y3 y4 y5 y6)) ∧ (∀ y0 y1 y2 y3 y4 y5, LeO (laws_FnFormsLeft.j4 k y0 y1 y2 y3 y4 y5) (laws_FnFormsLeft.j4 (k + 1) y0 y1 y2 y3 y4 y5)) ∧ (∀ y0 y1 y2 y3 y4 y5 y6, LeO (laws_FnFormsLeft.j5 k y0 y1 y2 y3 y4 y5 y6) (laws_FnFormsLeft.j5 (k + 1) y0 y1 y2 y3 y4 y5 y6))
  | 0 => ⟨fun _ _ _ _ _ _ _ _ r h => by simp [laws_FnFormsLeft.j0] at h, fun _ _ _ _ r h => by simp [laws_FnFormsLeft.j8] at h, fun _ r h => by simp [laws_FnFormsLeft.j10] at h, fun _ _ _ _ _ _ _ _ _ _ _ r h => by simp [laws_FnFormsLeft.j11] at h, fun _ _ _ _ _ _ _ _ _ _ r h => by simp [laws_FnFormsLeft.j12] at h, fun _ _ _ _ _ r h => by simp [laws_FnFormsLeft.j15] at h, fun _ _ _ _ _ _ _ _ r h => by simp [laws_FnFormsLeft.l4] at h, fun _ _ _ r h => by simp [laws_FnFormsLeft.j17] at h, fun _ _ _ _ _ r h => by simp [laws_FnFormsLeft.l5] at h, fun _ _ _ _ r h => by simp [laws_FnFormsLeft.l6] at h, fun _ _ _ _ _ _ _ _ r h => by simp [laws_FnFormsLeft.l7] at h, fun _ _ _ _ _ _ _ _ r h => by simp [laws_FnFormsLeft.l8] at h, fun _ _ _ _ _ _ _ _ _ _ _ r h => by simp [laws_FnFormsLeft.l2] at h, fun _ _ _ _ _ _ _ _ _ _ _ _ _ _ _ r h => by simp [laws_FnFormsLeft.l3] at h, fun _ _ _ _ _ r h => by simp [laws_FnFormsLeft.l1] at h, fun _ _ _ _ _ _ _ _ _ r h => by simp [laws_FnFormsLeft.l0] at h, fun _ _ _ _ _ _ _ r h => by simp [laws_FnFormsLeft.j2] at h, fun _ _ _ _ _ _ r h => by simp [laws_FnFormsLeft.j6] at h, fun _ _ _ _ _ _ _ r h => by simp [laws_FnFormsLeft.j7] at h, fun _ _ _ _ _ _ _ r h => by simp [laws_FnFormsLeft.j3] at h, fun _ _ _ _ _ _ r h => by simp [laws_FnFormsLeft.j4] at h, fun _ _ _ _ _ _ _ r h => by simp [laws_FnFormsLeft.j5] at h⟩
  | k + 1 => by
    obtain ⟨ih0, ih1, ih2, ih3, ih4, ih5, ih6, ih7, ih8, ih9, ih10, ih11, ih12, ih13, ih14, ih15, ih16, ih17, ih18, ih19, ih20, ih21⟩ := laws_FnFormsLeft.mono_l k
    refine ⟨?_, ?_, ?_, ?_, ?_, ?_, ?_, ?_, ?_, ?_, ?_, ?_, ?_, ?_, ?_, ?_, ?_, ?_, ?_, ?_, ?_, ?_⟩
    all_goals intros
    all_goals first
      | unfold laws_FnFormsLeft.j0
      | unfold laws_FnFormsLeft.j8
      | unfold laws_FnFormsLeft.j10
      | unfold laws_FnFormsLeft.j11
      | unfold laws_FnFormsLeft.j12
      | unfold laws_FnFormsLeft.j15
      | unfold laws_FnFormsLeft.l4
      | unfold laws_FnFormsLeft.j17
      | unfold laws_FnFormsLeft.l5
      | unfold laws_FnFormsLeft.l6
      | unfold laws_FnFormsLeft.l7
      | unfold laws_FnFormsLeft.l8
      | unfold laws_FnFormsLeft.l2
      | unfold laws_FnFormsLeft.l3
      | unfold laws_FnFormsLeft.l1
      | unfold laws_FnFormsLeft.l0
      | unfold laws_FnFormsLeft.j2
      | unfold laws_FnFormsLeft.j6
      | unfold laws_FnFormsLeft.j7
      | unfold laws_FnFormsLeft.j3
      | unfold laws_FnFormsLeft.j4
      | unfold laws_FnFormsLeft.j5
    all_goals
      repeat' first
      | (with_reducible exact ih0 _ _ _ _ _ _ _ _)
      | (with_reducible exact ih1 _ _ _ _)
      | (with_reducible exact ih2 _)
      | (with_reducible exact ih3 _ _ _ _ _ _ _ _ _ _ _)
      | (with_reducible exact ih4 _ _ _ _ _ _ _ _ _ _)
      | (with_reducible exact ih5 _ _ _ _ _)
      | (with_reducible exact ih6 _ _ _ _ _ _ _ _)
      | (with_reducible exact ih7 _ _ _)
      | (with_reducible exact ih8 _ _ _ _ _)
      | (with_reducible exact ih9 _ _ _ _)
      | (with_reducible exact ih10 _ _ _ _ _ _ _ _)
      | (with_reducible exact ih11 _ _ _ _ _ _ _ _)
      | (with_reducible exact ih12 _ _ _ _ _ _ _ _ _ _ _)
      | (with_reducible exact ih13 _ _ _ _ _ _ _ _ _ _ _ _ _ _ _)
      | (with_reducible exact ih14 _ _ _ _ _)
      | (with_reducible exact ih15 _ _ _ _ _ _ _ _ _)
      | (with_reducible exact ih16 _ _ _ _ _ _ _)
      | (with_reducible exact ih17 _ _ _ _ _ _)
      | (with_reducible exact ih18 _ _ _ _ _ _ _)
      | (with_reducible exact ih19 _ _ _ _ _ _ _)
      | (with_reducible exact ih20 _ _ _ _ _ _)
      | (with_reducible exact ih21 _ _ _ _ _ _ _)
      | (with_reducible exact impl_CanBeLeft.mono _ _ _)
      | (with_reducible exact impl_CountWith.mono _ _ _ _)
      | (with_reducible exact impl_LeastWith.mono _ _ _)
      | (with_reducible exact impl_RemaindersOf.mono _ _ _)
      | (with_reducible exact impl_StepOf.mono _ _)
      | (with_reducible exact impl_TimesTurned.mono _ _ _)
      | (with_reducible exact impl_TurnFormation.mono _ _ _)
      | (with_reducible exact laws_mSame.mono _ _ _)
      | (with_reducible exact spec_CanBeLeft.mono _ _ _)
      | (with_reducible exact spec_CountWith.mono _ _ _ _)
      | (with_reducible exact spec_DrawCountWith.mono _ _)
      | (with_reducible exact spec_DrawLeastWith.mono _ _)
      | (with_reducible exact spec_DrawRemaindersOf.mono _ _)
      | (with_reducible exact spec_LeastWith.mono _ _ _)
      | (with_reducible exact spec_RemaindersOf.mono _ _ _)
      | (with_reducible exact spec_StepOf.mono _ _)
      | (with_reducible exact spec_TimesTurned.mono _ _ _)
      | (with_reducible exact spec_TurnFormation.mono _ _ _)
      | (with_reducible exact LeO.refl _)
      | (with_reducible exact LeO.none _)
      | (with_reducible refine LeO.ite ?_ ?_)
      | (with_reducible refine LeO.bind ?_ (fun _ => ?_))
      | exact ih0 _ _ _ _ _ _ _ _
      | exact ih1 _ _ _ _
      | exact ih2 _
      | exact ih3 _ _ _ _ _ _ _ _ _ _ _
      | exact ih4 _ _ _ _ _ _ _ _ _ _
      | exact ih5 _ _ _ _ _
      | exact ih6 _ _ _ _ _ _ _ _
      | exact ih7 _ _ _
      | exact ih8 _ _ _ _ _
      | exact ih9 _ _ _ _
      | exact ih10 _ _ _ _ _ _ _ _
      | exact ih11 _ _ _ _ _ _ _ _
      | exact ih12 _ _ _ _ _ _ _ _ _ _ _
      | exact ih13 _ _ _ _ _ _ _ _ _ _ _ _ _ _ _
      | exact ih14 _ _ _ _ _
      | exact ih15 _ _ _ _ _ _ _ _ _
      | exact ih16 _ _ _ _ _ _ _
      | exact ih17 _ _ _ _ _ _
      | exact ih18 _ _ _ _ _ _ _
      | exact ih19 _ _ _ _ _ _ _
      | exact ih20 _ _ _ _ _ _
      | exact ih21 _ _ _ _ _ _ _
      | exact impl_CanBeLeft.mono _ _ _
      | exact impl_CountWith.mono _ _ _ _
      | exact impl_LeastWith.mono _ _ _
      | exact impl_RemaindersOf.mono _ _ _
      | exact impl_StepOf.mono _ _
      | exact impl_TimesTurned.mono _ _ _
      | exact impl_TurnFormation.mono _ _ _
      | exact laws_mSame.mono _ _ _
      | exact spec_CanBeLeft.mono _ _ _
      | exact spec_CountWith.mono _ _ _ _
      | exact spec_DrawCountWith.mono _ _
      | exact spec_DrawLeastWith.mono _ _
      | exact spec_DrawRemaindersOf.mono _ _
      | exact spec_LeastWith.mono _ _ _
      | exact spec_RemaindersOf.mono _ _ _
      | exact spec_StepOf.mono _ _
      | exact spec_TimesTurned.mono _ _ _
      | exact spec_TurnFormation.mono _ _ _
      | exact LeO.none _
      | refine LeO.ite ?_ ?_
      | refine LeO.bind ?_ (fun _ => ?_)
theorem laws_FnFormsLeft.mono : ∀ a0 a1 k, LeO (laws_FnFormsLeft.f k a0 a1) (laws_FnFormsLeft.f (k + 1) a0 a1) := by
  intro a0 a1 k
  obtain ⟨ih0, ih1, ih2, ih3, ih4, ih5, ih6, ih7, ih8, ih9, ih10, ih11, ih12, ih13, ih14, ih15, ih16, ih17, ih18, ih19, ih20, ih21⟩ := laws_FnFormsLeft.mono_l k
  unfold laws_FnFormsLeft.f
  repeat' first
      | (with_reducible exact ih0 _ _ _ _ _ _ _ _)
      | (with_reducible exact ih1 _ _ _ _)
      | (with_reducible exact ih2 _)
      | (with_reducible exact ih3 _ _ _ _ _ _ _ _ _ _ _)
      | (with_reducible exact ih4 _ _ _ _ _ _ _ _ _ _)
      | (with_reducible exact ih5 _ _ _ _ _)
      | (with_reducible exact ih6 _ _ _ _ _ _ _ _)
      | (with_reducible exact ih7 _ _ _)
      | (with_reducible exact ih8 _ _ _ _ _)
      | (with_reducible exact ih9 _ _ _ _)
      | (with_reducible exact ih10 _ _ _ _ _ _ _ _)
      | (with_reducible exact ih11 _ _ _ _ _ _ _ _)
      | (with_reducible exact ih12 _ _ _ _ _ _ _ _ _ _ _)
      | (with_reducible exact ih13 _ _ _ _ _ _ _ _ _ _ _ _ _ _ _)
      | (with_reducible exact ih14 _ _ _ _ _)
      | (with_reducible exact ih15 _ _ _ _ _ _ _ _ _)
      | (with_reducible exact ih16 _ _ _ _ _ _ _)
      | (with_reducible exact ih17 _ _ _ _ _ _)
      | (with_reducible exact ih18 _ _ _ _ _ _ _)
      | (with_reducible exact ih19 _ _ _ _ _ _ _)
      | (with_reducible exact ih20 _ _ _ _ _ _)
      | (with_reducible exact ih21 _ _ _ _ _ _ _)
      | (with_reducible exact impl_CanBeLeft.mono _ _ _)
      | (with_reducible exact impl_CountWith.mono _ _ _ _)
      | (with_reducible exact impl_LeastWith.mono _ _ _)
      | (with_reducible exact impl_RemaindersOf.mono _ _ _)
      | (with_reducible exact impl_StepOf.mono _ _)
      | (with_reducible exact impl_TimesTurned.mono _ _ _)
      | (with_reducible exact impl_TurnFormation.mono _ _ _)
      | (with_reducible exact laws_mSame.mono _ _ _)
      | (with_reducible exact spec_CanBeLeft.mono _ _ _)
      | (with_reducible exact spec_CountWith.mono _ _ _ _)
      | (with_reducible exact spec_DrawCountWith.mono _ _)
      | (with_reducible exact spec_DrawLeastWith.mono _ _)
      | (with_reducible exact spec_DrawRemaindersOf.mono _ _)
      | (with_reducible exact spec_LeastWith.mono _ _ _)
      | (with_reducible exact spec_RemaindersOf.mono _ _ _)
      | (with_reducible exact spec_StepOf.mono _ _)
      | (with_reducible exact spec_TimesTurned.mono _ _ _)
      | (with_reducible exact spec_TurnFormation.mono _ _ _)
      | (with_reducible exact LeO.refl _)
      | (with_reducible exact LeO.none _)
      | (with_reducible refine LeO.ite ?_ ?_)
      | (with_reducible refine LeO.bind ?_ (fun _ => ?_))
      | exact ih0 _ _ _ _ _ _ _ _
      | exact ih1 _ _ _ _
      | exact ih2 _
      | exact ih3 _ _ _ _ _ _ _ _ _ _ _
      | exact ih4 _ _ _ _ _ _ _ _ _ _
      | exact ih5 _ _ _ _ _
      | exact ih6 _ _ _ _ _ _ _ _
      | exact ih7 _ _ _
      | exact ih8 _ _ _ _ _
      | exact ih9 _ _ _ _
      | exact ih10 _ _ _ _ _ _ _ _
      | exact ih11 _ _ _ _ _ _ _ _
      | exact ih12 _ _ _ _ _ _ _ _ _ _ _
      | exact ih13 _ _ _ _ _ _ _ _ _ _ _ _ _ _ _
      | exact ih14 _ _ _ _ _
      | exact ih15 _ _ _ _ _ _ _ _ _
      | exact ih16 _ _ _ _ _ _ _
      | exact ih17 _ _ _ _ _ _
      | exact ih18 _ _ _ _ _ _ _
      | exact ih19 _ _ _ _ _ _ _
      | exact ih20 _ _ _ _ _ _
      | exact ih21 _ _ _ _ _ _ _
      | exact impl_CanBeLeft.mono _ _ _
      | exact impl_CountWith.mono _ _ _ _
      | exact impl_LeastWith.mono _ _ _
      | exact impl_RemaindersOf.mono _ _ _
      | exact impl_StepOf.mono _ _
      | exact impl_TimesTurned.mono _ _ _
      | exact impl_TurnFormation.mono _ _ _
      | exact laws_mSame.mono _ _ _
      | exact spec_CanBeLeft.mono _ _ _
      | exact spec_CountWith.mono _ _ _ _
      | exact spec_DrawCountWith.mono _ _
      | exact spec_DrawLeastWith.mono _ _
      | exact spec_DrawRemaindersOf.mono _ _
      | exact spec_LeastWith.mono _ _ _
      | exact spec_RemaindersOf.mono _ _ _
      | exact spec_StepOf.mono _ _
      | exact spec_TimesTurned.mono _ _ _
      | exact spec_TurnFormation.mono _ _ _
      | exact LeO.none _
      | refine LeO.ite ?_ ?_
      | refine LeO.bind ?_ (fun _ => ?_)
theorem laws_FnFormsLeft.j0_no : ∀ (k : Nat) (x1 : List Int) (x5 : List Int) (x6 : List Int) (x7 : Int) (x8 : Bool) (x15 : Int) (x16 : Bool), laws_FnFormsLeft.j0 k x1 x5 x6 x7 x8 x15 x16 true = some true → False := by
  intro k x1 x5 x6 x7 x8 x15 x16
  cases k <;> simp [laws_FnFormsLeft.j0]
theorem laws_FnFormsLeft.j11_no : ∀ (k : Nat) (x31 : List Int) (x32 : List Int) (x33 : Int) (x34 : Int) (x35 : Bool) (x44 : Int) (x45 : Int) (x46 : List Int) (x47 : Bool) (x50 : Int), laws_FnFormsLeft.j11 k x31 x32 x33 x34 x35 x44 x45 x46 x47 x50 true = some true → False := by
  intro k x31 x32 x33 x34 x35 x44 x45 x46 x47 x50
  cases k <;> simp [laws_FnFormsLeft.j11]
theorem laws_FnFormsLeft.j17_no : ∀ (k : Nat) (x46 : List Int) (x50 : Int), laws_FnFormsLeft.j17 k x46 x50 true = some true → False := by
  intro k x46 x50
  cases k <;> simp [laws_FnFormsLeft.j17]
theorem laws_FnFormsLeft.j2_no : ∀ (k : Nat) (x1 : List Int) (x5 : List Int) (x6 : List Int) (x7 : Int) (x15 : Int) (x16 : Bool), laws_FnFormsLeft.j2 k x1 x5 x6 x7 x15 x16 true = some true → False := by
  intro k x1 x5 x6 x7 x15 x16
  cases k <;> simp [laws_FnFormsLeft.j2]
theorem laws_FnFormsLeft.j3_no : ∀ (k : Nat) (x1 : List Int) (x5 : List Int) (x6 : List Int) (x7 : Int) (x15 : Int) (x16 : Bool), laws_FnFormsLeft.j3 k x1 x5 x6 x7 x15 x16 true = some true → False := by
  intro k x1 x5 x6 x7 x15 x16
  cases k <;> simp [laws_FnFormsLeft.j3]
end Go.Proofs.Yteekggogodjffaa.PFnFormsLeft
