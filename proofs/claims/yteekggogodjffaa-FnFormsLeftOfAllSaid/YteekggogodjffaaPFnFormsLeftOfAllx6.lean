-- Written by a program of this session's (pg.py) over the kit's print.
import Derived.Test.YteekggogodjffaaPFnFormsLeftOfAllx0
import Derived.Test.YteekggogodjffaaPFnFormsLeftOfAllx1
import Derived.Test.YteekggogodjffaaPFnFormsLeftOfAllx3
import Derived.Test.YteekggogodjffaaPFnFormsLeftOfAllx4
import Derived.Test.YteekggogodjffaaPFnFormsLeftOfAllx5
namespace Go.Proofs.Yteekggogodjffaa.PFnFormsLeftOfAll
open Go.RowKit Go.Proofs.YteekggogodjffaaW.PrintWords Go.Proofs.YteekggogodjffaaW.PrintLast Go.Proofs.YteekggogodjffaaW.PrintMore
attribute [local go_sem] max2_int min2_int max_two min_two max_three min_three max_four min_four   -- for this text's walks alone
set_option linter.unusedVariables false
set_option linter.unusedSimpArgs false

/-! ### laws_FnFormsLeftOfAll: function 4 -/
mutual
def laws_FnFormsLeftOfAll.j0 : Nat → List Int → List Int → List Int → List Int → Int → Int → List Int → Int → Int → Bool → Option (Bool)
  | 0, _, _, _, _, _, _, _, _, _, _ => none
  | k + 1, x0, x1, x2, x3, x4, x5, x6, x7, x8, x98 => if x98 = true then (some true) else ((impl_LeastWith.f k x0 x1).bind fun bt215 => ((spec_LeastWith.f k x0 x1).bind fun bt217 => ((impl_CanBeLeft.f k x0 x1).bind fun bt219 => ((spec_CanBeLeft.f k x0 x1).bind fun bt221 => ((impl_StepOf.f k x0).bind fun bt223 => ((spec_StepOf.f k x0).bind fun bt225 => (if (bt215.2 != bt217.2) = true then (laws_FnFormsLeftOfAll.j1 k x0 x1 x2 x3 x4 x5 x6 x7 x8 bt215.1 bt215.2 bt223.1 bt223.2 true) else (if bt215.1 = bt217.1 then (if (bt219.2 != bt221.2) = true then (laws_FnFormsLeftOfAll.j1 k x0 x1 x2 x3 x4 x5 x6 x7 x8 bt215.1 bt215.2 bt223.1 bt223.2 true) else (if (bt219.1 != bt221.1) = true then (laws_FnFormsLeftOfAll.j1 k x0 x1 x2 x3 x4 x5 x6 x7 x8 bt215.1 bt215.2 bt223.1 bt223.2 true) else (if (bt223.2 != bt225.2) = true then (laws_FnFormsLeftOfAll.j1 k x0 x1 x2 x3 x4 x5 x6 x7 x8 bt215.1 bt215.2 bt223.1 bt223.2 true) else (if bt223.1 = bt225.1 then (if bt219.2 = true then (laws_FnFormsLeftOfAll.j1 k x0 x1 x2 x3 x4 x5 x6 x7 x8 bt215.1 bt215.2 bt223.1 bt223.2 (bt215.2 != bt219.1)) else (laws_FnFormsLeftOfAll.j1 k x0 x1 x2 x3 x4 x5 x6 x7 x8 bt215.1 bt215.2 bt223.1 bt223.2 (bt215.2 != false))) else (laws_FnFormsLeftOfAll.j1 k x0 x1 x2 x3 x4 x5 x6 x7 x8 bt215.1 bt215.2 bt223.1 bt223.2 true))))) else (laws_FnFormsLeftOfAll.j1 k x0 x1 x2 x3 x4 x5 x6 x7 x8 bt215.1 bt215.2 bt223.1 bt223.2 true)))))))))
def laws_FnFormsLeftOfAll.j1 : Nat → List Int → List Int → List Int → List Int → Int → Int → List Int → Int → Int → Int → Bool → Int → Bool → Bool → Option (Bool)
  | 0, _, _, _, _, _, _, _, _, _, _, _, _, _, _ => none
  | k + 1, x0, x1, x2, x3, x4, x5, x6, x7, x8, x19, x20, x27, x28, x168 => if x168 = true then (some false) else (if x20 = true then (laws_FnFormsLeftOfAll.l0 k x0 x1 x2 x3 x4 x5 x6 x7 x8 x19 x27 x28 x0 (x0.length : Int) 0) else (laws_FnFormsLeftOfAll.j9 k x0 x2 x3 x4 x5 x6 x7 x8 x27 x28))
def laws_FnFormsLeftOfAll.j9 : Nat → List Int → List Int → List Int → Int → Int → List Int → Int → Int → Int → Bool → Option (Bool)
  | 0, _, _, _, _, _, _, _, _, _, _ => none
  | k + 1, x0, x2, x3, x4, x5, x6, x7, x8, x27, x28 => if x28 = true then (laws_FnFormsLeftOfAll.l1 k x2 x3 x4 x5 x6 x7 x8 x27 x0 (x0.length : Int) 0) else (laws_FnFormsLeftOfAll.j11 k x2 x3 x4 x5 x6 x7 x8)
def laws_FnFormsLeftOfAll.j11 : Nat → List Int → List Int → Int → Int → List Int → Int → Int → Option (Bool)
  | 0, _, _, _, _, _, _, _ => none
  | k + 1, x2, x3, x4, x5, x6, x7, x8 => (impl_CountWith.f k x2 x3 x4).bind fun bt241 => ((spec_CountWith.f k x2 x3 x4).bind fun bt243 => ((impl_RemaindersOf.f k x5 x6).bind fun bt245 => ((spec_RemaindersOf.f k x5 x6).bind fun bt249 => ((impl_TurnFormation.f k x7 x8).bind fun bt253 => ((spec_TurnFormation.f k x7 x8).bind fun bt257 => ((impl_TimesTurned.f k x7 x8).bind fun bt261 => ((spec_TimesTurned.f k x7 x8).bind fun bt263 => (if (bt241.2 != bt243.2) = true then (laws_FnFormsLeftOfAll.j12 k x2 x3 x4 x7 x8 bt241.1 bt241.2 bt253.1 bt253.2 bt261.1 true) else (if bt241.1 = bt243.1 then (if (bt245.2 != bt249.2) = true then (laws_FnFormsLeftOfAll.j12 k x2 x3 x4 x7 x8 bt241.1 bt241.2 bt253.1 bt253.2 bt261.1 true) else ((laws_mSame.f k bt245.1 bt249.1).bind fun t265 => (if t265 = true then (if (bt253.2 != bt257.2) = true then (laws_FnFormsLeftOfAll.j12 k x2 x3 x4 x7 x8 bt241.1 bt241.2 bt253.1 bt253.2 bt261.1 true) else ((laws_mSame.f k bt253.1 bt257.1).bind fun t266 => (if t266 = true then (if (bt261.2 != bt263.2) = true then (laws_FnFormsLeftOfAll.j12 k x2 x3 x4 x7 x8 bt241.1 bt241.2 bt253.1 bt253.2 bt261.1 true) else (if bt261.1 = bt263.1 then (laws_FnFormsLeftOfAll.j12 k x2 x3 x4 x7 x8 bt241.1 bt241.2 bt253.1 bt253.2 bt261.1 (bt261.2 != bt253.2)) else (laws_FnFormsLeftOfAll.j12 k x2 x3 x4 x7 x8 bt241.1 bt241.2 bt253.1 bt253.2 bt261.1 true))) else (laws_FnFormsLeftOfAll.j12 k x2 x3 x4 x7 x8 bt241.1 bt241.2 bt253.1 bt253.2 bt261.1 true)))) else (laws_FnFormsLeftOfAll.j12 k x2 x3 x4 x7 x8 bt241.1 bt241.2 bt253.1 bt253.2 bt261.1 true)))) else (laws_FnFormsLeftOfAll.j12 k x2 x3 x4 x7 x8 bt241.1 bt241.2 bt253.1 bt253.2 bt261.1 true))))))))))
def laws_FnFormsLeftOfAll.j12 : Nat → List Int → List Int → Int → Int → Int → Int → Bool → List Int → Bool → Int → Bool → Option (Bool)
  | 0, _, _, _, _, _, _, _, _, _, _, _ => none
  | k + 1, x2, x3, x4, x7, x8, x43, x44, x51, x52, x55, x375 => if x375 = true then (some false) else (if x44 = true then (laws_FnFormsLeftOfAll.j13 k x2 x3 x4 x7 x8 x43 x51 x52 x55 (decide (x4 ≤ 1000))) else (laws_FnFormsLeftOfAll.j13 k x2 x3 x4 x7 x8 x43 x51 x52 x55 false))
def laws_FnFormsLeftOfAll.j13 : Nat → List Int → List Int → Int → Int → Int → Int → List Int → Bool → Int → Bool → Option (Bool)
  | 0, _, _, _, _, _, _, _, _, _, _ => none
  | k + 1, x2, x3, x4, x7, x8, x43, x51, x52, x55, x380 => if x380 = true then (laws_FnFormsLeftOfAll.l2 k x2 x3 x4 x7 x8 x43 x51 x52 x55 0 0) else (laws_FnFormsLeftOfAll.j16 k x7 x8 x51 x52 x55)
def laws_FnFormsLeftOfAll.j16 : Nat → Int → Int → List Int → Bool → Int → Option (Bool)
  | 0, _, _, _, _, _ => none
  | k + 1, x7, x8, x51, x52, x55 => if x52 = true then (if 0 ≤ (wrap64 (x7 * x8)) then (if (wrap64 (x7 * x8) : Int).toNat ≤ 281474976710656 then (laws_FnFormsLeftOfAll.l4 k x7 x8 x51 x55 (List.replicate (wrap64 (x7 * x8) : Int).toNat false) x51 (x51.length : Int) 0) else (none)) else (none)) else (some true)
def laws_FnFormsLeftOfAll.l4 : Nat → Int → Int → List Int → Int → List Bool → List Int → Int → Int → Option (Bool)
  | 0, _, _, _, _, _, _, _, _ => none
  | k + 1, x7, x8, x51, x55, x64, x416, x417, x418 => if x418 < x417 then (if 0 ≤ x418 then (if x418 < (x416.length : Int) then (if (rd x416 x418) < 0 then (some false) else (if (rd x416 x418) ≥ (x64.length : Int) then (some false) else (if 0 ≤ (rd x416 x418) then (if (rd x416 x418) < (x64.length : Int) then (if rdOf false x64 (rd x416 x418) = true then (some false) else (if x8 = 0 then (none) else (if x7 = 0 then (none) else (if (Int.tmod (rd x416 x418) x8) = (wrap64 (Int.tdiv x418 x7)) then (if (wrap64 (Int.tdiv (rd x416 x418) x8)) = (wrap64 ((wrap64 (x7 - 1)) - (Int.tmod x418 x7))) then (laws_FnFormsLeftOfAll.l4 k x7 x8 x51 x55 (x64.set ((rd x416 x418) : Int).toNat true) x416 x417 (wrap64 (x418 + 1))) else (some false)) else (some false))))) else (none)) else (none)))) else (none)) else (none)) else (if (x51.length : Int) = (x64.length : Int) then (if x55 < 1 then (laws_FnFormsLeftOfAll.j18 k x51 x55 true) else (if x7 = 1 then (laws_FnFormsLeftOfAll.j18 k x51 x55 (x55 != 1)) else (laws_FnFormsLeftOfAll.j18 k x51 x55 false))) else (laws_FnFormsLeftOfAll.j18 k x51 x55 true))
def laws_FnFormsLeftOfAll.j18 : Nat → List Int → Int → Bool → Option (Bool)
  | 0, _, _, _ => none
  | k + 1, x51, x55, x478 => if x478 = true then (some false) else (if x55 ≤ 60 then (if 0 ≤ (x51.length : Int) then (if ((x51.length : Int) : Int).toNat ≤ 35184372088832 then ((some (List.replicate ((x51.length : Int) : Int).toNat 0 : List Int)).bind fun y275 => (laws_FnFormsLeftOfAll.l5 k x51 x55 y275 (y275.length : Int) 0)) else (none)) else (none)) else (some true))
def laws_FnFormsLeftOfAll.l5 : Nat → List Int → Int → List Int → Int → Int → Option (Bool)
  | 0, _, _, _, _, _ => none
  | k + 1, x51, x55, x67, x485, x486 => if x486 < x485 then (if 0 ≤ x486 then (if x486 < (x67.length : Int) then (laws_FnFormsLeftOfAll.l5 k x51 x55 (x67.set (x486 : Int).toNat x486) x485 (wrap64 (x486 + 1))) else (none)) else (none)) else (laws_FnFormsLeftOfAll.l6 k x51 x55 x67 1)
def laws_FnFormsLeftOfAll.l6 : Nat → List Int → Int → List Int → Int → Option (Bool)
  | 0, _, _, _, _ => none
  | k + 1, x51, x55, x67, x69 => if x69 ≤ x55 then (if 0 ≤ (x67.length : Int) then (if ((x67.length : Int) : Int).toNat ≤ 35184372088832 then (laws_FnFormsLeftOfAll.l7 k x51 x55 x67 x69 (List.replicate ((x67.length : Int) : Int).toNat 0) x51 (x51.length : Int) 0) else (none)) else (none)) else (some true)
def laws_FnFormsLeftOfAll.l7 : Nat → List Int → Int → List Int → Int → List Int → List Int → Int → Int → Option (Bool)
  | 0, _, _, _, _, _, _, _, _ => none
  | k + 1, x51, x55, x67, x69, x70, x502, x503, x504 => if x504 < x503 then (if 0 ≤ x504 then (if x504 < (x502.length : Int) then (if 0 ≤ (rd x502 x504) then (if (rd x502 x504) < (x67.length : Int) then (if x504 < (x70.length : Int) then (laws_FnFormsLeftOfAll.l7 k x51 x55 x67 x69 (x70.set (x504 : Int).toNat (rd x67 (rd x502 x504))) x502 x503 (wrap64 (x504 + 1))) else (none)) else (none)) else (none)) else (none)) else (none)) else (laws_FnFormsLeftOfAll.l8 k x51 x55 x70 x69 true x70 (x70.length : Int) 0)
def laws_FnFormsLeftOfAll.l8 : Nat → List Int → Int → List Int → Int → Bool → List Int → Int → Int → Option (Bool)
  | 0, _, _, _, _, _, _, _, _ => none
  | k + 1, x51, x55, x67, x69, x73, x518, x519, x520 => if x520 < x519 then (if 0 ≤ x520 then (if x520 < (x518.length : Int) then (if x73 = true then (laws_FnFormsLeftOfAll.l8 k x51 x55 x67 x69 (x520 == (rd x518 x520)) x518 x519 (wrap64 (x520 + 1))) else (laws_FnFormsLeftOfAll.l8 k x51 x55 x67 x69 false x518 x519 (wrap64 (x520 + 1)))) else (none)) else (none)) else (if (x73 != (x69 == x55)) = true then (some false) else (laws_FnFormsLeftOfAll.l6 k x51 x55 x67 (wrap64 (x69 + 1))))
def laws_FnFormsLeftOfAll.l2 : Nat → List Int → List Int → Int → Int → Int → Int → List Int → Bool → Int → Int → Int → Option (Bool)
  | 0, _, _, _, _, _, _, _, _, _, _, _ => none
  | k + 1, x2, x3, x4, x7, x8, x43, x51, x52, x55, x59, x60 => if x60 ≤ x4 then (laws_FnFormsLeftOfAll.l3 k x2 x3 x4 x7 x8 x43 x51 x52 x55 x59 x60 true x2 (x2.length : Int) 0) else (if x59 = x43 then (laws_FnFormsLeftOfAll.j16 k x7 x8 x51 x52 x55) else (some false))
def laws_FnFormsLeftOfAll.l3 : Nat → List Int → List Int → Int → Int → Int → Int → List Int → Bool → Int → Int → Int → Bool → List Int → Int → Int → Option (Bool)
  | 0, _, _, _, _, _, _, _, _, _, _, _, _, _, _, _ => none
  | k + 1, x2, x3, x4, x7, x8, x43, x51, x52, x55, x59, x60, x61, x386, x387, x388 => if x388 < x387 then (if 0 ≤ x388 then (if x388 < (x386.length : Int) then (if x61 = true then (if (rd x386 x388) = 0 then (none) else (if x388 < (x3.length : Int) then (laws_FnFormsLeftOfAll.l3 k x2 x3 x4 x7 x8 x43 x51 x52 x55 x59 x60 ((Int.tmod x60 (rd x386 x388)) == (rd x3 x388)) x386 x387 (wrap64 (x388 + 1))) else (none))) else (laws_FnFormsLeftOfAll.l3 k x2 x3 x4 x7 x8 x43 x51 x52 x55 x59 x60 false x386 x387 (wrap64 (x388 + 1)))) else (none)) else (none)) else (if x61 = true then (laws_FnFormsLeftOfAll.l2 k x2 x3 x4 x7 x8 x43 x51 x52 x55 (wrap64 (x59 + 1)) (wrap64 (x60 + 1))) else (laws_FnFormsLeftOfAll.l2 k x2 x3 x4 x7 x8 x43 x51 x52 x55 x59 (wrap64 (x60 + 1))))
def laws_FnFormsLeftOfAll.l1 : Nat → List Int → List Int → Int → Int → List Int → Int → Int → Int → List Int → Int → Int → Option (Bool)
  | 0, _, _, _, _, _, _, _, _, _, _, _ => none
  | k + 1, x2, x3, x4, x5, x6, x7, x8, x27, x270, x271, x272 => if x272 < x271 then (if 0 ≤ x272 then (if x272 < (x270.length : Int) then (if (rd x270 x272) = 0 then (none) else (if (Int.tmod x27 (rd x270 x272)) = 0 then (laws_FnFormsLeftOfAll.l1 k x2 x3 x4 x5 x6 x7 x8 x27 x270 x271 (wrap64 (x272 + 1))) else (some false))) else (none)) else (none)) else (laws_FnFormsLeftOfAll.j11 k x2 x3 x4 x5 x6 x7 x8)
def laws_FnFormsLeftOfAll.l0 : Nat → List Int → List Int → List Int → List Int → Int → Int → List Int → Int → Int → Int → Int → Bool → List Int → Int → Int → Option (Bool)
  | 0, _, _, _, _, _, _, _, _, _, _, _, _, _, _, _ => none
  | k + 1, x0, x1, x2, x3, x4, x5, x6, x7, x8, x19, x27, x28, x170, x171, x172 => if x172 < x171 then (if 0 ≤ x172 then (if x172 < (x170.length : Int) then (if (rd x170 x172) = 0 then (none) else (if x172 < (x1.length : Int) then (if (Int.tmod x19 (rd x170 x172)) = (rd x1 x172) then (laws_FnFormsLeftOfAll.l0 k x0 x1 x2 x3 x4 x5 x6 x7 x8 x19 x27 x28 x170 x171 (wrap64 (x172 + 1))) else (some false)) else (none))) else (none)) else (none)) else (if x19 < 0 then (laws_FnFormsLeftOfAll.j3 k x0 x1 x2 x3 x4 x5 x6 x7 x8 x19 x27 x28 true) else (if x28 = true then (laws_FnFormsLeftOfAll.j3 k x0 x1 x2 x3 x4 x5 x6 x7 x8 x19 x27 x28 (decide (x19 ≥ x27))) else (laws_FnFormsLeftOfAll.j3 k x0 x1 x2 x3 x4 x5 x6 x7 x8 x19 x27 x28 false)))
def laws_FnFormsLeftOfAll.j3 : Nat → List Int → List Int → List Int → List Int → Int → Int → List Int → Int → Int → Int → Int → Bool → Bool → Option (Bool)
  | 0, _, _, _, _, _, _, _, _, _, _, _, _, _ => none
  | k + 1, x0, x1, x2, x3, x4, x5, x6, x7, x8, x19, x27, x28, x195 => if x195 = true then (some false) else (if x19 ≤ 1000000000 then ((impl_CountWith.f k x0 x1 x19).bind fun bt229 => (if bt229.2 = true then (laws_FnFormsLeftOfAll.j4 k x0 x1 x2 x3 x4 x5 x6 x7 x8 x19 x27 x28 (bt229.1 != 1)) else (laws_FnFormsLeftOfAll.j4 k x0 x1 x2 x3 x4 x5 x6 x7 x8 x19 x27 x28 true))) else (laws_FnFormsLeftOfAll.j7 k x0 x1 x2 x3 x4 x5 x6 x7 x8 x19 x27 x28))
def laws_FnFormsLeftOfAll.j7 : Nat → List Int → List Int → List Int → List Int → Int → Int → List Int → Int → Int → Int → Int → Bool → Option (Bool)
  | 0, _, _, _, _, _, _, _, _, _, _, _, _ => none
  | k + 1, x0, x1, x2, x3, x4, x5, x6, x7, x8, x19, x27, x28 => if x19 ≥ 1 then (laws_FnFormsLeftOfAll.j8 k x0 x1 x2 x3 x4 x5 x6 x7 x8 x19 x27 x28 (decide (x19 ≤ 1000000))) else (laws_FnFormsLeftOfAll.j8 k x0 x1 x2 x3 x4 x5 x6 x7 x8 x19 x27 x28 false)
def laws_FnFormsLeftOfAll.j8 : Nat → List Int → List Int → List Int → List Int → Int → Int → List Int → Int → Int → Int → Int → Bool → Bool → Option (Bool)
  | 0, _, _, _, _, _, _, _, _, _, _, _, _, _ => none
  | k + 1, x0, x1, x2, x3, x4, x5, x6, x7, x8, x19, x27, x28, x254 => if x254 = true then ((impl_RemaindersOf.f k x19 x0).bind fun bt235 => (if bt235.2 = true then ((laws_mSame.f k bt235.1 x1).bind fun t239 => (if t239 = true then (laws_FnFormsLeftOfAll.j9 k x0 x2 x3 x4 x5 x6 x7 x8 x27 x28) else (some false))) else (some false))) else (laws_FnFormsLeftOfAll.j9 k x0 x2 x3 x4 x5 x6 x7 x8 x27 x28)
def laws_FnFormsLeftOfAll.j4 : Nat → List Int → List Int → List Int → List Int → Int → Int → List Int → Int → Int → Int → Int → Bool → Bool → Option (Bool)
  | 0, _, _, _, _, _, _, _, _, _, _, _, _, _ => none
  | k + 1, x0, x1, x2, x3, x4, x5, x6, x7, x8, x19, x27, x28, x210 => if x210 = true then (some false) else (if x19 > 0 then ((impl_CountWith.f k x0 x1 (wrap64 (x19 - 1))).bind fun bt231 => (if bt231.2 = true then (if bt231.1 = 0 then (laws_FnFormsLeftOfAll.j5 k x0 x1 x2 x3 x4 x5 x6 x7 x8 x19 x27 x28) else (some false)) else (some false))) else (laws_FnFormsLeftOfAll.j5 k x0 x1 x2 x3 x4 x5 x6 x7 x8 x19 x27 x28))
def laws_FnFormsLeftOfAll.j5 : Nat → List Int → List Int → List Int → List Int → Int → Int → List Int → Int → Int → Int → Int → Bool → Option (Bool)
  | 0, _, _, _, _, _, _, _, _, _, _, _, _ => none
  | k + 1, x0, x1, x2, x3, x4, x5, x6, x7, x8, x19, x27, x28 => if x28 = true then (laws_FnFormsLeftOfAll.j6 k x0 x1 x2 x3 x4 x5 x6 x7 x8 x19 x27 x28 (decide ((wrap64 (x19 + x27)) ≤ 1000000000))) else (laws_FnFormsLeftOfAll.j6 k x0 x1 x2 x3 x4 x5 x6 x7 x8 x19 x27 x28 false)
def laws_FnFormsLeftOfAll.j6 : Nat → List Int → List Int → List Int → List Int → Int → Int → List Int → Int → Int → Int → Int → Bool → Bool → Option (Bool)
  | 0, _, _, _, _, _, _, _, _, _, _, _, _, _ => none
  | k + 1, x0, x1, x2, x3, x4, x5, x6, x7, x8, x19, x27, x28, x233 => if x233 = true then ((impl_CountWith.f k x0 x1 (wrap64 (x19 + x27))).bind fun bt233 => (if bt233.2 = true then (if bt233.1 = 2 then (laws_FnFormsLeftOfAll.j7 k x0 x1 x2 x3 x4 x5 x6 x7 x8 x19 x27 x28) else (some false)) else (some false))) else (laws_FnFormsLeftOfAll.j7 k x0 x1 x2 x3 x4 x5 x6 x7 x8 x19 x27 x28)
end
def laws_FnFormsLeftOfAll.f (k : Nat) (l0 : List Int) (l1 : List Int) (l2 : List Int) (l3 : List Int) (a4 : Int) (a5 : Int) (l6 : List Int) (a7 : Int) (a8 : Int) : Option (Bool) := if (l0.length : Int) > 10000 then (laws_FnFormsLeftOfAll.j0 k l0 l1 l2 l3 a4 a5 l6 a7 a8 true) else (if (l1.length : Int) > 10000 then (laws_FnFormsLeftOfAll.j0 k l0 l1 l2 l3 a4 a5 l6 a7 a8 true) else (if (l2.length : Int) > 10000 then (laws_FnFormsLeftOfAll.j0 k l0 l1 l2 l3 a4 a5 l6 a7 a8 true) else (if (l3.length : Int) > 10000 then (laws_FnFormsLeftOfAll.j0 k l0 l1 l2 l3 a4 a5 l6 a7 a8 true) else (laws_FnFormsLeftOfAll.j0 k l0 l1 l2 l3 a4 a5 l6 a7 a8 (decide ((l6.length : Int) > 10000))))))
theorem laws_FnFormsLeftOfAll.mono_l : ∀ k, (∀ y0 y1 y2 y3 y4 y5 y6 y7 y8 y9, LeO (laws_FnFormsLeftOfAll.j0 k y0 y1 y2 y3 y4 y5 y6 y7 y8 y9) (laws_FnFormsLeftOfAll.j0 (k + 1) y0 y1 y2 y3 y4 y5 y6 y7 y8 y9)) ∧ (∀ y0 y1 y2 y3 y4 y5 y6 y7 y8 y9 y10 y11 y12 y13, LeO (laws_FnFormsLeftOfAll.j1 k y0 y1 y2 y3 y4 y5 y6 y7 y8 y9 y10 y11 y12 y13) (laws_FnFormsLeftOfAll.j1 (k + 1) y0 y1 y2 y3 y4 y5 y6 y7 y8 y9 y10 y11 y12 y13)) ∧ (∀ y0 y1 y2 y3 y4 y5 y6 y7 y8 y9, LeO (laws_FnFormsLeftOfAll.j9 k y0 y1 y2 y3 y4 y5 y6 y7 y8 y9) (laws_FnFormsLeftOfAll.j9 (k + 1) y0 y1 y2 y3 y4 y5 y6 y7 y8 y9)) ∧ (∀ y0 y1 y2 y3 y4 y5 y6, LeO (laws_FnFormsLeftOfAll.j11 k y0 y1 y2 y3 y4 y5 y6) (laws_FnFormsLeftOfAll.j11 (k + 1) y0 y1 y2 y3 y4 y5 y6)) ∧ (∀ y0 y1 y2 y3 y4 y5 y6 y7 y8 y9 y10, LeO (laws_FnFormsLeftOfAll.j12 k y0 y1 y2 y3 y4 y5 y6 y7 y8 y9 y10) (laws_FnFormsLeftOfAll.j12 (k + 1) y0 y1 y2 y3 y4 y5 y6 y7 y8 y9 y10)) ∧ (∀ y0 y1 y2 y3 y4 y5 y6 y7 y8 y9, LeO (laws_FnFormsLeftOfAll.j13 k y0 y1 y2 y3 y4 y5 y6 y7 y8 y9) (laws_FnFormsLeftOfAll.j13 (k + 1) y0 y1 y2 y3 y4 y5 y6 y7 y8 y9)) ∧ (∀ y0 y1 y2 y3 y4, LeO (laws_FnFormsLeftOfAll.j16 k y0 y1 y2 y3 y4) (laws_FnFormsLeftOfAll.j16 (k + 1) y0 y1 y2 y3 y4)) ∧ (∀ y0 y1 y2 y3 y4 y5 y6 y7, LeO (laws_FnFormsLeftOfAll.l4 k y0 y1 y2 y3 y4 y5 y6 y7) (laws_FnFormsLeftOfAll.l4 (k + 1) y0 y1 y2 y3 y4 y5 y6 y7)) ∧ (∀ y0 y1 y2, LeO (laws_FnFormsLeftOfAll.j18 k y0 y1 y2) (laws_FnFormsLeftOfAll.j18 (k + 1) y0 y1 y2)) ∧ (∀ y0 y1 y2 y3 y4, LeO (laws_FnFormsLeftOfAll.l5 k y0 y1 y2 y3 y4) (laws_FnFormsLeftOfAll.l5 (k + 1) y0 y1 y2 y3 y4)) ∧ (∀ y0 y1 y2 y3, LeO (laws_FnFormsLeftOfAll.l6 k y0 y1 y2 y3) (laws_FnFormsLeftOfAll.l6 (k + 1) y0 y1 y2 y3)) ∧ (∀ y0 y1 y2 y3 y4 y5 y6 y7, LeO (laws_FnFormsLeftOfAll.l7 k y0 y1 y2 y3 y4 y5 y6 y7) (laws_FnFormsLeftOfAll.l7 (k + 1) y0 y1 y2 y3 y4 y5 y6 y7)) ∧ (∀ y0 y1 y2 y3 y4 y5 y6 y7, LeO (laws_FnFormsLeftOfAll.l8 k y0 y1 y2 y3 y4 y5 y6 y7) (laws_FnFormsLeftOfAll.l8 (k + 1) y0 y1 y2 y3 y4 y5 y6 y7)) ∧ (∀ y0 y1 y2 y3 y4 y5 y6 y7 y8 y9 y10, LeO (laws_FnFormsLeftOfAll.l2 k y0 y1 y2 y3 y4 y5 y6 y7 y8 y9 y10) (laws_FnFormsLeftOfAll.l2 (k + 1) y0 y1 y2 y3 y4 y5 y6 y7 y8 y9 y10)) ∧ (∀ y0 y1 y2 y3 y4 y5 y6 y7 y8 y9 y10 y11 y12 y13 y14, LeO (laws_FnFormsLeftOfAll.l3 k y0 y1 y2 y3 y4 y5 y6 y7 y8 y9 y10 y11 y12 y13 y14) (laws_FnFormsLeftOfAll.l3 (k + 1) y0 y1 y2 y3 y4 y5 y6 y7 y8 y9 y10 y11 y12 y13 y14)) ∧ (∀ y0 y1 y2 y3 y4 y5 y6 y7 y8 y9 y10, LeO (laws_FnFormsLeftOfAll.l1 k y0 y1 y2 y3 y4 y5 y6 y7 y8 y9 y10) (laws_FnFormsLeftOfAll.l1 (k + 1) y0 y1 y2 y3 y4 y5 y6 y7 y8 y9 y10)) ∧ (∀ y0 y1 y2 y3 y4 y5 y6 y7 y8 y9 y10 y11 y12 y13 y14, LeO (laws_FnFormsLeftOfAll.l0 k y0 y1 y2 y3 y4 y5 y6 y7 y8 y9 y10 y11 y12 y13 y14) (laws_FnFormsLeftOfAll.l0 (k + 1) y0 y1 y2 y3 y4 y5 y6 y7 y8 y9 y10 y11 y12 y13 y14)) ∧ (∀ y0 y1 y2 y3 y4 y5 y6 y7 y8 y9 y10 y11 y12, LeO (laws_FnFormsLeftOfAll.j3 k y0 y1 y2 y3 y4 y5 y6 y7 y8 y9 y10 y11 y12) (laws_FnFormsLeftOfAll.j3 (k + 1) y0 y1 y2 y3 y4 y5 y6 y7 y8 y9 y10 y11 y12)) ∧ (∀ y0 y1 y2 y3 y4 y5 y6 y7 y8 y9 y10 y11, LeO (laws_FnFormsLeftOfAll.j7 k y0 y1 y2 y3 y4 y5 y6 y7 y8 y9 y10 y11) (laws_FnFormsLeftOfAll.j7 (k + 1) y0 y1 y2 y3 y4 y5 y6 y7 y8 y9 y10 y11)) ∧ (∀ y0 y1 y2 y3 y4 y5 y6 y7 y8 y9 y10 y11 y12, LeO (laws_FnFormsLeftOfAll.j8 k y0 y1 y2 y3 y4 y5 y6 y7 y8 y9 y10 y11 y12) (laws_FnFormsLeftOfAll.j8 (k + 1) y0 y1 y2 y3 y4 y5 y6 y7 y8 y9 y10 y11 y12)) ∧ (∀ y0 y1 y2 y3 y4 y5 y6 y7 y8 y9 y10 y11 y12, LeO (laws_FnFormsLeftOfAll.j4 k y0 y1 y2 y3 y4 y5 y6 y7 y8 y9 y10 y11 y12) (laws_FnFormsLeftOfAll.j4 (k + 1) y0 y1 y2 y3 y4 y5 y6 y7 y8 y9 y10 y11 y12)) ∧ (∀ y0 y1 y2 y3 y4 y5 y6 y7 y8 y9 y10 y11, LeO (laws_FnFormsLeftOfAll.j5 k y0 y1 y2 y3 y4 y5 y6 y7 y8 y9 y10 y11) (laws_FnFormsLeftOfAll.j5 (k + 1) y0 y1 y2 y3 y4 y5 y6 y7 y8 y9 y10 y11)) ∧ (∀ y0 y1 y2 y3 y4 y5 y6 y7 y8 y9 y10 y11 y12, LeO (laws_FnFormsLeftOfAll.j6 k y0 y1 y2 y3 y4 y5 y6 y7 y8 y9 y10 y11 y12) (laws_FnFormsLeftOfAll.j6 (k + 1) y0 y1 y2 y3 y4 y5 y6 y7 y8 y9 y10 y11 y12))
  | 0 => ⟨fun _ _ _ _ _ _ _ _ _ _ r h => by simp [laws_FnFormsLeftOfAll.j0] at h, fun _ _ _ _ _ _ _ _ _ _ _ _ _ _ r h => by simp [laws_FnFormsLeftOfAll.j1] at h, fun _ _ _ _ _ _ _ _ _ _ r h => by simp [laws_FnFormsLeftOfAll.j9] at h, fun _ _ _ _ _ _ _ r h => by simp [laws_FnFormsLeftOfAll.j11] at h, fun _ _ _ _ _ _ _ _ _ _ _ r h => by simp [laws_FnFormsLeftOfAll.j12] at h, fun _ _ _ _ _ _ _ _ _ _ r h => by simp [laws_FnFormsLeftOfAll.j13] at h, fun _ _ _ _ _ r h => by simp [laws_FnFormsLeftOfAll.j16] at h, fun _ _ _ _ _ _ _ _ r h => by simp [laws_FnFormsLeftOfAll.l4] at h, fun _ _ _ r h => by simp [laws_FnFormsLeftOfAll.j18] at h, fun _ _ _ _ _ r h => by simp [laws_FnFormsLeftOfAll.l5] at h, fun _ _ _ _ r h => by simp [laws_FnFormsLeftOfAll.l6] at h, fun _ _ _ _ _ _ _ _ r h => by simp [laws_FnFormsLeftOfAll.l7] at h, fun _ _ _ _ _ _ _ _ r h => by simp [laws_FnFormsLeftOfAll.l8] at h, fun _ _ _ _ _ _ _ _ _ _ _ r h => by simp [laws_FnFormsLeftOfAll.l2] at h, fun _ _ _ _ _ _ _ _ _ _ _ _ _ _ _ r h => by simp [laws_FnFormsLeftOfAll.l3] at h, fun _ _ _ _ _ _ _ _ _ _ _ r h => by simp [laws_FnFormsLeftOfAll.l1] at h, fun _ _ _ _ _ _ _ _ _ _ _ _ _ _ _ r h => by simp [laws_FnFormsLeftOfAll.l0] at h, fun _ _ _ _ _ _ _ _ _ _ _ _ _ r h => by simp [laws_FnFormsLeftOfAll.j3] at h, fun _ _ _ _ _ _ _ _ _ _ _ _ r h => by simp [laws_FnFormsLeftOfAll.j7] at h, fun _ _ _ _ _ _ _ _ _ _ _ _ _ r h => by simp [laws_FnFormsLeftOfAll.j8] at h, fun _ _ _ _ _ _ _ _ _ _ _ _ _ r h => by simp [laws_FnFormsLeftOfAll.j4] at h, fun _ _ _ _ _ _ _ _ _ _ _ _ r h => by simp [laws_FnFormsLeftOfAll.j5] at h, fun _ _ _ _ _ _ _ _ _ _ _ _ _ r h => by simp [laws_FnFormsLeftOfAll.j6] at h⟩
  | k + 1 => by
    obtain ⟨ih0, ih1, ih2, ih3, ih4, ih5, ih6, ih7, ih8, ih9, ih10, ih11, ih12, ih13, ih14, ih15, ih16, ih17, ih18, ih19, ih20, ih21, ih22⟩ := laws_FnFormsLeftOfAll.mono_l k
    refine ⟨?_, ?_, ?_, ?_, ?_, ?_, ?_, ?_, ?_, ?_, ?_, ?_, ?_, ?_, ?_, ?_, ?_, ?_, ?_, ?_, ?_, ?_, ?_⟩
    · intro y0 y1 y2 y3 y4 y5 y6 y7 y8 y9
      unfold laws_FnFormsLeftOfAll.j0
      repeat' first
      | (with_reducible exact ih0 _ _ _ _ _ _ _ _ _ _)
      | (with_reducible exact ih1 _ _ _ _ _ _ _ _ _ _ _ _ _ _)
      | (with_reducible exact ih2 _ _ _ _ _ _ _ _ _ _)
      | (with_reducible exact ih3 _ _ _ _ _ _ _)
      | (with_reducible exact ih4 _ _ _ _ _ _ _ _ _ _ _)
      | (with_reducible exact ih5 _ _ _ _ _ _ _ _ _ _)
      | (with_reducible exact ih6 _ _ _ _ _)
      | (with_reducible exact ih7 _ _ _ _ _ _ _ _)
      | (with_reducible exact ih8 _ _ _)
      | (with_reducible exact ih9 _ _ _ _ _)
      | (with_reducible exact ih10 _ _ _ _)
      | (with_reducible exact ih11 _ _ _ _ _ _ _ _)
      | (with_reducible exact ih12 _ _ _ _ _ _ _ _)
      | (with_reducible exact ih13 _ _ _ _ _ _ _ _ _ _ _)
      | (with_reducible exact ih14 _ _ _ _ _ _ _ _ _ _ _ _ _ _ _)
      | (with_reducible exact ih15 _ _ _ _ _ _ _ _ _ _ _)
      | (with_reducible exact ih16 _ _ _ _ _ _ _ _ _ _ _ _ _ _ _)
      | (with_reducible exact ih17 _ _ _ _ _ _ _ _ _ _ _ _ _)
      | (with_reducible exact ih18 _ _ _ _ _ _ _ _ _ _ _ _)
      | (with_reducible exact ih19 _ _ _ _ _ _ _ _ _ _ _ _ _)
      | (with_reducible exact ih20 _ _ _ _ _ _ _ _ _ _ _ _ _)
      | (with_reducible exact ih21 _ _ _ _ _ _ _ _ _ _ _ _)
      | (with_reducible exact ih22 _ _ _ _ _ _ _ _ _ _ _ _ _)
      | (with_reducible exact impl_CanBeLeft.mono _ _ _)
      | (with_reducible exact impl_CountWith.mono _ _ _ _)
      | (with_reducible exact impl_LeastWith.mono _ _ _)
      | (with_reducible exact impl_RemaindersOf.mono _ _ _)
      | (with_reducible exact impl_StepOf.mono _ _)
      | (with_reducible exact impl_TimesTurned.mono _ _ _)
      | (with_reducible exact impl_TurnFormation.mono _ _ _)
      | (with_reducible exact laws_mSame.mono _ _ _)
      | (with_reducible exact spec_CanBeLeft.mono _ _ _)
      | (with_reducible exact spec_CountWith.mono _ _ _ _)
      | (with_reducible exact spec_LeastWith.mono _ _ _)
      | (with_reducible exact spec_RemaindersOf.mono _ _ _)
      | (with_reducible exact spec_StepOf.mono _ _)
      | (with_reducible exact spec_TimesTurned.mono _ _ _)
      | (with_reducible exact spec_TurnFormation.mono _ _ _)
      | (with_reducible exact LeO.refl _)
      | (with_reducible exact LeO.none _)
      | (with_reducible refine LeO.ite ?_ ?_)
      | (with_reducible refine LeO.bind ?_ (fun _ => ?_))
      | exact ih0 _ _ _ _ _ _ _ _ _ _
      | exact ih1 _ _ _ _ _ _ _ _ _ _ _ _ _ _
      | exact ih2 _ _ _ _ _ _ _ _ _ _
      | exact ih3 _ _ _ _ _ _ _
      | exact ih4 _ _ _ _ _ _ _ _ _ _ _
      | exact ih5 _ _ _ _ _ _ _ _ _ _
      | exact ih6 _ _ _ _ _
      | exact ih7 _ _ _ _ _ _ _ _
      | exact ih8 _ _ _
      | exact ih9 _ _ _ _ _
      | exact ih10 _ _ _ _
      | exact ih11 _ _ _ _ _ _ _ _
      | exact ih12 _ _ _ _ _ _ _ _
      | exact ih13 _ _ _ _ _ _ _ _ _ _ _
      | exact ih14 _ _ _ _ _ _ _ _ _ _ _ _ _ _ _
      | exact ih15 _ _ _ _ _ _ _ _ _ _ _
      | exact ih16 _ _ _ _ _ _ _ _ _ _ _ _ _ _ _
      | exact ih17 _ _ _ _ _ _ _ _ _ _ _ _ _
      | exact ih18 _ _ _ _ _ _ _ _ _ _ _ _
      | exact ih19 _ _ _ _ _ _ _ _ _ _ _ _ _
      | exact ih20 _ _ _ _ _ _ _ _ _ _ _ _ _
      | exact ih21 _ _ _ _ _ _ _ _ _ _ _ _
      | exact ih22 _ _ _ _ _ _ _ _ _ _ _ _ _
      | exact impl_CanBeLeft.mono _ _ _
      | exact impl_CountWith.mono _ _ _ _
      | exact impl_LeastWith.mono _ _ _
      | exact impl_RemaindersOf.mono _ _ _
      | exact impl_StepOf.mono _ _
      | exact impl_TimesTurned.mono _ _ _
      | exact impl_TurnFormation.mono _ _ _
      | exact laws_mSame.mono _ _ _
      | exact spec_CanBeLeft.mono _ _ _
      | exact spec_CountWith.mono _ _ _ _
      | exact spec_LeastWith.mono _ _ _
      | exact spec_RemaindersOf.mono _ _ _
      | exact spec_StepOf.mono _ _
      | exact spec_TimesTurned.mono _ _ _
      | exact spec_TurnFormation.mono _ _ _
      | exact LeO.none _
      | refine LeO.ite ?_ ?_
      | refine LeO.bind ?_ (fun _ => ?_)
    · intro y0 y1 y2 y3 y4 y5 y6 y7 y8 y9 y10 y11 y12 y13
      unfold laws_FnFormsLeftOfAll.j1
      repeat' first
      | (with_reducible exact ih0 _ _ _ _ _ _ _ _ _ _)
      | (with_reducible exact ih1 _ _ _ _ _ _ _ _ _ _ _ _ _ _)
      | (with_reducible exact ih2 _ _ _ _ _ _ _ _ _ _)
      | (with_reducible exact ih3 _ _ _ _ _ _ _)
      | (with_reducible exact ih4 _ _ _ _ _ _ _ _ _ _ _)
      | (with_reducible exact ih5 _ _ _ _ _ _ _ _ _ _)
      | (with_reducible exact ih6 _ _ _ _ _)
      | (with_reducible exact ih7 _ _ _ _ _ _ _ _)
      | (with_reducible exact ih8 _ _ _)
      | (with_reducible exact ih9 _ _ _ _ _)
      | (with_reducible exact ih10 _ _ _ _)
      | (with_reducible exact ih11 _ _ _ _ _ _ _ _)
      | (with_reducible exact ih12 _ _ _ _ _ _ _ _)
      | (with_reducible exact ih13 _ _ _ _ _ _ _ _ _ _ _)
      | (with_reducible exact ih14 _ _ _ _ _ _ _ _ _ _ _ _ _ _ _)
      | (with_reducible exact ih15 _ _ _ _ _ _ _ _ _ _ _)
      | (with_reducible exact ih16 _ _ _ _ _ _ _ _ _ _ _ _ _ _ _)
      | (with_reducible exact ih17 _ _ _ _ _ _ _ _ _ _ _ _ _)
      | (with_reducible exact ih18 _ _ _ _ _ _ _ _ _ _ _ _)
      | (with_reducible exact ih19 _ _ _ _ _ _ _ _ _ _ _ _ _)
      | (with_reducible exact ih20 _ _ _ _ _ _ _ _ _ _ _ _ _)
      | (with_reducible exact ih21 _ _ _ _ _ _ _ _ _ _ _ _)
      | (with_reducible exact ih22 _ _ _ _ _ _ _ _ _ _ _ _ _)
      | (with_reducible exact impl_CanBeLeft.mono _ _ _)
      | (with_reducible exact impl_CountWith.mono _ _ _ _)
      | (with_reducible exact impl_LeastWith.mono _ _ _)
      | (with_reducible exact impl_RemaindersOf.mono _ _ _)
      | (with_reducible exact impl_StepOf.mono _ _)
      | (with_reducible exact impl_TimesTurned.mono _ _ _)
      | (with_reducible exact impl_TurnFormation.mono _ _ _)
      | (with_reducible exact laws_mSame.mono _ _ _)
      | (with_reducible exact spec_CanBeLeft.mono _ _ _)
      | (with_reducible exact spec_CountWith.mono _ _ _ _)
      | (with_reducible exact spec_LeastWith.mono _ _ _)
      | (with_reducible exact spec_RemaindersOf.mono _ _ _)
      | (with_reducible exact spec_StepOf.mono _ _)
      | (with_reducible exact spec_TimesTurned.mono _ _ _)
      | (with_reducible exact spec_TurnFormation.mono _ _ _)
      | (with_reducible exact LeO.refl _)
      | (with_reducible exact LeO.none _)
      | (with_reducible refine LeO.ite ?_ ?_)
      | (with_reducible refine LeO.bind ?_ (fun _ => ?_))
      | exact ih0 _ _ _ _ _ _ _ _ _ _
      | exact ih1 _ _ _ _ _ _ _ _ _ _ _ _ _ _
      | exact ih2 _ _ _ _ _ _ _ _ _ _
      | exact ih3 _ _ _ _ _ _ _
      | exact ih4 _ _ _ _ _ _ _ _ _ _ _
      | exact ih5 _ _ _ _ _ _ _ _ _ _
      | exact ih6 _ _ _ _ _
      | exact ih7 _ _ _ _ _ _ _ _
      | exact ih8 _ _ _
      | exact ih9 _ _ _ _ _
      | exact ih10 _ _ _ _
      | exact ih11 _ _ _ _ _ _ _ _
      | exact ih12 _ _ _ _ _ _ _ _
      | exact ih13 _ _ _ _ _ _ _ _ _ _ _
      | exact ih14 _ _ _ _ _ _ _ _ _ _ _ _ _ _ _
      | exact ih15 _ _ _ _ _ _ _ _ _ _ _
      | exact ih16 _ _ _ _ _ _ _ _ _ _ _ _ _ _ _
      | exact ih17 _ _ _ _ _ _ _ _ _ _ _ _ _
      | exact ih18 _ _ _ _ _ _ _ _ _ _ _ _
      | exact ih19 _ _ _ _ _ _ _ _ _ _ _ _ _
      | exact ih20 _ _ _ _ _ _ _ _ _ _ _ _ _
      | exact ih21 _ _ _ _ _ _ _ _ _ _ _ _
      | exact ih22 _ _ _ _ _ _ _ _ _ _ _ _ _
      | exact impl_CanBeLeft.mono _ _ _
      | exact impl_CountWith.mono _ _ _ _
      | exact impl_LeastWith.mono _ _ _
      | exact impl_RemaindersOf.mono _ _ _
      | exact impl_StepOf.mono _ _
      | exact impl_TimesTurned.mono _ _ _
      | exact impl_TurnFormation.mono _ _ _
      | exact laws_mSame.mono _ _ _
      | exact spec_CanBeLeft.mono _ _ _
      | exact spec_CountWith.mono _ _ _ _
      | exact spec_LeastWith.mono _ _ _
      | exact spec_RemaindersOf.mono _ _ _
      | exact spec_StepOf.mono _ _
      | exact spec_TimesTurned.mono _ _ _
      | exact spec_TurnFormation.mono _ _ _
      | exact LeO.none _
      | refine LeO.ite ?_ ?_
      | refine LeO.bind ?_ (fun _ => ?_)
    · intro y0 y1 y2 y3 y4 y5 y6 y7 y8 y9
      unfold laws_FnFormsLeftOfAll.j9
      repeat' first
      | (with_reducible exact ih0 _ _ _ _ _ _ _ _ _ _)
      | (with_reducible exact ih1 _ _ _ _ _ _ _ _ _ _ _ _ _ _)
      | (with_reducible exact ih2 _ _ _ _ _ _ _ _ _ _)
      | (with_reducible exact ih3 _ _ _ _ _ _ _)
      | (with_reducible exact ih4 _ _ _ _ _ _ _ _ _ _ _)
      | (with_reducible exact ih5 _ _ _ _ _ _ _ _ _ _)
      | (with_reducible exact ih6 _ _ _ _ _)
      | (with_reducible exact ih7 _ _ _ _ _ _ _ _)
      | (with_reducible exact ih8 _ _ _)
      | (with_reducible exact ih9 _ _ _ _ _)
      | (with_reducible exact ih10 _ _ _ _)
      | (with_reducible exact ih11 _ _ _ _ _ _ _ _)
      | (with_reducible exact ih12 _ _ _ _ _ _ _ _)
      | (with_reducible exact ih13 _ _ _ _ _ _ _ _ _ _ _)
      | (with_reducible exact ih14 _ _ _ _ _ _ _ _ _ _ _ _ _ _ _)
      | (with_reducible exact ih15 _ _ _ _ _ _ _ _ _ _ _)
      | (with_reducible exact ih16 _ _ _ _ _ _ _ _ _ _ _ _ _ _ _)
      | (with_reducible exact ih17 _ _ _ _ _ _ _ _ _ _ _ _ _)
      | (with_reducible exact ih18 _ _ _ _ _ _ _ _ _ _ _ _)
      | (with_reducible exact ih19 _ _ _ _ _ _ _ _ _ _ _ _ _)
      | (with_reducible exact ih20 _ _ _ _ _ _ _ _ _ _ _ _ _)
      | (with_reducible exact ih21 _ _ _ _ _ _ _ _ _ _ _ _)
      | (with_reducible exact ih22 _ _ _ _ _ _ _ _ _ _ _ _ _)
      | (with_reducible exact impl_CanBeLeft.mono _ _ _)
      | (with_reducible exact impl_CountWith.mono _ _ _ _)
      | (with_reducible exact impl_LeastWith.mono _ _ _)
      | (with_reducible exact impl_RemaindersOf.mono _ _ _)
      | (with_reducible exact impl_StepOf.mono _ _)
      | (with_reducible exact impl_TimesTurned.mono _ _ _)
      | (with_reducible exact impl_TurnFormation.mono _ _ _)
      | (with_reducible exact laws_mSame.mono _ _ _)
      | (with_reducible exact spec_CanBeLeft.mono _ _ _)
      | (with_reducible exact spec_CountWith.mono _ _ _ _)
      | (with_reducible exact spec_LeastWith.mono _ _ _)
      | (with_reducible exact spec_RemaindersOf.mono _ _ _)
      | (with_reducible exact spec_StepOf.mono _ _)
      | (with_reducible exact spec_TimesTurned.mono _ _ _)
      | (with_reducible exact spec_TurnFormation.mono _ _ _)
      | (with_reducible exact LeO.refl _)
      | (with_reducible exact LeO.none _)
      | (with_reducible refine LeO.ite ?_ ?_)
      | (with_reducible refine LeO.bind ?_ (fun _ => ?_))
      | exact ih0 _ _ _ _ _ _ _ _ _ _
      | exact ih1 _ _ _ _ _ _ _ _ _ _ _ _ _ _
      | exact ih2 _ _ _ _ _ _ _ _ _ _
      | exact ih3 _ _ _ _ _ _ _
      | exact ih4 _ _ _ _ _ _ _ _ _ _ _
      | exact ih5 _ _ _ _ _ _ _ _ _ _
      | exact ih6 _ _ _ _ _
      | exact ih7 _ _ _ _ _ _ _ _
      | exact ih8 _ _ _
      | exact ih9 _ _ _ _ _
      | exact ih10 _ _ _ _
      | exact ih11 _ _ _ _ _ _ _ _
      | exact ih12 _ _ _ _ _ _ _ _
      | exact ih13 _ _ _ _ _ _ _ _ _ _ _
      | exact ih14 _ _ _ _ _ _ _ _ _ _ _ _ _ _ _
      | exact ih15 _ _ _ _ _ _ _ _ _ _ _
      | exact ih16 _ _ _ _ _ _ _ _ _ _ _ _ _ _ _
      | exact ih17 _ _ _ _ _ _ _ _ _ _ _ _ _
      | exact ih18 _ _ _ _ _ _ _ _ _ _ _ _
      | exact ih19 _ _ _ _ _ _ _ _ _ _ _ _ _
      | exact ih20 _ _ _ _ _ _ _ _ _ _ _ _ _
      | exact ih21 _ _ _ _ _ _ _ _ _ _ _ _
      | exact ih22 _ _ _ _ _ _ _ _ _ _ _ _ _
      | exact impl_CanBeLeft.mono _ _ _
      | exact impl_CountWith.mono _ _ _ _
      | exact impl_LeastWith.mono _ _ _
      | exact impl_RemaindersOf.mono _ _ _
      | exact impl_StepOf.mono _ _
      | exact impl_TimesTurned.mono _ _ _
      | exact impl_TurnFormation.mono _ _ _
      | exact laws_mSame.mono _ _ _
      | exact spec_CanBeLeft.mono _ _ _
      | exact spec_CountWith.mono _ _ _ _
      | exact spec_LeastWith.mono _ _ _
      | exact spec_RemaindersOf.mono _ _ _
      | exact spec_StepOf.mono _ _
      | exact spec_TimesTurned.mono _ _ _
      | exact spec_TurnFormation.mono _ _ _
      | exact LeO.none _
      | refine LeO.ite ?_ ?_
      | refine LeO.bind ?_ (fun _ => ?_)
    · intro y0 y1 y2 y3 y4 y5 y6
      unfold laws_FnFormsLeftOfAll.j11
      repeat' first
      | (with_reducible exact ih0 _ _ _ _ _ _ _ _ _ _)
      | (with_reducible exact ih1 _ _ _ _ _ _ _ _ _ _ _ _ _ _)
      | (with_reducible exact ih2 _ _ _ _ _ _ _ _ _ _)
      | (with_reducible exact ih3 _ _ _ _ _ _ _)
      | (with_reducible exact ih4 _ _ _ _ _ _ _ _ _ _ _)
      | (with_reducible exact ih5 _ _ _ _ _ _ _ _ _ _)
      | (with_reducible exact ih6 _ _ _ _ _)
      | (with_reducible exact ih7 _ _ _ _ _ _ _ _)
      | (with_reducible exact ih8 _ _ _)
      | (with_reducible exact ih9 _ _ _ _ _)
      | (with_reducible exact ih10 _ _ _ _)
      | (with_reducible exact ih11 _ _ _ _ _ _ _ _)
      | (with_reducible exact ih12 _ _ _ _ _ _ _ _)
      | (with_reducible exact ih13 _ _ _ _ _ _ _ _ _ _ _)
      | (with_reducible exact ih14 _ _ _ _ _ _ _ _ _ _ _ _ _ _ _)
      | (with_reducible exact ih15 _ _ _ _ _ _ _ _ _ _ _)
      | (with_reducible exact ih16 _ _ _ _ _ _ _ _ _ _ _ _ _ _ _)
      | (with_reducible exact ih17 _ _ _ _ _ _ _ _ _ _ _ _ _)
      | (with_reducible exact ih18 _ _ _ _ _ _ _ _ _ _ _ _)
      | (with_reducible exact ih19 _ _ _ _ _ _ _ _ _ _ _ _ _)
      | (with_reducible exact ih20 _ _ _ _ _ _ _ _ _ _ _ _ _)
      | (with_reducible exact ih21 _ _ _ _ _ _ _ _ _ _ _ _)
      | (with_reducible exact ih22 _ _ _ _ _ _ _ _ _ _ _ _ _)
      | (with_reducible exact impl_CanBeLeft.mono _ _ _)
      | (with_reducible exact impl_CountWith.mono _ _ _ _)
      | (with_reducible exact impl_LeastWith.mono _ _ _)
      | (with_reducible exact impl_RemaindersOf.mono _ _ _)
      | (with_reducible exact impl_StepOf.mono _ _)
      | (with_reducible exact impl_TimesTurned.mono _ _ _)
      | (with_reducible exact impl_TurnFormation.mono _ _ _)
      | (with_reducible exact laws_mSame.mono _ _ _)
      | (with_reducible exact spec_CanBeLeft.mono _ _ _)
      | (with_reducible exact spec_CountWith.mono _ _ _ _)
      | (with_reducible exact spec_LeastWith.mono _ _ _)
      | (with_reducible exact spec_RemaindersOf.mono _ _ _)
      | (with_reducible exact spec_StepOf.mono _ _)
      | (with_reducible exact spec_TimesTurned.mono _ _ _)
      | (with_reducible exact spec_TurnFormation.mono _ _ _)
      | (with_reducible exact LeO.refl _)
      | (with_reducible exact LeO.none _)
      | (with_reducible refine LeO.ite ?_ ?_)
      | (with_reducible refine LeO.bind ?_ (fun _ => ?_))
      | exact ih0 _ _ _ _ _ _ _ _ _ _
      | exact ih1 _ _ _ _ _ _ _ _ _ _ _ _ _ _
      | exact ih2 _ _ _ _ _ _ _ _ _ _
      | exact ih3 _ _ _ _ _ _ _
      | exact ih4 _ _ _ _ _ _ _ _ _ _ _
      | exact ih5 _ _ _ _ _ _ _ _ _ _
      | exact ih6 _ _ _ _ _
      | exact ih7 _ _ _ _ _ _ _ _
      | exact ih8 _ _ _
      | exact ih9 _ _ _ _ _
      | exact ih10 _ _ _ _
      | exact ih11 _ _ _ _ _ _ _ _
      | exact ih12 _ _ _ _ _ _ _ _
      | exact ih13 _ _ _ _ _ _ _ _ _ _ _
      | exact ih14 _ _ _ _ _ _ _ _ _ _ _ _ _ _ _
      | exact ih15 _ _ _ _ _ _ _ _ _ _ _
      | exact ih16 _ _ _ _ _ _ _ _ _ _ _ _ _ _ _
      | exact ih17 _ _ _ _ _ _ _ _ _ _ _ _ _
      | exact ih18 _ _ _ _ _ _ _ _ _ _ _ _
      | exact ih19 _ _ _ _ _ _ _ _ _ _ _ _ _
      | exact ih20 _ _ _ _ _ _ _ _ _ _ _ _ _
      | exact ih21 _ _ _ _ _ _ _ _ _ _ _ _
      | exact ih22 _ _ _ _ _ _ _ _ _ _ _ _ _
      | exact impl_CanBeLeft.mono _ _ _
      | exact impl_CountWith.mono _ _ _ _
      | exact impl_LeastWith.mono _ _ _
      | exact impl_RemaindersOf.mono _ _ _
      | exact impl_StepOf.mono _ _
      | exact impl_TimesTurned.mono _ _ _
      | exact impl_TurnFormation.mono _ _ _
      | exact laws_mSame.mono _ _ _
      | exact spec_CanBeLeft.mono _ _ _
      | exact spec_CountWith.mono _ _ _ _
      | exact spec_LeastWith.mono _ _ _
      | exact spec_RemaindersOf.mono _ _ _
      | exact spec_StepOf.mono _ _
      | exact spec_TimesTurned.mono _ _ _
      | exact spec_TurnFormation.mono _ _ _
      | exact LeO.none _
      | refine LeO.ite ?_ ?_
      | refine LeO.bind ?_ (fun _ => ?_)
    · intro y0 y1 y2 y3 y4 y5 y6 y7 y8 y9 y10
      unfold laws_FnFormsLeftOfAll.j12
      repeat' first
      | (with_reducible exact ih0 _ _ _ _ _ _ _ _ _ _)
      | (with_reducible exact ih1 _ _ _ _ _ _ _ _ _ _ _ _ _ _)
      | (with_reducible exact ih2 _ _ _ _ _ _ _ _ _ _)
      | (with_reducible exact ih3 _ _ _ _ _ _ _)
      | (with_reducible exact ih4 _ _ _ _ _ _ _ _ _ _ _)
      | (with_reducible exact ih5 _ _ _ _ _ _ _ _ _ _)
      | (with_reducible exact ih6 _ _ _ _ _)
      | (with_reducible exact ih7 _ _ _ _ _ _ _ _)
      | (with_reducible exact ih8 _ _ _)
      | (with_reducible exact ih9 _ _ _ _ _)
      | (with_reducible exact ih10 _ _ _ _)
      | (with_reducible exact ih11 _ _ _ _ _ _ _ _)
      | (with_reducible exact ih12 _ _ _ _ _ _ _ _)
      | (with_reducible exact ih13 _ _ _ _ _ _ _ _ _ _ _)
      | (with_reducible exact ih14 _ _ _ _ _ _ _ _ _ _ _ _ _ _ _)
      | (with_reducible exact ih15 _ _ _ _ _ _ _ _ _ _ _)
      | (with_reducible exact ih16 _ _ _ _ _ _ _ _ _ _ _ _ _ _ _)
      | (with_reducible exact ih17 _ _ _ _ _ _ _ _ _ _ _ _ _)
      | (with_reducible exact ih18 _ _ _ _ _ _ _ _ _ _ _ _)
      | (with_reducible exact ih19 _ _ _ _ _ _ _ _ _ _ _ _ _)
      | (with_reducible exact ih20 _ _ _ _ _ _ _ _ _ _ _ _ _)
      | (with_reducible exact ih21 _ _ _ _ _ _ _ _ _ _ _ _)
      | (with_reducible exact ih22 _ _ _ _ _ _ _ _ _ _ _ _ _)
      | (with_reducible exact impl_CanBeLeft.mono _ _ _)
      | (with_reducible exact impl_CountWith.mono _ _ _ _)
      | (with_reducible exact impl_LeastWith.mono _ _ _)
      | (with_reducible exact impl_RemaindersOf.mono _ _ _)
      | (with_reducible exact impl_StepOf.mono _ _)
      | (with_reducible exact impl_TimesTurned.mono _ _ _)
      | (with_reducible exact impl_TurnFormation.mono _ _ _)
      | (with_reducible exact laws_mSame.mono _ _ _)
      | (with_reducible exact spec_CanBeLeft.mono _ _ _)
      | (with_reducible exact spec_CountWith.mono _ _ _ _)
      | (with_reducible exact spec_LeastWith.mono _ _ _)
      | (with_reducible exact spec_RemaindersOf.mono _ _ _)
      | (with_reducible exact spec_StepOf.mono _ _)
      | (with_reducible exact spec_TimesTurned.mono _ _ _)
      | (with_reducible exact spec_TurnFormation.mono _ _ _)
      | (with_reducible exact LeO.refl _)
      | (with_reducible exact LeO.none _)
      | (with_reducible refine LeO.ite ?_ ?_)
      | (with_reducible refine LeO.bind ?_ (fun _ => ?_))
      | exact ih0 _ _ _ _ _ _ _ _ _ _
      | exact ih1 _ _ _ _ _ _ _ _ _ _ _ _ _ _
      | exact ih2 _ _ _ _ _ _ _ _ _ _
      | exact ih3 _ _ _ _ _ _ _
      | exact ih4 _ _ _ _ _ _ _ _ _ _ _
      | exact ih5 _ _ _ _ _ _ _ _ _ _
      | exact ih6 _ _ _ _ _
      | exact ih7 _ _ _ _ _ _ _ _
      | exact ih8 _ _ _
      | exact ih9 _ _ _ _ _
      | exact ih10 _ _ _ _
      | exact ih11 _ _ _ _ _ _ _ _
      | exact ih12 _ _ _ _ _ _ _ _
      | exact ih13 _ _ _ _ _ _ _ _ _ _ _
      | exact ih14 _ _ _ _ _ _ _ _ _ _ _ _ _ _ _
      | exact ih15 _ _ _ _ _ _ _ _ _ _ _
      | exact ih16 _ _ _ _ _ _ _ _ _ _ _ _ _ _ _
      | exact ih17 _ _ _ _ _ _ _ _ _ _ _ _ _
      | exact ih18 _ _ _ _ _ _ _ _ _ _ _ _
      | exact ih19 _ _ _ _ _ _ _ _ _ _ _ _ _
      | exact ih20 _ _ _ _ _ _ _ _ _ _ _ _ _
      | exact ih21 _ _ _ _ _ _ _ _ _ _ _ _
      | exact ih22 _ _ _ _ _ _ _ _ _ _ _ _ _
      | exact impl_CanBeLeft.mono _ _ _
      | exact impl_CountWith.mono _ _ _ _
      | exact impl_LeastWith.mono _ _ _
      | exact impl_RemaindersOf.mono _ _ _
      | exact impl_StepOf.mono _ _
      | exact impl_TimesTurned.mono _ _ _
      | exact impl_TurnFormation.mono _ _ _
      | exact laws_mSame.mono _ _ _
      | exact spec_CanBeLeft.mono _ _ _
      | exact spec_CountWith.mono _ _ _ _
      | exact spec_LeastWith.mono _ _ _
      | exact spec_RemaindersOf.mono _ _ _
      | exact spec_StepOf.mono _ _
      | exact spec_TimesTurned.mono _ _ _
      | exact spec_TurnFormation.mono _ _ _
      | exact LeO.none _
      | refine LeO.ite ?_ ?_
      | refine LeO.bind ?_ (fun _ => ?_)
    · intro y0 y1 y2 y3 y4 y5 y6 y7 y8 y9
      unfold laws_FnFormsLeftOfAll.j13
      repeat' first
      | (with_reducible exact ih0 _ _ _ _ _ _ _ _ _ _)
      | (with_reducible exact ih1 _ _ _ _ _ _ _ _ _ _ _ _ _ _)
      | (with_reducible exact ih2 _ _ _ _ _ _ _ _ _ _)
      | (with_reducible exact ih3 _ _ _ _ _ _ _)
      | (with_reducible exact ih4 _ _ _ _ _ _ _ _ _ _ _)
      | (with_reducible exact ih5 _ _ _ _ _ _ _ _ _ _)
      | (with_reducible exact ih6 _ _ _ _ _)
      | (with_reducible exact ih7 _ _ _ _ _ _ _ _)
      | (with_reducible exact ih8 _ _ _)
      | (with_reducible exact ih9 _ _ _ _ _)
      | (with_reducible exact ih10 _ _ _ _)
      | (with_reducible exact ih11 _ _ _ _ _ _ _ _)
      | (with_reducible exact ih12 _ _ _ _ _ _ _ _)
      | (with_reducible exact ih13 _ _ _ _ _ _ _ _ _ _ _)
      | (with_reducible exact ih14 _ _ _ _ _ _ _ _ _ _ _ _ _ _ _)
      | (with_reducible exact ih15 _ _ _ _ _ _ _ _ _ _ _)
      | (with_reducible exact ih16 _ _ _ _ _ _ _ _ _ _ _ _ _ _ _)
      | (with_reducible exact ih17 _ _ _ _ _ _ _ _ _ _ _ _ _)
      | (with_reducible exact ih18 _ _ _ _ _ _ _ _ _ _ _ _)
      | (with_reducible exact ih19 _ _ _ _ _ _ _ _ _ _ _ _ _)
      | (with_reducible exact ih20 _ _ _ _ _ _ _ _ _ _ _ _ _)
      | (with_reducible exact ih21 _ _ _ _ _ _ _ _ _ _ _ _)
      | (with_reducible exact ih22 _ _ _ _ _ _ _ _ _ _ _ _ _)
      | (with_reducible exact impl_CanBeLeft.mono _ _ _)
      | (with_reducible exact impl_CountWith.mono _ _ _ _)
      | (with_reducible exact impl_LeastWith.mono _ _ _)
      | (with_reducible exact impl_RemaindersOf.mono _ _ _)
      | (with_reducible exact impl_StepOf.mono _ _)
      | (with_reducible exact impl_TimesTurned.mono _ _ _)
      | (with_reducible exact impl_TurnFormation.mono _ _ _)
      | (with_reducible exact laws_mSame.mono _ _ _)
      | (with_reducible exact spec_CanBeLeft.mono _ _ _)
      | (with_reducible exact spec_CountWith.mono _ _ _ _)
      | (with_reducible exact spec_LeastWith.mono _ _ _)
      | (with_reducible exact spec_RemaindersOf.mono _ _ _)
      | (with_reducible exact spec_StepOf.mono _ _)
      | (with_reducible exact spec_TimesTurned.mono _ _ _)
      | (with_reducible exact spec_TurnFormation.mono _ _ _)
      | (with_reducible exact LeO.refl _)
      | (with_reducible exact LeO.none _)
      | (with_reducible refine LeO.ite ?_ ?_)
      | (with_reducible refine LeO.bind ?_ (fun _ => ?_))
      | exact ih0 _ _ _ _ _ _ _ _ _ _
      | exact ih1 _ _ _ _ _ _ _ _ _ _ _ _ _ _
      | exact ih2 _ _ _ _ _ _ _ _ _ _
      | exact ih3 _ _ _ _ _ _ _
      | exact ih4 _ _ _ _ _ _ _ _ _ _ _
      | exact ih5 _ _ _ _ _ _ _ _ _ _
      | exact ih6 _ _ _ _ _
      | exact ih7 _ _ _ _ _ _ _ _
      | exact ih8 _ _ _
      | exact ih9 _ _ _ _ _
      | exact ih10 _ _ _ _
      | exact ih11 _ _ _ _ _ _ _ _
      | exact ih12 _ _ _ _ _ _ _ _
      | exact ih13 _ _ _ _ _ _ _ _ _ _ _
      | exact ih14 _ _ _ _ _ _ _ _ _ _ _ _ _ _ _
      | exact ih15 _ _ _ _ _ _ _ _ _ _ _
      | exact ih16 _ _ _ _ _ _ _ _ _ _ _ _ _ _ _
      | exact ih17 _ _ _ _ _ _ _ _ _ _ _ _ _
      | exact ih18 _ _ _ _ _ _ _ _ _ _ _ _
      | exact ih19 _ _ _ _ _ _ _ _ _ _ _ _ _
      | exact ih20 _ _ _ _ _ _ _ _ _ _ _ _ _
      | exact ih21 _ _ _ _ _ _ _ _ _ _ _ _
      | exact ih22 _ _ _ _ _ _ _ _ _ _ _ _ _
      | exact impl_CanBeLeft.mono _ _ _
      | exact impl_CountWith.mono _ _ _ _
      | exact impl_LeastWith.mono _ _ _
      | exact impl_RemaindersOf.mono _ _ _
      | exact impl_StepOf.mono _ _
      | exact impl_TimesTurned.mono _ _ _
      | exact impl_TurnFormation.mono _ _ _
      | exact laws_mSame.mono _ _ _
      | exact spec_CanBeLeft.mono _ _ _
      | exact spec_CountWith.mono _ _ _ _
      | exact spec_LeastWith.mono _ _ _
      | exact spec_RemaindersOf.mono _ _ _
      | exact spec_StepOf.mono _ _
      | exact spec_TimesTurned.mono _ _ _
      | exact spec_TurnFormation.mono _ _ _
      | exact LeO.none _
      | refine LeO.ite ?_ ?_
      | refine LeO.bind ?_ (fun _ => ?_)
    · intro y0 y1 y2 y3 y4
      unfold laws_FnFormsLeftOfAll.j16
      repeat' first
      | (with_reducible exact ih0 _ _ _ _ _ _ _ _ _ _)
      | (with_reducible exact ih1 _ _ _ _ _ _ _ _ _ _ _ _ _ _)
      | (with_reducible exact ih2 _ _ _ _ _ _ _ _ _ _)
      | (with_reducible exact ih3 _ _ _ _ _ _ _)
      | (with_reducible exact ih4 _ _ _ _ _ _ _ _ _ _ _)
      | (with_reducible exact ih5 _ _ _ _ _ _ _ _ _ _)
      | (with_reducible exact ih6 _ _ _ _ _)
      | (with_reducible exact ih7 _ _ _ _ _ _ _ _)
      | (with_reducible exact ih8 _ _ _)
      | (with_reducible exact ih9 _ _ _ _ _)
      | (with_reducible exact ih10 _ _ _ _)
      | (with_reducible exact ih11 _ _ _ _ _ _ _ _)
      | (with_reducible exact ih12 _ _ _ _ _ _ _ _)
      | (with_reducible exact ih13 _ _ _ _ _ _ _ _ _ _ _)
      | (with_reducible exact ih14 _ _ _ _ _ _ _ _ _ _ _ _ _ _ _)
      | (with_reducible exact ih15 _ _ _ _ _ _ _ _ _ _ _)
      | (with_reducible exact ih16 _ _ _ _ _ _ _ _ _ _ _ _ _ _ _)
      | (with_reducible exact ih17 _ _ _ _ _ _ _ _ _ _ _ _ _)
      | (with_reducible exact ih18 _ _ _ _ _ _ _ _ _ _ _ _)
      | (with_reducible exact ih19 _ _ _ _ _ _ _ _ _ _ _ _ _)
      | (with_reducible exact ih20 _ _ _ _ _ _ _ _ _ _ _ _ _)
      | (with_reducible exact ih21 _ _ _ _ _ _ _ _ _ _ _ _)
      | (with_reducible exact ih22 _ _ _ _ _ _ _ _ _ _ _ _ _)
      | (with_reducible exact impl_CanBeLeft.mono _ _ _)
      | (with_reducible exact impl_CountWith.mono _ _ _ _)
      | (with_reducible exact impl_LeastWith.mono _ _ _)
      | (with_reducible exact impl_RemaindersOf.mono _ _ _)
      | (with_reducible exact impl_StepOf.mono _ _)
      | (with_reducible exact impl_TimesTurned.mono _ _ _)
      | (with_reducible exact impl_TurnFormation.mono _ _ _)
      | (with_reducible exact laws_mSame.mono _ _ _)
      | (with_reducible exact spec_CanBeLeft.mono _ _ _)
      | (with_reducible exact spec_CountWith.mono _ _ _ _)
      | (with_reducible exact spec_LeastWith.mono _ _ _)
      | (with_reducible exact spec_RemaindersOf.mono _ _ _)
      | (with_reducible exact spec_StepOf.mono _ _)
      | (with_reducible exact spec_TimesTurned.mono _ _ _)
      | (with_reducible exact spec_TurnFormation.mono _ _ _)
      | (with_reducible exact LeO.refl _)
      | (with_reducible exact LeO.none _)
      | (with_reducible refine LeO.ite ?_ ?_)
      | (with_reducible refine LeO.bind ?_ (fun _ => ?_))
      | exact ih0 _ _ _ _ _ _ _ _ _ _
      | exact ih1 _ _ _ _ _ _ _ _ _ _ _ _ _ _
      | exact ih2 _ _ _ _ _ _ _ _ _ _
      | exact ih3 _ _ _ _ _ _ _
      | exact ih4 _ _ _ _ _ _ _ _ _ _ _
      | exact ih5 _ _ _ _ _ _ _ _ _ _
      | exact ih6 _ _ _ _ _
      | exact ih7 _ _ _ _ _ _ _ _
      | exact ih8 _ _ _
      | exact ih9 _ _ _ _ _
      | exact ih10 _ _ _ _
      | exact ih11 _ _ _ _ _ _ _ _
      | exact ih12 _ _ _ _ _ _ _ _
      | exact ih13 _ _ _ _ _ _ _ _ _ _ _
      | exact ih14 _ _ _ _ _ _ _ _ _ _ _ _ _ _ _
      | exact ih15 _ _ _ _ _ _ _ _ _ _ _
      | exact ih16 _ _ _ _ _ _ _ _ _ _ _ _ _ _ _
      | exact ih17 _ _ _ _ _ _ _ _ _ _ _ _ _
      | exact ih18 _ _ _ _ _ _ _ _ _ _ _ _
      | exact ih19 _ _ _ _ _ _ _ _ _ _ _ _ _
      | exact ih20 _ _ _ _ _ _ _ _ _ _ _ _ _
      | exact ih21 _ _ _ _ _ _ _ _ _ _ _ _
      | exact ih22 _ _ _ _ _ _ _ _ _ _ _ _ _
      | exact impl_CanBeLeft.mono _ _ _
      | exact impl_CountWith.mono _ _ _ _
      | exact impl_LeastWith.mono _ _ _
      | exact impl_RemaindersOf.mono _ _ _
      | exact impl_StepOf.mono _ _
      | exact impl_TimesTurned.mono _ _ _
      | exact impl_TurnFormation.mono _ _ _
      | exact laws_mSame.mono _ _ _
      | exact spec_CanBeLeft.mono _ _ _
      | exact spec_CountWith.mono _ _ _ _
      | exact spec_LeastWith.mono _ _ _
      | exact spec_RemaindersOf.mono _ _ _
      | exact spec_StepOf.mono _ _
      | exact spec_TimesTurned.mono _ _ _
      | exact spec_TurnFormation.mono _ _ _
      | exact LeO.none _
      | refine LeO.ite ?_ ?_
      | refine LeO.bind ?_ (fun _ => ?_)
    · intro y0 y1 y2 y3 y4 y5 y6 y7
      unfold laws_FnFormsLeftOfAll.l4
      repeat' first
      | (with_reducible exact ih0 _ _ _ _ _ _ _ _ _ _)
      | (with_reducible exact ih1 _ _ _ _ _ _ _ _ _ _ _ _ _ _)
      | (with_reducible exact ih2 _ _ _ _ _ _ _ _ _ _)
      | (with_reducible exact ih3 _ _ _ _ _ _ _)
      | (with_reducible exact ih4 _ _ _ _ _ _ _ _ _ _ _)
      | (with_reducible exact ih5 _ _ _ _ _ _ _ _ _ _)
      | (with_reducible exact ih6 _ _ _ _ _)
      | (with_reducible exact ih7 _ _ _ _ _ _ _ _)
      | (with_reducible exact ih8 _ _ _)
      | (with_reducible exact ih9 _ _ _ _ _)
      | (with_reducible exact ih10 _ _ _ _)
      | (with_reducible exact ih11 _ _ _ _ _ _ _ _)
      | (with_reducible exact ih12 _ _ _ _ _ _ _ _)
      | (with_reducible exact ih13 _ _ _ _ _ _ _ _ _ _ _)
      | (with_reducible exact ih14 _ _ _ _ _ _ _ _ _ _ _ _ _ _ _)
      | (with_reducible exact ih15 _ _ _ _ _ _ _ _ _ _ _)
      | (with_reducible exact ih16 _ _ _ _ _ _ _ _ _ _ _ _ _ _ _)
      | (with_reducible exact ih17 _ _ _ _ _ _ _ _ _ _ _ _ _)
      | (with_reducible exact ih18 _ _ _ _ _ _ _ _ _ _ _ _)
      | (with_reducible exact ih19 _ _ _ _ _ _ _ _ _ _ _ _ _)
      | (with_reducible exact ih20 _ _ _ _ _ _ _ _ _ _ _ _ _)
      | (with_reducible exact ih21 _ _ _ _ _ _ _ _ _ _ _ _)
      | (with_reducible exact ih22 _ _ _ _ _ _ _ _ _ _ _ _ _)
      | (with_reducible exact impl_CanBeLeft.mono _ _ _)
      | (with_reducible exact impl_CountWith.mono _ _ _ _)
      | (with_reducible exact impl_LeastWith.mono _ _ _)
      | (with_reducible exact impl_RemaindersOf.mono _ _ _)
      | (with_reducible exact impl_StepOf.mono _ _)
      | (with_reducible exact impl_TimesTurned.mono _ _ _)
      | (with_reducible exact impl_TurnFormation.mono _ _ _)
      | (with_reducible exact laws_mSame.mono _ _ _)
      | (with_reducible exact spec_CanBeLeft.mono _ _ _)
      | (with_reducible exact spec_CountWith.mono _ _ _ _)
      | (with_reducible exact spec_LeastWith.mono _ _ _)
      | (with_reducible exact spec_RemaindersOf.mono _ _ _)
      | (with_reducible exact spec_StepOf.mono _ _)
      | (with_reducible exact spec_TimesTurned.mono _ _ _)
      | (with_reducible exact spec_TurnFormation.mono _ _ _)
      | (with_reducible exact LeO.refl _)
      | (with_reducible exact LeO.none _)
      | (with_reducible refine LeO.ite ?_ ?_)
      | (with_reducible refine LeO.bind ?_ (fun _ => ?_))
      | exact ih0 _ _ _ _ _ _ _ _ _ _
      | exact ih1 _ _ _ _ _ _ _ _ _ _ _ _ _ _
      | exact ih2 _ _ _ _ _ _ _ _ _ _
      | exact ih3 _ _ _ _ _ _ _
      | exact ih4 _ _ _ _ _ _ _ _ _ _ _
      | exact ih5 _ _ _ _ _ _ _ _ _ _
      | exact ih6 _ _ _ _ _
      | exact ih7 _ _ _ _ _ _ _ _
      | exact ih8 _ _ _
      | exact ih9 _ _ _ _ _
      | exact ih10 _ _ _ _
      | exact ih11 _ _ _ _ _ _ _ _
      | exact ih12 _ _ _ _ _ _ _ _
      | exact ih13 _ _ _ _ _ _ _ _ _ _ _
      | exact ih14 _ _ _ _ _ _ _ _ _ _ _ _ _ _ _
      | exact ih15 _ _ _ _ _ _ _ _ _ _ _
      | exact ih16 _ _ _ _ _ _ _ _ _ _ _ _ _ _ _
      | exact ih17 _ _ _ _ _ _ _ _ _ _ _ _ _
      | exact ih18 _ _ _ _ _ _ _ _ _ _ _ _
      | exact ih19 _ _ _ _ _ _ _ _ _ _ _ _ _
      | exact ih20 _ _ _ _ _ _ _ _ _ _ _ _ _
      | exact ih21 _ _ _ _ _ _ _ _ _ _ _ _
      | exact ih22 _ _ _ _ _ _ _ _ _ _ _ _ _
      | exact impl_CanBeLeft.mono _ _ _
      | exact impl_CountWith.mono _ _ _ _
      | exact impl_LeastWith.mono _ _ _
      | exact impl_RemaindersOf.mono _ _ _
      | exact impl_StepOf.mono _ _
      | exact impl_TimesTurned.mono _ _ _
      | exact impl_TurnFormation.mono _ _ _
      | exact laws_mSame.mono _ _ _
      | exact spec_CanBeLeft.mono _ _ _
      | exact spec_CountWith.mono _ _ _ _
      | exact spec_LeastWith.mono _ _ _
      | exact spec_RemaindersOf.mono _ _ _
      | exact spec_StepOf.mono _ _
      | exact spec_TimesTurned.mono _ _ _
      | exact spec_TurnFormation.mono _ _ _
      | exact LeO.none _
      | refine LeO.ite ?_ ?_
      | refine LeO.bind ?_ (fun _ => ?_)
    · intro y0 y1 y2
      unfold laws_FnFormsLeftOfAll.j18
      repeat' first
      | (with_reducible exact ih0 _ _ _ _ _ _ _ _ _ _)
      | (with_reducible exact ih1 _ _ _ _ _ _ _ _ _ _ _ _ _ _)
      | (with_reducible exact ih2 _ _ _ _ _ _ _ _ _ _)
      | (with_reducible exact ih3 _ _ _ _ _ _ _)
      | (with_reducible exact ih4 _ _ _ _ _ _ _ _ _ _ _)
      | (with_reducible exact ih5 _ _ _ _ _ _ _ _ _ _)
      | (with_reducible exact ih6 _ _ _ _ _)
      | (with_reducible exact ih7 _ _ _ _ _ _ _ _)
      | (with_reducible exact ih8 _ _ _)
      | (with_reducible exact ih9 _ _ _ _ _)
      | (with_reducible exact ih10 _ _ _ _)
      | (with_reducible exact ih11 _ _ _ _ _ _ _ _)
      | (with_reducible exact ih12 _ _ _ _ _ _ _ _)
      | (with_reducible exact ih13 _ _ _ _ _ _ _ _ _ _ _)
      | (with_reducible exact ih14 _ _ _ _ _ _ _ _ _ _ _ _ _ _ _)
      | (with_reducible exact ih15 _ _ _ _ _ _ _ _ _ _ _)
      | (with_reducible exact ih16 _ _ _ _ _ _ _ _ _ _ _ _ _ _ _)
      | (with_reducible exact ih17 _ _ _ _ _ _ _ _ _ _ _ _ _)
      | (with_reducible exact ih18 _ _ _ _ _ _ _ _ _ _ _ _)
      | (with_reducible exact ih19 _ _ _ _ _ _ _ _ _ _ _ _ _)
      | (with_reducible exact ih20 _ _ _ _ _ _ _ _ _ _ _ _ _)
      | (with_reducible exact ih21 _ _ _ _ _ _ _ _ _ _ _ _)
      | (with_reducible exact ih22 _ _ _ _ _ _ _ _ _ _ _ _ _)
      | (with_reducible exact impl_CanBeLeft.mono _ _ _)
      | (with_reducible exact impl_CountWith.mono _ _ _ _)
      | (with_reducible exact impl_LeastWith.mono _ _ _)
      | (with_reducible exact impl_RemaindersOf.mono _ _ _)
      | (with_reducible exact impl_StepOf.mono _ _)
      | (with_reducible exact impl_TimesTurned.mono _ _ _)
      | (with_reducible exact impl_TurnFormation.mono _ _ _)
      | (with_reducible exact laws_mSame.mono _ _ _)
      | (with_reducible exact spec_CanBeLeft.mono _ _ _)
      | (with_reducible exact spec_CountWith.mono _ _ _ _)
      | (with_reducible exact spec_LeastWith.mono _ _ _)
      | (with_reducible exact spec_RemaindersOf.mono _ _ _)
      | (with_reducible exact spec_StepOf.mono _ _)
      | (with_reducible exact spec_TimesTurned.mono _ _ _)
      | (with_reducible exact spec_TurnFormation.mono _ _ _)
      | (with_reducible exact LeO.refl _)
      | (with_reducible exact LeO.none _)
      | (with_reducible refine LeO.ite ?_ ?_)
      | (with_reducible refine LeO.bind ?_ (fun _ => ?_))
      | exact ih0 _ _ _ _ _ _ _ _ _ _
      | exact ih1 _ _ _ _ _ _ _ _ _ _ _ _ _ _
      | exact ih2 _ _ _ _ _ _ _ _ _ _
      | exact ih3 _ _ _ _ _ _ _
      | exact ih4 _ _ _ _ _ _ _ _ _ _ _
      | exact ih5 _ _ _ _ _ _ _ _ _ _
      | exact ih6 _ _ _ _ _
      | exact ih7 _ _ _ _ _ _ _ _
      | exact ih8 _ _ _
      | exact ih9 _ _ _ _ _
      | exact ih10 _ _ _ _
      | exact ih11 _ _ _ _ _ _ _ _
      | exact ih12 _ _ _ _ _ _ _ _
      | exact ih13 _ _ _ _ _ _ _ _ _ _ _
      | exact ih14 _ _ _ _ _ _ _ _ _ _ _ _ _ _ _
      | exact ih15 _ _ _ _ _ _ _ _ _ _ _
      | exact ih16 _ _ _ _ _ _ _ _ _ _ _ _ _ _ _
      | exact ih17 _ _ _ _ _ _ _ _ _ _ _ _ _
      | exact ih18 _ _ _ _ _ _ _ _ _ _ _ _
      | exact ih19 _ _ _ _ _ _ _ _ _ _ _ _ _
      | exact ih20 _ _ _ _ _ _ _ _ _ _ _ _ _
      | exact ih21 _ _ _ _ _ _ _ _ _ _ _ _
      | exact ih22 _ _ _ _ _ _ _ _ _ _ _ _ _
      | exact impl_CanBeLeft.mono _ _ _
      | exact impl_CountWith.mono _ _ _ _
      | exact impl_LeastWith.mono _ _ _
      | exact impl_RemaindersOf.mono _ _ _
      | exact impl_StepOf.mono _ _
      | exact impl_TimesTurned.mono _ _ _
      | exact impl_TurnFormation.mono _ _ _
      | exact laws_mSame.mono _ _ _
      | exact spec_CanBeLeft.mono _ _ _
      | exact spec_CountWith.mono _ _ _ _
      | exact spec_LeastWith.mono _ _ _
      | exact spec_RemaindersOf.mono _ _ _
      | exact spec_StepOf.mono _ _
      | exact spec_TimesTurned.mono _ _ _
      | exact spec_TurnFormation.mono _ _ _
      | exact LeO.none _
      | refine LeO.ite ?_ ?_
      | refine LeO.bind ?_ (fun _ => ?_)
    · intro y0 y1 y2 y3 y4
      unfold laws_FnFormsLeftOfAll.l5
      repeat' first
      | (with_reducible exact ih0 _ _ _ _ _ _ _ _ _ _)
      | (with_reducible exact ih1 _ _ _ _ _ _ _ _ _ _ _ _ _ _)
      | (with_reducible exact ih2 _ _ _ _ _ _ _ _ _ _)
      | (with_reducible exact ih3 _ _ _ _ _ _ _)
      | (with_reducible exact ih4 _ _ _ _ _ _ _ _ _ _ _)
      | (with_reducible exact ih5 _ _ _ _ _ _ _ _ _ _)
      | (with_reducible exact ih6 _ _ _ _ _)
      | (with_reducible exact ih7 _ _ _ _ _ _ _ _)
      | (with_reducible exact ih8 _ _ _)
      | (with_reducible exact ih9 _ _ _ _ _)
      | (with_reducible exact ih10 _ _ _ _)
      | (with_reducible exact ih11 _ _ _ _ _ _ _ _)
      | (with_reducible exact ih12 _ _ _ _ _ _ _ _)
      | (with_reducible exact ih13 _ _ _ _ _ _ _ _ _ _ _)
      | (with_reducible exact ih14 _ _ _ _ _ _ _ _ _ _ _ _ _ _ _)
      | (with_reducible exact ih15 _ _ _ _ _ _ _ _ _ _ _)
      | (with_reducible exact ih16 _ _ _ _ _ _ _ _ _ _ _ _ _ _ _)
      | (with_reducible exact ih17 _ _ _ _ _ _ _ _ _ _ _ _ _)
      | (with_reducible exact ih18 _ _ _ _ _ _ _ _ _ _ _ _)
      | (with_reducible exact ih19 _ _ _ _ _ _ _ _ _ _ _ _ _)
      | (with_reducible exact ih20 _ _ _ _ _ _ _ _ _ _ _ _ _)
      | (with_reducible exact ih21 _ _ _ _ _ _ _ _ _ _ _ _)
      | (with_reducible exact ih22 _ _ _ _ _ _ _ _ _ _ _ _ _)
      | (with_reducible exact impl_CanBeLeft.mono _ _ _)
      | (with_reducible exact impl_CountWith.mono _ _ _ _)
      | (with_reducible exact impl_LeastWith.mono _ _ _)
      | (with_reducible exact impl_RemaindersOf.mono _ _ _)
      | (with_reducible exact impl_StepOf.mono _ _)
      | (with_reducible exact impl_TimesTurned.mono _ _ _)
      | (with_reducible exact impl_TurnFormation.mono _ _ _)
      | (with_reducible exact laws_mSame.mono _ _ _)
      | (with_reducible exact spec_CanBeLeft.mono _ _ _)
      | (with_reducible exact spec_CountWith.mono _ _ _ _)
      | (with_reducible exact spec_LeastWith.mono _ _ _)
      | (with_reducible exact spec_RemaindersOf.mono _ _ _)
      | (with_reducible exact spec_StepOf.mono _ _)
      | (with_reducible exact spec_TimesTurned.mono _ _ _)
      | (with_reducible exact spec_TurnFormation.mono _ _ _)
      | (with_reducible exact LeO.refl _)
      | (with_reducible exact LeO.none _)
      | (with_reducible refine LeO.ite ?_ ?_)
      | (with_reducible refine LeO.bind ?_ (fun _ => ?_))
      | exact ih0 _ _ _ _ _ _ _ _ _ _
      | exact ih1 _ _ _ _ _ _ _ _ _ _ _ _ _ _
      | exact ih2 _ _ _ _ _ _ _ _ _ _
      | exact ih3 _ _ _ _ _ _ _
      | exact ih4 _ _ _ _ _ _ _ _ _ _ _
      | exact ih5 _ _ _ _ _ _ _ _ _ _
      | exact ih6 _ _ _ _ _
      | exact ih7 _ _ _ _ _ _ _ _
      | exact ih8 _ _ _
      | exact ih9 _ _ _ _ _
      | exact ih10 _ _ _ _
      | exact ih11 _ _ _ _ _ _ _ _
      | exact ih12 _ _ _ _ _ _ _ _
      | exact ih13 _ _ _ _ _ _ _ _ _ _ _
      | exact ih14 _ _ _ _ _ _ _ _ _ _ _ _ _ _ _
      | exact ih15 _ _ _ _ _ _ _ _ _ _ _
      | exact ih16 _ _ _ _ _ _ _ _ _ _ _ _ _ _ _
      | exact ih17 _ _ _ _ _ _ _ _ _ _ _ _ _
      | exact ih18 _ _ _ _ _ _ _ _ _ _ _ _
      | exact ih19 _ _ _ _ _ _ _ _ _ _ _ _ _
      | exact ih20 _ _ _ _ _ _ _ _ _ _ _ _ _
      | exact ih21 _ _ _ _ _ _ _ _ _ _ _ _
      | exact ih22 _ _ _ _ _ _ _ _ _ _ _ _ _
      | exact impl_CanBeLeft.mono _ _ _
      | exact impl_CountWith.mono _ _ _ _
      | exact impl_LeastWith.mono _ _ _
      | exact impl_RemaindersOf.mono _ _ _
      | exact impl_StepOf.mono _ _
      | exact impl_TimesTurned.mono _ _ _
      | exact impl_TurnFormation.mono _ _ _
      | exact laws_mSame.mono _ _ _
      | exact spec_CanBeLeft.mono _ _ _
      | exact spec_CountWith.mono _ _ _ _
      | exact spec_LeastWith.mono _ _ _
      | exact spec_RemaindersOf.mono _ _ _
      | exact spec_StepOf.mono _ _
      | exact spec_TimesTurned.mono _ _ _
      | exact spec_TurnFormation.mono _ _ _
      | exact LeO.none _
      | refine LeO.ite ?_ ?_
      | refine LeO.bind ?_ (fun _ => ?_)
    · intro y0 y1 y2 y3
      unfold laws_FnFormsLeftOfAll.l6
      repeat' first
      | (with_reducible exact ih0 _ _ _ _ _ _ _ _ _ _)
      | (with_reducible exact ih1 _ _ _ _ _ _ _ _ _ _ _ _ _ _)
      | (with_reducible exact ih2 _ _ _ _ _ _ _ _ _ _)
      | (with_reducible exact ih3 _ _ _ _ _ _ _)
      | (with_reducible exact ih4 _ _ _ _ _ _ _ _ _ _ _)
      | (with_reducible exact ih5 _ _ _ _ _ _ _ _ _ _)
      | (with_reducible exact ih6 _ _ _ _ _)
      | (with_reducible exact ih7 _ _ _ _ _ _ _ _)
      | (with_reducible exact ih8 _ _ _)
      | (with_reducible exact ih9 _ _ _ _ _)
      | (with_reducible exact ih10 _ _ _ _)
      | (with_reducible exact ih11 _ _ _ _ _ _ _ _)
      | (with_reducible exact ih12 _ _ _ _ _ _ _ _)
      | (with_reducible exact ih13 _ _ _ _ _ _ _ _ _ _ _)
      | (with_reducible exact ih14 _ _ _ _ _ _ _ _ _ _ _ _ _ _ _)
      | (with_reducible exact ih15 _ _ _ _ _ _ _ _ _ _ _)
      | (with_reducible exact ih16 _ _ _ _ _ _ _ _ _ _ _ _ _ _ _)
      | (with_reducible exact ih17 _ _ _ _ _ _ _ _ _ _ _ _ _)
      | (with_reducible exact ih18 _ _ _ _ _ _ _ _ _ _ _ _)
      | (with_reducible exact ih19 _ _ _ _ _ _ _ _ _ _ _ _ _)
      | (with_reducible exact ih20 _ _ _ _ _ _ _ _ _ _ _ _ _)
      | (with_reducible exact ih21 _ _ _ _ _ _ _ _ _ _ _ _)
      | (with_reducible exact ih22 _ _ _ _ _ _ _ _ _ _ _ _ _)
      | (with_reducible exact impl_CanBeLeft.mono _ _ _)
      | (with_reducible exact impl_CountWith.mono _ _ _ _)
      | (with_reducible exact impl_LeastWith.mono _ _ _)
      | (with_reducible exact impl_RemaindersOf.mono _ _ _)
      | (with_reducible exact impl_StepOf.mono _ _)
      | (with_reducible exact impl_TimesTurned.mono _ _ _)
      | (with_reducible exact impl_TurnFormation.mono _ _ _)
      | (with_reducible exact laws_mSame.mono _ _ _)
      | (with_reducible exact spec_CanBeLeft.mono _ _ _)
      | (with_reducible exact spec_CountWith.mono _ _ _ _)
      | (with_reducible exact spec_LeastWith.mono _ _ _)
      | (with_reducible exact spec_RemaindersOf.mono _ _ _)
      | (with_reducible exact spec_StepOf.mono _ _)
      | (with_reducible exact spec_TimesTurned.mono _ _ _)
      | (with_reducible exact spec_TurnFormation.mono _ _ _)
      | (with_reducible exact LeO.refl _)
      | (with_reducible exact LeO.none _)
      | (with_reducible refine LeO.ite ?_ ?_)
      | (with_reducible refine LeO.bind ?_ (fun _ => ?_))
      | exact ih0 _ _ _ _ _ _ _ _ _ _
      | exact ih1 _ _ _ _ _ _ _ _ _ _ _ _ _ _
      | exact ih2 _ _ _ _ _ _ _ _ _ _
      | exact ih3 _ _ _ _ _ _ _
      | exact ih4 _ _ _ _ _ _ _ _ _ _ _
      | exact ih5 _ _ _ _ _ _ _ _ _ _
      | exact ih6 _ _ _ _ _
      | exact ih7 _ _ _ _ _ _ _ _
      | exact ih8 _ _ _
      | exact ih9 _ _ _ _ _
      | exact ih10 _ _ _ _
      | exact ih11 _ _ _ _ _ _ _ _
      | exact ih12 _ _ _ _ _ _ _ _
      | exact ih13 _ _ _ _ _ _ _ _ _ _ _
      | exact ih14 _ _ _ _ _ _ _ _ _ _ _ _ _ _ _
      | exact ih15 _ _ _ _ _ _ _ _ _ _ _
      | exact ih16 _ _ _ _ _ _ _ _ _ _ _ _ _ _ _
      | exact ih17 _ _ _ _ _ _ _ _ _ _ _ _ _
      | exact ih18 _ _ _ _ _ _ _ _ _ _ _ _
      | exact ih19 _ _ _ _ _ _ _ _ _ _ _ _ _
      | exact ih20 _ _ _ _ _ _ _ _ _ _ _ _ _
      | exact ih21 _ _ _ _ _ _ _ _ _ _ _ _
      | exact ih22 _ _ _ _ _ _ _ _ _ _ _ _ _
      | exact impl_CanBeLeft.mono _ _ _
      | exact impl_CountWith.mono _ _ _ _
      | exact impl_LeastWith.mono _ _ _
      | exact impl_RemaindersOf.mono _ _ _
      | exact impl_StepOf.mono _ _
      | exact impl_TimesTurned.mono _ _ _
      | exact impl_TurnFormation.mono _ _ _
      | exact laws_mSame.mono _ _ _
      | exact spec_CanBeLeft.mono _ _ _
      | exact spec_CountWith.mono _ _ _ _
      | exact spec_LeastWith.mono _ _ _
      | exact spec_RemaindersOf.mono _ _ _
      | exact spec_StepOf.mono _ _
      | exact spec_TimesTurned.mono _ _ _
      | exact spec_TurnFormation.mono _ _ _
      | exact LeO.none _
      | refine LeO.ite ?_ ?_
      | refine LeO.bind ?_ (fun _ => ?_)
    · intro y0 y1 y2 y3 y4 y5 y6 y7
      unfold laws_FnFormsLeftOfAll.l7
      repeat' first
      | (with_reducible exact ih0 _ _ _ _ _ _ _ _ _ _)
      | (with_reducible exact ih1 _ _ _ _ _ _ _ _ _ _ _ _ _ _)
      | (with_reducible exact ih2 _ _ _ _ _ _ _ _ _ _)
      | (with_reducible exact ih3 _ _ _ _ _ _ _)
      | (with_reducible exact ih4 _ _ _ _ _ _ _ _ _ _ _)
      | (with_reducible exact ih5 _ _ _ _ _ _ _ _ _ _)
      | (with_reducible exact ih6 _ _ _ _ _)
      | (with_reducible exact ih7 _ _ _ _ _ _ _ _)
      | (with_reducible exact ih8 _ _ _)
      | (with_reducible exact ih9 _ _ _ _ _)
      | (with_reducible exact ih10 _ _ _ _)
      | (with_reducible exact ih11 _ _ _ _ _ _ _ _)
      | (with_reducible exact ih12 _ _ _ _ _ _ _ _)
      | (with_reducible exact ih13 _ _ _ _ _ _ _ _ _ _ _)
      | (with_reducible exact ih14 _ _ _ _ _ _ _ _ _ _ _ _ _ _ _)
      | (with_reducible exact ih15 _ _ _ _ _ _ _ _ _ _ _)
      | (with_reducible exact ih16 _ _ _ _ _ _ _ _ _ _ _ _ _ _ _)
      | (with_reducible exact ih17 _ _ _ _ _ _ _ _ _ _ _ _ _)
      | (with_reducible exact ih18 _ _ _ _ _ _ _ _ _ _ _ _)
      | (with_reducible exact ih19 _ _ _ _ _ _ _ _ _ _ _ _ _)
      | (with_reducible exact ih20 _ _ _ _ _ _ _ _ _ _ _ _ _)
      | (with_reducible exact ih21 _ _ _ _ _ _ _ _ _ _ _ _)
      | (with_reducible exact ih22 _ _ _ _ _ _ _ _ _ _ _ _ _)
      | (with_reducible exact impl_CanBeLeft.mono _ _ _)
      | (with_reducible exact impl_CountWith.mono _ _ _ _)
      | (with_reducible exact impl_LeastWith.mono _ _ _)
      | (with_reducible exact impl_RemaindersOf.mono _ _ _)
      | (with_reducible exact impl_StepOf.mono _ _)
      | (with_reducible exact impl_TimesTurned.mono _ _ _)
      | (with_reducible exact impl_TurnFormation.mono _ _ _)
      | (with_reducible exact laws_mSame.mono _ _ _)
      | (with_reducible exact spec_CanBeLeft.mono _ _ _)
      | (with_reducible exact spec_CountWith.mono _ _ _ _)
      | (with_reducible exact spec_LeastWith.mono _ _ _)
      | (with_reducible exact spec_RemaindersOf.mono _ _ _)
      | (with_reducible exact spec_StepOf.mono _ _)
      | (with_reducible exact spec_TimesTurned.mono _ _ _)
      | (with_reducible exact spec_TurnFormation.mono _ _ _)
      | (with_reducible exact LeO.refl _)
      | (with_reducible exact LeO.none _)
      | (with_reducible refine LeO.ite ?_ ?_)
      | (with_reducible refine LeO.bind ?_ (fun _ => ?_))
      | exact ih0 _ _ _ _ _ _ _ _ _ _
      | exact ih1 _ _ _ _ _ _ _ _ _ _ _ _ _ _
      | exact ih2 _ _ _ _ _ _ _ _ _ _
      | exact ih3 _ _ _ _ _ _ _
      | exact ih4 _ _ _ _ _ _ _ _ _ _ _
      | exact ih5 _ _ _ _ _ _ _ _ _ _
      | exact ih6 _ _ _ _ _
      | exact ih7 _ _ _ _ _ _ _ _
      | exact ih8 _ _ _
      | exact ih9 _ _ _ _ _
      | exact ih10 _ _ _ _
      | exact ih11 _ _ _ _ _ _ _ _
      | exact ih12 _ _ _ _ _ _ _ _
      | exact ih13 _ _ _ _ _ _ _ _ _ _ _
      | exact ih14 _ _ _ _ _ _ _ _ _ _ _ _ _ _ _
      | exact ih15 _ _ _ _ _ _ _ _ _ _ _
      | exact ih16 _ _ _ _ _ _ _ _ _ _ _ _ _ _ _
      | exact ih17 _ _ _ _ _ _ _ _ _ _ _ _ _
      | exact ih18 _ _ _ _ _ _ _ _ _ _ _ _
      | exact ih19 _ _ _ _ _ _ _ _ _ _ _ _ _
      | exact ih20 _ _ _ _ _ _ _ _ _ _ _ _ _
      | exact ih21 _ _ _ _ _ _ _ _ _ _ _ _
      | exact ih22 _ _ _ _ _ _ _ _ _ _ _ _ _
      | exact impl_CanBeLeft.mono _ _ _
      | exact impl_CountWith.mono _ _ _ _
      | exact impl_LeastWith.mono _ _ _
      | exact impl_RemaindersOf.mono _ _ _
      | exact impl_StepOf.mono _ _
      | exact impl_TimesTurned.mono _ _ _
      | exact impl_TurnFormation.mono _ _ _
      | exact laws_mSame.mono _ _ _
      | exact spec_CanBeLeft.mono _ _ _
      | exact spec_CountWith.mono _ _ _ _
      | exact spec_LeastWith.mono _ _ _
      | exact spec_RemaindersOf.mono _ _ _
      | exact spec_StepOf.mono _ _
      | exact spec_TimesTurned.mono _ _ _
      | exact spec_TurnFormation.mono _ _ _
      | exact LeO.none _
      | refine LeO.ite ?_ ?_
      | refine LeO.bind ?_ (fun _ => ?_)
    · intro y0 y1 y2 y3 y4 y5 y6 y7
      unfold laws_FnFormsLeftOfAll.l8
      repeat' first
      | (with_reducible exact ih0 _ _ _ _ _ _ _ _ _ _)
      | (with_reducible exact ih1 _ _ _ _ _ _ _ _ _ _ _ _ _ _)
      | (with_reducible exact ih2 _ _ _ _ _ _ _ _ _ _)
      | (with_reducible exact ih3 _ _ _ _ _ _ _)
      | (with_reducible exact ih4 _ _ _ _ _ _ _ _ _ _ _)
      | (with_reducible exact ih5 _ _ _ _ _ _ _ _ _ _)
      | (with_reducible exact ih6 _ _ _ _ _)
      | (with_reducible exact ih7 _ _ _ _ _ _ _ _)
      | (with_reducible exact ih8 _ _ _)
      | (with_reducible exact ih9 _ _ _ _ _)
      | (with_reducible exact ih10 _ _ _ _)
      | (with_reducible exact ih11 _ _ _ _ _ _ _ _)
      | (with_reducible exact ih12 _ _ _ _ _ _ _ _)
      | (with_reducible exact ih13 _ _ _ _ _ _ _ _ _ _ _)
      | (with_reducible exact ih14 _ _ _ _ _ _ _ _ _ _ _ _ _ _ _)
      | (with_reducible exact ih15 _ _ _ _ _ _ _ _ _ _ _)
      | (with_reducible exact ih16 _ _ _ _ _ _ _ _ _ _ _ _ _ _ _)
      | (with_reducible exact ih17 _ _ _ _ _ _ _ _ _ _ _ _ _)
      | (with_reducible exact ih18 _ _ _ _ _ _ _ _ _ _ _ _)
      | (with_reducible exact ih19 _ _ _ _ _ _ _ _ _ _ _ _ _)
      | (with_reducible exact ih20 _ _ _ _ _ _ _ _ _ _ _ _ _)
      | (with_reducible exact ih21 _ _ _ _ _ _ _ _ _ _ _ _)
      | (with_reducible exact ih22 _ _ _ _ _ _ _ _ _ _ _ _ _)
      | (with_reducible exact impl_CanBeLeft.mono _ _ _)
      | (with_reducible exact impl_CountWith.mono _ _ _ _)
      | (with_reducible exact impl_LeastWith.mono _ _ _)
      | (with_reducible exact impl_RemaindersOf.mono _ _ _)
      | (with_reducible exact impl_StepOf.mono _ _)
      | (with_reducible exact impl_TimesTurned.mono _ _ _)
      | (with_reducible exact impl_TurnFormation.mono _ _ _)
      | (with_reducible exact laws_mSame.mono _ _ _)
      | (with_reducible exact spec_CanBeLeft.mono _ _ _)
      | (with_reducible exact spec_CountWith.mono _ _ _ _)
      | (with_reducible exact spec_LeastWith.mono _ _ _)
      | (with_reducible exact spec_RemaindersOf.mono _ _ _)
      | (with_reducible exact spec_StepOf.mono _ _)
      | (with_reducible exact spec_TimesTurned.mono _ _ _)
      | (with_reducible exact spec_TurnFormation.mono _ _ _)
      | (with_reducible exact LeO.refl _)
      | (with_reducible exact LeO.none _)
      | (with_reducible refine LeO.ite ?_ ?_)
      | (with_reducible refine LeO.bind ?_ (fun _ => ?_))
      | exact ih0 _ _ _ _ _ _ _ _ _ _
      | exact ih1 _ _ _ _ _ _ _ _ _ _ _ _ _ _
      | exact ih2 _ _ _ _ _ _ _ _ _ _
      | exact ih3 _ _ _ _ _ _ _
      | exact ih4 _ _ _ _ _ _ _ _ _ _ _
      | exact ih5 _ _ _ _ _ _ _ _ _ _
      | exact ih6 _ _ _ _ _
      | exact ih7 _ _ _ _ _ _ _ _
      | exact ih8 _ _ _
      | exact ih9 _ _ _ _ _
      | exact ih10 _ _ _ _
      | exact ih11 _ _ _ _ _ _ _ _
      | exact ih12 _ _ _ _ _ _ _ _
      | exact ih13 _ _ _ _ _ _ _ _ _ _ _
      | exact ih14 _ _ _ _ _ _ _ _ _ _ _ _ _ _ _
      | exact ih15 _ _ _ _ _ _ _ _ _ _ _
      | exact ih16 _ _ _ _ _ _ _ _ _ _ _ _ _ _ _
      | exact ih17 _ _ _ _ _ _ _ _ _ _ _ _ _
      | exact ih18 _ _ _ _ _ _ _ _ _ _ _ _
      | exact ih19 _ _ _ _ _ _ _ _ _ _ _ _ _
      | exact ih20 _ _ _ _ _ _ _ _ _ _ _ _ _
      | exact ih21 _ _ _ _ _ _ _ _ _ _ _ _
      | exact ih22 _ _ _ _ _ _ _ _ _ _ _ _ _
      | exact impl_CanBeLeft.mono _ _ _
      | exact impl_CountWith.mono _ _ _ _
      | exact impl_LeastWith.mono _ _ _
      | exact impl_RemaindersOf.mono _ _ _
      | exact impl_StepOf.mono _ _
      | exact impl_TimesTurned.mono _ _ _
      | exact impl_TurnFormation.mono _ _ _
      | exact laws_mSame.mono _ _ _
      | exact spec_CanBeLeft.mono _ _ _
      | exact spec_CountWith.mono _ _ _ _
      | exact spec_LeastWith.mono _ _ _
      | exact spec_RemaindersOf.mono _ _ _
      | exact spec_StepOf.mono _ _
      | exact spec_TimesTurned.mono _ _ _
      | exact spec_TurnFormation.mono _ _ _
      | exact LeO.none _
      | refine LeO.ite ?_ ?_
      | refine LeO.bind ?_ (fun _ => ?_)
    · intro y0 y1 y2 y3 y4 y5 y6 y7 y8 y9 y10
      unfold laws_FnFormsLeftOfAll.l2
      repeat' first
      | (with_reducible exact ih0 _ _ _ _ _ _ _ _ _ _)
      | (with_reducible exact ih1 _ _ _ _ _ _ _ _ _ _ _ _ _ _)
      | (with_reducible exact ih2 _ _ _ _ _ _ _ _ _ _)
      | (with_reducible exact ih3 _ _ _ _ _ _ _)
      | (with_reducible exact ih4 _ _ _ _ _ _ _ _ _ _ _)
      | (with_reducible exact ih5 _ _ _ _ _ _ _ _ _ _)
      | (with_reducible exact ih6 _ _ _ _ _)
      | (with_reducible exact ih7 _ _ _ _ _ _ _ _)
      | (with_reducible exact ih8 _ _ _)
      | (with_reducible exact ih9 _ _ _ _ _)
      | (with_reducible exact ih10 _ _ _ _)
      | (with_reducible exact ih11 _ _ _ _ _ _ _ _)
      | (with_reducible exact ih12 _ _ _ _ _ _ _ _)
      | (with_reducible exact ih13 _ _ _ _ _ _ _ _ _ _ _)
      | (with_reducible exact ih14 _ _ _ _ _ _ _ _ _ _ _ _ _ _ _)
      | (with_reducible exact ih15 _ _ _ _ _ _ _ _ _ _ _)
      | (with_reducible exact ih16 _ _ _ _ _ _ _ _ _ _ _ _ _ _ _)
      | (with_reducible exact ih17 _ _ _ _ _ _ _ _ _ _ _ _ _)
      | (with_reducible exact ih18 _ _ _ _ _ _ _ _ _ _ _ _)
      | (with_reducible exact ih19 _ _ _ _ _ _ _ _ _ _ _ _ _)
      | (with_reducible exact ih20 _ _ _ _ _ _ _ _ _ _ _ _ _)
      | (with_reducible exact ih21 _ _ _ _ _ _ _ _ _ _ _ _)
      | (with_reducible exact ih22 _ _ _ _ _ _ _ _ _ _ _ _ _)
      | (with_reducible exact impl_CanBeLeft.mono _ _ _)
      | (with_reducible exact impl_CountWith.mono _ _ _ _)
      | (with_reducible exact impl_LeastWith.mono _ _ _)
      | (with_reducible exact impl_RemaindersOf.mono _ _ _)
      | (with_reducible exact impl_StepOf.mono _ _)
      | (with_reducible exact impl_TimesTurned.mono _ _ _)
      | (with_reducible exact impl_TurnFormation.mono _ _ _)
      | (with_reducible exact laws_mSame.mono _ _ _)
      | (with_reducible exact spec_CanBeLeft.mono _ _ _)
      | (with_reducible exact spec_CountWith.mono _ _ _ _)
      | (with_reducible exact spec_LeastWith.mono _ _ _)
      | (with_reducible exact spec_RemaindersOf.mono _ _ _)
      | (with_reducible exact spec_StepOf.mono _ _)
      | (with_reducible exact spec_TimesTurned.mono _ _ _)
      | (with_reducible exact spec_TurnFormation.mono _ _ _)
      | (with_reducible exact LeO.refl _)
      | (with_reducible exact LeO.none _)
      | (with_reducible refine LeO.ite ?_ ?_)
      | (with_reducible refine LeO.bind ?_ (fun _ => ?_))
      | exact ih0 _ _ _ _ _ _ _ _ _ _
      | exact ih1 _ _ _ _ _ _ _ _ _ _ _ _ _ _
      | exact ih2 _ _ _ _ _ _ _ _ _ _
      | exact ih3 _ _ _ _ _ _ _
      | exact ih4 _ _ _ _ _ _ _ _ _ _ _
      | exact ih5 _ _ _ _ _ _ _ _ _ _
      | exact ih6 _ _ _ _ _
      | exact ih7 _ _ _ _ _ _ _ _
      | exact ih8 _ _ _
      | exact ih9 _ _ _ _ _
      | exact ih10 _ _ _ _
      | exact ih11 _ _ _ _ _ _ _ _
      | exact ih12 _ _ _ _ _ _ _ _
      | exact ih13 _ _ _ _ _ _ _ _ _ _ _
      | exact ih14 _ _ _ _ _ _ _ _ _ _ _ _ _ _ _
      | exact ih15 _ _ _ _ _ _ _ _ _ _ _
      | exact ih16 _ _ _ _ _ _ _ _ _ _ _ _ _ _ _
      | exact ih17 _ _ _ _ _ _ _ _ _ _ _ _ _
      | exact ih18 _ _ _ _ _ _ _ _ _ _ _ _
      | exact ih19 _ _ _ _ _ _ _ _ _ _ _ _ _
      | exact ih20 _ _ _ _ _ _ _ _ _ _ _ _ _
      | exact ih21 _ _ _ _ _ _ _ _ _ _ _ _
      | exact ih22 _ _ _ _ _ _ _ _ _ _ _ _ _
      | exact impl_CanBeLeft.mono _ _ _
      | exact impl_CountWith.mono _ _ _ _
      | exact impl_LeastWith.mono _ _ _
      | exact impl_RemaindersOf.mono _ _ _
      | exact impl_StepOf.mono _ _
      | exact impl_TimesTurned.mono _ _ _
      | exact impl_TurnFormation.mono _ _ _
      | exact laws_mSame.mono _ _ _
      | exact spec_CanBeLeft.mono _ _ _
      | exact spec_CountWith.mono _ _ _ _
      | exact spec_LeastWith.mono _ _ _
      | exact spec_RemaindersOf.mono _ _ _
      | exact spec_StepOf.mono _ _
      | exact spec_TimesTurned.mono _ _ _
      | exact spec_TurnFormation.mono _ _ _
      | exact LeO.none _
      | refine LeO.ite ?_ ?_
      | refine LeO.bind ?_ (fun _ => ?_)
    · intro y0 y1 y2 y3 y4 y5 y6 y7 y8 y9 y10 y11 y12 y13 y14
      unfold laws_FnFormsLeftOfAll.l3
      repeat' first
      | (with_reducible exact ih0 _ _ _ _ _ _ _ _ _ _)
      | (with_reducible exact ih1 _ _ _ _ _ _ _ _ _ _ _ _ _ _)
      | (with_reducible exact ih2 _ _ _ _ _ _ _ _ _ _)
      | (with_reducible exact ih3 _ _ _ _ _ _ _)
      | (with_reducible exact ih4 _ _ _ _ _ _ _ _ _ _ _)
      | (with_reducible exact ih5 _ _ _ _ _ _ _ _ _ _)
      | (with_reducible exact ih6 _ _ _ _ _)
      | (with_reducible exact ih7 _ _ _ _ _ _ _ _)
      | (with_reducible exact ih8 _ _ _)
      | (with_reducible exact ih9 _ _ _ _ _)
      | (with_reducible exact ih10 _ _ _ _)
      | (with_reducible exact ih11 _ _ _ _ _ _ _ _)
      | (with_reducible exact ih12 _ _ _ _ _ _ _ _)
      | (with_reducible exact ih13 _ _ _ _ _ _ _ _ _ _ _)
      | (with_reducible exact ih14 _ _ _ _ _ _ _ _ _ _ _ _ _ _ _)
      | (with_reducible exact ih15 _ _ _ _ _ _ _ _ _ _ _)
      | (with_reducible exact ih16 _ _ _ _ _ _ _ _ _ _ _ _ _ _ _)
      | (with_reducible exact ih17 _ _ _ _ _ _ _ _ _ _ _ _ _)
      | (with_reducible exact ih18 _ _ _ _ _ _ _ _ _ _ _ _)
      | (with_reducible exact ih19 _ _ _ _ _ _ _ _ _ _ _ _ _)
      | (with_reducible exact ih20 _ _ _ _ _ _ _ _ _ _ _ _ _)
      | (with_reducible exact ih21 _ _ _ _ _ _ _ _ _ _ _ _)
      | (with_reducible exact ih22 _ _ _ _ _ _ _ _ _ _ _ _ _)
      | (with_reducible exact impl_CanBeLeft.mono _ _ _)
      | (with_reducible exact impl_CountWith.mono _ _ _ _)
      | (with_reducible exact impl_LeastWith.mono _ _ _)
      | (with_reducible exact impl_RemaindersOf.mono _ _ _)
      | (with_reducible exact impl_StepOf.mono _ _)
      | (with_reducible exact impl_TimesTurned.mono _ _ _)
      | (with_reducible exact impl_TurnFormation.mono _ _ _)
      | (with_reducible exact laws_mSame.mono _ _ _)
      | (with_reducible exact spec_CanBeLeft.mono _ _ _)
      | (with_reducible exact spec_CountWith.mono _ _ _ _)
      | (with_reducible exact spec_LeastWith.mono _ _ _)
      | (with_reducible exact spec_RemaindersOf.mono _ _ _)
      | (with_reducible exact spec_StepOf.mono _ _)
      | (with_reducible exact spec_TimesTurned.mono _ _ _)
      | (with_reducible exact spec_TurnFormation.mono _ _ _)
      | (with_reducible exact LeO.refl _)
      | (with_reducible exact LeO.none _)
      | (with_reducible refine LeO.ite ?_ ?_)
      | (with_reducible refine LeO.bind ?_ (fun _ => ?_))
      | exact ih0 _ _ _ _ _ _ _ _ _ _
      | exact ih1 _ _ _ _ _ _ _ _ _ _ _ _ _ _
      | exact ih2 _ _ _ _ _ _ _ _ _ _
      | exact ih3 _ _ _ _ _ _ _
      | exact ih4 _ _ _ _ _ _ _ _ _ _ _
      | exact ih5 _ _ _ _ _ _ _ _ _ _
      | exact ih6 _ _ _ _ _
      | exact ih7 _ _ _ _ _ _ _ _
      | exact ih8 _ _ _
      | exact ih9 _ _ _ _ _
      | exact ih10 _ _ _ _
      | exact ih11 _ _ _ _ _ _ _ _
      | exact ih12 _ _ _ _ _ _ _ _
      | exact ih13 _ _ _ _ _ _ _ _ _ _ _
      | exact ih14 _ _ _ _ _ _ _ _ _ _ _ _ _ _ _
      | exact ih15 _ _ _ _ _ _ _ _ _ _ _
      | exact ih16 _ _ _ _ _ _ _ _ _ _ _ _ _ _ _
      | exact ih17 _ _ _ _ _ _ _ _ _ _ _ _ _
      | exact ih18 _ _ _ _ _ _ _ _ _ _ _ _
      | exact ih19 _ _ _ _ _ _ _ _ _ _ _ _ _
      | exact ih20 _ _ _ _ _ _ _ _ _ _ _ _ _
      | exact ih21 _ _ _ _ _ _ _ _ _ _ _ _
      | exact ih22 _ _ _ _ _ _ _ _ _ _ _ _ _
      | exact impl_CanBeLeft.mono _ _ _
      | exact impl_CountWith.mono _ _ _ _
      | exact impl_LeastWith.mono _ _ _
      | exact impl_RemaindersOf.mono _ _ _
      | exact impl_StepOf.mono _ _
      | exact impl_TimesTurned.mono _ _ _
      | exact impl_TurnFormation.mono _ _ _
      | exact laws_mSame.mono _ _ _
      | exact spec_CanBeLeft.mono _ _ _
      | exact spec_CountWith.mono _ _ _ _
      | exact spec_LeastWith.mono _ _ _
      | exact spec_RemaindersOf.mono _ _ _
      | exact spec_StepOf.mono _ _
      | exact spec_TimesTurned.mono _ _ _
      | exact spec_TurnFormation.mono _ _ _
      | exact LeO.none _
      | refine LeO.ite ?_ ?_
      | refine LeO.bind ?_ (fun _ => ?_)
    · intro y0 y1 y2 y3 y4 y5 y6 y7 y8 y9 y10
      unfold laws_FnFormsLeftOfAll.l1
      repeat' first
      | (with_reducible exact ih0 _ _ _ _ _ _ _ _ _ _)
      | (with_reducible exact ih1 _ _ _ _ _ _ _ _ _ _ _ _ _ _)
      | (with_reducible exact ih2 _ _ _ _ _ _ _ _ _ _)
      | (with_reducible exact ih3 _ _ _ _ _ _ _)
      | (with_reducible exact ih4 _ _ _ _ _ _ _ _ _ _ _)
      | (with_reducible exact ih5 _ _ _ _ _ _ _ _ _ _)
      | (with_reducible exact ih6 _ _ _ _ _)
      | (with_reducible exact ih7 _ _ _ _ _ _ _ _)
      | (with_reducible exact ih8 _ _ _)
      | (with_reducible exact ih9 _ _ _ _ _)
      | (with_reducible exact ih10 _ _ _ _)
      | (with_reducible exact ih11 _ _ _ _ _ _ _ _)
      | (with_reducible exact ih12 _ _ _ _ _ _ _ _)
      | (with_reducible exact ih13 _ _ _ _ _ _ _ _ _ _ _)
      | (with_reducible exact ih14 _ _ _ _ _ _ _ _ _ _ _ _ _ _ _)
      | (with_reducible exact ih15 _ _ _ _ _ _ _ _ _ _ _)
      | (with_reducible exact ih16 _ _ _ _ _ _ _ _ _ _ _ _ _ _ _)
      | (with_reducible exact ih17 _ _ _ _ _ _ _ _ _ _ _ _ _)
      | (with_reducible exact ih18 _ _ _ _ _ _ _ _ _ _ _ _)
      | (with_reducible exact ih19 _ _ _ _ _ _ _ _ _ _ _ _ _)
      | (with_reducible exact ih20 _ _ _ _ _ _ _ _ _ _ _ _ _)
      | (with_reducible exact ih21 _ _ _ _ _ _ _ _ _ _ _ _)
      | (with_reducible exact ih22 _ _ _ _ _ _ _ _ _ _ _ _ _)
      | (with_reducible exact impl_CanBeLeft.mono _ _ _)
      | (with_reducible exact impl_CountWith.mono _ _ _ _)
      | (with_reducible exact impl_LeastWith.mono _ _ _)
      | (with_reducible exact impl_RemaindersOf.mono _ _ _)
      | (with_reducible exact impl_StepOf.mono _ _)
      | (with_reducible exact impl_TimesTurned.mono _ _ _)
      | (with_reducible exact impl_TurnFormation.mono _ _ _)
      | (with_reducible exact laws_mSame.mono _ _ _)
      | (with_reducible exact spec_CanBeLeft.mono _ _ _)
      | (with_reducible exact spec_CountWith.mono _ _ _ _)
      | (with_reducible exact spec_LeastWith.mono _ _ _)
      | (with_reducible exact spec_RemaindersOf.mono _ _ _)
      | (with_reducible exact spec_StepOf.mono _ _)
      | (with_reducible exact spec_TimesTurned.mono _ _ _)
      | (with_reducible exact spec_TurnFormation.mono _ _ _)
      | (with_reducible exact LeO.refl _)
      | (with_reducible exact LeO.none _)
      | (with_reducible refine LeO.ite ?_ ?_)
      | (with_reducible refine LeO.bind ?_ (fun _ => ?_))
      | exact ih0 _ _ _ _ _ _ _ _ _ _
      | exact ih1 _ _ _ _ _ _ _ _ _ _ _ _ _ _
      | exact ih2 _ _ _ _ _ _ _ _ _ _
      | exact ih3 _ _ _ _ _ _ _
      | exact ih4 _ _ _ _ _ _ _ _ _ _ _
      | exact ih5 _ _ _ _ _ _ _ _ _ _
      | exact ih6 _ _ _ _ _
      | exact ih7 _ _ _ _ _ _ _ _
      | exact ih8 _ _ _
      | exact ih9 _ _ _ _ _
      | exact ih10 _ _ _ _
      | exact ih11 _ _ _ _ _ _ _ _
      | exact ih12 _ _ _ _ _ _ _ _
      | exact ih13 _ _ _ _ _ _ _ _ _ _ _
      | exact ih14 _ _ _ _ _ _ _ _ _ _ _ _ _ _ _
      | exact ih15 _ _ _ _ _ _ _ _ _ _ _
      | exact ih16 _ _ _ _ _ _ _ _ _ _ _ _ _ _ _
      | exact ih17 _ _ _ _ _ _ _ _ _ _ _ _ _
      | exact ih18 _ _ _ _ _ _ _ _ _ _ _ _
      | exact ih19 _ _ _ _ _ _ _ _ _ _ _ _ _
      | exact ih20 _ _ _ _ _ _ _ _ _ _ _ _ _
      | exact ih21 _ _ _ _ _ _ _ _ _ _ _ _
      | exact ih22 _ _ _ _ _ _ _ _ _ _ _ _ _
      | exact impl_CanBeLeft.mono _ _ _
      | exact impl_CountWith.mono _ _ _ _
      | exact impl_LeastWith.mono _ _ _
      | exact impl_RemaindersOf.mono _ _ _
      | exact impl_StepOf.mono _ _
      | exact impl_TimesTurned.mono _ _ _
      | exact impl_TurnFormation.mono _ _ _
      | exact laws_mSame.mono _ _ _
      | exact spec_CanBeLeft.mono _ _ _
      | exact spec_CountWith.mono _ _ _ _
      | exact spec_LeastWith.mono _ _ _
      | exact spec_RemaindersOf.mono _ _ _
      | exact spec_StepOf.mono _ _
      | exact spec_TimesTurned.mono _ _ _
      | exact spec_TurnFormation.mono _ _ _
      | exact LeO.none _
      | refine LeO.ite ?_ ?_
      | refine LeO.bind ?_ (fun _ => ?_)
    · intro y0 y1 y2 y3 y4 y5 y6 y7 y8 y9 y10 y11 y12 y13 y14
      unfold laws_FnFormsLeftOfAll.l0
      repeat' first
      | (with_reducible exact ih0 _ _ _ _ _ _ _ _ _ _)
      | (with_reducible exact ih1 _ _ _ _ _ _ _ _ _ _ _ _ _ _)
      | (with_reducible exact ih2 _ _ _ _ _ _ _ _ _ _)
      | (with_reducible exact ih3 _ _ _ _ _ _ _)
      | (with_reducible exact ih4 _ _ _ _ _ _ _ _ _ _ _)
      | (with_reducible exact ih5 _ _ _ _ _ _ _ _ _ _)
      | (with_reducible exact ih6 _ _ _ _ _)
      | (with_reducible exact ih7 _ _ _ _ _ _ _ _)
      | (with_reducible exact ih8 _ _ _)
      | (with_reducible exact ih9 _ _ _ _ _)
      | (with_reducible exact ih10 _ _ _ _)
      | (with_reducible exact ih11 _ _ _ _ _ _ _ _)
      | (with_reducible exact ih12 _ _ _ _ _ _ _ _)
      | (with_reducible exact ih13 _ _ _ _ _ _ _ _ _ _ _)
      | (with_reducible exact ih14 _ _ _ _ _ _ _ _ _ _ _ _ _ _ _)
      | (with_reducible exact ih15 _ _ _ _ _ _ _ _ _ _ _)
      | (with_reducible exact ih16 _ _ _ _ _ _ _ _ _ _ _ _ _ _ _)
      | (with_reducible exact ih17 _ _ _ _ _ _ _ _ _ _ _ _ _)
      | (with_reducible exact ih18 _ _ _ _ _ _ _ _ _ _ _ _)
      | (with_reducible exact ih19 _ _ _ _ _ _ _ _ _ _ _ _ _)
      | (with_reducible exact ih20 _ _ _ _ _ _ _ _ _ _ _ _ _)
      | (with_reducible exact ih21 _ _ _ _ _ _ _ _ _ _ _ _)
      | (with_reducible exact ih22 _ _ _ _ _ _ _ _ _ _ _ _ _)
      | (with_reducible exact impl_CanBeLeft.mono _ _ _)
      | (with_reducible exact impl_CountWith.mono _ _ _ _)
      | (with_reducible exact impl_LeastWith.mono _ _ _)
      | (with_reducible exact impl_RemaindersOf.mono _ _ _)
      | (with_reducible exact impl_StepOf.mono _ _)
      | (with_reducible exact impl_TimesTurned.mono _ _ _)
      | (with_reducible exact impl_TurnFormation.mono _ _ _)
      | (with_reducible exact laws_mSame.mono _ _ _)
      | (with_reducible exact spec_CanBeLeft.mono _ _ _)
      | (with_reducible exact spec_CountWith.mono _ _ _ _)
      | (with_reducible exact spec_LeastWith.mono _ _ _)
      | (with_reducible exact spec_RemaindersOf.mono _ _ _)
      | (with_reducible exact spec_StepOf.mono _ _)
      | (with_reducible exact spec_TimesTurned.mono _ _ _)
      | (with_reducible exact spec_TurnFormation.mono _ _ _)
      | (with_reducible exact LeO.refl _)
      | (with_reducible exact LeO.none _)
      | (with_reducible refine LeO.ite ?_ ?_)
      | (with_reducible refine LeO.bind ?_ (fun _ => ?_))
      | exact ih0 _ _ _ _ _ _ _ _ _ _
      | exact ih1 _ _ _ _ _ _ _ _ _ _ _ _ _ _
      | exact ih2 _ _ _ _ _ _ _ _ _ _
      | exact ih3 _ _ _ _ _ _ _
      | exact ih4 _ _ _ _ _ _ _ _ _ _ _
      | exact ih5 _ _ _ _ _ _ _ _ _ _
      | exact ih6 _ _ _ _ _
      | exact ih7 _ _ _ _ _ _ _ _
      | exact ih8 _ _ _
      | exact ih9 _ _ _ _ _
      | exact ih10 _ _ _ _
      | exact ih11 _ _ _ _ _ _ _ _
      | exact ih12 _ _ _ _ _ _ _ _
      | exact ih13 _ _ _ _ _ _ _ _ _ _ _
      | exact ih14 _ _ _ _ _ _ _ _ _ _ _ _ _ _ _
      | exact ih15 _ _ _ _ _ _ _ _ _ _ _
      | exact ih16 _ _ _ _ _ _ _ _ _ _ _ _ _ _ _
      | exact ih17 _ _ _ _ _ _ _ _ _ _ _ _ _
      | exact ih18 _ _ _ _ _ _ _ _ _ _ _ _
      | exact ih19 _ _ _ _ _ _ _ _ _ _ _ _ _
      | exact ih20 _ _ _ _ _ _ _ _ _ _ _ _ _
      | exact ih21 _ _ _ _ _ _ _ _ _ _ _ _
      | exact ih22 _ _ _ _ _ _ _ _ _ _ _ _ _
      | exact impl_CanBeLeft.mono _ _ _
      | exact impl_CountWith.mono _ _ _ _
      | exact impl_LeastWith.mono _ _ _
      | exact impl_RemaindersOf.mono _ _ _
      | exact impl_StepOf.mono _ _
      | exact impl_TimesTurned.mono _ _ _
      | exact impl_TurnFormation.mono _ _ _
      | exact laws_mSame.mono _ _ _
      | exact spec_CanBeLeft.mono _ _ _
      | exact spec_CountWith.mono _ _ _ _
      | exact spec_LeastWith.mono _ _ _
      | exact spec_RemaindersOf.mono _ _ _
      | exact spec_StepOf.mono _ _
      | exact spec_TimesTurned.mono _ _ _
      | exact spec_TurnFormation.mono _ _ _
      | exact LeO.none _
      | refine LeO.ite ?_ ?_
      | refine LeO.bind ?_ (fun _ => ?_)
    · intro y0 y1 y2 y3 y4 y5 y6 y7 y8 y9 y10 y11 y12
      unfold laws_FnFormsLeftOfAll.j3
      repeat' first
      | (with_reducible exact ih0 _ _ _ _ _ _ _ _ _ _)
      | (with_reducible exact ih1 _ _ _ _ _ _ _ _ _ _ _ _ _ _)
      | (with_reducible exact ih2 _ _ _ _ _ _ _ _ _ _)
      | (with_reducible exact ih3 _ _ _ _ _ _ _)
      | (with_reducible exact ih4 _ _ _ _ _ _ _ _ _ _ _)
      | (with_reducible exact ih5 _ _ _ _ _ _ _ _ _ _)
      | (with_reducible exact ih6 _ _ _ _ _)
      | (with_reducible exact ih7 _ _ _ _ _ _ _ _)
      | (with_reducible exact ih8 _ _ _)
      | (with_reducible exact ih9 _ _ _ _ _)
      | (with_reducible exact ih10 _ _ _ _)
      | (with_reducible exact ih11 _ _ _ _ _ _ _ _)
      | (with_reducible exact ih12 _ _ _ _ _ _ _ _)
      | (with_reducible exact ih13 _ _ _ _ _ _ _ _ _ _ _)
      | (with_reducible exact ih14 _ _ _ _ _ _ _ _ _ _ _ _ _ _ _)
      | (with_reducible exact ih15 _ _ _ _ _ _ _ _ _ _ _)
      | (with_reducible exact ih16 _ _ _ _ _ _ _ _ _ _ _ _ _ _ _)
      | (with_reducible exact ih17 _ _ _ _ _ _ _ _ _ _ _ _ _)
      | (with_reducible exact ih18 _ _ _ _ _ _ _ _ _ _ _ _)
      | (with_reducible exact ih19 _ _ _ _ _ _ _ _ _ _ _ _ _)
      | (with_reducible exact ih20 _ _ _ _ _ _ _ _ _ _ _ _ _)
      | (with_reducible exact ih21 _ _ _ _ _ _ _ _ _ _ _ _)
      | (with_reducible exact ih22 _ _ _ _ _ _ _ _ _ _ _ _ _)
      | (with_reducible exact impl_CanBeLeft.mono _ _ _)
      | (with_reducible exact impl_CountWith.mono _ _ _ _)
      | (with_reducible exact impl_LeastWith.mono _ _ _)
      | (with_reducible exact impl_RemaindersOf.mono _ _ _)
      | (with_reducible exact impl_StepOf.mono _ _)
      | (with_reducible exact impl_TimesTurned.mono _ _ _)
      | (with_reducible exact impl_TurnFormation.mono _ _ _)
      | (with_reducible exact laws_mSame.mono _ _ _)
      | (with_reducible exact spec_CanBeLeft.mono _ _ _)
      | (with_reducible exact spec_CountWith.mono _ _ _ _)
      | (with_reducible exact spec_LeastWith.mono _ _ _)
      | (with_reducible exact spec_RemaindersOf.mono _ _ _)
      | (with_reducible exact spec_StepOf.mono _ _)
      | (with_reducible exact spec_TimesTurned.mono _ _ _)
      | (with_reducible exact spec_TurnFormation.mono _ _ _)
      | (with_reducible exact LeO.refl _)
      | (with_reducible exact LeO.none _)
      | (with_reducible refine LeO.ite ?_ ?_)
      | (with_reducible refine LeO.bind ?_ (fun _ => ?_))
      | exact ih0 _ _ _ _ _ _ _ _ _ _
      | exact ih1 _ _ _ _ _ _ _ _ _ _ _ _ _ _
      | exact ih2 _ _ _ _ _ _ _ _ _ _
      | exact ih3 _ _ _ _ _ _ _
      | exact ih4 _ _ _ _ _ _ _ _ _ _ _
      | exact ih5 _ _ _ _ _ _ _ _ _ _
      | exact ih6 _ _ _ _ _
      | exact ih7 _ _ _ _ _ _ _ _
      | exact ih8 _ _ _
      | exact ih9 _ _ _ _ _
      | exact ih10 _ _ _ _
      | exact ih11 _ _ _ _ _ _ _ _
      | exact ih12 _ _ _ _ _ _ _ _
      | exact ih13 _ _ _ _ _ _ _ _ _ _ _
      | exact ih14 _ _ _ _ _ _ _ _ _ _ _ _ _ _ _
      | exact ih15 _ _ _ _ _ _ _ _ _ _ _
      | exact ih16 _ _ _ _ _ _ _ _ _ _ _ _ _ _ _
      | exact ih17 _ _ _ _ _ _ _ _ _ _ _ _ _
      | exact ih18 _ _ _ _ _ _ _ _ _ _ _ _
      | exact ih19 _ _ _ _ _ _ _ _ _ _ _ _ _
      | exact ih20 _ _ _ _ _ _ _ _ _ _ _ _ _
      | exact ih21 _ _ _ _ _ _ _ _ _ _ _ _
      | exact ih22 _ _ _ _ _ _ _ _ _ _ _ _ _
      | exact impl_CanBeLeft.mono _ _ _
      | exact impl_CountWith.mono _ _ _ _
      | exact impl_LeastWith.mono _ _ _
      | exact impl_RemaindersOf.mono _ _ _
      | exact impl_StepOf.mono _ _
      | exact impl_TimesTurned.mono _ _ _
      | exact impl_TurnFormation.mono _ _ _
      | exact laws_mSame.mono _ _ _
      | exact spec_CanBeLeft.mono _ _ _
      | exact spec_CountWith.mono _ _ _ _
      | exact spec_LeastWith.mono _ _ _
      | exact spec_RemaindersOf.mono _ _ _
      | exact spec_StepOf.mono _ _
      | exact spec_TimesTurned.mono _ _ _
      | exact spec_TurnFormation.mono _ _ _
      | exact LeO.none _
      | refine LeO.ite ?_ ?_
      | refine LeO.bind ?_ (fun _ => ?_)
    · intro y0 y1 y2 y3 y4 y5 y6 y7 y8 y9 y10 y11
      unfold laws_FnFormsLeftOfAll.j7
      repeat' first
      | (with_reducible exact ih0 _ _ _ _ _ _ _ _ _ _)
      | (with_reducible exact ih1 _ _ _ _ _ _ _ _ _ _ _ _ _ _)
      | (with_reducible exact ih2 _ _ _ _ _ _ _ _ _ _)
      | (with_reducible exact ih3 _ _ _ _ _ _ _)
      | (with_reducible exact ih4 _ _ _ _ _ _ _ _ _ _ _)
      | (with_reducible exact ih5 _ _ _ _ _ _ _ _ _ _)
      | (with_reducible exact ih6 _ _ _ _ _)
      | (with_reducible exact ih7 _ _ _ _ _ _ _ _)
      | (with_reducible exact ih8 _ _ _)
      | (with_reducible exact ih9 _ _ _ _ _)
      | (with_reducible exact ih10 _ _ _ _)
      | (with_reducible exact ih11 _ _ _ _ _ _ _ _)
      | (with_reducible exact ih12 _ _ _ _ _ _ _ _)
      | (with_reducible exact ih13 _ _ _ _ _ _ _ _ _ _ _)
      | (with_reducible exact ih14 _ _ _ _ _ _ _ _ _ _ _ _ _ _ _)
      | (with_reducible exact ih15 _ _ _ _ _ _ _ _ _ _ _)
      | (with_reducible exact ih16 _ _ _ _ _ _ _ _ _ _ _ _ _ _ _)
      | (with_reducible exact ih17 _ _ _ _ _ _ _ _ _ _ _ _ _)
      | (with_reducible exact ih18 _ _ _ _ _ _ _ _ _ _ _ _)
      | (with_reducible exact ih19 _ _ _ _ _ _ _ _ _ _ _ _ _)
      | (with_reducible exact ih20 _ _ _ _ _ _ _ _ _ _ _ _ _)
      | (with_reducible exact ih21 _ _ _ _ _ _ _ _ _ _ _ _)
      | (with_reducible exact ih22 _ _ _ _ _ _ _ _ _ _ _ _ _)
      | (with_reducible exact impl_CanBeLeft.mono _ _ _)
      | (with_reducible exact impl_CountWith.mono _ _ _ _)
      | (with_reducible exact impl_LeastWith.mono _ _ _)
      | (with_reducible exact impl_RemaindersOf.mono _ _ _)
      | (with_reducible exact impl_StepOf.mono _ _)
      | (with_reducible exact impl_TimesTurned.mono _ _ _)
      | (with_reducible exact impl_TurnFormation.mono _ _ _)
      | (with_reducible exact laws_mSame.mono _ _ _)
      | (with_reducible exact spec_CanBeLeft.mono _ _ _)
      | (with_reducible exact spec_CountWith.mono _ _ _ _)
      | (with_reducible exact spec_LeastWith.mono _ _ _)
      | (with_reducible exact spec_RemaindersOf.mono _ _ _)
      | (with_reducible exact spec_StepOf.mono _ _)
      | (with_reducible exact spec_TimesTurned.mono _ _ _)
      | (with_reducible exact spec_TurnFormation.mono _ _ _)
      | (with_reducible exact LeO.refl _)
      | (with_reducible exact LeO.none _)
      | (with_reducible refine LeO.ite ?_ ?_)
      | (with_reducible refine LeO.bind ?_ (fun _ => ?_))
      | exact ih0 _ _ _ _ _ _ _ _ _ _
      | exact ih1 _ _ _ _ _ _ _ _ _ _ _ _ _ _
      | exact ih2 _ _ _ _ _ _ _ _ _ _
      | exact ih3 _ _ _ _ _ _ _
      | exact ih4 _ _ _ _ _ _ _ _ _ _ _
      | exact ih5 _ _ _ _ _ _ _ _ _ _
      | exact ih6 _ _ _ _ _
      | exact ih7 _ _ _ _ _ _ _ _
      | exact ih8 _ _ _
      | exact ih9 _ _ _ _ _
      | exact ih10 _ _ _ _
      | exact ih11 _ _ _ _ _ _ _ _
      | exact ih12 _ _ _ _ _ _ _ _
      | exact ih13 _ _ _ _ _ _ _ _ _ _ _
      | exact ih14 _ _ _ _ _ _ _ _ _ _ _ _ _ _ _
      | exact ih15 _ _ _ _ _ _ _ _ _ _ _
      | exact ih16 _ _ _ _ _ _ _ _ _ _ _ _ _ _ _
      | exact ih17 _ _ _ _ _ _ _ _ _ _ _ _ _
      | exact ih18 _ _ _ _ _ _ _ _ _ _ _ _
      | exact ih19 _ _ _ _ _ _ _ _ _ _ _ _ _
      | exact ih20 _ _ _ _ _ _ _ _ _ _ _ _ _
      | exact ih21 _ _ _ _ _ _ _ _ _ _ _ _
      | exact ih22 _ _ _ _ _ _ _ _ _ _ _ _ _
      | exact impl_CanBeLeft.mono _ _ _
      | exact impl_CountWith.mono _ _ _ _
      | exact impl_LeastWith.mono _ _ _
      | exact impl_RemaindersOf.mono _ _ _
      | exact impl_StepOf.mono _ _
      | exact impl_TimesTurned.mono _ _ _
      | exact impl_TurnFormation.mono _ _ _
      | exact laws_mSame.mono _ _ _
      | exact spec_CanBeLeft.mono _ _ _
      | exact spec_CountWith.mono _ _ _ _
      | exact spec_LeastWith.mono _ _ _
      | exact spec_RemaindersOf.mono _ _ _
      | exact spec_StepOf.mono _ _
      | exact spec_TimesTurned.mono _ _ _
      | exact spec_TurnFormation.mono _ _ _
      | exact LeO.none _
      | refine LeO.ite ?_ ?_
      | refine LeO.bind ?_ (fun _ => ?_)
    · intro y0 y1 y2 y3 y4 y5 y6 y7 y8 y9 y10 y11 y12
      unfold laws_FnFormsLeftOfAll.j8
      repeat' first
      | (with_reducible exact ih0 _ _ _ _ _ _ _ _ _ _)
      | (with_reducible exact ih1 _ _ _ _ _ _ _ _ _ _ _ _ _ _)
      | (with_reducible exact ih2 _ _ _ _ _ _ _ _ _ _)
      | (with_reducible exact ih3 _ _ _ _ _ _ _)
      | (with_reducible exact ih4 _ _ _ _ _ _ _ _ _ _ _)
      | (with_reducible exact ih5 _ _ _ _ _ _ _ _ _ _)
      | (with_reducible exact ih6 _ _ _ _ _)
      | (with_reducible exact ih7 _ _ _ _ _ _ _ _)
      | (with_reducible exact ih8 _ _ _)
      | (with_reducible exact ih9 _ _ _ _ _)
      | (with_reducible exact ih10 _ _ _ _)
      | (with_reducible exact ih11 _ _ _ _ _ _ _ _)
      | (with_reducible exact ih12 _ _ _ _ _ _ _ _)
      | (with_reducible exact ih13 _ _ _ _ _ _ _ _ _ _ _)
      | (with_reducible exact ih14 _ _ _ _ _ _ _ _ _ _ _ _ _ _ _)
      | (with_reducible exact ih15 _ _ _ _ _ _ _ _ _ _ _)
      | (with_reducible exact ih16 _ _ _ _ _ _ _ _ _ _ _ _ _ _ _)
      | (with_reducible exact ih17 _ _ _ _ _ _ _ _ _ _ _ _ _)
      | (with_reducible exact ih18 _ _ _ _ _ _ _ _ _ _ _ _)
      | (with_reducible exact ih19 _ _ _ _ _ _ _ _ _ _ _ _ _)
      | (with_reducible exact ih20 _ _ _ _ _ _ _ _ _ _ _ _ _)
      | (with_reducible exact ih21 _ _ _ _ _ _ _ _ _ _ _ _)
      | (with_reducible exact ih22 _ _ _ _ _ _ _ _ _ _ _ _ _)
      | (with_reducible exact impl_CanBeLeft.mono _ _ _)
      | (with_reducible exact impl_CountWith.mono _ _ _ _)
      | (with_reducible exact impl_LeastWith.mono _ _ _)
      | (with_reducible exact impl_RemaindersOf.mono _ _ _)
      | (with_reducible exact impl_StepOf.mono _ _)
      | (with_reducible exact impl_TimesTurned.mono _ _ _)
      | (with_reducible exact impl_TurnFormation.mono _ _ _)
      | (with_reducible exact laws_mSame.mono _ _ _)
      | (with_reducible exact spec_CanBeLeft.mono _ _ _)
      | (with_reducible exact spec_CountWith.mono _ _ _ _)
      | (with_reducible exact spec_LeastWith.mono _ _ _)
      | (with_reducible exact spec_RemaindersOf.mono _ _ _)
      | (with_reducible exact spec_StepOf.mono _ _)
      | (with_reducible exact spec_TimesTurned.mono _ _ _)
      | (with_reducible exact spec_TurnFormation.mono _ _ _)
      | (with_reducible exact LeO.refl _)
      | (with_reducible exact LeO.none _)
      | (with_reducible refine LeO.ite ?_ ?_)
      | (with_reducible refine LeO.bind ?_ (fun _ => ?_))
      | exact ih0 _ _ _ _ _ _ _ _ _ _
      | exact ih1 _ _ _ _ _ _ _ _ _ _ _ _ _ _
      | exact ih2 _ _ _ _ _ _ _ _ _ _
      | exact ih3 _ _ _ _ _ _ _
      | exact ih4 _ _ _ _ _ _ _ _ _ _ _
      | exact ih5 _ _ _ _ _ _ _ _ _ _
      | exact ih6 _ _ _ _ _
      | exact ih7 _ _ _ _ _ _ _ _
      | exact ih8 _ _ _
      | exact ih9 _ _ _ _ _
      | exact ih10 _ _ _ _
      | exact ih11 _ _ _ _ _ _ _ _
      | exact ih12 _ _ _ _ _ _ _ _
      | exact ih13 _ _ _ _ _ _ _ _ _ _ _
      | exact ih14 _ _ _ _ _ _ _ _ _ _ _ _ _ _ _
      | exact ih15 _ _ _ _ _ _ _ _ _ _ _
      | exact ih16 _ _ _ _ _ _ _ _ _ _ _ _ _ _ _
      | exact ih17 _ _ _ _ _ _ _ _ _ _ _ _ _
      | exact ih18 _ _ _ _ _ _ _ _ _ _ _ _
      | exact ih19 _ _ _ _ _ _ _ _ _ _ _ _ _
      | exact ih20 _ _ _ _ _ _ _ _ _ _ _ _ _
      | exact ih21 _ _ _ _ _ _ _ _ _ _ _ _
      | exact ih22 _ _ _ _ _ _ _ _ _ _ _ _ _
      | exact impl_CanBeLeft.mono _ _ _
      | exact impl_CountWith.mono _ _ _ _
      | exact impl_LeastWith.mono _ _ _
      | exact impl_RemaindersOf.mono _ _ _
      | exact impl_StepOf.mono _ _
      | exact impl_TimesTurned.mono _ _ _
      | exact impl_TurnFormation.mono _ _ _
      | exact laws_mSame.mono _ _ _
      | exact spec_CanBeLeft.mono _ _ _
      | exact spec_CountWith.mono _ _ _ _
      | exact spec_LeastWith.mono _ _ _
      | exact spec_RemaindersOf.mono _ _ _
      | exact spec_StepOf.mono _ _
      | exact spec_TimesTurned.mono _ _ _
      | exact spec_TurnFormation.mono _ _ _
      | exact LeO.none _
      | refine LeO.ite ?_ ?_
      | refine LeO.bind ?_ (fun _ => ?_)
    · intro y0 y1 y2 y3 y4 y5 y6 y7 y8 y9 y10 y11 y12
      unfold laws_FnFormsLeftOfAll.j4
      repeat' first
      | (with_reducible exact ih0 _ _ _ _ _ _ _ _ _ _)
      | (with_reducible exact ih1 _ _ _ _ _ _ _ _ _ _ _ _ _ _)
      | (with_reducible exact ih2 _ _ _ _ _ _ _ _ _ _)
      | (with_reducible exact ih3 _ _ _ _ _ _ _)
      | (with_reducible exact ih4 _ _ _ _ _ _ _ _ _ _ _)
      | (with_reducible exact ih5 _ _ _ _ _ _ _ _ _ _)
      | (with_reducible exact ih6 _ _ _ _ _)
      | (with_reducible exact ih7 _ _ _ _ _ _ _ _)
      | (with_reducible exact ih8 _ _ _)
      | (with_reducible exact ih9 _ _ _ _ _)
      | (with_reducible exact ih10 _ _ _ _)
      | (with_reducible exact ih11 _ _ _ _ _ _ _ _)
      | (with_reducible exact ih12 _ _ _ _ _ _ _ _)
      | (with_reducible exact ih13 _ _ _ _ _ _ _ _ _ _ _)
      | (with_reducible exact ih14 _ _ _ _ _ _ _ _ _ _ _ _ _ _ _)
      | (with_reducible exact ih15 _ _ _ _ _ _ _ _ _ _ _)
      | (with_reducible exact ih16 _ _ _ _ _ _ _ _ _ _ _ _ _ _ _)
      | (with_reducible exact ih17 _ _ _ _ _ _ _ _ _ _ _ _ _)
      | (with_reducible exact ih18 _ _ _ _ _ _ _ _ _ _ _ _)
      | (with_reducible exact ih19 _ _ _ _ _ _ _ _ _ _ _ _ _)
      | (with_reducible exact ih20 _ _ _ _ _ _ _ _ _ _ _ _ _)
      | (with_reducible exact ih21 _ _ _ _ _ _ _ _ _ _ _ _)
      | (with_reducible exact ih22 _ _ _ _ _ _ _ _ _ _ _ _ _)
      | (with_reducible exact impl_CanBeLeft.mono _ _ _)
      | (with_reducible exact impl_CountWith.mono _ _ _ _)
      | (with_reducible exact impl_LeastWith.mono _ _ _)
      | (with_reducible exact impl_RemaindersOf.mono _ _ _)
      | (with_reducible exact impl_StepOf.mono _ _)
      | (with_reducible exact impl_TimesTurned.mono _ _ _)
      | (with_reducible exact impl_TurnFormation.mono _ _ _)
      | (with_reducible exact laws_mSame.mono _ _ _)
      | (with_reducible exact spec_CanBeLeft.mono _ _ _)
      | (with_reducible exact spec_CountWith.mono _ _ _ _)
      | (with_reducible exact spec_LeastWith.mono _ _ _)
      | (with_reducible exact spec_RemaindersOf.mono _ _ _)
      | (with_reducible exact spec_StepOf.mono _ _)
      | (with_reducible exact spec_TimesTurned.mono _ _ _)
      | (with_reducible exact spec_TurnFormation.mono _ _ _)
      | (with_reducible exact LeO.refl _)
      | (with_reducible exact LeO.none _)
      | (with_reducible refine LeO.ite ?_ ?_)
      | (with_reducible refine LeO.bind ?_ (fun _ => ?_))
      | exact ih0 _ _ _ _ _ _ _ _ _ _
      | exact ih1 _ _ _ _ _ _ _ _ _ _ _ _ _ _
      | exact ih2 _ _ _ _ _ _ _ _ _ _
      | exact ih3 _ _ _ _ _ _ _
      | exact ih4 _ _ _ _ _ _ _ _ _ _ _
      | exact ih5 _ _ _ _ _ _ _ _ _ _
      | exact ih6 _ _ _ _ _
      | exact ih7 _ _ _ _ _ _ _ _
      | exact ih8 _ _ _
      | exact ih9 _ _ _ _ _
      | exact ih10 _ _ _ _
      | exact ih11 _ _ _ _ _ _ _ _
      | exact ih12 _ _ _ _ _ _ _ _
      | exact ih13 _ _ _ _ _ _ _ _ _ _ _
      | exact ih14 _ _ _ _ _ _ _ _ _ _ _ _ _ _ _
      | exact ih15 _ _ _ _ _ _ _ _ _ _ _
      | exact ih16 _ _ _ _ _ _ _ _ _ _ _ _ _ _ _
      | exact ih17 _ _ _ _ _ _ _ _ _ _ _ _ _
      | exact ih18 _ _ _ _ _ _ _ _ _ _ _ _
      | exact ih19 _ _ _ _ _ _ _ _ _ _ _ _ _
      | exact ih20 _ _ _ _ _ _ _ _ _ _ _ _ _
      | exact ih21 _ _ _ _ _ _ _ _ _ _ _ _
      | exact ih22 _ _ _ _ _ _ _ _ _ _ _ _ _
      | exact impl_CanBeLeft.mono _ _ _
      | exact impl_CountWith.mono _ _ _ _
      | exact impl_LeastWith.mono _ _ _
      | exact impl_RemaindersOf.mono _ _ _
      | exact impl_StepOf.mono _ _
      | exact impl_TimesTurned.mono _ _ _
      | exact impl_TurnFormation.mono _ _ _
      | exact laws_mSame.mono _ _ _
      | exact spec_CanBeLeft.mono _ _ _
      | exact spec_CountWith.mono _ _ _ _
      | exact spec_LeastWith.mono _ _ _
      | exact spec_RemaindersOf.mono _ _ _
      | exact spec_StepOf.mono _ _
      | exact spec_TimesTurned.mono _ _ _
      | exact spec_TurnFormation.mono _ _ _
      | exact LeO.none _
      | refine LeO.ite ?_ ?_
      | refine LeO.bind ?_ (fun _ => ?_)
    · intro y0 y1 y2 y3 y4 y5 y6 y7 y8 y9 y10 y11
      unfold laws_FnFormsLeftOfAll.j5
      repeat' first
      | (with_reducible exact ih0 _ _ _ _ _ _ _ _ _ _)
      | (with_reducible exact ih1 _ _ _ _ _ _ _ _ _ _ _ _ _ _)
      | (with_reducible exact ih2 _ _ _ _ _ _ _ _ _ _)
      | (with_reducible exact ih3 _ _ _ _ _ _ _)
      | (with_reducible exact ih4 _ _ _ _ _ _ _ _ _ _ _)
      | (with_reducible exact ih5 _ _ _ _ _ _ _ _ _ _)
      | (with_reducible exact ih6 _ _ _ _ _)
      | (with_reducible exact ih7 _ _ _ _ _ _ _ _)
      | (with_reducible exact ih8 _ _ _)
      | (with_reducible exact ih9 _ _ _ _ _)
      | (with_reducible exact ih10 _ _ _ _)
      | (with_reducible exact ih11 _ _ _ _ _ _ _ _)
      | (with_reducible exact ih12 _ _ _ _ _ _ _ _)
      | (with_reducible exact ih13 _ _ _ _ _ _ _ _ _ _ _)
      | (with_reducible exact ih14 _ _ _ _ _ _ _ _ _ _ _ _ _ _ _)
      | (with_reducible exact ih15 _ _ _ _ _ _ _ _ _ _ _)
      | (with_reducible exact ih16 _ _ _ _ _ _ _ _ _ _ _ _ _ _ _)
      | (with_reducible exact ih17 _ _ _ _ _ _ _ _ _ _ _ _ _)
      | (with_reducible exact ih18 _ _ _ _ _ _ _ _ _ _ _ _)
      | (with_reducible exact ih19 _ _ _ _ _ _ _ _ _ _ _ _ _)
      | (with_reducible exact ih20 _ _ _ _ _ _ _ _ _ _ _ _ _)
      | (with_reducible exact ih21 _ _ _ _ _ _ _ _ _ _ _ _)
      | (with_reducible exact ih22 _ _ _ _ _ _ _ _ _ _ _ _ _)
      | (with_reducible exact impl_CanBeLeft.mono _ _ _)
      | (with_reducible exact impl_CountWith.mono _ _ _ _)
      | (with_reducible exact impl_LeastWith.mono _ _ _)
      | (with_reducible exact impl_RemaindersOf.mono _ _ _)
      | (with_reducible exact impl_StepOf.mono _ _)
      | (with_reducible exact impl_TimesTurned.mono _ _ _)
      | (with_reducible exact impl_TurnFormation.mono _ _ _)
      | (with_reducible exact laws_mSame.mono _ _ _)
      | (with_reducible exact spec_CanBeLeft.mono _ _ _)
      | (with_reducible exact spec_CountWith.mono _ _ _ _)
      | (with_reducible exact spec_LeastWith.mono _ _ _)
      | (with_reducible exact spec_RemaindersOf.mono _ _ _)
      | (with_reducible exact spec_StepOf.mono _ _)
      | (with_reducible exact spec_TimesTurned.mono _ _ _)
      | (with_reducible exact spec_TurnFormation.mono _ _ _)
      | (with_reducible exact LeO.refl _)
      | (with_reducible exact LeO.none _)
      | (with_reducible refine LeO.ite ?_ ?_)
      | (with_reducible refine LeO.bind ?_ (fun _ => ?_))
      | exact ih0 _ _ _ _ _ _ _ _ _ _
      | exact ih1 _ _ _ _ _ _ _ _ _ _ _ _ _ _
      | exact ih2 _ _ _ _ _ _ _ _ _ _
      | exact ih3 _ _ _ _ _ _ _
      | exact ih4 _ _ _ _ _ _ _ _ _ _ _
      | exact ih5 _ _ _ _ _ _ _ _ _ _
      | exact ih6 _ _ _ _ _
      | exact ih7 _ _ _ _ _ _ _ _
      | exact ih8 _ _ _
      | exact ih9 _ _ _ _ _
      | exact ih10 _ _ _ _
      | exact ih11 _ _ _ _ _ _ _ _
      | exact ih12 _ _ _ _ _ _ _ _
      | exact ih13 _ _ _ _ _ _ _ _ _ _ _
      | exact ih14 _ _ _ _ _ _ _ _ _ _ _ _ _ _ _
      | exact ih15 _ _ _ _ _ _ _ _ _ _ _
      | exact ih16 _ _ _ _ _ _ _ _ _ _ _ _ _ _ _
      | exact ih17 _ _ _ _ _ _ _ _ _ _ _ _ _
      | exact ih18 _ _ _ _ _ _ _ _ _ _ _ _
      | exact ih19 _ _ _ _ _ _ _ _ _ _ _ _ _
      | exact ih20 _ _ _ _ _ _ _ _ _ _ _ _ _
      | exact ih21 _ _ _ _ _ _ _ _ _ _ _ _
      | exact ih22 _ _ _ _ _ _ _ _ _ _ _ _ _
      | exact impl_CanBeLeft.mono _ _ _
      | exact impl_CountWith.mono _ _ _ _
      | exact impl_LeastWith.mono _ _ _
      | exact impl_RemaindersOf.mono _ _ _
      | exact impl_StepOf.mono _ _
      | exact impl_TimesTurned.mono _ _ _
      | exact impl_TurnFormation.mono _ _ _
      | exact laws_mSame.mono _ _ _
      | exact spec_CanBeLeft.mono _ _ _
      | exact spec_CountWith.mono _ _ _ _
      | exact spec_LeastWith.mono _ _ _
      | exact spec_RemaindersOf.mono _ _ _
      | exact spec_StepOf.mono _ _
      | exact spec_TimesTurned.mono _ _ _
      | exact spec_TurnFormation.mono _ _ _
      | exact LeO.none _
      | refine LeO.ite ?_ ?_
      | refine LeO.bind ?_ (fun _ => ?_)
    · intro y0 y1 y2 y3 y4 y5 y6 y7 y8 y9 y10 y11 y12
      unfold laws_FnFormsLeftOfAll.j6
      repeat' first
      | (with_reducible exact ih0 _ _ _ _ _ _ _ _ _ _)
      | (with_reducible exact ih1 _ _ _ _ _ _ _ _ _ _ _ _ _ _)
      | (with_reducible exact ih2 _ _ _ _ _ _ _ _ _ _)
      | (with_reducible exact ih3 _ _ _ _ _ _ _)
      | (with_reducible exact ih4 _ _ _ _ _ _ _ _ _ _ _)
      | (with_reducible exact ih5 _ _ _ _ _ _ _ _ _ _)
      | (with_reducible exact ih6 _ _ _ _ _)
      | (with_reducible exact ih7 _ _ _ _ _ _ _ _)
      | (with_reducible exact ih8 _ _ _)
      | (with_reducible exact ih9 _ _ _ _ _)
      | (with_reducible exact ih10 _ _ _ _)
      | (with_reducible exact ih11 _ _ _ _ _ _ _ _)
      | (with_reducible exact ih12 _ _ _ _ _ _ _ _)
      | (with_reducible exact ih13 _ _ _ _ _ _ _ _ _ _ _)
      | (with_reducible exact ih14 _ _ _ _ _ _ _ _ _ _ _ _ _ _ _)
      | (with_reducible exact ih15 _ _ _ _ _ _ _ _ _ _ _)
      | (with_reducible exact ih16 _ _ _ _ _ _ _ _ _ _ _ _ _ _ _)
      | (with_reducible exact ih17 _ _ _ _ _ _ _ _ _ _ _ _ _)
      | (with_reducible exact ih18 _ _ _ _ _ _ _ _ _ _ _ _)
      | (with_reducible exact ih19 _ _ _ _ _ _ _ _ _ _ _ _ _)
      | (with_reducible exact ih20 _ _ _ _ _ _ _ _ _ _ _ _ _)
      | (with_reducible exact ih21 _ _ _ _ _ _ _ _ _ _ _ _)
      | (with_reducible exact ih22 _ _ _ _ _ _ _ _ _ _ _ _ _)
      | (with_reducible exact impl_CanBeLeft.mono _ _ _)
      | (with_reducible exact impl_CountWith.mono _ _ _ _)
      | (with_reducible exact impl_LeastWith.mono _ _ _)
      | (with_reducible exact impl_RemaindersOf.mono _ _ _)
      | (with_reducible exact impl_StepOf.mono _ _)
      | (with_reducible exact impl_TimesTurned.mono _ _ _)
      | (with_reducible exact impl_TurnFormation.mono _ _ _)
      | (with_reducible exact laws_mSame.mono _ _ _)
      | (with_reducible exact spec_CanBeLeft.mono _ _ _)
      | (with_reducible exact spec_CountWith.mono _ _ _ _)
      | (with_reducible exact spec_LeastWith.mono _ _ _)
      | (with_reducible exact spec_RemaindersOf.mono _ _ _)
      | (with_reducible exact spec_StepOf.mono _ _)
      | (with_reducible exact spec_TimesTurned.mono _ _ _)
      | (with_reducible exact spec_TurnFormation.mono _ _ _)
      | (with_reducible exact LeO.refl _)
      | (with_reducible exact LeO.none _)
      | (with_reducible refine LeO.ite ?_ ?_)
      | (with_reducible refine LeO.bind ?_ (fun _ => ?_))
      | exact ih0 _ _ _ _ _ _ _ _ _ _
      | exact ih1 _ _ _ _ _ _ _ _ _ _ _ _ _ _
      | exact ih2 _ _ _ _ _ _ _ _ _ _
      | exact ih3 _ _ _ _ _ _ _
      | exact ih4 _ _ _ _ _ _ _ _ _ _ _
      | exact ih5 _ _ _ _ _ _ _ _ _ _
      | exact ih6 _ _ _ _ _
      | exact ih7 _ _ _ _ _ _ _ _
      | exact ih8 _ _ _
      | exact ih9 _ _ _ _ _
      | exact ih10 _ _ _ _
      | exact ih11 _ _ _ _ _ _ _ _
      | exact ih12 _ _ _ _ _ _ _ _
      | exact ih13 _ _ _ _ _ _ _ _ _ _ _
      | exact ih14 _ _ _ _ _ _ _ _ _ _ _ _ _ _ _
      | exact ih15 _ _ _ _ _ _ _ _ _ _ _
      | exact ih16 _ _ _ _ _ _ _ _ _ _ _ _ _ _ _
      | exact ih17 _ _ _ _ _ _ _ _ _ _ _ _ _
      | exact ih18 _ _ _ _ _ _ _ _ _ _ _ _
      | exact ih19 _ _ _ _ _ _ _ _ _ _ _ _ _
      | exact ih20 _ _ _ _ _ _ _ _ _ _ _ _ _
      | exact ih21 _ _ _ _ _ _ _ _ _ _ _ _
      | exact ih22 _ _ _ _ _ _ _ _ _ _ _ _ _
      | exact impl_CanBeLeft.mono _ _ _
      | exact impl_CountWith.mono _ _ _ _
      | exact impl_LeastWith.mono _ _ _
      | exact impl_RemaindersOf.mono _ _ _
      | exact impl_StepOf.mono _ _
      | exact impl_TimesTurned.mono _ _ _
      | exact impl_TurnFormation.mono _ _ _
      | exact laws_mSame.mono _ _ _
      | exact spec_CanBeLeft.mono _ _ _
      | exact spec_CountWith.mono _ _ _ _
      | exact spec_LeastWith.mono _ _ _
      | exact spec_RemaindersOf.mono _ _ _
      | exact spec_StepOf.mono _ _
      | exact spec_TimesTurned.mono _ _ _
      | exact spec_TurnFormation.mono _ _ _
      | exact LeO.none _
      | refine LeO.ite ?_ ?_
      | refine LeO.bind ?_ (fun _ => ?_)
theorem laws_FnFormsLeftOfAll.mono : ∀ a0 a1 a2 a3 a4 a5 a6 a7 a8 k, LeO (laws_FnFormsLeftOfAll.f k a0 a1 a2 a3 a4 a5 a6 a7 a8) (laws_FnFormsLeftOfAll.f (k + 1) a0 a1 a2 a3 a4 a5 a6 a7 a8) := by
  intro a0 a1 a2 a3 a4 a5 a6 a7 a8 k
  obtain ⟨ih0, ih1, ih2, ih3, ih4, ih5, ih6, ih7, ih8, ih9, ih10, ih11, ih12, ih13, ih14, ih15, ih16, ih17, ih18, ih19, ih20, ih21, ih22⟩ := laws_FnFormsLeftOfAll.mono_l k
  unfold laws_FnFormsLeftOfAll.f
  repeat' first
      | (with_reducible exact ih0 _ _ _ _ _ _ _ _ _ _)
      | (with_reducible exact ih1 _ _ _ _ _ _ _ _ _ _ _ _ _ _)
      | (with_reducible exact ih2 _ _ _ _ _ _ _ _ _ _)
      | (with_reducible exact ih3 _ _ _ _ _ _ _)
      | (with_reducible exact ih4 _ _ _ _ _ _ _ _ _ _ _)
      | (with_reducible exact ih5 _ _ _ _ _ _ _ _ _ _)
      | (with_reducible exact ih6 _ _ _ _ _)
      | (with_reducible exact ih7 _ _ _ _ _ _ _ _)
      | (with_reducible exact ih8 _ _ _)
      | (with_reducible exact ih9 _ _ _ _ _)
      | (with_reducible exact ih10 _ _ _ _)
      | (with_reducible exact ih11 _ _ _ _ _ _ _ _)
      | (with_reducible exact ih12 _ _ _ _ _ _ _ _)
      | (with_reducible exact ih13 _ _ _ _ _ _ _ _ _ _ _)
      | (with_reducible exact ih14 _ _ _ _ _ _ _ _ _ _ _ _ _ _ _)
      | (with_reducible exact ih15 _ _ _ _ _ _ _ _ _ _ _)
      | (with_reducible exact ih16 _ _ _ _ _ _ _ _ _ _ _ _ _ _ _)
      | (with_reducible exact ih17 _ _ _ _ _ _ _ _ _ _ _ _ _)
      | (with_reducible exact ih18 _ _ _ _ _ _ _ _ _ _ _ _)
      | (with_reducible exact ih19 _ _ _ _ _ _ _ _ _ _ _ _ _)
      | (with_reducible exact ih20 _ _ _ _ _ _ _ _ _ _ _ _ _)
      | (with_reducible exact ih21 _ _ _ _ _ _ _ _ _ _ _ _)
      | (with_reducible exact ih22 _ _ _ _ _ _ _ _ _ _ _ _ _)
      | (with_reducible exact impl_CanBeLeft.mono _ _ _)
      | (with_reducible exact impl_CountWith.mono _ _ _ _)
      | (with_reducible exact impl_LeastWith.mono _ _ _)
      | (with_reducible exact impl_RemaindersOf.mono _ _ _)
      | (with_reducible exact impl_StepOf.mono _ _)
      | (with_reducible exact impl_TimesTurned.mono _ _ _)
      | (with_reducible exact impl_TurnFormation.mono _ _ _)
      | (with_reducible exact laws_mSame.mono _ _ _)
      | (with_reducible exact spec_CanBeLeft.mono _ _ _)
      | (with_reducible exact spec_CountWith.mono _ _ _ _)
      | (with_reducible exact spec_LeastWith.mono _ _ _)
      | (with_reducible exact spec_RemaindersOf.mono _ _ _)
      | (with_reducible exact spec_StepOf.mono _ _)
      | (with_reducible exact spec_TimesTurned.mono _ _ _)
      | (with_reducible exact spec_TurnFormation.mono _ _ _)
      | (with_reducible exact LeO.refl _)
      | (with_reducible exact LeO.none _)
      | (with_reducible refine LeO.ite ?_ ?_)
      | (with_reducible refine LeO.bind ?_ (fun _ => ?_))
      | exact ih0 _ _ _ _ _ _ _ _ _ _
      | exact ih1 _ _ _ _ _ _ _ _ _ _ _ _ _ _
      | exact ih2 _ _ _ _ _ _ _ _ _ _
      | exact ih3 _ _ _ _ _ _ _
      | exact ih4 _ _ _ _ _ _ _ _ _ _ _
      | exact ih5 _ _ _ _ _ _ _ _ _ _
      | exact ih6 _ _ _ _ _
      | exact ih7 _ _ _ _ _ _ _ _
      | exact ih8 _ _ _
      | exact ih9 _ _ _ _ _
      | exact ih10 _ _ _ _
      | exact ih11 _ _ _ _ _ _ _ _
      | exact ih12 _ _ _ _ _ _ _ _
      | exact ih13 _ _ _ _ _ _ _ _ _ _ _
      | exact ih14 _ _ _ _ _ _ _ _ _ _ _ _ _ _ _
      | exact ih15 _ _ _ _ _ _ _ _ _ _ _
      | exact ih16 _ _ _ _ _ _ _ _ _ _ _ _ _ _ _
      | exact ih17 _ _ _ _ _ _ _ _ _ _ _ _ _
      | exact ih18 _ _ _ _ _ _ _ _ _ _ _ _
      | exact ih19 _ _ _ _ _ _ _ _ _ _ _ _ _
      | exact ih20 _ _ _ _ _ _ _ _ _ _ _ _ _
      | exact ih21 _ _ _ _ _ _ _ _ _ _ _ _
      | exact ih22 _ _ _ _ _ _ _ _ _ _ _ _ _
      | exact impl_CanBeLeft.mono _ _ _
      | exact impl_CountWith.mono _ _ _ _
      | exact impl_LeastWith.mono _ _ _
      | exact impl_RemaindersOf.mono _ _ _
      | exact impl_StepOf.mono _ _
      | exact impl_TimesTurned.mono _ _ _
      | exact impl_TurnFormation.mono _ _ _
      | exact laws_mSame.mono _ _ _
      | exact spec_CanBeLeft.mono _ _ _
      | exact spec_CountWith.mono _ _ _ _
      | exact spec_LeastWith.mono _ _ _
      | exact spec_RemaindersOf.mono _ _ _
      | exact spec_StepOf.mono _ _
      | exact spec_TimesTurned.mono _ _ _
      | exact spec_TurnFormation.mono _ _ _
      | exact LeO.none _
      | refine LeO.ite ?_ ?_
      | refine LeO.bind ?_ (fun _ => ?_)
theorem laws_FnFormsLeftOfAll.j1_no : ∀ (k : Nat) (x0 : List Int) (x1 : List Int) (x2 : List Int) (x3 : List Int) (x4 : Int) (x5 : Int) (x6 : List Int) (x7 : Int) (x8 : Int) (x19 : Int) (x20 : Bool) (x27 : Int) (x28 : Bool), laws_FnFormsLeftOfAll.j1 k x0 x1 x2 x3 x4 x5 x6 x7 x8 x19 x20 x27 x28 true = some true → False := by
  intro k x0 x1 x2 x3 x4 x5 x6 x7 x8 x19 x20 x27 x28
  cases k <;> simp [laws_FnFormsLeftOfAll.j1]
theorem laws_FnFormsLeftOfAll.j12_no : ∀ (k : Nat) (x2 : List Int) (x3 : List Int) (x4 : Int) (x7 : Int) (x8 : Int) (x43 : Int) (x44 : Bool) (x51 : List Int) (x52 : Bool) (x55 : Int), laws_FnFormsLeftOfAll.j12 k x2 x3 x4 x7 x8 x43 x44 x51 x52 x55 true = some true → False := by
  intro k x2 x3 x4 x7 x8 x43 x44 x51 x52 x55
  cases k <;> simp [laws_FnFormsLeftOfAll.j12]
theorem laws_FnFormsLeftOfAll.j18_no : ∀ (k : Nat) (x51 : List Int) (x55 : Int), laws_FnFormsLeftOfAll.j18 k x51 x55 true = some true → False := by
  intro k x51 x55
  cases k <;> simp [laws_FnFormsLeftOfAll.j18]
theorem laws_FnFormsLeftOfAll.j3_no : ∀ (k : Nat) (x0 : List Int) (x1 : List Int) (x2 : List Int) (x3 : List Int) (x4 : Int) (x5 : Int) (x6 : List Int) (x7 : Int) (x8 : Int) (x19 : Int) (x27 : Int) (x28 : Bool), laws_FnFormsLeftOfAll.j3 k x0 x1 x2 x3 x4 x5 x6 x7 x8 x19 x27 x28 true = some true → False := by
  intro k x0 x1 x2 x3 x4 x5 x6 x7 x8 x19 x27 x28
  cases k <;> simp [laws_FnFormsLeftOfAll.j3]
theorem laws_FnFormsLeftOfAll.j4_no : ∀ (k : Nat) (x0 : List Int) (x1 : List Int) (x2 : List Int) (x3 : List Int) (x4 : Int) (x5 : Int) (x6 : List Int) (x7 : Int) (x8 : Int) (x19 : Int) (x27 : Int) (x28 : Bool), laws_FnFormsLeftOfAll.j4 k x0 x1 x2 x3 x4 x5 x6 x7 x8 x19 x27 x28 true = some true → False := by
  intro k x0 x1 x2 x3 x4 x5 x6 x7 x8 x19 x27 x28
  cases k <;> simp [laws_FnFormsLeftOfAll.j4]
end Go.Proofs.Yteekggogodjffaa.PFnFormsLeftOfAll
