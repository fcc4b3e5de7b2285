-- Written by a program of this session's (pg.py) over the kit's print.
import Derived.Test.YtgdmbhldabeelaaRPFnFormsStandOfAllx0
import Derived.Test.YtgdmbhldabeelaaRPFnFormsStandOfAllx1
import Derived.Test.YtgdmbhldabeelaaRPFnFormsStandOfAllx2
import Derived.Test.YtgdmbhldabeelaaRPFnFormsStandOfAllx3
import Derived.Test.YtgdmbhldabeelaaRPFnFormsStandOfAllx4
import Derived.Test.YtgdmbhldabeelaaRPFnFormsStandOfAllx5
namespace Go.Proofs.YtgdmbhldabeelaaR.PFnFormsStandOfAll
open Go.RowKit Go.Proofs.YtgdmbhldabeelaaRW.PrintWords Go.Proofs.YtgdmbhldabeelaaRW.PrintLast Go.Proofs.YtgdmbhldabeelaaRW.PrintMore
attribute [local go_sem] max2_int min2_int max_two min_two max_three min_three max_four min_four   -- for this text's walks alone
set_option linter.unusedVariables false
set_option linter.unusedSimpArgs false

/-! ### laws_FnFormsStandOfAll: function 3 -/
mutual
def laws_FnFormsStandOfAll.j0 : Nat → Int → Int → Int → Int → Int → Int → Int → Int → Int → Int → List (List Int) → Bool → List (List Int) → Int → Int → Int → Int → List (List Int) → List Int → Bool → Option (Bool)
  | 0, _, _, _, _, _, _, _, _, _, _, _, _, _, _, _, _, _, _, _, _ => none
  | k + 1, x0, x1, x2, x3, x4, x5, x6, x7, x8, x9, x21, x22, x25, x29, x30, x35, x36, x41, x45, x260 => if x260 = true then (some false) else (if x22 = true then (laws_FnFormsStandOfAll.l0 k x0 x1 x2 x3 x4 x5 x6 x7 x8 x9 x21 x25 x29 x30 x35 x36 x41 x45 x21 (x21.length : Int) 0) else (laws_FnFormsStandOfAll.j6 k x1 x2 x3 x4 x5 x6 x7 x8 x9))
def laws_FnFormsStandOfAll.j6 : Nat → Int → Int → Int → Int → Int → Int → Int → Int → Int → Option (Bool)
  | 0, _, _, _, _, _, _, _, _, _ => none
  | k + 1, x1, x2, x3, x4, x5, x6, x7, x8, x9 => (impl_CountHollow.f x1 x2).bind fun bt320 => ((spec_CountHollow.f x1 x2).bind fun bt322 => ((impl_GreatestHollow.f k x3 x4).bind fun bt324 => ((spec_GreatestHollow.f k x3 x4).bind fun bt327 => ((impl_PlaceIn.f x5 x6).bind fun bt330 => ((spec_PlaceIn.f x5 x6).bind fun bt333 => ((impl_SnakePlace.f x5 x6).bind fun bt336 => ((spec_SnakePlace.f x5 x6).bind fun bt339 => ((impl_SoldierAt.f x7 x8 x9).bind fun bt342 => ((spec_SoldierAt.f x7 x8 x9).bind fun bt344 => ((impl_SoldierOfSnake.f x7 x8 x9).bind fun bt346 => ((spec_SoldierOfSnake.f x7 x8 x9).bind fun bt348 => (if (bt320.2 != bt322.2) = true then (laws_FnFormsStandOfAll.j7 k x1 x2 x3 x4 x5 x6 bt320.1 bt320.2 bt324.1 bt324.2.1 bt324.2.2 bt330.1 bt330.2.1 bt330.2.2 bt336.1 bt336.2.1 true) else (if bt320.1 = bt322.1 then (if (bt324.2.2 != bt327.2.2) = true then (laws_FnFormsStandOfAll.j7 k x1 x2 x3 x4 x5 x6 bt320.1 bt320.2 bt324.1 bt324.2.1 bt324.2.2 bt330.1 bt330.2.1 bt330.2.2 bt336.1 bt336.2.1 true) else (if bt324.1 = bt327.1 then (if bt324.2.1 = bt327.2.1 then (if (bt330.2.2 != bt333.2.2) = true then (laws_FnFormsStandOfAll.j7 k x1 x2 x3 x4 x5 x6 bt320.1 bt320.2 bt324.1 bt324.2.1 bt324.2.2 bt330.1 bt330.2.1 bt330.2.2 bt336.1 bt336.2.1 true) else (if bt330.1 = bt333.1 then (if bt330.2.1 = bt333.2.1 then (if (bt336.2.2 != bt339.2.2) = true then (laws_FnFormsStandOfAll.j7 k x1 x2 x3 x4 x5 x6 bt320.1 bt320.2 bt324.1 bt324.2.1 bt324.2.2 bt330.1 bt330.2.1 bt330.2.2 bt336.1 bt336.2.1 true) else (if bt336.1 = bt339.1 then (if bt336.2.1 = bt339.2.1 then (if (bt336.2.2 != bt330.2.2) = true then (laws_FnFormsStandOfAll.j7 k x1 x2 x3 x4 x5 x6 bt320.1 bt320.2 bt324.1 bt324.2.1 bt324.2.2 bt330.1 bt330.2.1 bt330.2.2 bt336.1 bt336.2.1 true) else (if (bt342.2 != bt344.2) = true then (laws_FnFormsStandOfAll.j7 k x1 x2 x3 x4 x5 x6 bt320.1 bt320.2 bt324.1 bt324.2.1 bt324.2.2 bt330.1 bt330.2.1 bt330.2.2 bt336.1 bt336.2.1 true) else (if bt342.1 = bt344.1 then (if (bt346.2 != bt348.2) = true then (laws_FnFormsStandOfAll.j7 k x1 x2 x3 x4 x5 x6 bt320.1 bt320.2 bt324.1 bt324.2.1 bt324.2.2 bt330.1 bt330.2.1 bt330.2.2 bt336.1 bt336.2.1 true) else (if bt346.1 = bt348.1 then (laws_FnFormsStandOfAll.j7 k x1 x2 x3 x4 x5 x6 bt320.1 bt320.2 bt324.1 bt324.2.1 bt324.2.2 bt330.1 bt330.2.1 bt330.2.2 bt336.1 bt336.2.1 (bt346.2 != bt342.2)) else (laws_FnFormsStandOfAll.j7 k x1 x2 x3 x4 x5 x6 bt320.1 bt320.2 bt324.1 bt324.2.1 bt324.2.2 bt330.1 bt330.2.1 bt330.2.2 bt336.1 bt336.2.1 true))) else (laws_FnFormsStandOfAll.j7 k x1 x2 x3 x4 x5 x6 bt320.1 bt320.2 bt324.1 bt324.2.1 bt324.2.2 bt330.1 bt330.2.1 bt330.2.2 bt336.1 bt336.2.1 true)))) else (laws_FnFormsStandOfAll.j7 k x1 x2 x3 x4 x5 x6 bt320.1 bt320.2 bt324.1 bt324.2.1 bt324.2.2 bt330.1 bt330.2.1 bt330.2.2 bt336.1 bt336.2.1 true)) else (laws_FnFormsStandOfAll.j7 k x1 x2 x3 x4 x5 x6 bt320.1 bt320.2 bt324.1 bt324.2.1 bt324.2.2 bt330.1 bt330.2.1 bt330.2.2 bt336.1 bt336.2.1 true))) else (laws_FnFormsStandOfAll.j7 k x1 x2 x3 x4 x5 x6 bt320.1 bt320.2 bt324.1 bt324.2.1 bt324.2.2 bt330.1 bt330.2.1 bt330.2.2 bt336.1 bt336.2.1 true)) else (laws_FnFormsStandOfAll.j7 k x1 x2 x3 x4 x5 x6 bt320.1 bt320.2 bt324.1 bt324.2.1 bt324.2.2 bt330.1 bt330.2.1 bt330.2.2 bt336.1 bt336.2.1 true))) else (laws_FnFormsStandOfAll.j7 k x1 x2 x3 x4 x5 x6 bt320.1 bt320.2 bt324.1 bt324.2.1 bt324.2.2 bt330.1 bt330.2.1 bt330.2.2 bt336.1 bt336.2.1 true)) else (laws_FnFormsStandOfAll.j7 k x1 x2 x3 x4 x5 x6 bt320.1 bt320.2 bt324.1 bt324.2.1 bt324.2.2 bt330.1 bt330.2.1 bt330.2.2 bt336.1 bt336.2.1 true))) else (laws_FnFormsStandOfAll.j7 k x1 x2 x3 x4 x5 x6 bt320.1 bt320.2 bt324.1 bt324.2.1 bt324.2.2 bt330.1 bt330.2.1 bt330.2.2 bt336.1 bt336.2.1 true))))))))))))))
def laws_FnFormsStandOfAll.j7 : Nat → Int → Int → Int → Int → Int → Int → Int → Bool → Int → Int → Bool → Int → Int → Bool → Int → Int → Bool → Option (Bool)
  | 0, _, _, _, _, _, _, _, _, _, _, _, _, _, _, _, _, _ => none
  | k + 1, x1, x2, x3, x4, x5, x6, x66, x67, x70, x71, x72, x76, x77, x78, x82, x83, x728 => if x728 = true then (some false) else (if x67 = true then (laws_FnFormsStandOfAll.j8 k x3 x4 x5 x6 x70 x71 x72 x76 x77 x78 x82 x83 (x66 != (wrap64 ((wrap64 (x1 * x1)) - (wrap64 ((wrap64 (x1 - (wrap64 (2 * x2)))) * (wrap64 (x1 - (wrap64 (2 * x2)))))))))) else (laws_FnFormsStandOfAll.j8 k x3 x4 x5 x6 x70 x71 x72 x76 x77 x78 x82 x83 false))
def laws_FnFormsStandOfAll.j8 : Nat → Int → Int → Int → Int → Int → Int → Bool → Int → Int → Bool → Int → Int → Bool → Option (Bool)
  | 0, _, _, _, _, _, _, _, _, _, _, _, _, _ => none
  | k + 1, x3, x4, x5, x6, x70, x71, x72, x76, x77, x78, x82, x83, x746 => if x746 = true then (some false) else (if x72 = true then (if x70 ≤ (wrap64 (2 * x4)) then (laws_FnFormsStandOfAll.j9 k x5 x6 x76 x77 x78 x82 x83 true) else (if (wrap64 ((wrap64 ((wrap64 (4 * x4)) * (wrap64 (x70 - x4)))) + x71)) = x3 then (if x71 < 0 then (laws_FnFormsStandOfAll.j9 k x5 x6 x76 x77 x78 x82 x83 true) else (laws_FnFormsStandOfAll.j9 k x5 x6 x76 x77 x78 x82 x83 (decide (x71 ≥ (wrap64 (4 * x4)))))) else (laws_FnFormsStandOfAll.j9 k x5 x6 x76 x77 x78 x82 x83 true))) else (laws_FnFormsStandOfAll.j9 k x5 x6 x76 x77 x78 x82 x83 false))
def laws_FnFormsStandOfAll.j9 : Nat → Int → Int → Int → Int → Bool → Int → Int → Bool → Option (Bool)
  | 0, _, _, _, _, _, _, _, _ => none
  | k + 1, x5, x6, x76, x77, x78, x82, x83, x775 => if x775 = true then (some false) else (if x78 = true then (if x76 = x82 then (if (wrap64 ((wrap64 (x76 * x5)) + x77)) = x6 then (if (Int.tmod x76 2) = 0 then (if x83 = x77 then (if (Int.tmod x76 2) = 1 then (laws_FnFormsStandOfAll.j10 k x5 x6 x76 x77 x82 x83 ((wrap64 (x83 + x77)) != (wrap64 (x5 - 1)))) else (laws_FnFormsStandOfAll.j10 k x5 x6 x76 x77 x82 x83 false)) else (laws_FnFormsStandOfAll.j10 k x5 x6 x76 x77 x82 x83 true)) else (if (Int.tmod x76 2) = 1 then (laws_FnFormsStandOfAll.j10 k x5 x6 x76 x77 x82 x83 ((wrap64 (x83 + x77)) != (wrap64 (x5 - 1)))) else (laws_FnFormsStandOfAll.j10 k x5 x6 x76 x77 x82 x83 false))) else (laws_FnFormsStandOfAll.j10 k x5 x6 x76 x77 x82 x83 true)) else (laws_FnFormsStandOfAll.j10 k x5 x6 x76 x77 x82 x83 true)) else (some true))
def laws_FnFormsStandOfAll.j10 : Nat → Int → Int → Int → Int → Int → Int → Bool → Option (Bool)
  | 0, _, _, _, _, _, _, _ => none
  | k + 1, x5, x6, x76, x77, x82, x83, x811 => if x811 = true then (some false) else (if x76 ≤ 1000 then ((impl_SoldierAt.f x5 x76 x77).bind fun bt350 => ((impl_SoldierOfSnake.f x5 x82 x83).bind fun bt352 => (if bt350.2 = true then (if bt350.1 = x6 then (if bt352.2 = true then (if bt352.1 = x6 then (some true) else (some false)) else (some false)) else (some false)) else (some false)))) else (some true))
def laws_FnFormsStandOfAll.l0 : Nat → Int → Int → Int → Int → Int → Int → Int → Int → Int → Int → List (List Int) → List (List Int) → Int → Int → Int → Int → List (List Int) → List Int → List (List Int) → Int → Int → Option (Bool)
  | 0, _, _, _, _, _, _, _, _, _, _, _, _, _, _, _, _, _, _, _, _, _ => none
  | k + 1, x0, x1, x2, x3, x4, x5, x6, x7, x8, x9, x21, x25, x29, x30, x35, x36, x41, x45, x262, x263, x264 => if x264 < x263 then (if 0 ≤ x264 then (if x264 < (x262.length : Int) then (if ((rd_L1 x262 x264).length : Int) = 2 then (if 0 < ((rd_L1 x262 x264).length : Int) then (if (rd (rd_L1 x262 x264) 0) < 1 then (some false) else (if 1 < ((rd_L1 x262 x264).length : Int) then (if (rd (rd_L1 x262 x264) 0) > (rd (rd_L1 x262 x264) 1) then (some false) else (if (wrap64 ((rd (rd_L1 x262 x264) 0) * (rd (rd_L1 x262 x264) 1))) = x0 then (if x264 > 0 then (if 0 ≤ (wrap64 (x264 - 1)) then (if (wrap64 (x264 - 1)) < (x21.length : Int) then (if 0 < ((rd_L1 x21 (wrap64 (x264 - 1))).length : Int) then (if (rd (rd_L1 x21 (wrap64 (x264 - 1))) 0) ≥ (rd (rd_L1 x262 x264) 0) then (some false) else (laws_FnFormsStandOfAll.l0 k x0 x1 x2 x3 x4 x5 x6 x7 x8 x9 x21 x25 x29 x30 x35 x36 x41 x45 x262 x263 (wrap64 (x264 + 1)))) else (none)) else (none)) else (none)) else (laws_FnFormsStandOfAll.l0 k x0 x1 x2 x3 x4 x5 x6 x7 x8 x9 x21 x25 x29 x30 x35 x36 x41 x45 x262 x263 (wrap64 (x264 + 1)))) else (some false))) else (none))) else (none)) else (some false)) else (none)) else (none)) else (laws_FnFormsStandOfAll.l1 k x0 x1 x2 x3 x4 x5 x6 x7 x8 x9 x21 x25 x29 x30 x35 x36 x41 x45 x25 (x25.length : Int) 0)
def laws_FnFormsStandOfAll.l1 : Nat → Int → Int → Int → Int → Int → Int → Int → Int → Int → Int → List (List Int) → List (List Int) → Int → Int → Int → Int → List (List Int) → List Int → List (List Int) → Int → Int → Option (Bool)
  | 0, _, _, _, _, _, _, _, _, _, _, _, _, _, _, _, _, _, _, _, _, _ => none
  | k + 1, x0, x1, x2, x3, x4, x5, x6, x7, x8, x9, x21, x25, x29, x30, x35, x36, x41, x45, x316, x317, x318 => if x318 < x317 then (if 0 ≤ x318 then (if x318 < (x316.length : Int) then (if ((rd_L1 x316 x318).length : Int) = 2 then (if 1 < ((rd_L1 x316 x318).length : Int) then (if (rd (rd_L1 x316 x318) 1) < 1 then (some false) else (if 0 < ((rd_L1 x316 x318).length : Int) then (if (rd (rd_L1 x316 x318) 0) ≤ (wrap64 (2 * (rd (rd_L1 x316 x318) 1))) then (some false) else (if (wrap64 ((wrap64 ((rd (rd_L1 x316 x318) 0) * (rd (rd_L1 x316 x318) 0))) - (wrap64 ((wrap64 ((rd (rd_L1 x316 x318) 0) - (wrap64 (2 * (rd (rd_L1 x316 x318) 1))))) * (wrap64 ((rd (rd_L1 x316 x318) 0) - (wrap64 (2 * (rd (rd_L1 x316 x318) 1))))))))) = x0 then (if x318 > 0 then (if 0 ≤ (wrap64 (x318 - 1)) then (if (wrap64 (x318 - 1)) < (x25.length : Int) then (if 0 < ((rd_L1 x25 (wrap64 (x318 - 1))).length : Int) then (if (rd (rd_L1 x25 (wrap64 (x318 - 1))) 0) ≥ (rd (rd_L1 x316 x318) 0) then (some false) else ((impl_GreatestHollow.f k x0 (rd (rd_L1 x316 x318) 1)).bind fun bt290 => (if (rd (rd_L1 x316 x318) 1) ≤ 1000 then (if bt290.2.2 = true then (if bt290.1 = (rd (rd_L1 x316 x318) 0) then (if bt290.2.1 = 0 then (laws_FnFormsStandOfAll.l1 k x0 x1 x2 x3 x4 x5 x6 x7 x8 x9 x21 x25 x29 x30 x35 x36 x41 x45 x316 x317 (wrap64 (x318 + 1))) else (some false)) else (some false)) else (some false)) else (laws_FnFormsStandOfAll.l1 k x0 x1 x2 x3 x4 x5 x6 x7 x8 x9 x21 x25 x29 x30 x35 x36 x41 x45 x316 x317 (wrap64 (x318 + 1)))))) else (none)) else (none)) else (none)) else ((impl_GreatestHollow.f k x0 (rd (rd_L1 x316 x318) 1)).bind fun bt296 => (if (rd (rd_L1 x316 x318) 1) ≤ 1000 then (if bt296.2.2 = true then (if bt296.1 = (rd (rd_L1 x316 x318) 0) then (if bt296.2.1 = 0 then (laws_FnFormsStandOfAll.l1 k x0 x1 x2 x3 x4 x5 x6 x7 x8 x9 x21 x25 x29 x30 x35 x36 x41 x45 x316 x317 (wrap64 (x318 + 1))) else (some false)) else (some false)) else (some false)) else (laws_FnFormsStandOfAll.l1 k x0 x1 x2 x3 x4 x5 x6 x7 x8 x9 x21 x25 x29 x30 x35 x36 x41 x45 x316 x317 (wrap64 (x318 + 1)))))) else (some false))) else (none))) else (none)) else (some false)) else (none)) else (none)) else (laws_FnFormsStandOfAll.l2 k x0 x1 x2 x3 x4 x5 x6 x7 x8 x9 x21 x29 x30 x35 x36 x41 x45 x41 (x41.length : Int) 0)
def laws_FnFormsStandOfAll.l2 : Nat → Int → Int → Int → Int → Int → Int → Int → Int → Int → Int → List (List Int) → Int → Int → Int → Int → List (List Int) → List Int → List (List Int) → Int → Int → Option (Bool)
  | 0, _, _, _, _, _, _, _, _, _, _, _, _, _, _, _, _, _, _, _, _ => none
  | k + 1, x0, x1, x2, x3, x4, x5, x6, x7, x8, x9, x21, x29, x30, x35, x36, x41, x45, x417, x418, x419 => if x419 < x418 then (if 0 ≤ x419 then (if x419 < (x417.length : Int) then (if ((rd_L1 x417 x419).length : Int) = 2 then (if 0 < ((rd_L1 x417 x419).length : Int) then (if (rd (rd_L1 x417 x419) 0) < 1 then (some false) else (if 1 < ((rd_L1 x417 x419).length : Int) then (if (rd (rd_L1 x417 x419) 0) > (rd (rd_L1 x417 x419) 1) then (some false) else (if (wrap64 ((wrap64 ((rd (rd_L1 x417 x419) 0) * (rd (rd_L1 x417 x419) 0))) + (wrap64 ((rd (rd_L1 x417 x419) 1) * (rd (rd_L1 x417 x419) 1))))) = x0 then (if x419 > 0 then (if 0 ≤ (wrap64 (x419 - 1)) then (if (wrap64 (x419 - 1)) < (x41.length : Int) then (if 0 < ((rd_L1 x41 (wrap64 (x419 - 1))).length : Int) then (if (rd (rd_L1 x41 (wrap64 (x419 - 1))) 0) ≥ (rd (rd_L1 x417 x419) 0) then (some false) else (laws_FnFormsStandOfAll.l2 k x0 x1 x2 x3 x4 x5 x6 x7 x8 x9 x21 x29 x30 x35 x36 x41 x45 x417 x418 (wrap64 (x419 + 1)))) else (none)) else (none)) else (none)) else (laws_FnFormsStandOfAll.l2 k x0 x1 x2 x3 x4 x5 x6 x7 x8 x9 x21 x29 x30 x35 x36 x41 x45 x417 x418 (wrap64 (x419 + 1)))) else (some false))) else (none))) else (none)) else (some false)) else (none)) else (none)) else (if (x21.length : Int) < 1 then (laws_FnFormsStandOfAll.j4 k x0 x1 x2 x3 x4 x5 x6 x7 x8 x9 x45 true) else (if (wrap64 ((wrap64 (x29 * x29)) + x30)) = x0 then (if x30 < 0 then (laws_FnFormsStandOfAll.j4 k x0 x1 x2 x3 x4 x5 x6 x7 x8 x9 x45 true) else (if x30 > (wrap64 (2 * x29)) then (laws_FnFormsStandOfAll.j4 k x0 x1 x2 x3 x4 x5 x6 x7 x8 x9 x45 true) else (if (wrap64 ((wrap64 (Int.tdiv (wrap64 (x35 * (wrap64 (x35 + 1)))) 2)) + x36)) = x0 then (if x36 < 0 then (laws_FnFormsStandOfAll.j4 k x0 x1 x2 x3 x4 x5 x6 x7 x8 x9 x45 true) else (if x36 > x35 then (laws_FnFormsStandOfAll.j4 k x0 x1 x2 x3 x4 x5 x6 x7 x8 x9 x45 true) else ((laws_mRises.f k x45).bind fun t312 => (laws_FnFormsStandOfAll.j4 k x0 x1 x2 x3 x4 x5 x6 x7 x8 x9 x45 (!t312))))) else (laws_FnFormsStandOfAll.j4 k x0 x1 x2 x3 x4 x5 x6 x7 x8 x9 x45 true)))) else (laws_FnFormsStandOfAll.j4 k x0 x1 x2 x3 x4 x5 x6 x7 x8 x9 x45 true)))
def laws_FnFormsStandOfAll.j4 : Nat → Int → Int → Int → Int → Int → Int → Int → Int → Int → Int → List Int → Bool → Option (Bool)
  | 0, _, _, _, _, _, _, _, _, _, _, _, _ => none
  | k + 1, x0, x1, x2, x3, x4, x5, x6, x7, x8, x9, x45, x525 => if x525 = true then (some false) else (laws_FnFormsStandOfAll.l3 k x0 x1 x2 x3 x4 x5 x6 x7 x8 x9 x45 (x45.length : Int) 0)
def laws_FnFormsStandOfAll.l3 : Nat → Int → Int → Int → Int → Int → Int → Int → Int → Int → Int → List Int → Int → Int → Option (Bool)
  | 0, _, _, _, _, _, _, _, _, _, _, _, _, _ => none
  | k + 1, x0, x1, x2, x3, x4, x5, x6, x7, x8, x9, x526, x527, x528 => if x528 < x527 then (if 0 ≤ x528 then (if x528 < (x526.length : Int) then ((impl_SquareOf.f k (rd x526 x528)).bind fun bt314 => ((impl_TriangleOf.f k (rd x526 x528)).bind fun bt317 => (if bt314.2.2 = true then (if bt317.2.2 = true then (if bt314.2.1 = 0 then (if bt317.2.1 = 0 then (if (rd x526 x528) > x0 then (some false) else (laws_FnFormsStandOfAll.l3 k x0 x1 x2 x3 x4 x5 x6 x7 x8 x9 x526 x527 (wrap64 (x528 + 1)))) else (some false)) else (some false)) else (some false)) else (some false)))) else (none)) else (none)) else (laws_FnFormsStandOfAll.j6 k x1 x2 x3 x4 x5 x6 x7 x8 x9)
end
def laws_FnFormsStandOfAll.f (k : Nat) (a0 : Int) (a1 : Int) (a2 : Int) (a3 : Int) (a4 : Int) (a5 : Int) (a6 : Int) (a7 : Int) (a8 : Int) (a9 : Int) : Option (Bool) := (impl_RectanglesOf.f k a0).bind fun bt219 => ((spec_RectanglesOf.f k a0).bind fun bt223 => ((impl_HollowsOf.f k a0).bind fun bt227 => ((spec_HollowsOf.f k a0).bind fun bt231 => ((impl_SquareOf.f k a0).bind fun bt235 => ((spec_SquareOf.f k a0).bind fun bt238 => ((impl_TriangleOf.f k a0).bind fun bt241 => ((spec_TriangleOf.f k a0).bind fun bt244 => ((impl_TwoSquares.f k a0).bind fun bt247 => ((spec_TwoSquares.f k a0).bind fun bt251 => ((impl_SquareTriangles.f k a0).bind fun bt255 => ((spec_SquareTriangles.f k a0).bind fun bt259 => (if (bt219.2 != bt223.2) = true then (laws_FnFormsStandOfAll.j0 k a0 a1 a2 a3 a4 a5 a6 a7 a8 a9 bt219.1 bt219.2 bt227.1 bt235.1 bt235.2.1 bt241.1 bt241.2.1 bt247.1 bt255.1 true) else ((laws_mRows.f k bt219.1 bt223.1).bind fun t263 => (if t263 = true then (if (bt227.2 != bt231.2) = true then (laws_FnFormsStandOfAll.j0 k a0 a1 a2 a3 a4 a5 a6 a7 a8 a9 bt219.1 bt219.2 bt227.1 bt235.1 bt235.2.1 bt241.1 bt241.2.1 bt247.1 bt255.1 true) else ((laws_mRows.f k bt227.1 bt231.1).bind fun t264 => (if t264 = true then (if (bt235.2.2 != bt238.2.2) = true then (laws_FnFormsStandOfAll.j0 k a0 a1 a2 a3 a4 a5 a6 a7 a8 a9 bt219.1 bt219.2 bt227.1 bt235.1 bt235.2.1 bt241.1 bt241.2.1 bt247.1 bt255.1 true) else (if bt235.1 = bt238.1 then (if bt235.2.1 = bt238.2.1 then (if (bt241.2.2 != bt244.2.2) = true then (laws_FnFormsStandOfAll.j0 k a0 a1 a2 a3 a4 a5 a6 a7 a8 a9 bt219.1 bt219.2 bt227.1 bt235.1 bt235.2.1 bt241.1 bt241.2.1 bt247.1 bt255.1 true) else (if bt241.1 = bt244.1 then (if bt241.2.1 = bt244.2.1 then (if (bt247.2 != bt251.2) = true then (laws_FnFormsStandOfAll.j0 k a0 a1 a2 a3 a4 a5 a6 a7 a8 a9 bt219.1 bt219.2 bt227.1 bt235.1 bt235.2.1 bt241.1 bt241.2.1 bt247.1 bt255.1 true) else ((laws_mRows.f k bt247.1 bt251.1).bind fun t265 => (if t265 = true then (if (bt255.2 != bt259.2) = true then (laws_FnFormsStandOfAll.j0 k a0 a1 a2 a3 a4 a5 a6 a7 a8 a9 bt219.1 bt219.2 bt227.1 bt235.1 bt235.2.1 bt241.1 bt241.2.1 bt247.1 bt255.1 true) else ((laws_mSame.f k bt255.1 bt259.1).bind fun t266 => (if t266 = true then (if (bt227.2 != bt219.2) = true then (laws_FnFormsStandOfAll.j0 k a0 a1 a2 a3 a4 a5 a6 a7 a8 a9 bt219.1 bt219.2 bt227.1 bt235.1 bt235.2.1 bt241.1 bt241.2.1 bt247.1 bt255.1 true) else (if (bt235.2.2 != bt219.2) = true then (laws_FnFormsStandOfAll.j0 k a0 a1 a2 a3 a4 a5 a6 a7 a8 a9 bt219.1 bt219.2 bt227.1 bt235.1 bt235.2.1 bt241.1 bt241.2.1 bt247.1 bt255.1 true) else (if (bt241.2.2 != bt219.2) = true then (laws_FnFormsStandOfAll.j0 k a0 a1 a2 a3 a4 a5 a6 a7 a8 a9 bt219.1 bt219.2 bt227.1 bt235.1 bt235.2.1 bt241.1 bt241.2.1 bt247.1 bt255.1 true) else (if (bt247.2 != bt219.2) = true then (laws_FnFormsStandOfAll.j0 k a0 a1 a2 a3 a4 a5 a6 a7 a8 a9 bt219.1 bt219.2 bt227.1 bt235.1 bt235.2.1 bt241.1 bt241.2.1 bt247.1 bt255.1 true) else (laws_FnFormsStandOfAll.j0 k a0 a1 a2 a3 a4 a5 a6 a7 a8 a9 bt219.1 bt219.2 bt227.1 bt235.1 bt235.2.1 bt241.1 bt241.2.1 bt247.1 bt255.1 (bt255.2 != bt219.2)))))) else (laws_FnFormsStandOfAll.j0 k a0 a1 a2 a3 a4 a5 a6 a7 a8 a9 bt219.1 bt219.2 bt227.1 bt235.1 bt235.2.1 bt241.1 bt241.2.1 bt247.1 bt255.1 true)))) else (laws_FnFormsStandOfAll.j0 k a0 a1 a2 a3 a4 a5 a6 a7 a8 a9 bt219.1 bt219.2 bt227.1 bt235.1 bt235.2.1 bt241.1 bt241.2.1 bt247.1 bt255.1 true)))) else (laws_FnFormsStandOfAll.j0 k a0 a1 a2 a3 a4 a5 a6 a7 a8 a9 bt219.1 bt219.2 bt227.1 bt235.1 bt235.2.1 bt241.1 bt241.2.1 bt247.1 bt255.1 true)) else (laws_FnFormsStandOfAll.j0 k a0 a1 a2 a3 a4 a5 a6 a7 a8 a9 bt219.1 bt219.2 bt227.1 bt235.1 bt235.2.1 bt241.1 bt241.2.1 bt247.1 bt255.1 true))) else (laws_FnFormsStandOfAll.j0 k a0 a1 a2 a3 a4 a5 a6 a7 a8 a9 bt219.1 bt219.2 bt227.1 bt235.1 bt235.2.1 bt241.1 bt241.2.1 bt247.1 bt255.1 true)) else (laws_FnFormsStandOfAll.j0 k a0 a1 a2 a3 a4 a5 a6 a7 a8 a9 bt219.1 bt219.2 bt227.1 bt235.1 bt235.2.1 bt241.1 bt241.2.1 bt247.1 bt255.1 true))) else (laws_FnFormsStandOfAll.j0 k a0 a1 a2 a3 a4 a5 a6 a7 a8 a9 bt219.1 bt219.2 bt227.1 bt235.1 bt235.2.1 bt241.1 bt241.2.1 bt247.1 bt255.1 true)))) else (laws_FnFormsStandOfAll.j0 k a0 a1 a2 a3 a4 a5 a6 a7 a8 a9 bt219.1 bt219.2 bt227.1 bt235.1 bt235.2.1 bt241.1 bt241.2.1 bt247.1 bt255.1 true)))))))))))))))
theorem laws_FnFormsStandOfAll.mono_l : ∀ k, (∀ y0 y1 y2 y3 y4 y5 y6 y7 y8 y9 y10 y11 y12 y13 y14 y15 y16 y17 y18 y19, LeO (laws_FnFormsStandOfAll.j0 k y0 y1 y2 y3 y4 y5 y6 y7 y8 y9 y10 y11 y12 y13 y14 y15 y16 y17 y18 y19) (laws_FnFormsStandOfAll.j0 (k + 1) y0 y1 y2 y3 y4 y5 y6 y7 y8 y9 y10 y11 y12 y13 y14 y15 y16 y17 y18 y19)) ∧ (∀ y0 y1 y2 y3 y4 y5 y6 y7 y8, LeO (laws_FnFormsStandOfAll.j6 k y0 y1 y2 y3 y4 y5 y6 y7 y8) (laws_FnFormsStandOfAll.j6 (k + 1) y0 y1 y2 y3 y4 y5 y6 y7 y8)) ∧ (∀ y0 y1 y2 y3 y4 y5 y6 y7 y8 y9 y10 y11 y12 y13 y14 y15 y16, LeO (laws_FnFormsStandOfAll.j7 k y0 y1 y2 y3 y4 y5 y6 y7 y8 y9 y10 y11 y12 y13 y14 y15 y16) (laws_FnFormsStandOfAll.j7 (k + 1) y0 y1 y2 y3 y4 y5 y6 y7 y8 y9 y10 y11 y12 y13 y14 y15 y16)) ∧ (∀ y0 y1 y2 y3 y4 y5 y6 y7 y8 y9 y10 y11 y12, LeO (laws_FnFormsStandOfAll.j8 k y0 y1 y2 y3 y4 y5 y6 y7 y8 y9 y10 y11 y12) (laws_FnFormsStandOfAll.j8 (k + 1) y0 y1 y2 y3 y4 y5 y6 y7 y8 y9 y10 y11 y12)) ∧ (∀ y0 y1 y2 y3 y4 y5 y6 y7, LeO (laws_FnFormsStandOfAll.j9 k y0 y1 y2 y3 y4 y5 y6 y7) (laws_FnFormsStandOfAll.j9 (k + 1) y0 y1 y2 y3 y4 y5 y6 y7)) ∧ (∀ y0 y1 y2 y3 y4 y5 y6, LeO (laws_FnFormsStandOfAll.j10 k y0 y1 y2 y3 y4 y5 y6) (laws_FnFormsStandOfAll.j10 (k + 1) y0 y1 y2 y3 y4 y5 y6)) ∧ (∀ y0 y1 y2 y3 y4 y5 y6 y7 y8 y9 y10 y11 y12 y13 y14 y15 y16 y17 y18 y19 y20, LeO (laws_FnFormsStandOfAll.l0 k y0 y1 y2 y3 y4 y5 y6 y7 y8 y9 y10 y11 y12 y13 y14 y15 y16 y17 y18 y19 y20) (laws_FnFormsStandOfAll.l0 (k + 1) y0 y1 y2 y3 y4 y5 y6 y7 y8 y9 y10 y11 y12 y13 y14 y15 y16 y17 y18 y19 y20)) ∧ (∀ y0 y1 y2 y3 y4 y5 y6 y7 y8 y9 y10 y11 y12 y13 y14 y15 y16 y17 y18 y19 y20, LeO (laws_FnFormsStandOfAll.l1 k y0 y1 y2 y3 y4 y5 y6 y7 y8 y9 y10 y11 y12 y13 y14 y15 y16 y17 y18 y19 y20) (laws_FnFormsStandOfAll.l1 (k + 1) y0 y1 y2 y3 y4 y5 y6 y7 y8 y9 y10 y11 y12 y13 y14 y15 y16 y17 y18 y19 y20)) ∧ (∀ y0 y1 y2 y3 y4 y5 y6 y7 y8 y9 y10 y11 y12 y13 y14 y15 y16 y17 y18 y19, LeO (laws_FnFormsStandOfAll.l2 k y0 y1 y2 y3 y4 y5 y6 y7 y8 y9 y10 y11 y12 y13 y14 y15 y16 y17 y18 y19) (laws_FnFormsStandOfAll.l2 (k + 1) y0 y1 y2 y3 y4 y5 y6 y7 y8 y9 y10 y11 y12 y13 y14 y15 y16 y17 y18 y19)) ∧ (∀ y0 y1 y2 y3 y4 y5 y6 y7 y8 y9 y10 y11, LeO (laws_FnFormsStandOfAll.j4 k y0 y1 y2 y3 y4 y5 y6 y7 y8 y9 y10 y11) (laws_FnFormsStandOfAll.j4 (k + 1) y0 y1 y2 y3 y4 y5 y6 y7 y8 y9 y10 y11)) ∧ (∀ y0 y1 y2 y3 y4 y5 y6 y7 y8 y9 y10 y11 y12, LeO (laws_FnFormsStandOfAll.l3 k y0 y1 y2 y3 y4 y5 y6 y7 y8 y9 y10 y11 y12) (laws_FnFormsStandOfAll.l3 (k + 1) y0 y1 y2 y3 y4 y5 y6 y7 y8 y9 y10 y11 y12))
  | 0 => ⟨fun _ _ _ _ _ _ _ _ _ _ _ _ _ _ _ _ _ _ _ _ r h => by simp [laws_FnFormsStandOfAll.j0] at h, fun _ _ _ _ _ _ _ _ _ r h => by simp [laws_FnFormsStandOfAll.j6] at h, fun _ _ _ _ _ _ _ _ _ _ _ _ _ _ _ _ _ r h => by simp [laws_FnFormsStandOfAll.j7] at h, fun _ _ _ _ _ _ _ _ _ _ _ _ _ r h => by simp [laws_FnFormsStandOfAll.j8] at h, fun _ _ _ _ _ _ _ _ r h => by simp [laws_FnFormsStandOfAll.j9] at h, fun _ _ _ _ _ _ _ r h => by simp [laws_FnFormsStandOfAll.j10] at h, fun _ _ _ _ _ _ _ _ _ _ _ _ _ _ _ _ _ _ _ _ _ r h => by simp [laws_FnFormsStandOfAll.l0] at h, fun _ _ _ _ _ _ _ _ _ _ _ _ _ _ _ _ _ _ _ _ _ r h => by simp [laws_FnFormsStandOfAll.l1] at h, fun _ _ _ _ _ _ _ _ _ _ _ _ _ _ _ _ _ _ _ _ r h => by simp [laws_FnFormsStandOfAll.l2] at h, fun _ _ _ _ _ _ _ _ _ _ _ _ r h => by simp [laws_FnFormsStandOfAll.j4] at h, fun _ _ _ _ _ _ _ _ _ _ _ _ _ r h => by simp [laws_FnFormsStandOfAll.l3] at h⟩
  | k + 1 => by
    obtain ⟨ih0, ih1, ih2, ih3, ih4, ih5, ih6, ih7, ih8, ih9, ih10⟩ := laws_FnFormsStandOfAll.mono_l k
    refine ⟨?_, ?_, ?_, ?_, ?_, ?_, ?_, ?_, ?_, ?_, ?_⟩
    all_goals intros
    all_goals first
      | unfold laws_FnFormsStandOfAll.j0
      | unfold laws_FnFormsStandOfAll.j6
      | unfold laws_FnFormsStandOfAll.j7
      | unfold laws_FnFormsStandOfAll.j8
      | unfold laws_FnFormsStandOfAll.j9
      | unfold laws_FnFormsStandOfAll.j10
      | unfold laws_FnFormsStandOfAll.l0
      | unfold laws_FnFormsStandOfAll.l1
      | unfold laws_FnFormsStandOfAll.l2
      | unfold laws_FnFormsStandOfAll.j4
      | unfold laws_FnFormsStandOfAll.l3
    all_goals
      repeat' first
      | (with_reducible exact ih0 _ _ _ _ _ _ _ _ _ _ _ _ _ _ _ _ _ _ _ _)
      | (with_reducible exact ih1 _ _ _ _ _ _ _ _ _)
      | (with_reducible exact ih2 _ _ _ _ _ _ _ _ _ _ _ _ _ _ _ _ _)
      | (with_reducible exact ih3 _ _ _ _ _ _ _ _ _ _ _ _ _)
      | (with_reducible exact ih4 _ _ _ _ _ _ _ _)
      | (with_reducible exact ih5 _ _ _ _ _ _ _)
      | (with_reducible exact ih6 _ _ _ _ _ _ _ _ _ _ _ _ _ _ _ _ _ _ _ _ _)
      | (with_reducible exact ih7 _ _ _ _ _ _ _ _ _ _ _ _ _ _ _ _ _ _ _ _ _)
      | (with_reducible exact ih8 _ _ _ _ _ _ _ _ _ _ _ _ _ _ _ _ _ _ _ _)
      | (with_reducible exact ih9 _ _ _ _ _ _ _ _ _ _ _ _)
      | (with_reducible exact ih10 _ _ _ _ _ _ _ _ _ _ _ _ _)
      | (with_reducible exact impl_GreatestHollow.mono _ _ _)
      | (with_reducible exact impl_HollowsOf.mono _ _)
      | (with_reducible exact impl_RectanglesOf.mono _ _)
      | (with_reducible exact impl_SquareOf.mono _ _)
      | (with_reducible exact impl_SquareTriangles.mono _ _)
      | (with_reducible exact impl_TriangleOf.mono _ _)
      | (with_reducible exact impl_TwoSquares.mono _ _)
      | (with_reducible exact laws_mRises.mono _ _)
      | (with_reducible exact laws_mRows.mono _ _ _)
      | (with_reducible exact laws_mSame.mono _ _ _)
      | (with_reducible exact spec_GreatestHollow.mono _ _ _)
      | (with_reducible exact spec_HollowsOf.mono _ _)
      | (with_reducible exact spec_RectanglesOf.mono _ _)
      | (with_reducible exact spec_SquareOf.mono _ _)
      | (with_reducible exact spec_SquareTriangles.mono _ _)
      | (with_reducible exact spec_TriangleOf.mono _ _)
      | (with_reducible exact spec_TwoSquares.mono _ _)
      | (with_reducible exact LeO.refl _)
      | (with_reducible exact LeO.none _)
      | (with_reducible refine LeO.ite ?_ ?_)
      | (with_reducible refine LeO.bind ?_ (fun _ => ?_))
      | exact ih0 _ _ _ _ _ _ _ _ _ _ _ _ _ _ _ _ _ _ _ _
      | exact ih1 _ _ _ _ _ _ _ _ _
      | exact ih2 _ _ _ _ _ _ _ _ _ _ _ _ _ _ _ _ _
      | exact ih3 _ _ _ _ _ _ _ _ _ _ _ _ _
      | exact ih4 _ _ _ _ _ _ _ _
      | exact ih5 _ _ _ _ _ _ _
      | exact ih6 _ _ _ _ _ _ _ _ _ _ _ _ _ _ _ _ _ _ _ _ _
      | exact ih7 _ _ _ _ _ _ _ _ _ _ _ _ _ _ _ _ _ _ _ _ _
      | exact ih8 _ _ _ _ _ _ _ _ _ _ _ _ _ _ _ _ _ _ _ _
      | exact ih9 _ _ _ _ _ _ _ _ _ _ _ _
      | exact ih10 _ _ _ _ _ _ _ _ _ _ _ _ _
      | exact impl_GreatestHollow.mono _ _ _
      | exact impl_HollowsOf.mono _ _
      | exact impl_RectanglesOf.mono _ _
      | exact impl_SquareOf.mono _ _
      | exact impl_SquareTriangles.mono _ _
      | exact impl_TriangleOf.mono _ _
      | exact impl_TwoSquares.mono _ _
      | exact laws_mRises.mono _ _
      | exact laws_mRows.mono _ _ _
      | exact laws_mSame.mono _ _ _
      | exact spec_GreatestHollow.mono _ _ _
      | exact spec_HollowsOf.mono _ _
      | exact spec_RectanglesOf.mono _ _
      | exact spec_SquareOf.mono _ _
      | exact spec_SquareTriangles.mono _ _
      | exact spec_TriangleOf.mono _ _
      | exact spec_TwoSquares.mono _ _
      | exact LeO.none _
      | refine LeO.ite ?_ ?_
      | refine LeO.bind ?_ (fun _ => ?_)
theorem laws_FnFormsStandOfAll.mono : ∀ a0 a1 a2 a3 a4 a5 a6 a7 a8 a9 k, LeO (laws_FnFormsStandOfAll.f k a0 a1 a2 a3 a4 a5 a6 a7 a8 a9) (laws_FnFormsStandOfAll.f (k + 1) a0 a1 a2 a3 a4 a5 a6 a7 a8 a9) := by
  intro a0 a1 a2 a3 a4 a5 a6 a7 a8 a9 k
  obtain ⟨ih0, ih1, ih2, ih3, ih4, ih5, ih6, ih7, ih8, ih9, ih10⟩ := laws_FnFormsStandOfAll.mono_l k
  unfold laws_FnFormsStandOfAll.f
  repeat' first
      | (with_reducible exact ih0 _ _ _ _ _ _ _ _ _ _ _ _ _ _ _ _ _ _ _ _)
      | (with_reducible exact ih1 _ _ _ _ _ _ _ _ _)
      | (with_reducible exact ih2 _ _ _ _ _ _ _ _ _ _ _ _ _ _ _ _ _)
      | (with_reducible exact ih3 _ _ _ _ _ _ _ _ _ _ _ _ _)
      | (with_reducible exact ih4 _ _ _ _ _ _ _ _)
      | (with_reducible exact ih5 _ _ _ _ _ _ _)
      | (with_reducible exact ih6 _ _ _ _ _ _ _ _ _ _ _ _ _ _ _ _ _ _ _ _ _)
      | (with_reducible exact ih7 _ _ _ _ _ _ _ _ _ _ _ _ _ _ _ _ _ _ _ _ _)
      | (with_reducible exact ih8 _ _ _ _ _ _ _ _ _ _ _ _ _ _ _ _ _ _ _ _)
      | (with_reducible exact ih9 _ _ _ _ _ _ _ _ _ _ _ _)
      | (with_reducible exact ih10 _ _ _ _ _ _ _ _ _ _ _ _ _)
      | (with_reducible exact impl_GreatestHollow.mono _ _ _)
      | (with_reducible exact impl_HollowsOf.mono _ _)
      | (with_reducible exact impl_RectanglesOf.mono _ _)
      | (with_reducible exact impl_SquareOf.mono _ _)
      | (with_reducible exact impl_SquareTriangles.mono _ _)
      | (with_reducible exact impl_TriangleOf.mono _ _)
      | (with_reducible exact impl_TwoSquares.mono _ _)
      | (with_reducible exact laws_mRises.mono _ _)
      | (with_reducible exact laws_mRows.mono _ _ _)
      | (with_reducible exact laws_mSame.mono _ _ _)
      | (with_reducible exact spec_GreatestHollow.mono _ _ _)
      | (with_reducible exact spec_HollowsOf.mono _ _)
      | (with_reducible exact spec_RectanglesOf.mono _ _)
      | (with_reducible exact spec_SquareOf.mono _ _)
      | (with_reducible exact spec_SquareTriangles.mono _ _)
      | (with_reducible exact spec_TriangleOf.mono _ _)
      | (with_reducible exact spec_TwoSquares.mono _ _)
      | (with_reducible exact LeO.refl _)
      | (with_reducible exact LeO.none _)
      | (with_reducible refine LeO.ite ?_ ?_)
      | (with_reducible refine LeO.bind ?_ (fun _ => ?_))
      | exact ih0 _ _ _ _ _ _ _ _ _ _ _ _ _ _ _ _ _ _ _ _
      | exact ih1 _ _ _ _ _ _ _ _ _
      | exact ih2 _ _ _ _ _ _ _ _ _ _ _ _ _ _ _ _ _
      | exact ih3 _ _ _ _ _ _ _ _ _ _ _ _ _
      | exact ih4 _ _ _ _ _ _ _ _
      | exact ih5 _ _ _ _ _ _ _
      | exact ih6 _ _ _ _ _ _ _ _ _ _ _ _ _ _ _ _ _ _ _ _ _
      | exact ih7 _ _ _ _ _ _ _ _ _ _ _ _ _ _ _ _ _ _ _ _ _
      | exact ih8 _ _ _ _ _ _ _ _ _ _ _ _ _ _ _ _ _ _ _ _
      | exact ih9 _ _ _ _ _ _ _ _ _ _ _ _
      | exact ih10 _ _ _ _ _ _ _ _ _ _ _ _ _
      | exact impl_GreatestHollow.mono _ _ _
      | exact impl_HollowsOf.mono _ _
      | exact impl_RectanglesOf.mono _ _
      | exact impl_SquareOf.mono _ _
      | exact impl_SquareTriangles.mono _ _
      | exact impl_TriangleOf.mono _ _
      | exact impl_TwoSquares.mono _ _
      | exact laws_mRises.mono _ _
      | exact laws_mRows.mono _ _ _
      | exact laws_mSame.mono _ _ _
      | exact spec_GreatestHollow.mono _ _ _
      | exact spec_HollowsOf.mono _ _
      | exact spec_RectanglesOf.mono _ _
      | exact spec_SquareOf.mono _ _
      | exact spec_SquareTriangles.mono _ _
      | exact spec_TriangleOf.mono _ _
      | exact spec_TwoSquares.mono _ _
      | exact LeO.none _
      | refine LeO.ite ?_ ?_
      | refine LeO.bind ?_ (fun _ => ?_)
theorem laws_FnFormsStandOfAll.j0_no : ∀ (k : Nat) (x0 : Int) (x1 : Int) (x2 : Int) (x3 : Int) (x4 : Int) (x5 : Int) (x6 : Int) (x7 : Int) (x8 : Int) (x9 : Int) (x21 : List (List Int)) (x22 : Bool) (x25 : List (List Int)) (x29 : Int) (x30 : Int) (x35 : Int) (x36 : Int) (x41 : List (List Int)) (x45 : List Int), laws_FnFormsStandOfAll.j0 k x0 x1 x2 x3 x4 x5 x6 x7 x8 x9 x21 x22 x25 x29 x30 x35 x36 x41 x45 true = some true → False := by
  intro k x0 x1 x2 x3 x4 x5 x6 x7 x8 x9 x21 x22 x25 x29 x30 x35 x36 x41 x45
  cases k <;> simp [laws_FnFormsStandOfAll.j0]
theorem laws_FnFormsStandOfAll.j7_no : ∀ (k : Nat) (x1 : Int) (x2 : Int) (x3 : Int) (x4 : Int) (x5 : Int) (x6 : Int) (x66 : Int) (x67 : Bool) (x70 : Int) (x71 : Int) (x72 : Bool) (x76 : Int) (x77 : Int) (x78 : Bool) (x82 : Int) (x83 : Int), laws_FnFormsStandOfAll.j7 k x1 x2 x3 x4 x5 x6 x66 x67 x70 x71 x72 x76 x77 x78 x82 x83 true = some true → False := by
  intro k x1 x2 x3 x4 x5 x6 x66 x67 x70 x71 x72 x76 x77 x78 x82 x83
  cases k <;> simp [laws_FnFormsStandOfAll.j7]
theorem laws_FnFormsStandOfAll.j8_no : ∀ (k : Nat) (x3 : Int) (x4 : Int) (x5 : Int) (x6 : Int) (x70 : Int) (x71 : Int) (x72 : Bool) (x76 : Int) (x77 : Int) (x78 : Bool) (x82 : Int) (x83 : Int), laws_FnFormsStandOfAll.j8 k x3 x4 x5 x6 x70 x71 x72 x76 x77 x78 x82 x83 true = some true → False := by
  intro k x3 x4 x5 x6 x70 x71 x72 x76 x77 x78 x82 x83
  cases k <;> simp [laws_FnFormsStandOfAll.j8]
theorem laws_FnFormsStandOfAll.j9_no : ∀ (k : Nat) (x5 : Int) (x6 : Int) (x76 : Int) (x77 : Int) (x78 : Bool) (x82 : Int) (x83 : Int), laws_FnFormsStandOfAll.j9 k x5 x6 x76 x77 x78 x82 x83 true = some true → False := by
  intro k x5 x6 x76 x77 x78 x82 x83
  cases k <;> simp [laws_FnFormsStandOfAll.j9]
theorem laws_FnFormsStandOfAll.j10_no : ∀ (k : Nat) (x5 : Int) (x6 : Int) (x76 : Int) (x77 : Int) (x82 : Int) (x83 : Int), laws_FnFormsStandOfAll.j10 k x5 x6 x76 x77 x82 x83 true = some true → False := by
  intro k x5 x6 x76 x77 x82 x83
  cases k <;> simp [laws_FnFormsStandOfAll.j10]
theorem laws_FnFormsStandOfAll.j4_no : ∀ (k : Nat) (x0 : Int) (x1 : Int) (x2 : Int) (x3 : Int) (x4 : Int) (x5 : Int) (x6 : Int) (x7 : Int) (x8 : Int) (x9 : Int) (x45 : List Int), laws_FnFormsStandOfAll.j4 k x0 x1 x2 x3 x4 x5 x6 x7 x8 x9 x45 true = some true → False := by
  intro k x0 x1 x2 x3 x4 x5 x6 x7 x8 x9 x45
  cases k <;> simp [laws_FnFormsStandOfAll.j4]
end Go.Proofs.YtgdmbhldabeelaaR.PFnFormsStandOfAll
