-- Written by a program of this session's (pg.py) over the kit's print.
import Derived.Test.YtgdmbhldabeelaaRGreatDoorPFnDrillsTurnOfAllx0
import Derived.Test.YtgdmbhldabeelaaRGreatDoorPFnDrillsTurnOfAllx1
import Derived.Test.YtgdmbhldabeelaaRGreatDoorPFnDrillsTurnOfAllx2
import Derived.Test.YtgdmbhldabeelaaRGreatDoorPFnDrillsTurnOfAllx3
import Derived.Test.YtgdmbhldabeelaaRGreatDoorPFnDrillsTurnOfAllx4
import Derived.Test.YtgdmbhldabeelaaRGreatDoorPFnDrillsTurnOfAllx5
import Derived.Test.YtgdmbhldabeelaaRGreatDoorPFnDrillsTurnOfAllx6
import Derived.Test.YtgdmbhldabeelaaRGreatDoorPFnDrillsTurnOfAllx7
import Derived.Lib.OthersKept
import Derived.Deep.RegionWith
namespace Go.Proofs.YtgdmbhldabeelaaRGreatDoor.PFnDrillsTurnOfAll
open Go.RowKit Go.Proofs.YtgdmbhldabeelaaRGreatDoorW.PrintWords Go.Proofs.YtgdmbhldabeelaaRGreatDoorW.PrintLast Go.Proofs.YtgdmbhldabeelaaRGreatDoorW.PrintMore
attribute [local go_sem] max2_int min2_int max_two min_two max_three min_three max_four min_four   -- for this text's walks alone
set_option linter.unusedVariables false
set_option linter.unusedSimpArgs false

/-! ### the loop over a text's places: each sign of it turns as told -/
def laws_turnLoop.l0 : Nat → ByteArray → Int → Nat → Option Bool
  | 0, _, _, _ => none
  | k + 1, s, t, i => if i < s.size then (if bt s (i : Int) < 128 then ((impl_NetTurn.f k (s.extract i (i + 1))).bind fun y => (if y.2 = true then (if y.1 = t then laws_turnLoop.l0 k s t (i + 1) else some false) else some false)) else none) else some true
def laws_turnLoop.f (k : Nat) (s : ByteArray) (t : Int) : Option Bool := if s.size ≤ 1000000000 then laws_turnLoop.l0 k s t 0 else none
theorem laws_turnLoop.mono_l (s : ByteArray) (t : Int) : ∀ k i, LeO (laws_turnLoop.l0 k s t i) (laws_turnLoop.l0 (k + 1) s t i)
  | 0, i => fun r h => by simp [laws_turnLoop.l0] at h
  | k + 1, i => by
    rw [laws_turnLoop.l0, laws_turnLoop.l0]
    refine LeO.ite (LeO.ite (LeO.bind (impl_NetTurn.mono _ _) fun y => LeO.ite (LeO.ite (laws_turnLoop.mono_l s t k _) (LeO.refl _)) (LeO.refl _)) (LeO.refl _)) (LeO.refl _)
theorem laws_turnLoop.mono : ∀ a0 a1 k, LeO (laws_turnLoop.f k a0 a1) (laws_turnLoop.f (k + 1) a0 a1) := fun a0 a1 k => LeO.ite (laws_turnLoop.mono_l a0 a1 k 0) (LeO.refl _)

/-! ### laws_FnDrillsTurnOfAll: function 3 -/
mutual
def laws_FnDrillsTurnOfAll.j0 : Nat → ByteArray → ByteArray → Int → Int → ByteArray → ByteArray → ByteArray → Int → ByteArray → Bool → Option (Bool)
  | 0, _, _, _, _, _, _, _, _, _, _ => none
  | k + 1, x0, x1, x2, x3, x4, x5, x6, x7, x8, x118 => if x118 = true then (some true) else ((impl_FacingAfter.f k x0 x1).bind fun bt194 => ((spec_FacingAfter.f k x0 x1).bind fun bt196 => ((impl_NetTurn.f k x1).bind fun bt198 => ((spec_NetTurn.f k x1).bind fun bt200 => ((impl_ShortCommands.f k x1).bind fun bt202 => ((spec_ShortCommands.f k x1).bind fun bt204 => ((impl_BackCommands.f x1).bind fun bt206 => ((spec_BackCommands.f k x1).bind fun bt208 => ((impl_MirrorCommands.f x1).bind fun bt210 => ((spec_MirrorCommands.f k x1).bind fun bt212 => ((impl_RepeatsToFront.f k x1).bind fun bt214 => ((spec_RepeatsToFront.f k x1).bind fun bt216 => (if (bt194.2 != bt196.2) = true then (laws_FnDrillsTurnOfAll.j1 k x0 x1 x2 x3 x4 x5 x6 x7 x8 bt194.1 bt194.2 bt198.1 bt198.2 bt202.1 bt206.1 bt210.1 bt214.1 true) else (if bt194.1.toList = bt196.1.toList then (if (bt198.2 != bt200.2) = true then (laws_FnDrillsTurnOfAll.j1 k x0 x1 x2 x3 x4 x5 x6 x7 x8 bt194.1 bt194.2 bt198.1 bt198.2 bt202.1 bt206.1 bt210.1 bt214.1 true) else (if bt198.1 = bt200.1 then (if (bt202.2 != bt204.2) = true then (laws_FnDrillsTurnOfAll.j1 k x0 x1 x2 x3 x4 x5 x6 x7 x8 bt194.1 bt194.2 bt198.1 bt198.2 bt202.1 bt206.1 bt210.1 bt214.1 true) else (if bt202.1.toList = bt204.1.toList then (if (bt206.2 != bt208.2) = true then (laws_FnDrillsTurnOfAll.j1 k x0 x1 x2 x3 x4 x5 x6 x7 x8 bt194.1 bt194.2 bt198.1 bt198.2 bt202.1 bt206.1 bt210.1 bt214.1 true) else (if bt206.1.toList = bt208.1.toList then (if (bt210.2 != bt212.2) = true then (laws_FnDrillsTurnOfAll.j1 k x0 x1 x2 x3 x4 x5 x6 x7 x8 bt194.1 bt194.2 bt198.1 bt198.2 bt202.1 bt206.1 bt210.1 bt214.1 true) else (if bt210.1.toList = bt212.1.toList then (if (bt214.2 != bt216.2) = true then (laws_FnDrillsTurnOfAll.j1 k x0 x1 x2 x3 x4 x5 x6 x7 x8 bt194.1 bt194.2 bt198.1 bt198.2 bt202.1 bt206.1 bt210.1 bt214.1 true) else (if bt214.1 = bt216.1 then ((impl_AreCommands.f x1).bind fun t218 => (if (bt198.2 != t218) = true then (laws_FnDrillsTurnOfAll.j1 k x0 x1 x2 x3 x4 x5 x6 x7 x8 bt194.1 bt194.2 bt198.1 bt198.2 bt202.1 bt206.1 bt210.1 bt214.1 true) else ((impl_AreCommands.f x1).bind fun t219 => ((spec_AreCommands.f k x1).bind fun t220 => (if (t219 != t220) = true then (laws_FnDrillsTurnOfAll.j1 k x0 x1 x2 x3 x4 x5 x6 x7 x8 bt194.1 bt194.2 bt198.1 bt198.2 bt202.1 bt206.1 bt210.1 bt214.1 true) else (if (bt202.2 != bt198.2) = true then (laws_FnDrillsTurnOfAll.j1 k x0 x1 x2 x3 x4 x5 x6 x7 x8 bt194.1 bt194.2 bt198.1 bt198.2 bt202.1 bt206.1 bt210.1 bt214.1 true) else (if (bt206.2 != bt198.2) = true then (laws_FnDrillsTurnOfAll.j1 k x0 x1 x2 x3 x4 x5 x6 x7 x8 bt194.1 bt194.2 bt198.1 bt198.2 bt202.1 bt206.1 bt210.1 bt214.1 true) else (if (bt210.2 != bt198.2) = true then (laws_FnDrillsTurnOfAll.j1 k x0 x1 x2 x3 x4 x5 x6 x7 x8 bt194.1 bt194.2 bt198.1 bt198.2 bt202.1 bt206.1 bt210.1 bt214.1 true) else (if (bt214.2 != bt198.2) = true then (laws_FnDrillsTurnOfAll.j1 k x0 x1 x2 x3 x4 x5 x6 x7 x8 bt194.1 bt194.2 bt198.1 bt198.2 bt202.1 bt206.1 bt210.1 bt214.1 true) else (if bt198.2 = true then ((impl_AreFacing.f x0).bind fun t221 => (if (bt194.2 != t221) = true then (laws_FnDrillsTurnOfAll.j1 k x0 x1 x2 x3 x4 x5 x6 x7 x8 bt194.1 bt194.2 bt198.1 bt198.2 bt202.1 bt206.1 bt210.1 bt214.1 true) else ((impl_AreFacing.f x0).bind fun t222 => ((spec_AreFacing.f k x0).bind fun t223 => (laws_FnDrillsTurnOfAll.j1 k x0 x1 x2 x3 x4 x5 x6 x7 x8 bt194.1 bt194.2 bt198.1 bt198.2 bt202.1 bt206.1 bt210.1 bt214.1 (t222 != t223)))))) else (if (bt194.2 != false) = true then (laws_FnDrillsTurnOfAll.j1 k x0 x1 x2 x3 x4 x5 x6 x7 x8 bt194.1 bt194.2 bt198.1 bt198.2 bt202.1 bt206.1 bt210.1 bt214.1 true) else ((impl_AreFacing.f x0).bind fun t224 => ((spec_AreFacing.f k x0).bind fun t225 => (laws_FnDrillsTurnOfAll.j1 k x0 x1 x2 x3 x4 x5 x6 x7 x8 bt194.1 bt194.2 bt198.1 bt198.2 bt202.1 bt206.1 bt210.1 bt214.1 (t224 != t225))))))))))))))) else (laws_FnDrillsTurnOfAll.j1 k x0 x1 x2 x3 x4 x5 x6 x7 x8 bt194.1 bt194.2 bt198.1 bt198.2 bt202.1 bt206.1 bt210.1 bt214.1 true))) else (laws_FnDrillsTurnOfAll.j1 k x0 x1 x2 x3 x4 x5 x6 x7 x8 bt194.1 bt194.2 bt198.1 bt198.2 bt202.1 bt206.1 bt210.1 bt214.1 true))) else (laws_FnDrillsTurnOfAll.j1 k x0 x1 x2 x3 x4 x5 x6 x7 x8 bt194.1 bt194.2 bt198.1 bt198.2 bt202.1 bt206.1 bt210.1 bt214.1 true))) else (laws_FnDrillsTurnOfAll.j1 k x0 x1 x2 x3 x4 x5 x6 x7 x8 bt194.1 bt194.2 bt198.1 bt198.2 bt202.1 bt206.1 bt210.1 bt214.1 true))) else (laws_FnDrillsTurnOfAll.j1 k x0 x1 x2 x3 x4 x5 x6 x7 x8 bt194.1 bt194.2 bt198.1 bt198.2 bt202.1 bt206.1 bt210.1 bt214.1 true))) else (laws_FnDrillsTurnOfAll.j1 k x0 x1 x2 x3 x4 x5 x6 x7 x8 bt194.1 bt194.2 bt198.1 bt198.2 bt202.1 bt206.1 bt210.1 bt214.1 true)))))))))))))))
def laws_FnDrillsTurnOfAll.j1 : Nat → ByteArray → ByteArray → Int → Int → ByteArray → ByteArray → ByteArray → Int → ByteArray → ByteArray → Bool → Int → Bool → ByteArray → ByteArray → ByteArray → Int → Bool → Option (Bool)
  | 0, _, _, _, _, _, _, _, _, _, _, _, _, _, _, _, _, _, _ => none
  | k + 1, x0, x1, x2, x3, x4, x5, x6, x7, x8, x19, x20, x23, x24, x27, x31, x35, x39, x287 => if x287 = true then (some false) else (if x24 = true then ((impl_NetTurn.f k x27).bind fun bt226 => ((impl_NetTurn.f k x31).bind fun bt228 => ((impl_NetTurn.f k x35).bind fun bt230 => ((impl_MirrorCommands.f x35).bind fun bt232 => ((impl_BackCommands.f x31).bind fun bt234 => (if x23 < 0 then (some false) else (if x23 > 3 then (some false) else (if (x27.size : Int) > 1 then (some false) else (if bt226.2 = true then (if bt226.1 = x23 then (if bt228.2 = true then (if (Int.tmod (wrap64 (bt228.1 + x23)) 4) = 0 then (if bt230.2 = true then (if bt230.1 = bt228.1 then (if bt232.2 = true then (if bt232.1.toList = x1.toList then (if bt234.2 = true then (if bt234.1.toList = x1.toList then (if (x31.size : Int) = (x1.size : Int) then (if x39 < 1 then (some false) else (if (Int.tmod (wrap64 (x39 * x23)) 4) = 0 then (if x39 > 4 then (some false) else (laws_FnDrillsTurnOfAll.j2 k x0 x2 x3 x4 x5 x6 x7 x8 x19 x20 x23 x27 x31)) else (some false))) else (some false)) else (some false)) else (some false)) else (some false)) else (some false)) else (some false)) else (some false)) else (some false)) else (some false)) else (some false)) else (some false)))))))))) else (laws_FnDrillsTurnOfAll.j2 k x0 x2 x3 x4 x5 x6 x7 x8 x19 x20 x23 x27 x31))
def laws_FnDrillsTurnOfAll.j2 : Nat → ByteArray → Int → Int → ByteArray → ByteArray → ByteArray → Int → ByteArray → ByteArray → Bool → Int → ByteArray → ByteArray → Option (Bool)
  | 0, _, _, _, _, _, _, _, _, _, _, _, _, _ => none
  | k + 1, x0, x2, x3, x4, x5, x6, x7, x8, x19, x20, x23, x27, x31 => if x20 = true then ((impl_FacingAfter.f k x19 x31).bind fun bt236 => ((impl_FacingAfter.f k x0 x27).bind fun bt238 => ((impl_CommandsBetween.f k x0 x19).bind fun bt240 => (if bt236.2 = true then (if bt236.1.toList = x0.toList then (if bt238.2 = true then (if bt238.1.toList = x19.toList then (if bt240.2 = true then (laws_FnDrillsTurnOfAll.j3 k x2 x3 x4 x5 x6 x7 x8 x23 bt240.1 ((bt240.1.size : Int) != (x0.size : Int))) else (laws_FnDrillsTurnOfAll.j3 k x2 x3 x4 x5 x6 x7 x8 x23 bt240.1 true)) else (laws_FnDrillsTurnOfAll.j3 k x2 x3 x4 x5 x6 x7 x8 x23 bt240.1 true)) else (laws_FnDrillsTurnOfAll.j3 k x2 x3 x4 x5 x6 x7 x8 x23 bt240.1 true)) else (laws_FnDrillsTurnOfAll.j3 k x2 x3 x4 x5 x6 x7 x8 x23 bt240.1 true)) else (laws_FnDrillsTurnOfAll.j3 k x2 x3 x4 x5 x6 x7 x8 x23 bt240.1 true))))) else (laws_FnDrillsTurnOfAll.j4 k x2 x3 x4 x5 x6 x7 x8)
def laws_FnDrillsTurnOfAll.j4 : Nat → Int → Int → ByteArray → ByteArray → ByteArray → Int → ByteArray → Option (Bool)
  | 0, _, _, _, _, _, _, _ => none
  | k + 1, x2, x3, x4, x5, x6, x7, x8 => (impl_CountCommandWords.f k x2 x3).bind fun bt243 => ((spec_CountCommandWords.f k x2 x3).bind fun bt245 => ((impl_CommandsBetween.f k x4 x5).bind fun bt247 => ((spec_CommandsBetween.f k x4 x5).bind fun bt249 => ((impl_BestCommand.f k x6 x7).bind fun bt251 => ((spec_BestCommand.f k x6 x7).bind fun bt254 => ((impl_MostFaced.f k x8).bind fun bt257 => ((spec_MostFaced.f k x8).bind fun bt260 => (if (bt243.2 != bt245.2) = true then (laws_FnDrillsTurnOfAll.j5 k x2 x6 x8 bt243.2 bt251.1 bt251.2.1 bt251.2.2 bt257.1 bt257.2.1 bt257.2.2 true) else (if bt243.1 = bt245.1 then (if (bt247.2 != bt249.2) = true then (laws_FnDrillsTurnOfAll.j5 k x2 x6 x8 bt243.2 bt251.1 bt251.2.1 bt251.2.2 bt257.1 bt257.2.1 bt257.2.2 true) else (if bt247.1.toList = bt249.1.toList then (if (bt251.2.2 != bt254.2.2) = true then (laws_FnDrillsTurnOfAll.j5 k x2 x6 x8 bt243.2 bt251.1 bt251.2.1 bt251.2.2 bt257.1 bt257.2.1 bt257.2.2 true) else (if bt251.1.toList = bt254.1.toList then (if bt251.2.1 = bt254.2.1 then (if (bt257.2.2 != bt260.2.2) = true then (laws_FnDrillsTurnOfAll.j5 k x2 x6 x8 bt243.2 bt251.1 bt251.2.1 bt251.2.2 bt257.1 bt257.2.1 bt257.2.2 true) else (if bt257.1 = bt260.1 then (laws_FnDrillsTurnOfAll.j5 k x2 x6 x8 bt243.2 bt251.1 bt251.2.1 bt251.2.2 bt257.1 bt257.2.1 bt257.2.2 (bt257.2.1 != bt260.2.1)) else (laws_FnDrillsTurnOfAll.j5 k x2 x6 x8 bt243.2 bt251.1 bt251.2.1 bt251.2.2 bt257.1 bt257.2.1 bt257.2.2 true))) else (laws_FnDrillsTurnOfAll.j5 k x2 x6 x8 bt243.2 bt251.1 bt251.2.1 bt251.2.2 bt257.1 bt257.2.1 bt257.2.2 true)) else (laws_FnDrillsTurnOfAll.j5 k x2 x6 x8 bt243.2 bt251.1 bt251.2.1 bt251.2.2 bt257.1 bt257.2.1 bt257.2.2 true))) else (laws_FnDrillsTurnOfAll.j5 k x2 x6 x8 bt243.2 bt251.1 bt251.2.1 bt251.2.2 bt257.1 bt257.2.1 bt257.2.2 true))) else (laws_FnDrillsTurnOfAll.j5 k x2 x6 x8 bt243.2 bt251.1 bt251.2.1 bt251.2.2 bt257.1 bt257.2.1 bt257.2.2 true))))))))))
def laws_FnDrillsTurnOfAll.j5 : Nat → Int → ByteArray → ByteArray → Bool → ByteArray → Int → Bool → Int → Int → Bool → Bool → Option (Bool)
  | 0, _, _, _, _, _, _, _, _, _, _, _ => none
  | k + 1, x2, x6, x8, x63, x70, x71, x72, x76, x77, x78, x558 => if x558 = true then (some false) else (if x63 = true then (laws_FnDrillsTurnOfAll.l0 k x2 x6 x8 x70 x71 x72 x76 x77 x78 0 1 0) else (laws_FnDrillsTurnOfAll.j8 k x6 x8 x70 x71 x72 x76 x77 x78))
def laws_FnDrillsTurnOfAll.j8 : Nat → ByteArray → ByteArray → ByteArray → Int → Bool → Int → Int → Bool → Option (Bool)
  | 0, _, _, _, _, _, _, _, _ => none
  | k + 1, x6, x8, x70, x71, x72, x76, x77, x78 => if x72 = true then ((impl_MostFaced.f k x6).bind fun bt265 => (if bt265.2.2 = true then (if bt265.2.1 = x71 then (if (x70.size : Int) = 1 then (if x78 = true then (if (wrap64 (4 * x77)) ≥ (x8.size : Int) then (if x76 ≥ 0 then (some (decide (x76 < 4))) else (some false)) else (some false)) else (some true)) else (some false)) else (some false)) else (some false))) else (if x78 = true then (if (wrap64 (4 * x77)) ≥ (x8.size : Int) then (if x76 ≥ 0 then (some (decide (x76 < 4))) else (some false)) else (some false)) else (some true))
def laws_FnDrillsTurnOfAll.l0 : Nat → Int → ByteArray → ByteArray → ByteArray → Int → Bool → Int → Int → Bool → Int → Int → Int → Option (Bool)
  | 0, _, _, _, _, _, _, _, _, _, _, _, _ => none
  | k + 1, x2, x6, x8, x70, x71, x72, x76, x77, x78, x82, x83, x84 => if x84 < x2 then (laws_FnDrillsTurnOfAll.l0 k x2 x6 x8 x70 x71 x72 x76 x77 x78 x82 (wrap64 (x83 * 4)) (wrap64 (x84 + 1))) else (laws_FnDrillsTurnOfAll.l1 k x2 x6 x8 x70 x71 x72 x76 x77 x78 x82 x83 0)
def laws_FnDrillsTurnOfAll.l1 : Nat → Int → ByteArray → ByteArray → ByteArray → Int → Bool → Int → Int → Bool → Int → Int → Int → Option (Bool)
  | 0, _, _, _, _, _, _, _, _, _, _, _, _ => none
  | k + 1, x2, x6, x8, x70, x71, x72, x76, x77, x78, x82, x83, x85 => if x85 < 4 then ((impl_CountCommandWords.f k x2 x85).bind fun bt263 => (if bt263.2 = true then (laws_FnDrillsTurnOfAll.l1 k x2 x6 x8 x70 x71 x72 x76 x77 x78 (wrap64 (x82 + bt263.1)) x83 (wrap64 (x85 + 1))) else (some false))) else (if x82 = x83 then (laws_FnDrillsTurnOfAll.j8 k x6 x8 x70 x71 x72 x76 x77 x78) else (some false))
def laws_FnDrillsTurnOfAll.j3 : Nat → Int → Int → ByteArray → ByteArray → ByteArray → Int → ByteArray → Int → ByteArray → Bool → Option (Bool)
  | 0, _, _, _, _, _, _, _, _, _, _ => none
  | k + 1, x2, x3, x4, x5, x6, x7, x8, x23, x57, x439 => if x439 = true then (some false) else ((laws_turnLoop.f k x57 x23).bind fun t242 => (if t242 = true then (laws_FnDrillsTurnOfAll.j4 k x2 x3 x4 x5 x6 x7 x8) else (some false)))
end
def laws_FnDrillsTurnOfAll.f (k : Nat) (a0 : ByteArray) (a1 : ByteArray) (a2 : Int) (a3 : Int) (a4 : ByteArray) (a5 : ByteArray) (a6 : ByteArray) (a7 : Int) (a8 : ByteArray) : Option (Bool) := if (a0.size : Int) > 1048576 then (laws_FnDrillsTurnOfAll.j0 k a0 a1 a2 a3 a4 a5 a6 a7 a8 true) else (if (a1.size : Int) > 1048576 then (laws_FnDrillsTurnOfAll.j0 k a0 a1 a2 a3 a4 a5 a6 a7 a8 true) else (if (a4.size : Int) > 1048576 then (laws_FnDrillsTurnOfAll.j0 k a0 a1 a2 a3 a4 a5 a6 a7 a8 true) else (if (a5.size : Int) > 1048576 then (laws_FnDrillsTurnOfAll.j0 k a0 a1 a2 a3 a4 a5 a6 a7 a8 true) else (if (a6.size : Int) > 1048576 then (laws_FnDrillsTurnOfAll.j0 k a0 a1 a2 a3 a4 a5 a6 a7 a8 true) else (laws_FnDrillsTurnOfAll.j0 k a0 a1 a2 a3 a4 a5 a6 a7 a8 (decide ((a8.size : Int) > 1048576)))))))
theorem laws_FnDrillsTurnOfAll.mono_l : ∀ k, (∀ y0 y1 y2 y3 y4 y5 y6 y7 y8 y9, LeO (laws_FnDrillsTurnOfAll.j0 k y0 y1 y2 y3 y4 y5 y6 y7 y8 y9) (laws_FnDrillsTurnOfAll.j0 (k + 1) y0 y1 y2 y3 y4 y5 y6 y7 y8 y9)) ∧ (∀ y0 y1 y2 y3 y4 y5 y6 y7 y8 y9 y10 y11 y12 y13 y14 y15 y16 y17, LeO (laws_FnDrillsTurnOfAll.j1 k y0 y1 y2 y3 y4 y5 y6 y7 y8 y9 y10 y11 y12 y13 y14 y15 y16 y17) (laws_FnDrillsTurnOfAll.j1 (k + 1) y0 y1 y2 y3 y4 y5 y6 y7 y8 y9 y10 y11 y12 y13 y14 y15 y16 y17)) ∧ (∀ y0 y1 y2 y3 y4 y5 y6 y7 y8 y9 y10 y11 y12, LeO (laws_FnDrillsTurnOfAll.j2 k y0 y1 y2 y3 y4 y5 y6 y7 y8 y9 y10 y11 y12) (laws_FnDrillsTurnOfAll.j2 (k + 1) y0 y1 y2 y3 y4 y5 y6 y7 y8 y9 y10 y11 y12)) ∧ (∀ y0 y1 y2 y3 y4 y5 y6, LeO (laws_FnDrillsTurnOfAll.j4 k y0 y1 y2 y3 y4 y5 y6) (laws_FnDrillsTurnOfAll.j4 (k + 1) y0 y1 y2 y3 y4 y5 y6)) ∧ (∀ y0 y1 y2 y3 y4 y5 y6 y7 y8 y9 y10, LeO (laws_FnDrillsTurnOfAll.j5 k y0 y1 y2 y3 y4 y5 y6 y7 y8 y9 y10) (laws_FnDrillsTurnOfAll.j5 (k + 1) y0 y1 y2 y3 y4 y5 y6 y7 y8 y9 y10)) ∧ (∀ y0 y1 y2 y3 y4 y5 y6 y7, LeO (laws_FnDrillsTurnOfAll.j8 k y0 y1 y2 y3 y4 y5 y6 y7) (laws_FnDrillsTurnOfAll.j8 (k + 1) y0 y1 y2 y3 y4 y5 y6 y7)) ∧ (∀ y0 y1 y2 y3 y4 y5 y6 y7 y8 y9 y10 y11, LeO (laws_FnDrillsTurnOfAll.l0 k y0 y1 y2 y3 y4 y5 y6 y7 y8 y9 y10 y11) (laws_FnDrillsTurnOfAll.l0 (k + 1) y0 y1 y2 y3 y4 y5 y6 y7 y8 y9 y10 y11)) ∧ (∀ y0 y1 y2 y3 y4 y5 y6 y7 y8 y9 y10 y11, LeO (laws_FnDrillsTurnOfAll.l1 k y0 y1 y2 y3 y4 y5 y6 y7 y8 y9 y10 y11) (laws_FnDrillsTurnOfAll.l1 (k + 1) y0 y1 y2 y3 y4 y5 y6 y7 y8 y9 y10 y11)) ∧ (∀ y0 y1 y2 y3 y4 y5 y6 y7 y8 y9, LeO (laws_FnDrillsTurnOfAll.j3 k y0 y1 y2 y3 y4 y5 y6 y7 y8 y9) (laws_FnDrillsTurnOfAll.j3 (k + 1) y0 y1 y2 y3 y4 y5 y6 y7 y8 y9))
  | 0 => ⟨fun _ _ _ _ _ _ _ _ _ _ r h => by simp [laws_FnDrillsTurnOfAll.j0] at h, fun _ _ _ _ _ _ _ _ _ _ _ _ _ _ _ _ _ _ r h => by simp [laws_FnDrillsTurnOfAll.j1] at h, fun _ _ _ _ _ _ _ _ _ _ _ _ _ r h => by simp [laws_FnDrillsTurnOfAll.j2] at h, fun _ _ _ _ _ _ _ r h => by simp [laws_FnDrillsTurnOfAll.j4] at h, fun _ _ _ _ _ _ _ _ _ _ _ r h => by simp [laws_FnDrillsTurnOfAll.j5] at h, fun _ _ _ _ _ _ _ _ r h => by simp [laws_FnDrillsTurnOfAll.j8] at h, fun _ _ _ _ _ _ _ _ _ _ _ _ r h => by simp [laws_FnDrillsTurnOfAll.l0] at h, fun _ _ _ _ _ _ _ _ _ _ _ _ r h => by simp [laws_FnDrillsTurnOfAll.l1] at h, fun _ _ _ _ _ _ _ _ _ _ r h => by simp [laws_FnDrillsTurnOfAll.j3] at h⟩
  | k + 1 => by
    obtain ⟨ih0, ih1, ih2, ih3, ih4, ih5, ih6, ih7, ih8⟩ := laws_FnDrillsTurnOfAll.mono_l k
    refine ⟨?_, ?_, ?_, ?_, ?_, ?_, ?_, ?_, ?_⟩
    all_goals intros
    all_goals first
      | unfold laws_FnDrillsTurnOfAll.j0
      | unfold laws_FnDrillsTurnOfAll.j1
      | unfold laws_FnDrillsTurnOfAll.j2
      | unfold laws_FnDrillsTurnOfAll.j4
      | unfold laws_FnDrillsTurnOfAll.j5
      | unfold laws_FnDrillsTurnOfAll.j8
      | unfold laws_FnDrillsTurnOfAll.l0
      | unfold laws_FnDrillsTurnOfAll.l1
      | unfold laws_FnDrillsTurnOfAll.j3
    all_goals
      repeat' first
      | (with_reducible exact ih0 _ _ _ _ _ _ _ _ _ _)
      | (with_reducible exact ih1 _ _ _ _ _ _ _ _ _ _ _ _ _ _ _ _ _ _)
      | (with_reducible exact ih2 _ _ _ _ _ _ _ _ _ _ _ _ _)
      | (with_reducible exact ih3 _ _ _ _ _ _ _)
      | (with_reducible exact ih4 _ _ _ _ _ _ _ _ _ _ _)
      | (with_reducible exact ih5 _ _ _ _ _ _ _ _)
      | (with_reducible exact ih6 _ _ _ _ _ _ _ _ _ _ _ _)
      | (with_reducible exact ih7 _ _ _ _ _ _ _ _ _ _ _ _)
      | (with_reducible exact ih8 _ _ _ _ _ _ _ _ _ _)
      | (with_reducible exact impl_BestCommand.mono _ _ _)
      | (with_reducible exact impl_CommandsBetween.mono _ _ _)
      | (with_reducible exact impl_CountCommandWords.mono _ _ _)
      | (with_reducible exact impl_FacingAfter.mono _ _ _)
      | (with_reducible exact impl_MostFaced.mono _ _)
      | (with_reducible exact impl_NetTurn.mono _ _)
      | (with_reducible exact impl_RepeatsToFront.mono _ _)
      | (with_reducible exact impl_ShortCommands.mono _ _)
      | (with_reducible exact laws_turnLoop.mono _ _ _)
      | (with_reducible exact spec_AreCommands.mono _ _)
      | (with_reducible exact spec_AreFacing.mono _ _)
      | (with_reducible exact spec_BackCommands.mono _ _)
      | (with_reducible exact spec_BestCommand.mono _ _ _)
      | (with_reducible exact spec_CommandsBetween.mono _ _ _)
      | (with_reducible exact spec_CountCommandWords.mono _ _ _)
      | (with_reducible exact spec_FacingAfter.mono _ _ _)
      | (with_reducible exact spec_MirrorCommands.mono _ _)
      | (with_reducible exact spec_MostFaced.mono _ _)
      | (with_reducible exact spec_NetTurn.mono _ _)
      | (with_reducible exact spec_RepeatsToFront.mono _ _)
      | (with_reducible exact spec_ShortCommands.mono _ _)
      | (with_reducible exact LeO.refl _)
      | (with_reducible exact LeO.none _)
      | (with_reducible refine LeO.ite ?_ ?_)
      | (with_reducible refine LeO.bind ?_ (fun _ => ?_))
      | exact ih0 _ _ _ _ _ _ _ _ _ _
      | exact ih1 _ _ _ _ _ _ _ _ _ _ _ _ _ _ _ _ _ _
      | exact ih2 _ _ _ _ _ _ _ _ _ _ _ _ _
      | exact ih3 _ _ _ _ _ _ _
      | exact ih4 _ _ _ _ _ _ _ _ _ _ _
      | exact ih5 _ _ _ _ _ _ _ _
      | exact ih6 _ _ _ _ _ _ _ _ _ _ _ _
      | exact ih7 _ _ _ _ _ _ _ _ _ _ _ _
      | exact ih8 _ _ _ _ _ _ _ _ _ _
      | exact impl_BestCommand.mono _ _ _
      | exact impl_CommandsBetween.mono _ _ _
      | exact impl_CountCommandWords.mono _ _ _
      | exact impl_FacingAfter.mono _ _ _
      | exact impl_MostFaced.mono _ _
      | exact impl_NetTurn.mono _ _
      | exact impl_RepeatsToFront.mono _ _
      | exact impl_ShortCommands.mono _ _
      | exact laws_turnLoop.mono _ _ _
      | exact spec_AreCommands.mono _ _
      | exact spec_AreFacing.mono _ _
      | exact spec_BackCommands.mono _ _
      | exact spec_BestCommand.mono _ _ _
      | exact spec_CommandsBetween.mono _ _ _
      | exact spec_CountCommandWords.mono _ _ _
      | exact spec_FacingAfter.mono _ _ _
      | exact spec_MirrorCommands.mono _ _
      | exact spec_MostFaced.mono _ _
      | exact spec_NetTurn.mono _ _
      | exact spec_RepeatsToFront.mono _ _
      | exact spec_ShortCommands.mono _ _
      | exact LeO.none _
      | refine LeO.ite ?_ ?_
      | refine LeO.bind ?_ (fun _ => ?_)
theorem laws_FnDrillsTurnOfAll.mono : ∀ a0 a1 a2 a3 a4 a5 a6 a7 a8 k, LeO (laws_FnDrillsTurnOfAll.f k a0 a1 a2 a3 a4 a5 a6 a7 a8) (laws_FnDrillsTurnOfAll.f (k + 1) a0 a1 a2 a3 a4 a5 a6 a7 a8) := by
  intro a0 a1 a2 a3 a4 a5 a6 a7 a8 k
  obtain ⟨ih0, ih1, ih2, ih3, ih4, ih5, ih6, ih7, ih8⟩ := laws_FnDrillsTurnOfAll.mono_l k
  unfold laws_FnDrillsTurnOfAll.f
  repeat' first
      | (with_reducible exact ih0 _ _ _ _ _ _ _ _ _ _)
      | (with_reducible exact ih1 _ _ _ _ _ _ _ _ _ _ _ _ _ _ _ _ _ _)
      | (with_reducible exact ih2 _ _ _ _ _ _ _ _ _ _ _ _ _)
      | (with_reducible exact ih3 _ _ _ _ _ _ _)
      | (with_reducible exact ih4 _ _ _ _ _ _ _ _ _ _ _)
      | (with_reducible exact ih5 _ _ _ _ _ _ _ _)
      | (with_reducible exact ih6 _ _ _ _ _ _ _ _ _ _ _ _)
      | (with_reducible exact ih7 _ _ _ _ _ _ _ _ _ _ _ _)
      | (with_reducible exact ih8 _ _ _ _ _ _ _ _ _ _)
      | (with_reducible exact impl_BestCommand.mono _ _ _)
      | (with_reducible exact impl_CommandsBetween.mono _ _ _)
      | (with_reducible exact impl_CountCommandWords.mono _ _ _)
      | (with_reducible exact impl_FacingAfter.mono _ _ _)
      | (with_reducible exact impl_MostFaced.mono _ _)
      | (with_reducible exact impl_NetTurn.mono _ _)
      | (with_reducible exact impl_RepeatsToFront.mono _ _)
      | (with_reducible exact impl_ShortCommands.mono _ _)
      | (with_reducible exact laws_turnLoop.mono _ _ _)
      | (with_reducible exact spec_AreCommands.mono _ _)
      | (with_reducible exact spec_AreFacing.mono _ _)
      | (with_reducible exact spec_BackCommands.mono _ _)
      | (with_reducible exact spec_BestCommand.mono _ _ _)
      | (with_reducible exact spec_CommandsBetween.mono _ _ _)
      | (with_reducible exact spec_CountCommandWords.mono _ _ _)
      | (with_reducible exact spec_FacingAfter.mono _ _ _)
      | (with_reducible exact spec_MirrorCommands.mono _ _)
      | (with_reducible exact spec_MostFaced.mono _ _)
      | (with_reducible exact spec_NetTurn.mono _ _)
      | (with_reducible exact spec_RepeatsToFront.mono _ _)
      | (with_reducible exact spec_ShortCommands.mono _ _)
      | (with_reducible exact LeO.refl _)
      | (with_reducible exact LeO.none _)
      | (with_reducible refine LeO.ite ?_ ?_)
      | (with_reducible refine LeO.bind ?_ (fun _ => ?_))
      | exact ih0 _ _ _ _ _ _ _ _ _ _
      | exact ih1 _ _ _ _ _ _ _ _ _ _ _ _ _ _ _ _ _ _
      | exact ih2 _ _ _ _ _ _ _ _ _ _ _ _ _
      | exact ih3 _ _ _ _ _ _ _
      | exact ih4 _ _ _ _ _ _ _ _ _ _ _
      | exact ih5 _ _ _ _ _ _ _ _
      | exact ih6 _ _ _ _ _ _ _ _ _ _ _ _
      | exact ih7 _ _ _ _ _ _ _ _ _ _ _ _
      | exact ih8 _ _ _ _ _ _ _ _ _ _
      | exact impl_BestCommand.mono _ _ _
      | exact impl_CommandsBetween.mono _ _ _
      | exact impl_CountCommandWords.mono _ _ _
      | exact impl_FacingAfter.mono _ _ _
      | exact impl_MostFaced.mono _ _
      | exact impl_NetTurn.mono _ _
      | exact impl_RepeatsToFront.mono _ _
      | exact impl_ShortCommands.mono _ _
      | exact laws_turnLoop.mono _ _ _
      | exact spec_AreCommands.mono _ _
      | exact spec_AreFacing.mono _ _
      | exact spec_BackCommands.mono _ _
      | exact spec_BestCommand.mono _ _ _
      | exact spec_CommandsBetween.mono _ _ _
      | exact spec_CountCommandWords.mono _ _ _
      | exact spec_FacingAfter.mono _ _ _
      | exact spec_MirrorCommands.mono _ _
      | exact spec_MostFaced.mono _ _
      | exact spec_NetTurn.mono _ _
      | exact spec_RepeatsToFront.mono _ _
      | exact spec_ShortCommands.mono _ _
      | exact LeO.none _
      | refine LeO.ite ?_ ?_
      | refine LeO.bind ?_ (fun _ => ?_)
theorem laws_FnDrillsTurnOfAll.j1_no : ∀ (k : Nat) (x0 : ByteArray) (x1 : ByteArray) (x2 : Int) (x3 : Int) (x4 : ByteArray) (x5 : ByteArray) (x6 : ByteArray) (x7 : Int) (x8 : ByteArray) (x19 : ByteArray) (x20 : Bool) (x23 : Int) (x24 : Bool) (x27 : ByteArray) (x31 : ByteArray) (x35 : ByteArray) (x39 : Int), laws_FnDrillsTurnOfAll.j1 k x0 x1 x2 x3 x4 x5 x6 x7 x8 x19 x20 x23 x24 x27 x31 x35 x39 true = some true → False := by
  intro k x0 x1 x2 x3 x4 x5 x6 x7 x8 x19 x20 x23 x24 x27 x31 x35 x39
  cases k <;> simp [laws_FnDrillsTurnOfAll.j1]
theorem laws_FnDrillsTurnOfAll.j5_no : ∀ (k : Nat) (x2 : Int) (x6 : ByteArray) (x8 : ByteArray) (x63 : Bool) (x70 : ByteArray) (x71 : Int) (x72 : Bool) (x76 : Int) (x77 : Int) (x78 : Bool), laws_FnDrillsTurnOfAll.j5 k x2 x6 x8 x63 x70 x71 x72 x76 x77 x78 true = some true → False := by
  intro k x2 x6 x8 x63 x70 x71 x72 x76 x77 x78
  cases k <;> simp [laws_FnDrillsTurnOfAll.j5]
theorem laws_FnDrillsTurnOfAll.j3_no : ∀ (k : Nat) (x2 : Int) (x3 : Int) (x4 : ByteArray) (x5 : ByteArray) (x6 : ByteArray) (x7 : Int) (x8 : ByteArray) (x23 : Int) (x57 : ByteArray), laws_FnDrillsTurnOfAll.j3 k x2 x3 x4 x5 x6 x7 x8 x23 x57 true = some true → False := by
  intro k x2 x3 x4 x5 x6 x7 x8 x23 x57
  cases k <;> simp [laws_FnDrillsTurnOfAll.j3]
end Go.Proofs.YtgdmbhldabeelaaRGreatDoor.PFnDrillsTurnOfAll
