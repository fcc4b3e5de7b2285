-- Written by a program of this session's (pg.py) over the kit's print.
import Derived.Test.YtgdmbhldabeelaaRDoorPFnDrillsMistakenx0
import Derived.Test.YtgdmbhldabeelaaRDoorPFnDrillsMistakenx1
import Derived.Test.YtgdmbhldabeelaaRDoorPFnDrillsMistakenx3
import Derived.Test.YtgdmbhldabeelaaRDoorPFnDrillsMistakenx4
import Derived.Test.YtgdmbhldabeelaaRDoorPFnDrillsMistakenx8
namespace Go.Proofs.YtgdmbhldabeelaaRDoor.PFnDrillsMistaken
open Go.RowKit Go.Proofs.YtgdmbhldabeelaaRDoorW.PrintWords Go.Proofs.YtgdmbhldabeelaaRDoorW.PrintLast Go.Proofs.YtgdmbhldabeelaaRDoorW.PrintMore
attribute [local go_sem] max2_int min2_int max_two min_two max_three min_three max_four min_four   -- for this text's walks alone
set_option linter.unusedVariables false
set_option linter.unusedSimpArgs false

/-! ### spec_WaysToFace: function 17 -/
mutual
def spec_WaysToFace.j0 : Nat → ByteArray → Int → Int → Bool → Option (Int × Bool)
  | 0, _, _, _, _ => none
  | k + 1, x0, x1, x2, x29 => if x29 = true then (some (0, false)) else (if 0 ≤ (wrap64 (4 * (wrap64 ((x0.size : Int) + 2)))) then (if (wrap64 (4 * (wrap64 ((x0.size : Int) + 2))) : Int).toNat ≤ 35184372088832 then ((some (List.replicate (wrap64 (4 * (wrap64 ((x0.size : Int) + 2))) : Int).toNat 0 : List Int)).bind fun y214 => (if 0 < (y214.length : Int) then (spec_WaysToFace.l0 k x0 x1 x2 (y214.set (0 : Int).toNat 1) 0) else (none))) else (none)) else (none))
def spec_WaysToFace.l0 : Nat → ByteArray → Int → Int → List Int → Int → Option (Int × Bool)
  | 0, _, _, _, _, _ => none
  | k + 1, x0, x1, x2, x8, x9 => if x9 < (x0.size : Int) then (if 0 ≤ (x8.length : Int) then (if ((x8.length : Int) : Int).toNat ≤ 35184372088832 then (spec_WaysToFace.l1 k x0 x1 x2 x9 (List.replicate ((x8.length : Int) : Int).toNat 0) x8 (x8.length : Int) 0) else (none)) else (none)) else (if x1 > (x0.size : Int) then (some (0, true)) else (if 0 ≤ (wrap64 ((wrap64 (4 * x1)) + x2)) then (if (wrap64 ((wrap64 (4 * x1)) + x2)) < (x8.length : Int) then (if (rd x8 (wrap64 ((wrap64 (4 * x1)) + x2))) > 1000000000000000 then (some (0, false)) else (some (rd x8 (wrap64 ((wrap64 (4 * x1)) + x2)), true))) else (none)) else (none)))
def spec_WaysToFace.l1 : Nat → ByteArray → Int → Int → Int → List Int → List Int → Int → Int → Option (Int × Bool)
  | 0, _, _, _, _, _, _, _, _ => none
  | k + 1, x0, x1, x2, x9, x10, x46, x47, x48 => if x48 < x47 then (if 0 ≤ x48 then (if x48 < (x46.length : Int) then (spec_WaysToFace.l2 k x0 x1 x2 x9 x10 x48 (rd x46 x48) 0 x46 x47 x48) else (none)) else (none)) else (spec_WaysToFace.l0 k x0 x1 x2 x10 (wrap64 (x9 + 1)))
def spec_WaysToFace.l2 : Nat → ByteArray → Int → Int → Int → List Int → Int → Int → Int → List Int → Int → Int → Option (Int × Bool)
  | 0, _, _, _, _, _, _, _, _, _, _, _ => none
  | k + 1, x0, x1, x2, x9, x10, x11, x12, x13, x46, x47, x48 => if x13 < 4 then (spec_WaysToFace.j4 k x0 x1 x2 x9 x10 x11 x12 x13 x46 x47 x48 (decide (x12 > 0))) else (spec_WaysToFace.j4 k x0 x1 x2 x9 x10 x11 x12 x13 x46 x47 x48 false)
def spec_WaysToFace.j4 : Nat → ByteArray → Int → Int → Int → List Int → Int → Int → Int → List Int → Int → Int → Bool → Option (Int × Bool)
  | 0, _, _, _, _, _, _, _, _, _, _, _, _ => none
  | k + 1, x0, x1, x2, x9, x10, x11, x12, x13, x46, x47, x48, x58 => if x58 = true then (if 0 ≤ x9 then (if x9 < (x0.size : Int) then ((spec_drTurn.f (bt x0 x9)).bind fun t222 => (if x13 = t222 then (if 0 ≤ (wrap64 ((wrap64 (4 * (wrap64 (Int.tdiv x11 4)))) + (Int.tmod (wrap64 (x11 + x13)) 4))) then (if (wrap64 ((wrap64 (4 * (wrap64 (Int.tdiv x11 4)))) + (Int.tmod (wrap64 (x11 + x13)) 4))) < (x10.length : Int) then ((spec_l1Least.f (wrap64 ((rd x10 (wrap64 ((wrap64 (4 * (wrap64 (Int.tdiv x11 4)))) + (Int.tmod (wrap64 (x11 + x13)) 4)))) + x12)) 1000000000000001).bind fun t224 => (spec_WaysToFace.l2 k x0 x1 x2 x9 (x10.set ((wrap64 ((wrap64 (4 * (wrap64 (Int.tdiv x11 4)))) + (Int.tmod (wrap64 (x11 + x13)) 4))) : Int).toNat t224) x11 x12 (wrap64 (x13 + 1)) x46 x47 x48)) else (none)) else (none)) else (if 0 ≤ (wrap64 ((wrap64 (4 * (wrap64 ((wrap64 (Int.tdiv x11 4)) + 1)))) + (Int.tmod (wrap64 (x11 + x13)) 4))) then (if (wrap64 ((wrap64 (4 * (wrap64 ((wrap64 (Int.tdiv x11 4)) + 1)))) + (Int.tmod (wrap64 (x11 + x13)) 4))) < (x10.length : Int) then ((spec_l1Least.f (wrap64 ((rd x10 (wrap64 ((wrap64 (4 * (wrap64 ((wrap64 (Int.tdiv x11 4)) + 1)))) + (Int.tmod (wrap64 (x11 + x13)) 4)))) + x12)) 1000000000000001).bind fun t227 => (spec_WaysToFace.l2 k x0 x1 x2 x9 (x10.set ((wrap64 ((wrap64 (4 * (wrap64 ((wrap64 (Int.tdiv x11 4)) + 1)))) + (Int.tmod (wrap64 (x11 + x13)) 4))) : Int).toNat t227) x11 x12 (wrap64 (x13 + 1)) x46 x47 x48)) else (none)) else (none)))) else (none)) else (none)) else (spec_WaysToFace.l1 k x0 x1 x2 x9 x10 x46 x47 (wrap64 (x48 + 1)))
end
def spec_WaysToFace.f (k : Nat) (a0 : ByteArray) (a1 : Int) (a2 : Int) : Option (Int × Bool) := (spec_drWord.f k a0).bind fun t211 => (if t211 = true then ((spec_l1In.f a1 0 60).bind fun t212 => (if t212 = true then ((spec_l1In.f a2 0 3).bind fun t213 => (spec_WaysToFace.j0 k a0 a1 a2 (!t213))) else (spec_WaysToFace.j0 k a0 a1 a2 true))) else (spec_WaysToFace.j0 k a0 a1 a2 true))
theorem spec_WaysToFace.mono_l : ∀ k, (∀ y0 y1 y2 y3, LeO (spec_WaysToFace.j0 k y0 y1 y2 y3) (spec_WaysToFace.j0 (k + 1) y0 y1 y2 y3)) ∧ (∀ y0 y1 y2 y3 y4, LeO (spec_WaysToFace.l0 k y0 y1 y2 y3 y4) (spec_WaysToFace.l0 (k + 1) y0 y1 y2 y3 y4)) ∧ (∀ y0 y1 y2 y3 y4 y5 y6 y7, LeO (spec_WaysToFace.l1 k y0 y1 y2 y3 y4 y5 y6 y7) (spec_WaysToFace.l1 (k + 1) y0 y1 y2 y3 y4 y5 y6 y7)) ∧ (∀ y0 y1 y2 y3 y4 y5 y6 y7 y8 y9 y10, LeO (spec_WaysToFace.l2 k y0 y1 y2 y3 y4 y5 y6 y7 y8 y9 y10) (spec_WaysToFace.l2 (k + 1) y0 y1 y2 y3 y4 y5 y6 y7 y8 y9 y10)) ∧ (∀ y0 y1 y2 y3 y4 y5 y6 y7 y8 y9 y10 y11, LeO (spec_WaysToFace.j4 k y0 y1 y2 y3 y4 y5 y6 y7 y8 y9 y10 y11) (spec_WaysToFace.j4 (k + 1) y0 y1 y2 y3 y4 y5 y6 y7 y8 y9 y10 y11))
  | 0 => ⟨fun _ _ _ _ r h => by simp [spec_WaysToFace.j0] at h, fun _ _ _ _ _ r h => by simp [spec_WaysToFace.l0] at h, fun _ _ _ _ _ _ _ _ r h => by simp [spec_WaysToFace.l1] at h, fun _ _ _ _ _ _ _ _ _ _ _ r h => by simp [spec_WaysToFace.l2] at h, fun _ _ _ _ _ _ _ _ _ _ _ _ r h => by simp [spec_WaysToFace.j4] at h⟩
  | k + 1 => by
    obtain ⟨ih0, ih1, ih2, ih3, ih4⟩ := spec_WaysToFace.mono_l k
    refine ⟨?_, ?_, ?_, ?_, ?_⟩
    · intro y0 y1 y2 y3
      unfold spec_WaysToFace.j0
      repeat' first
      | (with_reducible exact ih0 _ _ _ _)
      | (with_reducible exact ih1 _ _ _ _ _)
      | (with_reducible exact ih2 _ _ _ _ _ _ _ _)
      | (with_reducible exact ih3 _ _ _ _ _ _ _ _ _ _ _)
      | (with_reducible exact ih4 _ _ _ _ _ _ _ _ _ _ _ _)
      | (with_reducible exact spec_drWord.mono _ _)
      | (with_reducible exact LeO.refl _)
      | (with_reducible exact LeO.none _)
      | (with_reducible refine LeO.ite ?_ ?_)
      | (with_reducible refine LeO.bind ?_ (fun _ => ?_))
      | exact ih0 _ _ _ _
      | exact ih1 _ _ _ _ _
      | exact ih2 _ _ _ _ _ _ _ _
      | exact ih3 _ _ _ _ _ _ _ _ _ _ _
      | exact ih4 _ _ _ _ _ _ _ _ _ _ _ _
      | exact spec_drWord.mono _ _
      | exact LeO.none _
      | refine LeO.ite ?_ ?_
      | refine LeO.bind ?_ (fun _ => ?_)
    · intro y0 y1 y2 y3 y4
      unfold spec_WaysToFace.l0
      repeat' first
      | (with_reducible exact ih0 _ _ _ _)
      | (with_reducible exact ih1 _ _ _ _ _)
      | (with_reducible exact ih2 _ _ _ _ _ _ _ _)
      | (with_reducible exact ih3 _ _ _ _ _ _ _ _ _ _ _)
      | (with_reducible exact ih4 _ _ _ _ _ _ _ _ _ _ _ _)
      | (with_reducible exact spec_drWord.mono _ _)
      | (with_reducible exact LeO.refl _)
      | (with_reducible exact LeO.none _)
      | (with_reducible refine LeO.ite ?_ ?_)
      | (with_reducible refine LeO.bind ?_ (fun _ => ?_))
      | exact ih0 _ _ _ _
      | exact ih1 _ _ _ _ _
      | exact ih2 _ _ _ _ _ _ _ _
      | exact ih3 _ _ _ _ _ _ _ _ _ _ _
      | exact ih4 _ _ _ _ _ _ _ _ _ _ _ _
      | exact spec_drWord.mono _ _
      | exact LeO.none _
      | refine LeO.ite ?_ ?_
      | refine LeO.bind ?_ (fun _ => ?_)
    · intro y0 y1 y2 y3 y4 y5 y6 y7
      unfold spec_WaysToFace.l1
      repeat' first
      | (with_reducible exact ih0 _ _ _ _)
      | (with_reducible exact ih1 _ _ _ _ _)
      | (with_reducible exact ih2 _ _ _ _ _ _ _ _)
      | (with_reducible exact ih3 _ _ _ _ _ _ _ _ _ _ _)
      | (with_reducible exact ih4 _ _ _ _ _ _ _ _ _ _ _ _)
      | (with_reducible exact spec_drWord.mono _ _)
      | (with_reducible exact LeO.refl _)
      | (with_reducible exact LeO.none _)
      | (with_reducible refine LeO.ite ?_ ?_)
      | (with_reducible refine LeO.bind ?_ (fun _ => ?_))
      | exact ih0 _ _ _ _
      | exact ih1 _ _ _ _ _
      | exact ih2 _ _ _ _ _ _ _ _
      | exact ih3 _ _ _ _ _ _ _ _ _ _ _
      | exact ih4 _ _ _ _ _ _ _ _ _ _ _ _
      | exact spec_drWord.mono _ _
      | exact LeO.none _
      | refine LeO.ite ?_ ?_
      | refine LeO.bind ?_ (fun _ => ?_)
    · intro y0 y1 y2 y3 y4 y5 y6 y7 y8 y9 y10
      unfold spec_WaysToFace.l2
      repeat' first
      | (with_reducible exact ih0 _ _ _ _)
      | (with_reducible exact ih1 _ _ _ _ _)
      | (with_reducible exact ih2 _ _ _ _ _ _ _ _)
      | (with_reducible exact ih3 _ _ _ _ _ _ _ _ _ _ _)
      | (with_reducible exact ih4 _ _ _ _ _ _ _ _ _ _ _ _)
      | (with_reducible exact spec_drWord.mono _ _)
      | (with_reducible exact LeO.refl _)
      | (with_reducible exact LeO.none _)
      | (with_reducible refine LeO.ite ?_ ?_)
      | (with_reducible refine LeO.bind ?_ (fun _ => ?_))
      | exact ih0 _ _ _ _
      | exact ih1 _ _ _ _ _
      | exact ih2 _ _ _ _ _ _ _ _
      | exact ih3 _ _ _ _ _ _ _ _ _ _ _
      | exact ih4 _ _ _ _ _ _ _ _ _ _ _ _
      | exact spec_drWord.mono _ _
      | exact LeO.none _
      | refine LeO.ite ?_ ?_
      | refine LeO.bind ?_ (fun _ => ?_)
    · intro y0 y1 y2 y3 y4 y5 y6 y7 y8 y9 y10 y11
      unfold spec_WaysToFace.j4
      repeat' first
      | (with_reducible exact ih0 _ _ _ _)
      | (with_reducible exact ih1 _ _ _ _ _)
      | (with_reducible exact ih2 _ _ _ _ _ _ _ _)
      | (with_reducible exact ih3 _ _ _ _ _ _ _ _ _ _ _)
      | (with_reducible exact ih4 _ _ _ _ _ _ _ _ _ _ _ _)
      | (with_reducible exact spec_drWord.mono _ _)
      | (with_reducible exact LeO.refl _)
      | (with_reducible exact LeO.none _)
      | (with_reducible refine LeO.ite ?_ ?_)
      | (with_reducible refine LeO.bind ?_ (fun _ => ?_))
      | exact ih0 _ _ _ _
      | exact ih1 _ _ _ _ _
      | exact ih2 _ _ _ _ _ _ _ _
      | exact ih3 _ _ _ _ _ _ _ _ _ _ _
      | exact ih4 _ _ _ _ _ _ _ _ _ _ _ _
      | exact spec_drWord.mono _ _
      | exact LeO.none _
      | refine LeO.ite ?_ ?_
      | refine LeO.bind ?_ (fun _ => ?_)
theorem spec_WaysToFace.mono : ∀ a0 a1 a2 k, LeO (spec_WaysToFace.f k a0 a1 a2) (spec_WaysToFace.f (k + 1) a0 a1 a2) := by
  intro a0 a1 a2 k
  obtain ⟨ih0, ih1, ih2, ih3, ih4⟩ := spec_WaysToFace.mono_l k
  unfold spec_WaysToFace.f
  repeat' first
      | (with_reducible exact ih0 _ _ _ _)
      | (with_reducible exact ih1 _ _ _ _ _)
      | (with_reducible exact ih2 _ _ _ _ _ _ _ _)
      | (with_reducible exact ih3 _ _ _ _ _ _ _ _ _ _ _)
      | (with_reducible exact ih4 _ _ _ _ _ _ _ _ _ _ _ _)
      | (with_reducible exact spec_drWord.mono _ _)
      | (with_reducible exact LeO.refl _)
      | (with_reducible exact LeO.none _)
      | (with_reducible refine LeO.ite ?_ ?_)
      | (with_reducible refine LeO.bind ?_ (fun _ => ?_))
      | exact ih0 _ _ _ _
      | exact ih1 _ _ _ _ _
      | exact ih2 _ _ _ _ _ _ _ _
      | exact ih3 _ _ _ _ _ _ _ _ _ _ _
      | exact ih4 _ _ _ _ _ _ _ _ _ _ _ _
      | exact spec_drWord.mono _ _
      | exact LeO.none _
      | refine LeO.ite ?_ ?_
      | refine LeO.bind ?_ (fun _ => ?_)
set_option maxHeartbeats 8000000 in
set_option maxRecDepth 100000 in
theorem spec_WaysToFace.calls (k : Nat) (a0 : ByteArray) (a1 : Int) (a2 : Int) (r1 : Int) (r2 : Bool) (w : World) (h : spec_WaysToFace.f k a0 a1 a2 = some (r1, r2)) :
  Calls Tryd.prog 17 #[.string a0, .int .i64 a1, .int .i64 a2] w fun e w' => e = .returned (.tuple #[.int .i64 r1, .bool r2]) ∧ Below w.heap.size w w' := by
 have HB := Aside0.mk (Below.refl w.heap.size w)
 have H : ((spec_drWord.f k a0).bind fun t211 => (if t211 = true then ((spec_l1In.f a1 0 60).bind fun t212 => (if t212 = true then ((spec_l1In.f a2 0 3).bind fun t213 => (spec_WaysToFace.j0 k a0 a1 a2 (!t213))) else (spec_WaysToFace.j0 k a0 a1 a2 true))) else (spec_WaysToFace.j0 k a0 a1 a2 true))) = some (r1, r2) := h
 clear h
 have HC4 := Aside0.mk H
 clear H
 go_enter Tryd.func17, Tryd.ntmps17
 go_upto_region 1 with (fail)
 go_cut [29] (fun v29 wc => ∃ (kq : Nat) (x29_3 : Bool), v29 = .bool x29_3 ∧ Aside0 (spec_WaysToFace.j0 kq a0 a1 a2 x29_3 = some (r1, r2)) ∧ Aside0 (kq ≤ k) ∧ Aside0 (Below w.heap.size w wc))
 case first =>
  have H := HC4.out
  clear HC4
  replace H := Option.bind_eq_some_iff.mp H
  obtain ⟨t211, A50, H⟩ := H
  replace H : (if t211 = true then ((spec_l1In.f a1 0 60).bind fun t212 => (if t212 = true then ((spec_l1In.f a2 0 3).bind fun t213 => (spec_WaysToFace.j0 k a0 a1 a2 (!t213))) else (spec_WaysToFace.j0 k a0 a1 a2 true))) else (spec_WaysToFace.j0 k a0 a1 a2 true)) = some (r1, r2) := H
  have A5 := Aside0.mk A50
  clear A50
  by_cases c6 : t211 = true
  ·
   subst c6
   have H1 : ((spec_l1In.f a1 0 60).bind fun t212 => (if t212 = true then ((spec_l1In.f a2 0 3).bind fun t213 => (spec_WaysToFace.j0 k a0 a1 a2 (!t213))) else (spec_WaysToFace.j0 k a0 a1 a2 true))) = some (r1, r2) := by rw [if_pos rfl] at H; exact H
   clear H
   have H := H1
   clear H1
   replace H := Option.bind_eq_some_iff.mp H
   obtain ⟨t212, A70, H⟩ := H
   replace H : (if t212 = true then ((spec_l1In.f a2 0 3).bind fun t213 => (spec_WaysToFace.j0 k a0 a1 a2 (!t213))) else (spec_WaysToFace.j0 k a0 a1 a2 true)) = some (r1, r2) := H
   have A7 := Aside0.mk A70
   clear A70
   by_cases c8 : t212 = true
   ·
    subst c8
    have H1 : ((spec_l1In.f a2 0 3).bind fun t213 => (spec_WaysToFace.j0 k a0 a1 a2 (!t213))) = some (r1, r2) := by rw [if_pos rfl] at H; exact H
    clear H
    have H := H1
    clear H1
    replace H := Option.bind_eq_some_iff.mp H
    obtain ⟨t213, A90, H⟩ := H
    replace H : (spec_WaysToFace.j0 k a0 a1 a2 (!t213)) = some (r1, r2) := H
    have A9 := Aside0.mk A90
    clear A90
    have H' := Aside0.mk H
    clear H
    go_wp2_with (first | ((with_reducible refine gate_callee (f := 40) rfl ?_); refine goesL_ (some 18) rfl rfl Tryd.func40 (by kernel_rfl) rfl #[.string a0] rfl (by (try simp only [List.map_toArray, List.map_cons, List.map_nil]); first | done | rfl | (simp only [List.length_drop, List.length_take]; rfl)) ?_; (with_reducible refine (spec_drWord.calls k a0 true _ A5.out).mono ?_); rintro e w' ⟨rfl, ⟨nd, rfl⟩⟩; refine ⟨_, rfl, ?_⟩) | (go_at_call 41; (with_reducible refine (spec_l1In.calls a1 0 60 true _ A7.out).mono ?_); rintro e w' ⟨rfl, ⟨nd, rfl⟩⟩) | (go_at_call 41; (with_reducible refine (spec_l1In.calls a2 0 3 t213 _ A9.out).mono ?_); rintro e w' ⟨rfl, ⟨nd, rfl⟩⟩))
    go_meet
    case rel => exact ⟨_, (!t213), (by first | rfl | (simp; done) | (simp [*]; done)), H', ⟨by first | omega | exact Nat.le_refl _⟩, ⟨by repeat (first | (with_reducible first | exact HB.out | apply below_alloc | apply pw_below_drewN | apply below_drew1) | exact HB.out)⟩⟩
   ·
    replace c8 := Bool.eq_false_iff.mpr c8
    subst c8
    have H1 : (spec_WaysToFace.j0 k a0 a1 a2 true) = some (r1, r2) := by rw [if_neg (show ¬ (false = true) by decide)] at H; exact H
    clear H
    have H := H1
    clear H1
    have H' := Aside0.mk H
    clear H
    go_wp2_with (first | ((with_reducible refine gate_callee (f := 40) rfl ?_); refine goesL_ (some 18) rfl rfl Tryd.func40 (by kernel_rfl) rfl #[.string a0] rfl (by (try simp only [List.map_toArray, List.map_cons, List.map_nil]); first | done | rfl | (simp only [List.length_drop, List.length_take]; rfl)) ?_; (with_reducible refine (spec_drWord.calls k a0 true _ A5.out).mono ?_); rintro e w' ⟨rfl, ⟨nd, rfl⟩⟩; refine ⟨_, rfl, ?_⟩) | (go_at_call 41; (with_reducible refine (spec_l1In.calls a1 0 60 false _ A7.out).mono ?_); rintro e w' ⟨rfl, ⟨nd, rfl⟩⟩))
    go_meet
    case rel => exact ⟨_, (true), (by first | rfl | (simp; done) | (simp [*]; done)), H', ⟨by first | omega | exact Nat.le_refl _⟩, ⟨by repeat (first | (with_reducible first | exact HB.out | apply below_alloc | apply pw_below_drewN | apply below_drew1) | exact HB.out)⟩⟩
  ·
   replace c6 := Bool.eq_false_iff.mpr c6
   subst c6
   have H1 : (spec_WaysToFace.j0 k a0 a1 a2 true) = some (r1, r2) := by rw [if_neg (show ¬ (false = true) by decide)] at H; exact H
   clear H
   have H := H1
   clear H1
   have H' := Aside0.mk H
   clear H
   go_wp2_with (first | ((with_reducible refine gate_callee (f := 40) rfl ?_); refine goesL_ (some 18) rfl rfl Tryd.func40 (by kernel_rfl) rfl #[.string a0] rfl (by (try simp only [List.map_toArray, List.map_cons, List.map_nil]); first | done | rfl | (simp only [List.length_drop, List.length_take]; rfl)) ?_; (with_reducible refine (spec_drWord.calls k a0 false _ A5.out).mono ?_); rintro e w' ⟨rfl, ⟨nd, rfl⟩⟩; refine ⟨_, rfl, ?_⟩))
   go_meet
   case rel => exact ⟨_, (true), (by first | rfl | (simp; done) | (simp [*]; done)), H', ⟨by first | omega | exact Nat.le_refl _⟩, ⟨by repeat (first | (with_reducible first | exact HB.out | apply below_alloc | apply pw_below_drewN | apply below_drew1) | exact HB.out)⟩⟩
 case rest =>
  clear HC4
  obtain ⟨kq, x29_3, rfl, HA, HJ3, HB⟩ := hcut
  cases kq with
  | zero => exact absurd HA.out (by simp [spec_WaysToFace.j0])
  | succ kj3 =>
   have H := HA.out
   clear HA
   simp only [spec_WaysToFace.j0] at H
   by_cases c10 : x29_3 = true
   ·
    subst c10
    have H1 : (some (0, false)) = some (r1, r2) := by rw [if_pos rfl] at H; exact H
    clear H
    have H := H1
    clear H1
    simp only [Option.some.injEq, Prod.mk.injEq] at H
    obtain ⟨rfl, rfl⟩ := H
    go_wp2
    go_ret2
    exact ⟨by first | rfl | (simp [errW_none, errW_some] <;> rfl) | (simp [*, errW_none, errW_some] <;> rfl), by repeat (first | (with_reducible first | exact HB.out | apply below_alloc | apply pw_below_drewN | apply below_drew1) | exact HB.out)⟩
   ·
    replace c10 := Bool.eq_false_iff.mpr c10
    subst c10
    have H1 : (if 0 ≤ (wrap64 (4 * (wrap64 ((a0.size : Int) + 2)))) then (if (wrap64 (4 * (wrap64 ((a0.size : Int) + 2))) : Int).toNat ≤ 35184372088832 then ((some (List.replicate (wrap64 (4 * (wrap64 ((a0.size : Int) + 2))) : Int).toNat 0 : List Int)).bind fun y214 => (if 0 < (y214.length : Int) then (spec_WaysToFace.l0 kj3 a0 a1 a2 (y214.set (0 : Int).toNat 1) 0) else (none))) else (none)) else (none)) = some (r1, r2) := by rw [if_neg (show ¬ (false = true) by decide)] at H; exact H
    clear H
    have H := H1
    clear H1
    obtain ⟨ji11, hji11⟩ : ∃ j_ : Int, (wrap64 (4 * (wrap64 ((a0.size : Int) + 2)))) = j_ := ⟨_, rfl⟩
    replace H : (if 0 ≤ (ji11) then (if (ji11 : Int).toNat ≤ 35184372088832 then ((some (List.replicate (ji11 : Int).toNat 0 : List Int)).bind fun y214 => (if 0 < (y214.length : Int) then (spec_WaysToFace.l0 kj3 a0 a1 a2 (y214.set (0 : Int).toNat 1) 0) else (none))) else (none)) else (none)) = some (r1, r2) := by first | (rw [hji11] at H; exact H) | (simp only [hji11] at H ⊢; exact H)
    have hji11w : (IntKind.i64.wrap (4 * (wrap64 ((a0.size : Int) + 2)))) = ji11 := (i64_w _).trans hji11
    by_cases c12 : 0 ≤ (ji11)
    ·
     rw [if_pos c12] at H
     have c12b0 := eq_true c12
     have c12b1 : decide (0 ≤ (ji11)) = true := decide_eq_true c12
     clear c12
     by_cases c13 : (ji11 : Int).toNat ≤ 35184372088832
     ·
      rw [if_pos c13] at H
      have c13b0 := eq_true c13
      have c13b1 : decide ((ji11 : Int).toNat ≤ 35184372088832) = true := decide_eq_true c13
      clear c13
      obtain ⟨y214, hy214⟩ : ∃ y_ : List Int, y_ = (List.replicate (ji11 : Int).toNat 0) := ⟨_, rfl⟩
      replace H : (if 0 < (y214.length : Int) then (spec_WaysToFace.l0 kj3 a0 a1 a2 (y214.set (0 : Int).toNat 1) 0) else (none)) = some (r1, r2) := by first | (rw [hy214]; with_reducible exact H) | (have H2_ := (Option.bind_some _ _).symm.trans H; rw [hy214]; with_reducible exact H2_) | (have H2_ := (Option.bind_some _ _).symm.trans H; with_reducible exact H2_) | with_reducible exact H | (rw [hy214]; exact H) | exact H
      have Ny214 := Aside0.mk hy214
      clear hy214
      by_cases c14 : 0 < (y214.length : Int)
      ·
       rw [if_pos c14] at H
       have c14b0 : decide (0 < (y214.length : Int)) = true := decide_eq_true c14
       have c14b1 : decide (0 < y214.length) = true := decide_eq_true (by omega)
       clear c14
       obtain ⟨y217, hy217⟩ : ∃ y_ : List Int, y_ = (y214.set (0 : Int).toNat 1) := ⟨_, rfl⟩
       replace H : (spec_WaysToFace.l0 kj3 a0 a1 a2 y217 0) = some (r1, r2) := by first | (rw [hy217]; with_reducible exact H) | (have H2_ := (Option.bind_some _ _).symm.trans H; rw [hy217]; with_reducible exact H2_) | (have H2_ := (Option.bind_some _ _).symm.trans H; with_reducible exact H2_) | with_reducible exact H | (rw [hy217]; exact H) | exact H
       have Ny217 := Aside0.mk hy217
       clear hy217
       have H' := Aside0.mk H
       clear H
       go_wp2_with (first | ((with_reducible refine gate_dst (N := 34) rfl ?_); refine Kd.R_make (Kd.int .i64) _ 3 rfl (N := 34) rfl 25 _ _ rfl ji11 rfl rfl Tryd.underlying25 (.int .i64 0) 8 info3 rfl (by decide) (by omega) 0 (ok := fun _ => True) (okp := fun _ => True) rfl (fun _ hk => hk) trivial (of_decide_eq_true (by first | (with_reducible assumption) | assumption)) (Nat.le_trans (Nat.mul_le_mul_right _ (of_decide_eq_true (by first | (with_reducible assumption) | assumption) : ji11.toNat ≤ 35184372088832)) (by omega)) (Below.refl _ _) (Nat.le_refl _) ?_; intro v215 w16 ho17 hb hg_ hnew_; clear hg_ hnew_; (first | rw [← Ny214.out] at ho17 | (simp only [Int.reduceToNat] at ho17; rw [← Ny214.out] at ho17)); have n0_ := Aside0.mk (Kd.R_lower ho17 (below_size (by repeat (first | (with_reducible first | exact HB.out | apply below_alloc | apply pw_below_drewN | apply below_drew1) | exact HB.out)))); have n1_ := Aside0.mk (below_step (by repeat (first | (with_reducible first | exact HB.out | apply below_alloc | apply pw_below_drewN | apply below_drew1) | exact HB.out)) hb); clear HB; have HO216 := n0_; have HB := n1_; clear n0_ n1_; clear hb ho17; have p15 : 0 ≤ (0 : Int) := (by omega); have q15 : (0 : Int) < ((y214.length : Int) : Int) := of_decide_eq_true (by first | (with_reducible assumption) | assumption); have qi15 : (0 < y214.length) = True := eq_true (by omega); obtain ⟨go15, co15, eo15, gb15, gl15, cl15, HG15⟩ := Kd.R_form HO216.out (by omega); (first | cases eo15 | (injection eo15 with ea_ en_ ec_; (first | subst ea_ | (injection ea_ with ea_; subst ea_)); subst ec_; clear en_)); have GB15 := Aside0.mk gb15; have GG15 := Aside0.mk HG15; clear gb15 gl15 HG15; obtain ⟨hx15_0, hf15_0⟩ := Kd.R_celln 0 HO216.out (0 : Int) p15 q15; (try rw [show ((0 : Int)).toNat = 0 from rfl] at hx15_0); (try simp only [Nat.reduceMul, Nat.zero_mul, Nat.zero_add, Nat.reduceAdd] at hx15_0); (try rw [show ((0 : Int)).toNat = 0 from rfl] at hf15_0); (try simp only [Nat.reduceMul, Nat.zero_mul, Nat.zero_add, Nat.reduceAdd] at hf15_0); replace p15 := eq_true p15; replace q15 := eq_true q15; obtain ⟨hy18_, hz18_⟩ := Kd.R_celln 0 HO216.out (0 : Int) (by omega) (of_decide_eq_true (by first | (with_reducible assumption) | assumption)); (try simp only [Int.reduceToNat, Int.toNat_zero, Int.toNat_ofNat, Nat.reduceMul, Nat.zero_mul, Nat.zero_add] at hy18_ hz18_); (try rw [show ((0 : Int)).toNat = 0 from rfl] at hy18_); (try rw [show ((0 : Int)).toNat = 0 from rfl] at hz18_); have HP18 := Kd.R_putg HO216.out (0 : Int) 1) | ((with_reducible refine gate_store (t := 3) (p := 36) rfl ?_); refine store_event (t := 3) (p := 36) (v := ?vo_w19) (w1 := (w16.setCell ⟨go15, (0 : Int).toNat, none⟩ (.int .i64 1))) ?hg ?ho ?hn ?hr ?_; (case ho => rfl); (case hg => rfl); (case hn => rfl); (case hr => first | (go_simp; done) | (go_simp; rfl)); intro w19 hw; have hg : w16.grownBy w19 (some go15) := (by rw [hw]; exact HP18.2); have hp_ : Kd.R (Kd.int .i64) 3 w19 w.heap.size (fun _ => True) (.slice (some ⟨go15, 0, none⟩) y214.length co15) y217 := (by rw [hw, Ny217.out]; exact HP18.1); clear HP18; have n0_ := Aside0.mk (hp_); have n1_ := Aside0.mk ((by rw [hw]; exact below_set (HB.out) GB15.out : Below w.heap.size w w19)); clear HO216; clear HB; have HO216 := n0_; have HB := n1_; clear n0_ n1_; clear hg hw hp_))
       go_loopg [8, 9] kj3 (fun kq v8 v9 w' => ∃ (x8_2 : List Int) (x9_2 : Int), v9 = .int .i64 x9_2 ∧ Aside0 (spec_WaysToFace.l0 kq a0 a1 a2 x8_2 x9_2 = some (r1, r2)) ∧ Aside0 (kq ≤ kj3) ∧ Aside0 (Kd.R (Kd.int .i64) 3 w' w.heap.size (fun _ => True) v8 x8_2) ∧ Aside0 (Below w.heap.size w w'))
       case atStart => exact ⟨(y217), (0), (by first | rfl | (simp; done) | (simp [*]; done)), H', ⟨Nat.le_refl _⟩, ⟨by (with_reducible repeat (first | apply Kd.R_alloc | apply Kd.R_drewN | apply Kd.R_drew)); exact HO216.out⟩, ⟨by repeat (first | (with_reducible first | exact HB.out | apply below_alloc | apply pw_below_drewN | apply below_drew1) | exact HB.out)⟩⟩
       case round =>
        clear H'
        try clear c10
        try clear c12
        try clear c12b0
        try clear c12b1
        try clear c13
        try clear c13b0
        try clear c13b1
        try clear c14
        try clear c14b0
        try clear c14b1
        try clear p15
        try clear q15
        try clear qi15
        try clear hx15_0
        try clear p15
        try clear q15
        obtain ⟨x8_2, x9_2, rfl, HA, HK2, HO_8, HB⟩ := hrel
        cases gk with
        | zero => exact absurd HA.out (by simp [spec_WaysToFace.l0])
        | succ k2 =>
         have H := HA.out
         clear HA
         simp only [spec_WaysToFace.l0] at H
         by_cases c20 : x9_2 < (a0.size : Int)
         ·
          rw [if_pos c20] at H
          have c20b0 : decide (x9_2 < (a0.size : Int)) = true := decide_eq_true c20
          clear c20
          by_cases c21 : 0 ≤ (x8_2.length : Int)
          ·
           rw [if_pos c21] at H
           have c21b0 := eq_true c21
           have c21b1 : decide (0 ≤ (x8_2.length : Int)) = true := decide_eq_true c21
           clear c21
           by_cases c22 : ((x8_2.length : Int) : Int).toNat ≤ 35184372088832
           ·
            rw [if_pos c22] at H
            have c22b0 := eq_true c22
            have c22b1 : decide (((x8_2.length : Int) : Int).toNat ≤ 35184372088832) = true := decide_eq_true c22
            clear c22
            obtain ⟨y218, hy218⟩ : ∃ y_ : List Int, y_ = (List.replicate ((x8_2.length : Int) : Int).toNat 0) := ⟨_, rfl⟩
            replace H : (spec_WaysToFace.l1 k2 a0 a1 a2 x9_2 y218 x8_2 (x8_2.length : Int) 0) = some (r1, r2) := by first | (rw [hy218]; with_reducible exact H) | (have H2_ := (Option.bind_some _ _).symm.trans H; rw [hy218]; with_reducible exact H2_) | (have H2_ := (Option.bind_some _ _).symm.trans H; with_reducible exact H2_) | with_reducible exact H | (rw [hy218]; exact H) | exact H
            have Ny218 := Aside0.mk hy218
            clear hy218
            have H' := Aside0.mk H
            clear H
            obtain ⟨Ao23, co23, eo23⟩ := Kd.R_slice HO_8.out
            subst eo23
            go_wp2_with (first | ((with_reducible refine gate_dst (N := 45) rfl ?_); refine Kd.R_make (Kd.int .i64) _ 3 rfl (N := 45) rfl 25 _ _ rfl (x8_2.length : Int) rfl rfl Tryd.underlying25 (.int .i64 0) 8 info3 rfl (by decide) (by omega) 0 (ok := fun _ => True) (okp := fun _ => True) rfl (fun _ hk => hk) trivial (of_decide_eq_true (by first | (with_reducible assumption) | assumption)) (Nat.le_trans (Nat.mul_le_mul_right _ (of_decide_eq_true (by first | (with_reducible assumption) | assumption) : (x8_2.length : Int).toNat ≤ 35184372088832)) (by omega)) (Below.refl _ _) (Nat.le_refl _) ?_; intro v219 w24 ho25 hb hg_ hnew_; clear hg_ hnew_; (first | rw [← Ny218.out] at ho25 | (simp only [Int.reduceToNat] at ho25; rw [← Ny218.out] at ho25)); have n0_ := Aside0.mk (Kd.R_elder' (by (with_reducible repeat (first | apply Kd.R_alloc | apply Kd.R_drewN | apply Kd.R_drew)); exact HO_8.out) (Kd.R_base ho25) hb); have n1_ := Aside0.mk (Kd.R_lower (Kd.R_new' ho25 (Kd.R_lt (by (with_reducible repeat (first | apply Kd.R_alloc | apply Kd.R_drewN | apply Kd.R_drew)); exact HO_8.out))) (below_size (by repeat (first | (with_reducible first | exact HB.out | apply below_alloc | apply pw_below_drewN | apply below_drew1) | exact HB.out)))); have n2_ := Aside0.mk (below_step (by repeat (first | (with_reducible first | exact HB.out | apply below_alloc | apply pw_below_drewN | apply below_drew1) | exact HB.out)) hb); clear HO_8; clear HB; have HO_8 := n0_; have HO220 := n1_; have HB := n2_; clear n0_ n1_ n2_; clear hb ho25))
            go_loopg [48] k2 (fun kq v48 w' => ∃ (x10_3 : List Int) (x48_3 : Int), v48 = .int .i64 x48_3 ∧ Aside0 (spec_WaysToFace.l1 kq a0 a1 a2 x9_2 x10_3 x8_2 (x8_2.length : Int) x48_3 = some (r1, r2)) ∧ Aside0 (kq ≤ k2) ∧ Aside0 (Kd.R (Kd.int .i64) 3 w' w.heap.size (fun k_ => some k_ ≠ ((.slice Ao23 x8_2.length co23) : Value).ownBlock) v219 x10_3) ∧ Aside0 (Kd.R (Kd.int .i64) 3 w' w.heap.size (fun k_ => some k_ ≠ (v219 : Value).ownBlock) (.slice Ao23 x8_2.length co23) x8_2) ∧ Aside0 (Below w.heap.size w w'))
            case atStart => exact ⟨(y218), (0), (by first | rfl | (simp; done) | (simp [*]; done)), H', ⟨Nat.le_refl _⟩, ⟨by (with_reducible repeat (first | apply Kd.R_alloc | apply Kd.R_drewN | apply Kd.R_drew)); exact Kd.R_mono HO220.out (fun _ hk => hk.2)⟩, ⟨by (with_reducible repeat (first | apply Kd.R_alloc | apply Kd.R_drewN | apply Kd.R_drew)); exact Kd.R_mono HO_8.out (fun _ hk => hk.2)⟩, ⟨by repeat (first | (with_reducible first | exact HB.out | apply below_alloc | apply pw_below_drewN | apply below_drew1) | exact HB.out)⟩⟩
            case round =>
             clear H'
             try clear c10
             try clear c12
             try clear c12b0
             try clear c12b1
             try clear c13
             try clear c13b0
             try clear c13b1
             try clear c14
             try clear c14b0
             try clear c14b1
             try clear p15
             try clear q15
             try clear qi15
             try clear c20
             try clear c20b0
             try clear c21
             try clear c21b0
             try clear c21b1
             try clear c22
             try clear c22b0
             try clear c22b1
             try clear hx15_0
             try clear p15
             try clear q15
             obtain ⟨x10_3, x48_3, rfl, HA, HK3, HO_10, HO_46, HB⟩ := hrel
             cases gk with
             | zero => exact absurd HA.out (by simp [spec_WaysToFace.l1])
             | succ k3 =>
              have H := HA.out
              clear HA
              simp only [spec_WaysToFace.l1] at H
              by_cases c26 : x48_3 < (x8_2.length : Int)
              ·
               rw [if_pos c26] at H
               have c26b0 : decide (x48_3 < (x8_2.length : Int)) = true := decide_eq_true c26
               clear c26
               by_cases c27 : 0 ≤ x48_3
               ·
                rw [if_pos c27] at H
                have c27b0 : decide (0 ≤ x48_3) = true := decide_eq_true c27
                clear c27
                by_cases c28 : x48_3 < (x8_2.length : Int)
                ·
                 rw [if_pos c28] at H
                 have c28b0 : decide (x48_3 < (x8_2.length : Int)) = true := decide_eq_true c28
                 clear c28
                 have H' := Aside0.mk H
                 clear H
                 have p221 : 0 ≤ (x48_3 : Int) := of_decide_eq_true (by first | (with_reducible assumption) | assumption)
                 have q221 : x48_3 < (x8_2.length : Int) := of_decide_eq_true (by first | (with_reducible assumption) | assumption)
                 obtain ⟨ad221, e221, hx221_0⟩ := Kd.at_int (Kd.R_reads' HO_46.out).2.2 x48_3 p221 q221
                 cases e221
                 replace p221 := eq_true p221
                 replace q221 := eq_true q221
                 go_wp2
                 go_loopg [13] k3 (fun kq v13 w' => ∃ (x10_4 : List Int) (x13_4 : Int), v13 = .int .i64 x13_4 ∧ Aside0 (spec_WaysToFace.l2 kq a0 a1 a2 x9_2 x10_4 x48_3 (rd x8_2 x48_3) x13_4 x8_2 (x8_2.length : Int) x48_3 = some (r1, r2)) ∧ Aside0 (kq ≤ k3) ∧ Aside0 (Kd.R (Kd.int .i64) 3 w' w.heap.size (fun k_ => some k_ ≠ ((.slice (some ad221) x8_2.length co23) : Value).ownBlock) v219 x10_4) ∧ Aside0 (Kd.R (Kd.int .i64) 3 w' w.heap.size (fun k_ => some k_ ≠ (v219 : Value).ownBlock) (.slice (some ad221) x8_2.length co23) x8_2) ∧ Aside0 (Below w.heap.size w w'))
                 case atStart => exact ⟨(x10_3), (0), (by first | rfl | (simp; done) | (simp [*]; done)), H', ⟨Nat.le_refl _⟩, ⟨by (with_reducible repeat (first | apply Kd.R_alloc | apply Kd.R_drewN | apply Kd.R_drew)); exact HO_10.out⟩, ⟨by (with_reducible repeat (first | apply Kd.R_alloc | apply Kd.R_drewN | apply Kd.R_drew)); exact HO_46.out⟩, ⟨by repeat (first | (with_reducible first | exact HB.out | apply below_alloc | apply pw_below_drewN | apply below_drew1) | exact HB.out)⟩⟩
                 case round =>
                  clear H'
                  try clear c10
                  try clear c12
                  try clear c12b0
                  try clear c12b1
                  try clear c13
                  try clear c13b0
                  try clear c13b1
                  try clear c14
                  try clear c14b0
                  try clear c14b1
                  try clear p15
                  try clear q15
                  try clear qi15
                  try clear c20
                  try clear c20b0
                  try clear c21
                  try clear c21b0
                  try clear c21b1
                  try clear c22
                  try clear c22b0
                  try clear c22b1
                  try clear c26
                  try clear c26b0
                  try clear c27
                  try clear c27b0
                  try clear c28
                  try clear c28b0
                  try clear hx15_0
                  try clear hx221_0
                  try clear p15
                  try clear p221
                  try clear q15
                  try clear q221
                  obtain ⟨x10_4, x13_4, rfl, HA, HK4, HO_10, HO_46, HB⟩ := hrel
                  cases gk with
                  | zero => exact absurd HA.out (by simp [spec_WaysToFace.l2])
                  | succ k4 =>
                   have H := HA.out
                   clear HA
                   simp only [spec_WaysToFace.l2] at H
                   have HC29 := Aside0.mk H
                   clear H
                   go_upto_region 13 with (fail)
                   go_cut [58] (fun v58 wc => ∃ (kq : Nat) (x58_28 : Bool), v58 = .bool x58_28 ∧ Aside0 (spec_WaysToFace.j4 kq a0 a1 a2 x9_2 x10_4 x48_3 (rd x8_2 x48_3) x13_4 x8_2 (x8_2.length : Int) x48_3 x58_28 = some (r1, r2)) ∧ Aside0 (kq ≤ k4) ∧ Aside0 (Kd.R (Kd.int .i64) 3 wc w.heap.size (fun k_ => some k_ ≠ ((.slice (some ad221) x8_2.length co23) : Value).ownBlock) v219 x10_4) ∧ Aside0 (Kd.R (Kd.int .i64) 3 wc w.heap.size (fun k_ => some k_ ≠ (v219 : Value).ownBlock) (.slice (some ad221) x8_2.length co23) x8_2) ∧ Aside0 (Below w.heap.size w wc))
                   case first =>
                    have H := HC29.out
                    clear HC29
                    by_cases c30 : x13_4 < 4
                    ·
                     rw [if_pos c30] at H
                     have c30b0 : decide (x13_4 < 4) = true := decide_eq_true c30
                     clear c30
                     (first | rw [c30b0] | (simp only [i64_w, i32_w]; rw [c30b0]) | skip)
                     have H' := Aside0.mk H
                     clear H
                     go_wp2
                     go_meet
                     case rel => exact ⟨_, (decide ((rd x8_2 x48_3) > 0)), (by first | rfl | (simp; done) | (simp [*]; done)), H', ⟨by have := HJ3.out; have := HK2.out; have := HK3.out; have := HK4.out; first | omega | exact Nat.le_refl _⟩, ⟨by (with_reducible repeat (first | apply Kd.R_alloc | apply Kd.R_drewN | apply Kd.R_drew)); exact HO_10.out⟩, ⟨by (with_reducible repeat (first | apply Kd.R_alloc | apply Kd.R_drewN | apply Kd.R_drew)); exact HO_46.out⟩, ⟨by repeat (first | (with_reducible first | exact HB.out | apply below_alloc | apply pw_below_drewN | apply below_drew1) | exact HB.out)⟩⟩
                    ·
                     rw [if_neg c30] at H
                     have c30b0 : decide (x13_4 < 4) = false := decide_eq_false c30
                     clear c30
                     (first | rw [c30b0] | (simp only [i64_w, i32_w]; rw [c30b0]) | skip)
                     have H' := Aside0.mk H
                     clear H
                     go_wp2
                     go_meet
                     case rel => exact ⟨_, (false), (by first | rfl | (simp; done) | (simp [*]; done)), H', ⟨by have := HJ3.out; have := HK2.out; have := HK3.out; have := HK4.out; first | omega | exact Nat.le_refl _⟩, ⟨by (with_reducible repeat (first | apply Kd.R_alloc | apply Kd.R_drewN | apply Kd.R_drew)); exact HO_10.out⟩, ⟨by (with_reducible repeat (first | apply Kd.R_alloc | apply Kd.R_drewN | apply Kd.R_drew)); exact HO_46.out⟩, ⟨by repeat (first | (with_reducible first | exact HB.out | apply below_alloc | apply pw_below_drewN | apply below_drew1) | exact HB.out)⟩⟩
                   case rest =>
                    clear HC29
                    try clear c10
                    try clear c12
                    try clear c12b0
                    try clear c12b1
                    try clear c13
                    try clear c13b0
                    try clear c13b1
                    try clear c14
                    try clear c14b0
                    try clear c14b1
                    try clear p15
                    try clear q15
                    try clear qi15
                    try clear c20
                    try clear c20b0
                    try clear c21
                    try clear c21b0
                    try clear c21b1
                    try clear c22
                    try clear c22b0
                    try clear c22b1
                    try clear c26
                    try clear c26b0
                    try clear c27
                    try clear c27b0
                    try clear c28
                    try clear c28b0
                    try clear hx15_0
                    try clear hx221_0
                    try clear p15
                    try clear p221
                    try clear q15
                    try clear q221
                    obtain ⟨kq, x58_28, rfl, HA, HJ28, HO_10, HO_46, HB⟩ := hcut
                    cases kq with
                    | zero => exact absurd HA.out (by simp [spec_WaysToFace.j4])
                    | succ kj28 =>
                     have H := HA.out
                     clear HA
                     simp only [spec_WaysToFace.j4] at H
                     by_cases c31 : x58_28 = true
                     ·
                      subst c31
                      have H1 : (if 0 ≤ x9_2 then (if x9_2 < (a0.size : Int) then ((spec_drTurn.f (bt a0 x9_2)).bind fun t222 => (if x13_4 = t222 then (if 0 ≤ (wrap64 ((wrap64 (4 * (wrap64 (Int.tdiv x48_3 4)))) + (Int.tmod (wrap64 (x48_3 + x13_4)) 4))) then (if (wrap64 ((wrap64 (4 * (wrap64 (Int.tdiv x48_3 4)))) + (Int.tmod (wrap64 (x48_3 + x13_4)) 4))) < (x10_4.length : Int) then ((spec_l1Least.f (wrap64 ((rd x10_4 (wrap64 ((wrap64 (4 * (wrap64 (Int.tdiv x48_3 4)))) + (Int.tmod (wrap64 (x48_3 + x13_4)) 4)))) + (rd x8_2 x48_3))) 1000000000000001).bind fun t224 => (spec_WaysToFace.l2 kj28 a0 a1 a2 x9_2 (x10_4.set ((wrap64 ((wrap64 (4 * (wrap64 (Int.tdiv x48_3 4)))) + (Int.tmod (wrap64 (x48_3 + x13_4)) 4))) : Int).toNat t224) x48_3 (rd x8_2 x48_3) (wrap64 (x13_4 + 1)) x8_2 (x8_2.length : Int) x48_3)) else (none)) else (none)) else (if 0 ≤ (wrap64 ((wrap64 (4 * (wrap64 ((wrap64 (Int.tdiv x48_3 4)) + 1)))) + (Int.tmod (wrap64 (x48_3 + x13_4)) 4))) then (if (wrap64 ((wrap64 (4 * (wrap64 ((wrap64 (Int.tdiv x48_3 4)) + 1)))) + (Int.tmod (wrap64 (x48_3 + x13_4)) 4))) < (x10_4.length : Int) then ((spec_l1Least.f (wrap64 ((rd x10_4 (wrap64 ((wrap64 (4 * (wrap64 ((wrap64 (Int.tdiv x48_3 4)) + 1)))) + (Int.tmod (wrap64 (x48_3 + x13_4)) 4)))) + (rd x8_2 x48_3))) 1000000000000001).bind fun t227 => (spec_WaysToFace.l2 kj28 a0 a1 a2 x9_2 (x10_4.set ((wrap64 ((wrap64 (4 * (wrap64 ((wrap64 (Int.tdiv x48_3 4)) + 1)))) + (Int.tmod (wrap64 (x48_3 + x13_4)) 4))) : Int).toNat t227) x48_3 (rd x8_2 x48_3) (wrap64 (x13_4 + 1)) x8_2 (x8_2.length : Int) x48_3)) else (none)) else (none)))) else (none)) else (none)) = some (r1, r2) := by rw [if_pos rfl] at H; exact H
                      clear H
                      have H := H1
                      clear H1
                      by_cases c32 : 0 ≤ x9_2
                      ·
                       rw [if_pos c32] at H
                       have c32b0 : decide (0 ≤ x9_2) = true := decide_eq_true c32
                       clear c32
                       by_cases c33 : x9_2 < (a0.size : Int)
                       ·
                        rw [if_pos c33] at H
                        have c33b0 : decide (x9_2 < (a0.size : Int)) = true := decide_eq_true c33
                        clear c33
                        replace H := Option.bind_eq_some_iff.mp H
                        obtain ⟨t222, A350, H⟩ := H
                        replace H : (if x13_4 = t222 then (if 0 ≤ (wrap64 ((wrap64 (4 * (wrap64 (Int.tdiv x48_3 4)))) + (Int.tmod (wrap64 (x48_3 + x13_4)) 4))) then (if (wrap64 ((wrap64 (4 * (wrap64 (Int.tdiv x48_3 4)))) + (Int.tmod (wrap64 (x48_3 + x13_4)) 4))) < (x10_4.length : Int) then ((spec_l1Least.f (wrap64 ((rd x10_4 (wrap64 ((wrap64 (4 * (wrap64 (Int.tdiv x48_3 4)))) + (Int.tmod (wrap64 (x48_3 + x13_4)) 4)))) + (rd x8_2 x48_3))) 1000000000000001).bind fun t224 => (spec_WaysToFace.l2 kj28 a0 a1 a2 x9_2 (x10_4.set ((wrap64 ((wrap64 (4 * (wrap64 (Int.tdiv x48_3 4)))) + (Int.tmod (wrap64 (x48_3 + x13_4)) 4))) : Int).toNat t224) x48_3 (rd x8_2 x48_3) (wrap64 (x13_4 + 1)) x8_2 (x8_2.length : Int) x48_3)) else (none)) else (none)) else (if 0 ≤ (wrap64 ((wrap64 (4 * (wrap64 ((wrap64 (Int.tdiv x48_3 4)) + 1)))) + (Int.tmod (wrap64 (x48_3 + x13_4)) 4))) then (if (wrap64 ((wrap64 (4 * (wrap64 ((wrap64 (Int.tdiv x48_3 4)) + 1)))) + (Int.tmod (wrap64 (x48_3 + x13_4)) 4))) < (x10_4.length : Int) then ((spec_l1Least.f (wrap64 ((rd x10_4 (wrap64 ((wrap64 (4 * (wrap64 ((wrap64 (Int.tdiv x48_3 4)) + 1)))) + (Int.tmod (wrap64 (x48_3 + x13_4)) 4)))) + (rd x8_2 x48_3))) 1000000000000001).bind fun t227 => (spec_WaysToFace.l2 kj28 a0 a1 a2 x9_2 (x10_4.set ((wrap64 ((wrap64 (4 * (wrap64 ((wrap64 (Int.tdiv x48_3 4)) + 1)))) + (Int.tmod (wrap64 (x48_3 + x13_4)) 4))) : Int).toNat t227) x48_3 (rd x8_2 x48_3) (wrap64 (x13_4 + 1)) x8_2 (x8_2.length : Int) x48_3)) else (none)) else (none))) = some (r1, r2) := H
                        have A35 := Aside0.mk A350
                        clear A350
                        by_cases c36 : x13_4 = t222
                        ·
                         rw [if_pos c36] at H
                         have c36b0 : (x13_4 == t222) = true := beq_iff_eq.mpr c36
                         have c36b1 : (x13_4 != t222) = false := bne_eq_false_iff_eq.mpr c36
                         clear c36
                         obtain ⟨ji37, hji37⟩ : ∃ j_ : Int, (wrap64 ((wrap64 (4 * (wrap64 (Int.tdiv x48_3 4)))) + (Int.tmod (wrap64 (x48_3 + x13_4)) 4))) = j_ := ⟨_, rfl⟩
                         replace H : (if 0 ≤ (ji37) then (if (ji37) < (x10_4.length : Int) then ((spec_l1Least.f (wrap64 ((rd x10_4 (ji37)) + (rd x8_2 x48_3))) 1000000000000001).bind fun t224 => (spec_WaysToFace.l2 kj28 a0 a1 a2 x9_2 (x10_4.set ((ji37) : Int).toNat t224) x48_3 (rd x8_2 x48_3) (wrap64 (x13_4 + 1)) x8_2 (x8_2.length : Int) x48_3)) else (none)) else (none)) = some (r1, r2) := by first | (rw [hji37] at H; exact H) | (simp only [hji37] at H ⊢; exact H)
                         (try rw [hji37] at A35)
                         have hji37w : (IntKind.i64.wrap ((wrap64 (4 * (wrap64 (Int.tdiv x48_3 4)))) + (Int.tmod (wrap64 (x48_3 + x13_4)) 4))) = ji37 := (i64_w _).trans hji37
                         by_cases c38 : 0 ≤ (ji37)
                         ·
                          rw [if_pos c38] at H
                          have c38b0 : decide (0 ≤ (ji37)) = true := decide_eq_true c38
                          clear c38
                          by_cases c39 : (ji37) < (x10_4.length : Int)
                          ·
                           rw [if_pos c39] at H
                           have c39b0 : decide ((ji37) < (x10_4.length : Int)) = true := decide_eq_true c39
                           clear c39
                           replace H := Option.bind_eq_some_iff.mp H
                           obtain ⟨t224, A400, H⟩ := H
                           replace H : (spec_WaysToFace.l2 kj28 a0 a1 a2 x9_2 (x10_4.set ((ji37) : Int).toNat t224) x48_3 (rd x8_2 x48_3) (wrap64 (x13_4 + 1)) x8_2 (x8_2.length : Int) x48_3) = some (r1, r2) := H
                           have A40 := Aside0.mk A400
                           clear A400
                           obtain ⟨y225, hy225⟩ : ∃ y_ : List Int, y_ = (x10_4.set ((ji37) : Int).toNat t224) := ⟨_, rfl⟩
                           replace H : (spec_WaysToFace.l2 kj28 a0 a1 a2 x9_2 y225 x48_3 (rd x8_2 x48_3) (wrap64 (x13_4 + 1)) x8_2 (x8_2.length : Int) x48_3) = some (r1, r2) := by first | (rw [hy225]; with_reducible exact H) | (have H2_ := (Option.bind_some _ _).symm.trans H; rw [hy225]; with_reducible exact H2_) | (have H2_ := (Option.bind_some _ _).symm.trans H; with_reducible exact H2_) | with_reducible exact H | (rw [hy225]; exact H) | exact H
                           have Ny225 := Aside0.mk hy225
                           clear hy225
                           have H' := Aside0.mk H
                           clear H
                           have p34 : 0 ≤ (x9_2 : Int) := of_decide_eq_true (by first | (with_reducible assumption) | assumption)
                           have q34 : x9_2 < (a0.size : Int) := of_decide_eq_true (by first | (with_reducible assumption) | assumption)
                           have hx34 := bt_at a0 x9_2
                           replace p34 := eq_true p34
                           replace q34 := eq_true q34
                           go_wp2_with (first | ((with_reducible refine gate_callee (f := 42) rfl ?_); refine goesL_ (some 67) rfl rfl Tryd.func42 (by kernel_rfl) rfl #[.int .u8 (bt a0 x9_2)] rfl (by (try simp only [List.map_toArray, List.map_cons, List.map_nil]); first | done | rfl | (simp only [List.length_drop, List.length_take]; rfl)) ?_; (with_reducible refine (spec_drTurn.calls (bt a0 x9_2) t222 _ A35.out).mono ?_); rintro e w' ⟨rfl, ⟨nd, rfl⟩⟩; refine ⟨_, rfl, ?_⟩; (try (rw [drewN_self wc]; generalize hq_ : World.drewN wc _ = wc; have n0_ : Aside0 (Kd.R (Kd.int .i64) 3 wc w.heap.size (fun k_ => some k_ ≠ (.slice (some ad221) x8_2.length co23 : Value).ownBlock) v219 x10_4) := ⟨by rw [← hq_]; exact (by (with_reducible repeat (first | apply Kd.R_alloc | apply Kd.R_drewN | apply Kd.R_drew)); exact HO_10.out)⟩; have n1_ : Aside0 (Kd.R (Kd.int .i64) 3 wc w.heap.size (fun k_ => some k_ ≠ (v219 : Value).ownBlock) (.slice (some ad221) x8_2.length co23) x8_2) := ⟨by rw [← hq_]; exact (by (with_reducible repeat (first | apply Kd.R_alloc | apply Kd.R_drewN | apply Kd.R_drew)); exact HO_46.out)⟩; have n2_ : Aside0 (Below w.heap.size w wc) := ⟨by rw [← hq_]; exact (by repeat (first | (with_reducible first | exact HB.out | apply below_alloc | apply pw_below_drewN | apply below_drew1) | exact HB.out))⟩; clear HO_10 HO_46 HB hq_; have HO_10 := n0_; have HO_46 := n1_; have HB := n2_; clear n0_ n1_ n2_)); obtain ⟨Ao42, co42, eo42⟩ := Kd.R_slice HO_10.out; subst eo42; have p223 : 0 ≤ ((ji37) : Int) := of_decide_eq_true (by first | (with_reducible assumption) | assumption); have q223 : (ji37) < (x10_4.length : Int) := of_decide_eq_true (by first | (with_reducible assumption) | assumption); obtain ⟨ad223, e223, hx223_0⟩ := Kd.at_int (Kd.R_reads' HO_10.out).2.2 (ji37) p223 q223; cases e223; replace p223 := eq_true p223; replace q223 := eq_true q223) | ((with_reducible refine gate_callee (f := 43) rfl ?_); refine goesL_ (some 86) rfl rfl Tryd.func43 (by kernel_rfl) rfl #[.int .i64 (wrap64 ((rd x10_4 (ji37)) + (rd x8_2 x48_3))), .int .i64 1000000000000001] rfl (by (try simp only [List.map_toArray, List.map_cons, List.map_nil]); first | done | (simp only [hji37]; rfl) | rfl | (simp only [List.length_drop, List.length_take]; rfl)) ?_; (with_reducible refine (spec_l1Least.calls (wrap64 ((rd x10_4 (ji37)) + (rd x8_2 x48_3))) 1000000000000001 t224 _ A40.out).mono ?_); rintro e w' ⟨rfl, ⟨nd, rfl⟩⟩; refine ⟨_, rfl, ?_⟩; (try (rw [drewN_self wc]; generalize hq_ : World.drewN wc _ = wc; have n0_ : Aside0 (Kd.R (Kd.int .i64) 3 wc w.heap.size (fun k_ => some k_ ≠ (.slice (some ad221) x8_2.length co23 : Value).ownBlock) (.slice (some ad223) x10_4.length co42) x10_4) := ⟨by rw [← hq_]; exact (by (with_reducible repeat (first | apply Kd.R_alloc | apply Kd.R_drewN | apply Kd.R_drew)); exact HO_10.out)⟩; have n1_ : Aside0 (Kd.R (Kd.int .i64) 3 wc w.heap.size (fun k_ => some k_ ≠ (.slice (some ad223) x10_4.length co42 : Value).ownBlock) (.slice (some ad221) x8_2.length co23) x8_2) := ⟨by rw [← hq_]; exact (by (with_reducible repeat (first | apply Kd.R_alloc | apply Kd.R_drewN | apply Kd.R_drew)); exact HO_46.out)⟩; have n2_ : Aside0 (Below w.heap.size w wc) := ⟨by rw [← hq_]; exact (by repeat (first | (with_reducible first | exact HB.out | apply below_alloc | apply pw_below_drewN | apply below_drew1) | exact HB.out))⟩; clear HO_10 HO_46 HB hq_; have HO_10 := n0_; have HO_46 := n1_; have HB := n2_; clear n0_ n1_ n2_)); have p41 : 0 ≤ ((ji37) : Int) := of_decide_eq_true (by first | (with_reducible assumption) | assumption); have q41 : ((ji37) : Int) < ((x10_4.length : Int) : Int) := of_decide_eq_true (by first | (with_reducible assumption) | assumption); obtain ⟨go41, co41, eo41, gb41, gl41, cl41, HG41⟩ := Kd.R_form HO_10.out (by omega); (first | cases eo41 | (injection eo41 with ea_ en_ ec_; (first | subst ea_ | (injection ea_ with ea_; subst ea_)); subst ec_; clear en_)); have GB41 := Aside0.mk gb41; have GG41 := Aside0.mk HG41; clear gb41 gl41 HG41; (first | simp only [add_plain] at hx223_0 | skip); obtain ⟨hx41_0, hf41_0⟩ := Kd.R_celln 0 HO_10.out ((ji37) : Int) p41 q41; replace p41 := eq_true p41; replace q41 := eq_true q41; obtain ⟨hy43_, hz43_⟩ := Kd.R_celln 0 HO_10.out ((ji37) : Int) (of_decide_eq_true (by first | (with_reducible assumption) | assumption)) (of_decide_eq_true (by first | (with_reducible assumption) | assumption)); have HP43 := Kd.R_putg HO_10.out ((ji37) : Int) t224) | ((with_reducible refine gate_store (t := 3) (p := 87) rfl ?_); refine store_event (t := 3) (p := 87) (v := ?vo_w44) (w1 := (wc.setCell ⟨go41, ((ji37) : Int).toNat, none⟩ (.int .i64 t224))) ?hg ?ho ?hn ?hr ?_; (case ho => rfl); (case hg => rfl); (case hn => rfl); (case hr => first | (go_simp; done) | (go_simp; rfl)); intro w44 hw; have hg : wc.grownBy w44 (some go41) := (by rw [hw]; exact HP43.2); have hp_ : Kd.R (Kd.int .i64) 3 w44 w.heap.size (fun k_ => some k_ ≠ (.slice (some ad221) x8_2.length co23 : Value).ownBlock) (.slice (some ⟨go41, 0, none⟩) x10_4.length co42) y225 := (by rw [hw, Ny225.out]; exact HP43.1); clear HP43; have n0_ := Aside0.mk (hp_); have n1_ := Aside0.mk (Kd.R_after (v := (.slice (some ⟨go41, 0, none⟩) x10_4.length co42)) (v1 := (.slice (some ⟨go41, 0, none⟩) x10_4.length co42)) (ok := (fun _ => True)) (by (with_reducible repeat (first | apply Kd.R_alloc | apply Kd.R_drewN | apply Kd.R_drew)); exact Kd.R_mono HO_46.out (fun _ hk => ⟨trivial, hk⟩)) hg (.inl rfl)); have n2_ := Aside0.mk ((by rw [hw]; exact below_set (HB.out) GB41.out : Below w.heap.size w w44)); clear HO_10; clear HO_46; clear HB; have HO_10 := n0_; have HO_46 := n1_; have HB := n2_; clear n0_ n1_ n2_; clear hg hw hp_))
                           go_roundg kj28
                           case measure => have := HJ3.out; have := HK2.out; have := HK3.out; have := HK4.out; have := HJ28.out; omega
                           case rel => exact ⟨(y225), (wrap64 (x13_4 + 1)), (by first | rfl | (simp; done) | (simp [*]; done)), H', ⟨by have := HJ3.out; have := HK2.out; have := HK3.out; have := HK4.out; have := HJ28.out; omega⟩, ⟨by (with_reducible repeat (first | apply Kd.R_alloc | apply Kd.R_drewN | apply Kd.R_drew)); exact HO_10.out⟩, ⟨by (with_reducible repeat (first | apply Kd.R_alloc | apply Kd.R_drewN | apply Kd.R_drew)); exact Kd.R_mono HO_46.out (fun _ hk => hk.2)⟩, ⟨by repeat (first | (with_reducible first | exact HB.out | apply below_alloc | apply pw_below_drewN | apply below_drew1) | exact HB.out)⟩⟩
                          ·
                           rw [if_neg c39] at H
                           exact absurd H (by simp)
                         ·
                          rw [if_neg c38] at H
                          exact absurd H (by simp)
                        ·
                         rw [if_neg c36] at H
                         have c36b0 : (x13_4 == t222) = false := beq_eq_false_iff_ne.mpr c36
                         have c36b1 : (x13_4 != t222) = true := bne_iff_ne.mpr c36
                         obtain ⟨ji45, hji45⟩ : ∃ j_ : Int, (wrap64 ((wrap64 (4 * (wrap64 ((wrap64 (Int.tdiv x48_3 4)) + 1)))) + (Int.tmod (wrap64 (x48_3 + x13_4)) 4))) = j_ := ⟨_, rfl⟩
                         replace H : (if 0 ≤ (ji45) then (if (ji45) < (x10_4.length : Int) then ((spec_l1Least.f (wrap64 ((rd x10_4 (ji45)) + (rd x8_2 x48_3))) 1000000000000001).bind fun t227 => (spec_WaysToFace.l2 kj28 a0 a1 a2 x9_2 (x10_4.set ((ji45) : Int).toNat t227) x48_3 (rd x8_2 x48_3) (wrap64 (x13_4 + 1)) x8_2 (x8_2.length : Int) x48_3)) else (none)) else (none)) = some (r1, r2) := by first | (rw [hji45] at H; exact H) | (simp only [hji45] at H ⊢; exact H)
                         (try rw [hji45] at A35)
                         have hji45w : (IntKind.i64.wrap ((wrap64 (4 * (wrap64 ((wrap64 (Int.tdiv x48_3 4)) + 1)))) + (Int.tmod (wrap64 (x48_3 + x13_4)) 4))) = ji45 := (i64_w _).trans hji45
                         by_cases c46 : 0 ≤ (ji45)
                         ·
                          rw [if_pos c46] at H
                          have c46b0 : decide (0 ≤ (ji45)) = true := decide_eq_true c46
                          clear c46
                          by_cases c47 : (ji45) < (x10_4.length : Int)
                          ·
                           rw [if_pos c47] at H
                           have c47b0 : decide ((ji45) < (x10_4.length : Int)) = true := decide_eq_true c47
                           clear c47
                           replace H := Option.bind_eq_some_iff.mp H
                           obtain ⟨t227, A480, H⟩ := H
                           replace H : (spec_WaysToFace.l2 kj28 a0 a1 a2 x9_2 (x10_4.set ((ji45) : Int).toNat t227) x48_3 (rd x8_2 x48_3) (wrap64 (x13_4 + 1)) x8_2 (x8_2.length : Int) x48_3) = some (r1, r2) := H
                           have A48 := Aside0.mk A480
                           clear A480
                           obtain ⟨y228, hy228⟩ : ∃ y_ : List Int, y_ = (x10_4.set ((ji45) : Int).toNat t227) := ⟨_, rfl⟩
                           replace H : (spec_WaysToFace.l2 kj28 a0 a1 a2 x9_2 y228 x48_3 (rd x8_2 x48_3) (wrap64 (x13_4 + 1)) x8_2 (x8_2.length : Int) x48_3) = some (r1, r2) := by first | (rw [hy228]; with_reducible exact H) | (have H2_ := (Option.bind_some _ _).symm.trans H; rw [hy228]; with_reducible exact H2_) | (have H2_ := (Option.bind_some _ _).symm.trans H; with_reducible exact H2_) | with_reducible exact H | (rw [hy228]; exact H) | exact H
                           have Ny228 := Aside0.mk hy228
                           clear hy228
                           have H' := Aside0.mk H
                           clear H
                           have p34 : 0 ≤ (x9_2 : Int) := of_decide_eq_true (by first | (with_reducible assumption) | assumption)
                           have q34 : x9_2 < (a0.size : Int) := of_decide_eq_true (by first | (with_reducible assumption) | assumption)
                           have hx34 := bt_at a0 x9_2
                           replace p34 := eq_true p34
                           replace q34 := eq_true q34
                           go_wp2_with (first | ((with_reducible refine gate_callee (f := 42) rfl ?_); refine goesL_ (some 67) rfl rfl Tryd.func42 (by kernel_rfl) rfl #[.int .u8 (bt a0 x9_2)] rfl (by (try simp only [List.map_toArray, List.map_cons, List.map_nil]); first | done | rfl | (simp only [List.length_drop, List.length_take]; rfl)) ?_; (with_reducible refine (spec_drTurn.calls (bt a0 x9_2) t222 _ A35.out).mono ?_); rintro e w' ⟨rfl, ⟨nd, rfl⟩⟩; refine ⟨_, rfl, ?_⟩; (try (rw [drewN_self wc]; generalize hq_ : World.drewN wc _ = wc; have n0_ : Aside0 (Kd.R (Kd.int .i64) 3 wc w.heap.size (fun k_ => some k_ ≠ (.slice (some ad221) x8_2.length co23 : Value).ownBlock) v219 x10_4) := ⟨by rw [← hq_]; exact (by (with_reducible repeat (first | apply Kd.R_alloc | apply Kd.R_drewN | apply Kd.R_drew)); exact HO_10.out)⟩; have n1_ : Aside0 (Kd.R (Kd.int .i64) 3 wc w.heap.size (fun k_ => some k_ ≠ (v219 : Value).ownBlock) (.slice (some ad221) x8_2.length co23) x8_2) := ⟨by rw [← hq_]; exact (by (with_reducible repeat (first | apply Kd.R_alloc | apply Kd.R_drewN | apply Kd.R_drew)); exact HO_46.out)⟩; have n2_ : Aside0 (Below w.heap.size w wc) := ⟨by rw [← hq_]; exact (by repeat (first | (with_reducible first | exact HB.out | apply below_alloc | apply pw_below_drewN | apply below_drew1) | exact HB.out))⟩; clear HO_10 HO_46 HB hq_; have HO_10 := n0_; have HO_46 := n1_; have HB := n2_; clear n0_ n1_ n2_)); obtain ⟨Ao50, co50, eo50⟩ := Kd.R_slice HO_10.out; subst eo50; have p226 : 0 ≤ ((ji45) : Int) := of_decide_eq_true (by first | (with_reducible assumption) | assumption); have q226 : (ji45) < (x10_4.length : Int) := of_decide_eq_true (by first | (with_reducible assumption) | assumption); obtain ⟨ad226, e226, hx226_0⟩ := Kd.at_int (Kd.R_reads' HO_10.out).2.2 (ji45) p226 q226; cases e226; replace p226 := eq_true p226; replace q226 := eq_true q226) | ((with_reducible refine gate_callee (f := 43) rfl ?_); refine goesL_ (some 86) rfl rfl Tryd.func43 (by kernel_rfl) rfl #[.int .i64 (wrap64 ((rd x10_4 (ji45)) + (rd x8_2 x48_3))), .int .i64 1000000000000001] rfl (by (try simp only [List.map_toArray, List.map_cons, List.map_nil]); first | done | (simp only [hji45]; rfl) | rfl | (simp only [List.length_drop, List.length_take]; rfl)) ?_; (with_reducible refine (spec_l1Least.calls (wrap64 ((rd x10_4 (ji45)) + (rd x8_2 x48_3))) 1000000000000001 t227 _ A48.out).mono ?_); rintro e w' ⟨rfl, ⟨nd, rfl⟩⟩; refine ⟨_, rfl, ?_⟩; (try (rw [drewN_self wc]; generalize hq_ : World.drewN wc _ = wc; have n0_ : Aside0 (Kd.R (Kd.int .i64) 3 wc w.heap.size (fun k_ => some k_ ≠ (.slice (some ad221) x8_2.length co23 : Value).ownBlock) (.slice (some ad226) x10_4.length co50) x10_4) := ⟨by rw [← hq_]; exact (by (with_reducible repeat (first | apply Kd.R_alloc | apply Kd.R_drewN | apply Kd.R_drew)); exact HO_10.out)⟩; have n1_ : Aside0 (Kd.R (Kd.int .i64) 3 wc w.heap.size (fun k_ => some k_ ≠ (.slice (some ad226) x10_4.length co50 : Value).ownBlock) (.slice (some ad221) x8_2.length co23) x8_2) := ⟨by rw [← hq_]; exact (by (with_reducible repeat (first | apply Kd.R_alloc | apply Kd.R_drewN | apply Kd.R_drew)); exact HO_46.out)⟩; have n2_ : Aside0 (Below w.heap.size w wc) := ⟨by rw [← hq_]; exact (by repeat (first | (with_reducible first | exact HB.out | apply below_alloc | apply pw_below_drewN | apply below_drew1) | exact HB.out))⟩; clear HO_10 HO_46 HB hq_; have HO_10 := n0_; have HO_46 := n1_; have HB := n2_; clear n0_ n1_ n2_)); have p49 : 0 ≤ ((ji45) : Int) := of_decide_eq_true (by first | (with_reducible assumption) | assumption); have q49 : ((ji45) : Int) < ((x10_4.length : Int) : Int) := of_decide_eq_true (by first | (with_reducible assumption) | assumption); obtain ⟨go49, co49, eo49, gb49, gl49, cl49, HG49⟩ := Kd.R_form HO_10.out (by omega); (first | cases eo49 | (injection eo49 with ea_ en_ ec_; (first | subst ea_ | (injection ea_ with ea_; subst ea_)); subst ec_; clear en_)); have GB49 := Aside0.mk gb49; have GG49 := Aside0.mk HG49; clear gb49 gl49 HG49; (first | simp only [add_plain] at hx226_0 | skip); obtain ⟨hx49_0, hf49_0⟩ := Kd.R_celln 0 HO_10.out ((ji45) : Int) p49 q49; replace p49 := eq_true p49; replace q49 := eq_true q49; obtain ⟨hy51_, hz51_⟩ := Kd.R_celln 0 HO_10.out ((ji45) : Int) (of_decide_eq_true (by first | (with_reducible assumption) | assumption)) (of_decide_eq_true (by first | (with_reducible assumption) | assumption)); have HP51 := Kd.R_putg HO_10.out ((ji45) : Int) t227) | ((with_reducible refine gate_store (t := 3) (p := 87) rfl ?_); refine store_event (t := 3) (p := 87) (v := ?vo_w52) (w1 := (wc.setCell ⟨go49, ((ji45) : Int).toNat, none⟩ (.int .i64 t227))) ?hg ?ho ?hn ?hr ?_; (case ho => rfl); (case hg => rfl); (case hn => rfl); (case hr => first | (go_simp; done) | (go_simp; rfl)); intro w52 hw; have hg : wc.grownBy w52 (some go49) := (by rw [hw]; exact HP51.2); have hp_ : Kd.R (Kd.int .i64) 3 w52 w.heap.size (fun k_ => some k_ ≠ (.slice (some ad221) x8_2.length co23 : Value).ownBlock) (.slice (some ⟨go49, 0, none⟩) x10_4.length co50) y228 := (by rw [hw, Ny228.out]; exact HP51.1); clear HP51; have n0_ := Aside0.mk (hp_); have n1_ := Aside0.mk (Kd.R_after (v := (.slice (some ⟨go49, 0, none⟩) x10_4.length co50)) (v1 := (.slice (some ⟨go49, 0, none⟩) x10_4.length co50)) (ok := (fun _ => True)) (by (with_reducible repeat (first | apply Kd.R_alloc | apply Kd.R_drewN | apply Kd.R_drew)); exact Kd.R_mono HO_46.out (fun _ hk => ⟨trivial, hk⟩)) hg (.inl rfl)); have n2_ := Aside0.mk ((by rw [hw]; exact below_set (HB.out) GB49.out : Below w.heap.size w w52)); clear HO_10; clear HO_46; clear HB; have HO_10 := n0_; have HO_46 := n1_; have HB := n2_; clear n0_ n1_ n2_; clear hg hw hp_))
                           go_roundg kj28
                           case measure => have := HJ3.out; have := HK2.out; have := HK3.out; have := HK4.out; have := HJ28.out; omega
                           case rel => exact ⟨(y228), (wrap64 (x13_4 + 1)), (by first | rfl | (simp; done) | (simp [*]; done)), H', ⟨by have := HJ3.out; have := HK2.out; have := HK3.out; have := HK4.out; have := HJ28.out; omega⟩, ⟨by (with_reducible repeat (first | apply Kd.R_alloc | apply Kd.R_drewN | apply Kd.R_drew)); exact HO_10.out⟩, ⟨by (with_reducible repeat (first | apply Kd.R_alloc | apply Kd.R_drewN | apply Kd.R_drew)); exact Kd.R_mono HO_46.out (fun _ hk => hk.2)⟩, ⟨by repeat (first | (with_reducible first | exact HB.out | apply below_alloc | apply pw_below_drewN | apply below_drew1) | exact HB.out)⟩⟩
                          ·
                           rw [if_neg c47] at H
                           exact absurd H (by simp)
                         ·
                          rw [if_neg c46] at H
                          exact absurd H (by simp)
                       ·
                        rw [if_neg c33] at H
                        exact absurd H (by simp)
                      ·
                       rw [if_neg c32] at H
                       exact absurd H (by simp)
                     ·
                      replace c31 := Bool.eq_false_iff.mpr c31
                      subst c31
                      have H1 : (spec_WaysToFace.l1 kj28 a0 a1 a2 x9_2 x10_4 x8_2 (x8_2.length : Int) (wrap64 (x48_3 + 1))) = some (r1, r2) := by rw [if_neg (show ¬ (false = true) by decide)] at H; exact H
                      clear H
                      have H := H1
                      clear H1
                      have H' := Aside0.mk H
                      clear H
                      go_wp2
                      go_roundg kj28
                      case measure => have := HJ3.out; have := HK2.out; have := HK3.out; have := HK4.out; have := HJ28.out; omega
                      case rel => exact ⟨(x10_4), (wrap64 (x48_3 + 1)), (by first | rfl | (simp; done) | (simp [*]; done)), H', ⟨by have := HJ3.out; have := HK2.out; have := HK3.out; have := HK4.out; have := HJ28.out; omega⟩, ⟨by (with_reducible repeat (first | apply Kd.R_alloc | apply Kd.R_drewN | apply Kd.R_drew)); exact HO_10.out⟩, ⟨by (with_reducible repeat (first | apply Kd.R_alloc | apply Kd.R_drewN | apply Kd.R_drew)); exact HO_46.out⟩, ⟨by repeat (first | (with_reducible first | exact HB.out | apply below_alloc | apply pw_below_drewN | apply below_drew1) | exact HB.out)⟩⟩
                ·
                 rw [if_neg c28] at H
                 exact absurd H (by simp)
               ·
                rw [if_neg c27] at H
                exact absurd H (by simp)
              ·
               rw [if_neg c26] at H
               have c26b0 : decide (x48_3 < (x8_2.length : Int)) = false := decide_eq_false c26
               clear c26
               have H' := Aside0.mk H
               clear H
               go_wp2
               go_roundg k3
               case measure => have := HJ3.out; have := HK2.out; have := HK3.out; omega
               case rel => exact ⟨(x10_3), (wrap64 (x9_2 + 1)), (by first | rfl | (simp; done) | (simp [*]; done)), H', ⟨by have := HJ3.out; have := HK2.out; have := HK3.out; omega⟩, ⟨by (with_reducible repeat (first | apply Kd.R_alloc | apply Kd.R_drewN | apply Kd.R_drew)); exact Kd.R_mono HO_10.out (fun _ hk => trivial)⟩, ⟨by repeat (first | (with_reducible first | exact HB.out | apply below_alloc | apply pw_below_drewN | apply below_drew1) | exact HB.out)⟩⟩
           ·
            rw [if_neg c22] at H
            exact absurd H (by simp)
          ·
           rw [if_neg c21] at H
           exact absurd H (by simp)
         ·
          rw [if_neg c20] at H
          have c20b0 : decide (x9_2 < (a0.size : Int)) = false := decide_eq_false c20
          clear c20
          by_cases c53 : a1 > (a0.size : Int)
          ·
           rw [if_pos c53] at H
           have c53b0 : decide ((a0.size : Int) < a1) = true := decide_eq_true c53
           clear c53
           simp only [Option.some.injEq, Prod.mk.injEq] at H
           obtain ⟨rfl, rfl⟩ := H
           go_wp2
           go_ret2
           exact ⟨by first | rfl | (simp [errW_none, errW_some] <;> rfl) | (simp only [← hji11]; first | rfl | (simp [errW_none, errW_some] <;> rfl)) | (simp [*, errW_none, errW_some] <;> rfl), by repeat (first | (with_reducible first | exact HB.out | apply below_alloc | apply pw_below_drewN | apply below_drew1) | exact HB.out)⟩
          ·
           rw [if_neg c53] at H
           have c53b0 : decide ((a0.size : Int) < a1) = false := decide_eq_false c53
           clear c53
           obtain ⟨ji54, hji54⟩ : ∃ j_ : Int, (wrap64 ((wrap64 (4 * a1)) + a2)) = j_ := ⟨_, rfl⟩
           replace H : (if 0 ≤ (ji54) then (if (ji54) < (x8_2.length : Int) then (if (rd x8_2 (ji54)) > 1000000000000000 then (some (0, false)) else (some (rd x8_2 (ji54), true))) else (none)) else (none)) = some (r1, r2) := by first | (rw [hji54] at H; exact H) | (simp only [hji54] at H ⊢; exact H)
           have hji54w : (IntKind.i64.wrap ((wrap64 (4 * a1)) + a2)) = ji54 := (i64_w _).trans hji54
           by_cases c55 : 0 ≤ (ji54)
           ·
            rw [if_pos c55] at H
            have c55b0 : decide (0 ≤ (ji54)) = true := decide_eq_true c55
            clear c55
            by_cases c56 : (ji54) < (x8_2.length : Int)
            ·
             rw [if_pos c56] at H
             have c56b0 : decide ((ji54) < (x8_2.length : Int)) = true := decide_eq_true c56
             clear c56
             by_cases c57 : (rd x8_2 (ji54)) > 1000000000000000
             ·
              rw [if_pos c57] at H
              have c57b0 : decide (1000000000000000 < (rd x8_2 (ji54))) = true := decide_eq_true c57
              clear c57
              simp only [Option.some.injEq, Prod.mk.injEq] at H
              obtain ⟨rfl, rfl⟩ := H
              obtain ⟨Ao58, co58, eo58⟩ := Kd.R_slice HO_8.out
              subst eo58
              have p229 : 0 ≤ ((ji54) : Int) := of_decide_eq_true (by first | (with_reducible assumption) | assumption)
              have q229 : (ji54) < (x8_2.length : Int) := of_decide_eq_true (by first | (with_reducible assumption) | assumption)
              obtain ⟨ad229, e229, hx229_0⟩ := Kd.at_int (Kd.R_reads' HO_8.out).2.2 (ji54) p229 q229
              cases e229
              replace p229 := eq_true p229
              replace q229 := eq_true q229
              go_wp2
              go_ret2
              exact ⟨by first | rfl | (simp [errW_none, errW_some] <;> rfl) | (simp only [← hji11, ← hji54]; first | rfl | (simp [errW_none, errW_some] <;> rfl)) | (simp [*, errW_none, errW_some] <;> rfl), by repeat (first | (with_reducible first | exact HB.out | apply below_alloc | apply pw_below_drewN | apply below_drew1) | exact HB.out)⟩
             ·
              rw [if_neg c57] at H
              have c57b0 : decide (1000000000000000 < (rd x8_2 (ji54))) = false := decide_eq_false c57
              clear c57
              simp only [Option.some.injEq, Prod.mk.injEq] at H
              obtain ⟨rfl, rfl⟩ := H
              obtain ⟨Ao59, co59, eo59⟩ := Kd.R_slice HO_8.out
              subst eo59
              have p229 : 0 ≤ ((ji54) : Int) := of_decide_eq_true (by first | (with_reducible assumption) | assumption)
              have q229 : (ji54) < (x8_2.length : Int) := of_decide_eq_true (by first | (with_reducible assumption) | assumption)
              obtain ⟨ad229, e229, hx229_0⟩ := Kd.at_int (Kd.R_reads' HO_8.out).2.2 (ji54) p229 q229
              cases e229
              replace p229 := eq_true p229
              replace q229 := eq_true q229
              go_wp2
              go_ret2
              exact ⟨by first | rfl | (simp [errW_none, errW_some] <;> rfl) | (simp only [← hji11, ← hji54]; first | rfl | (simp [errW_none, errW_some] <;> rfl)) | (simp [*, errW_none, errW_some] <;> rfl), by repeat (first | (with_reducible first | exact HB.out | apply below_alloc | apply pw_below_drewN | apply below_drew1) | exact HB.out)⟩
            ·
             rw [if_neg c56] at H
             exact absurd H (by simp)
           ·
            rw [if_neg c55] at H
            exact absurd H (by simp)
      ·
       rw [if_neg c14] at H
       exact absurd H (by simp)
     ·
      rw [if_neg c13] at H
      exact absurd H (by simp)
    ·
     rw [if_neg c12] at H
     exact absurd H (by simp)

/-! ### spec_AreMistakes: function 18 -/
def spec_AreMistakes.f (k : Nat) (a0 : Int) (a1 : ByteArray) (l2 : List (S34)) : Option (Bool) := (spec_drMistakes.f k a0 a1 l2).bind fun t230 => (some t230)
theorem spec_AreMistakes.mono : ∀ a0 a1 a2 k, LeO (spec_AreMistakes.f k a0 a1 a2) (spec_AreMistakes.f (k + 1) a0 a1 a2) := by
  intro a0 a1 a2 k
  unfold spec_AreMistakes.f
  repeat' first
      | (with_reducible exact spec_drMistakes.mono _ _ _ _)
      | (with_reducible exact LeO.refl _)
      | (with_reducible exact LeO.none _)
      | (with_reducible refine LeO.ite ?_ ?_)
      | (with_reducible refine LeO.bind ?_ (fun _ => ?_))
      | exact spec_drMistakes.mono _ _ _ _
      | exact LeO.none _
      | refine LeO.ite ?_ ?_
      | refine LeO.bind ?_ (fun _ => ?_)
set_option maxHeartbeats 8000000 in
set_option maxRecDepth 100000 in
theorem spec_AreMistakes.calls (k : Nat) (a0 : Int) (a1 : ByteArray) (A2 : Option Addr) (c2 : Nat) (l2 : List (S34)) (r : Bool) (w : World) (hr2 : Kd.C k34 w A2 l2.length l2) (hc2 : l2.length ≤ c2) (h : spec_AreMistakes.f k a0 a1 l2 = some r) :
  Calls Tryd.prog 18 #[.int .i64 a0, .string a1, .slice A2 l2.length c2] w fun e w' => e = .returned (.bool r) ∧ Below w.heap.size w w' := by
 have HR2 := Aside0.mk hr2
 have HC2 := Aside0.mk hc2
 clear hr2 hc2
 have HB := Aside0.mk (Below.refl w.heap.size w)
 have H : ((spec_drMistakes.f k a0 a1 l2).bind fun t230 => (some t230)) = some r := h
 clear h
 replace H := Option.bind_eq_some_iff.mp H
 obtain ⟨t230, A40, H⟩ := H
 replace H : (some t230) = some r := H
 have A4 := Aside0.mk A40
 clear A40
 obtain rfl := Option.some.inj H
 go_enter Tryd.func18, Tryd.ntmps18
 go_wp2_with (first | ((with_reducible refine gate_callee (f := 44) rfl ?_); refine goesL_ (some 10) rfl rfl Tryd.func44 (by kernel_rfl) rfl #[.int .i64 a0, .string a1, .slice A2 l2.length c2] rfl (by (try simp only [List.map_toArray, List.map_cons, List.map_nil]); first | done | rfl | (simp only [List.length_drop, List.length_take]; rfl)) ?_; (with_reducible refine (spec_drMistakes.calls k a0 a1 _ _ l2 t230 _ ?side1 ?side2 A4.out).mono ?_); (case side1 => repeat (first | exact HR2.out | (with_reducible refine Kd.C_alloc ?_ _) | (with_reducible refine Kd.C_drewN ?_ _) | (with_reducible refine Kd.C_drew ?_))); (case side2 => exact HC2.out); rintro e w5 ⟨rfl, hb⟩; refine ⟨_, rfl, ?_⟩; have n0_ := Aside0.mk (below_step (by repeat (first | (with_reducible first | exact HB.out | apply below_alloc | apply pw_below_drewN | apply below_drew1) | exact HB.out)) hb); clear HB; have HB := n0_; clear n0_; (try clear hb); (try clear hb2); (try clear hk); (try clear hi)))
 go_ret
 exact ⟨by first | rfl | (simp [errW_none, errW_some] <;> rfl) | (simp [*, errW_none, errW_some] <;> rfl), by repeat (first | (with_reducible first | exact HB.out | apply below_alloc | apply pw_below_drewN | apply below_drew1) | exact HB.out)⟩

/-! ### impl_NetTurn: function 19 -/
def impl_NetTurn.f (k : Nat) (a0 : ByteArray) : Option (Int × Bool) := (impl_areCommands.f a0).bind fun t231 => (if t231 = true then ((impl_netTurn.f k a0).bind fun t232 => (some (t232, true))) else (some (0, false)))
theorem impl_NetTurn.mono : ∀ a0 k, LeO (impl_NetTurn.f k a0) (impl_NetTurn.f (k + 1) a0) := by
  intro a0 k
  unfold impl_NetTurn.f
  repeat' first
      | (with_reducible exact impl_netTurn.mono _ _)
      | (with_reducible exact LeO.refl _)
      | (with_reducible exact LeO.none _)
      | (with_reducible refine LeO.ite ?_ ?_)
      | (with_reducible refine LeO.bind ?_ (fun _ => ?_))
      | exact impl_netTurn.mono _ _
      | exact LeO.none _
      | refine LeO.ite ?_ ?_
      | refine LeO.bind ?_ (fun _ => ?_)
set_option maxHeartbeats 8000000 in
set_option maxRecDepth 100000 in
theorem impl_NetTurn.calls (k : Nat) (a0 : ByteArray) (r1 : Int) (r2 : Bool) (w : World) (h : impl_NetTurn.f k a0 = some (r1, r2)) :
  Calls Tryd.prog 19 #[.string a0] w fun e w' => e = .returned (.tuple #[.int .i64 r1, .bool r2]) ∧ Below w.heap.size w w' := by
 have HB := Aside0.mk (Below.refl w.heap.size w)
 have H : ((impl_areCommands.f a0).bind fun t231 => (if t231 = true then ((impl_netTurn.f k a0).bind fun t232 => (some (t232, true))) else (some (0, false)))) = some (r1, r2) := h
 clear h
 replace H := Option.bind_eq_some_iff.mp H
 obtain ⟨t231, A20, H⟩ := H
 replace H : (if t231 = true then ((impl_netTurn.f k a0).bind fun t232 => (some (t232, true))) else (some (0, false))) = some (r1, r2) := H
 have A2 := Aside0.mk A20
 clear A20
 by_cases c3 : t231 = true
 ·
  subst c3
  have H1 : ((impl_netTurn.f k a0).bind fun t232 => (some (t232, true))) = some (r1, r2) := by rw [if_pos rfl] at H; exact H
  clear H
  have H := H1
  clear H1
  replace H := Option.bind_eq_some_iff.mp H
  obtain ⟨t232, A40, H⟩ := H
  replace H : (some (t232, true)) = some (r1, r2) := H
  have A4 := Aside0.mk A40
  clear A40
  simp only [Option.some.injEq, Prod.mk.injEq] at H
  obtain ⟨rfl, rfl⟩ := H
  go_enter Tryd.func19, Tryd.ntmps19
  go_wp2_with (first | ((with_reducible refine gate_callee (f := 32) rfl ?_); refine goesL_ (some 5) rfl rfl Tryd.func32 (by kernel_rfl) rfl #[.string a0] rfl (by (try simp only [List.map_toArray, List.map_cons, List.map_nil]); first | done | rfl | (simp only [List.length_drop, List.length_take]; rfl)) ?_; (with_reducible refine (impl_areCommands.calls a0 true _ A2.out).mono ?_); rintro e w5 ⟨rfl, hb⟩; refine ⟨_, rfl, ?_⟩; have n0_ := Aside0.mk (below_step (by repeat (first | (with_reducible first | exact HB.out | apply below_alloc | apply pw_below_drewN | apply below_drew1) | exact HB.out)) hb); clear HB; have HB := n0_; clear n0_; (try clear hb); (try clear hb2); (try clear hk); (try clear hi)) | ((with_reducible refine gate_callee (f := 33) rfl ?_); refine goesL_ (some 8) rfl rfl Tryd.func33 (by kernel_rfl) rfl #[.string a0] rfl (by (try simp only [List.map_toArray, List.map_cons, List.map_nil]); first | done | rfl | (simp only [List.length_drop, List.length_take]; rfl)) ?_; (with_reducible refine (impl_netTurn.calls k a0 t232 _ A4.out).mono ?_); rintro e w' ⟨rfl, ⟨nd, rfl⟩⟩; refine ⟨_, rfl, ?_⟩))
  go_ret2
  exact ⟨by first | rfl | (simp [errW_none, errW_some] <;> rfl) | (simp [*, errW_none, errW_some] <;> rfl), by repeat (first | (with_reducible first | exact HB.out | apply below_alloc | apply pw_below_drewN | apply below_drew1) | exact HB.out)⟩
 ·
  replace c3 := Bool.eq_false_iff.mpr c3
  subst c3
  have H1 : (some (0, false)) = some (r1, r2) := by rw [if_neg (show ¬ (false = true) by decide)] at H; exact H
  clear H
  have H := H1
  clear H1
  simp only [Option.some.injEq, Prod.mk.injEq] at H
  obtain ⟨rfl, rfl⟩ := H
  go_enter Tryd.func19, Tryd.ntmps19
  go_wp2_with (first | ((with_reducible refine gate_callee (f := 32) rfl ?_); refine goesL_ (some 5) rfl rfl Tryd.func32 (by kernel_rfl) rfl #[.string a0] rfl (by (try simp only [List.map_toArray, List.map_cons, List.map_nil]); first | done | rfl | (simp only [List.length_drop, List.length_take]; rfl)) ?_; (with_reducible refine (impl_areCommands.calls a0 false _ A2.out).mono ?_); rintro e w6 ⟨rfl, hb⟩; refine ⟨_, rfl, ?_⟩; have n0_ := Aside0.mk (below_step (by repeat (first | (with_reducible first | exact HB.out | apply below_alloc | apply pw_below_drewN | apply below_drew1) | exact HB.out)) hb); clear HB; have HB := n0_; clear n0_; (try clear hb); (try clear hb2); (try clear hk); (try clear hi)))
  go_ret2
  exact ⟨by first | rfl | (simp [errW_none, errW_some] <;> rfl) | (simp [*, errW_none, errW_some] <;> rfl), by repeat (first | (with_reducible first | exact HB.out | apply below_alloc | apply pw_below_drewN | apply below_drew1) | exact HB.out)⟩

end Go.Proofs.YtgdmbhldabeelaaRDoor.PFnDrillsMistaken
