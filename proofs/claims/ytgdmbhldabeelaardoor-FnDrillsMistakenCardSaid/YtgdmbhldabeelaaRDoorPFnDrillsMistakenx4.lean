-- Written by a program of this session's (pg.py) over the kit's print.
import Derived.Test.YtgdmbhldabeelaaRDoorPFnDrillsMistakenx0
import Derived.Test.YtgdmbhldabeelaaRDoorPFnDrillsMistakenx3
namespace Go.Proofs.YtgdmbhldabeelaaRDoor.PFnDrillsMistaken
open Go.RowKit Go.Proofs.YtgdmbhldabeelaaRDoorW.PrintWords Go.Proofs.YtgdmbhldabeelaaRDoorW.PrintLast Go.Proofs.YtgdmbhldabeelaaRDoorW.PrintMore
attribute [local go_sem] max2_int min2_int max_two min_two max_three min_three max_four min_four   -- for this text's walks alone
set_option linter.unusedVariables false
set_option linter.unusedSimpArgs false

/-! ### spec_drMistakes: function 44 -/
mutual
def spec_drMistakes.j0 : Nat → Int → ByteArray → List (S34) → Bool → Option (Bool)
  | 0, _, _, _, _ => none
  | k + 1, x0, x1, x2, x23 => if x23 = true then (some false) else (spec_drMistakes.l0 k x0 x1 x2 x2 (x2.length : Int) 0)
def spec_drMistakes.l0 : Nat → Int → ByteArray → List (S34) → List (S34) → Int → Int → Option (Bool)
  | 0, _, _, _, _, _, _ => none
  | k + 1, x0, x1, x2, x24, x25, x26 => if x26 < x25 then (if 0 ≤ x26 then (if x26 < (x24.length : Int) then ((spec_l1In.f ((rd_T34 x24 x26).f0) 0 (wrap64 (x0 - 1))).bind fun t134 => (if t134 = true then ((spec_l1In.f ((rd_T34 x24 x26).f1) 0 (wrap64 ((x1.size : Int) - 1))).bind fun t135 => (if t135 = true then (spec_drMistakes.j2 k x0 x1 x2 x26 x24 x25 x26 ((((rd_T34 x24 x26).f2).size : Int) != 1) ((rd_T34 x24 x26).f0) ((rd_T34 x24 x26).f1) ((rd_T34 x24 x26).f2)) else (spec_drMistakes.j2 k x0 x1 x2 x26 x24 x25 x26 true ((rd_T34 x24 x26).f0) ((rd_T34 x24 x26).f1) ((rd_T34 x24 x26).f2)))) else (spec_drMistakes.j2 k x0 x1 x2 x26 x24 x25 x26 true ((rd_T34 x24 x26).f0) ((rd_T34 x24 x26).f1) ((rd_T34 x24 x26).f2)))) else (none)) else (none)) else (some true)
def spec_drMistakes.j2 : Nat → Int → ByteArray → List (S34) → Int → List (S34) → Int → Int → Bool → Int → Int → ByteArray → Option (Bool)
  | 0, _, _, _, _, _, _, _, _, _, _, _ => none
  | k + 1, x0, x1, x2, x7, x24, x25, x26, x51, x134000, x134001, x134002 => if x51 = true then (some false) else (if 0 < (x134002.size : Int) then ((spec_drTurn.f (bt x134002 0)).bind fun t136 => (if t136 < 0 then (spec_drMistakes.j3 k x0 x1 x2 x7 x24 x25 x26 true x134000 x134001 x134002) else (if 0 ≤ x134001 then (if x134001 < (x1.size : Int) then (spec_drMistakes.j3 k x0 x1 x2 x7 x24 x25 x26 ((bt x134002 0) == (bt x1 x134001)) x134000 x134001 x134002) else (none)) else (none)))) else (none))
def spec_drMistakes.j3 : Nat → Int → ByteArray → List (S34) → Int → List (S34) → Int → Int → Bool → Int → Int → ByteArray → Option (Bool)
  | 0, _, _, _, _, _, _, _, _, _, _, _ => none
  | k + 1, x0, x1, x2, x7, x24, x25, x26, x66, x134000, x134001, x134002 => if x66 = true then (some false) else (if 0 ≤ x7 then (if x7 ≤ (x2.length : Int) then ((some (x2.take (x7 : Int).toNat : List (S34))).bind fun y137 => (spec_drMistakes.l1 k x0 x1 x2 x24 x25 x26 y137 (y137.length : Int) 0 x134000 x134001 x134002)) else (none)) else (none))
def spec_drMistakes.l1 : Nat → Int → ByteArray → List (S34) → List (S34) → Int → Int → List (S34) → Int → Int → Int → Int → ByteArray → Option (Bool)
  | 0, _, _, _, _, _, _, _, _, _, _, _, _ => none
  | k + 1, x0, x1, x2, x24, x25, x26, x69, x70, x71, x134000, x134001, x134002 => if x71 < x70 then (if 0 ≤ x71 then (if x71 < (x69.length : Int) then (if ((rd_T34 x69 x71).f0) = x134000 then (if ((rd_T34 x69 x71).f1) = x134001 then (some false) else (spec_drMistakes.l1 k x0 x1 x2 x24 x25 x26 x69 x70 (wrap64 (x71 + 1)) x134000 x134001 x134002)) else (spec_drMistakes.l1 k x0 x1 x2 x24 x25 x26 x69 x70 (wrap64 (x71 + 1)) x134000 x134001 x134002)) else (none)) else (none)) else (spec_drMistakes.l0 k x0 x1 x2 x24 x25 (wrap64 (x26 + 1)))
end
def spec_drMistakes.f (k : Nat) (a0 : Int) (a1 : ByteArray) (l2 : List (S34)) : Option (Bool) := (spec_l1In.f a0 1 30).bind fun t130 => (if t130 = true then ((spec_drWord.f k a1).bind fun t131 => (if t131 = true then (spec_drMistakes.j0 k a0 a1 l2 (decide ((l2.length : Int) > 20))) else (spec_drMistakes.j0 k a0 a1 l2 true))) else (spec_drMistakes.j0 k a0 a1 l2 true))
theorem spec_drMistakes.mono_l : ∀ k, (∀ y0 y1 y2 y3, LeO (spec_drMistakes.j0 k y0 y1 y2 y3) (spec_drMistakes.j0 (k + 1) y0 y1 y2 y3)) ∧ (∀ y0 y1 y2 y3 y4 y5, LeO (spec_drMistakes.l0 k y0 y1 y2 y3 y4 y5) (spec_drMistakes.l0 (k + 1) y0 y1 y2 y3 y4 y5)) ∧ (∀ y0 y1 y2 y3 y4 y5 y6 y7 y8 y9 y10, LeO (spec_drMistakes.j2 k y0 y1 y2 y3 y4 y5 y6 y7 y8 y9 y10) (spec_drMistakes.j2 (k + 1) y0 y1 y2 y3 y4 y5 y6 y7 y8 y9 y10)) ∧ (∀ y0 y1 y2 y3 y4 y5 y6 y7 y8 y9 y10, LeO (spec_drMistakes.j3 k y0 y1 y2 y3 y4 y5 y6 y7 y8 y9 y10) (spec_drMistakes.j3 (k + 1) y0 y1 y2 y3 y4 y5 y6 y7 y8 y9 y10)) ∧ (∀ y0 y1 y2 y3 y4 y5 y6 y7 y8 y9 y10 y11, LeO (spec_drMistakes.l1 k y0 y1 y2 y3 y4 y5 y6 y7 y8 y9 y10 y11) (spec_drMistakes.l1 (k + 1) y0 y1 y2 y3 y4 y5 y6 y7 y8 y9 y10 y11))
  | 0 => ⟨fun _ _ _ _ r h => by simp [spec_drMistakes.j0] at h, fun _ _ _ _ _ _ r h => by simp [spec_drMistakes.l0] at h, fun _ _ _ _ _ _ _ _ _ _ _ r h => by simp [spec_drMistakes.j2] at h, fun _ _ _ _ _ _ _ _ _ _ _ r h => by simp [spec_drMistakes.j3] at h, fun _ _ _ _ _ _ _ _ _ _ _ _ r h => by simp [spec_drMistakes.l1] at h⟩
  | k + 1 => by
    obtain ⟨ih0, ih1, ih2, ih3, ih4⟩ := spec_drMistakes.mono_l k
    refine ⟨?_, ?_, ?_, ?_, ?_⟩
    · intro y0 y1 y2 y3
      unfold spec_drMistakes.j0
      repeat' first
      | (with_reducible exact ih0 _ _ _ _)
      | (with_reducible exact ih1 _ _ _ _ _ _)
      | (with_reducible exact ih2 _ _ _ _ _ _ _ _ _ _ _)
      | (with_reducible exact ih3 _ _ _ _ _ _ _ _ _ _ _)
      | (with_reducible exact ih4 _ _ _ _ _ _ _ _ _ _ _ _)
      | (with_reducible exact spec_drWord.mono _ _)
      | (with_reducible exact LeO.refl _)
      | (with_reducible exact LeO.none _)
      | (with_reducible refine LeO.ite ?_ ?_)
      | (with_reducible refine LeO.bind ?_ (fun _ => ?_))
      | exact ih0 _ _ _ _
      | exact ih1 _ _ _ _ _ _
      | exact ih2 _ _ _ _ _ _ _ _ _ _ _
      | exact ih3 _ _ _ _ _ _ _ _ _ _ _
      | exact ih4 _ _ _ _ _ _ _ _ _ _ _ _
      | exact spec_drWord.mono _ _
      | exact LeO.none _
      | refine LeO.ite ?_ ?_
      | refine LeO.bind ?_ (fun _ => ?_)
    · intro y0 y1 y2 y3 y4 y5
      unfold spec_drMistakes.l0
      repeat' first
      | (with_reducible exact ih0 _ _ _ _)
      | (with_reducible exact ih1 _ _ _ _ _ _)
      | (with_reducible exact ih2 _ _ _ _ _ _ _ _ _ _ _)
      | (with_reducible exact ih3 _ _ _ _ _ _ _ _ _ _ _)
      | (with_reducible exact ih4 _ _ _ _ _ _ _ _ _ _ _ _)
      | (with_reducible exact spec_drWord.mono _ _)
      | (with_reducible exact LeO.refl _)
      | (with_reducible exact LeO.none _)
      | (with_reducible refine LeO.ite ?_ ?_)
      | (with_reducible refine LeO.bind ?_ (fun _ => ?_))
      | exact ih0 _ _ _ _
      | exact ih1 _ _ _ _ _ _
      | exact ih2 _ _ _ _ _ _ _ _ _ _ _
      | exact ih3 _ _ _ _ _ _ _ _ _ _ _
      | exact ih4 _ _ _ _ _ _ _ _ _ _ _ _
      | exact spec_drWord.mono _ _
      | exact LeO.none _
      | refine LeO.ite ?_ ?_
      | refine LeO.bind ?_ (fun _ => ?_)
    · intro y0 y1 y2 y3 y4 y5 y6 y7 y8 y9 y10
      unfold spec_drMistakes.j2
      repeat' first
      | (with_reducible exact ih0 _ _ _ _)
      | (with_reducible exact ih1 _ _ _ _ _ _)
      | (with_reducible exact ih2 _ _ _ _ _ _ _ _ _ _ _)
      | (with_reducible exact ih3 _ _ _ _ _ _ _ _ _ _ _)
      | (with_reducible exact ih4 _ _ _ _ _ _ _ _ _ _ _ _)
      | (with_reducible exact spec_drWord.mono _ _)
      | (with_reducible exact LeO.refl _)
      | (with_reducible exact LeO.none _)
      | (with_reducible refine LeO.ite ?_ ?_)
      | (with_reducible refine LeO.bind ?_ (fun _ => ?_))
      | exact ih0 _ _ _ _
      | exact ih1 _ _ _ _ _ _
      | exact ih2 _ _ _ _ _ _ _ _ _ _ _
      | exact ih3 _ _ _ _ _ _ _ _ _ _ _
      | exact ih4 _ _ _ _ _ _ _ _ _ _ _ _
      | exact spec_drWord.mono _ _
      | exact LeO.none _
      | refine LeO.ite ?_ ?_
      | refine LeO.bind ?_ (fun _ => ?_)
    · intro y0 y1 y2 y3 y4 y5 y6 y7 y8 y9 y10
      unfold spec_drMistakes.j3
      repeat' first
      | (with_reducible exact ih0 _ _ _ _)
      | (with_reducible exact ih1 _ _ _ _ _ _)
      | (with_reducible exact ih2 _ _ _ _ _ _ _ _ _ _ _)
      | (with_reducible exact ih3 _ _ _ _ _ _ _ _ _ _ _)
      | (with_reducible exact ih4 _ _ _ _ _ _ _ _ _ _ _ _)
      | (with_reducible exact spec_drWord.mono _ _)
      | (with_reducible exact LeO.refl _)
      | (with_reducible exact LeO.none _)
      | (with_reducible refine LeO.ite ?_ ?_)
      | (with_reducible refine LeO.bind ?_ (fun _ => ?_))
      | exact ih0 _ _ _ _
      | exact ih1 _ _ _ _ _ _
      | exact ih2 _ _ _ _ _ _ _ _ _ _ _
      | exact ih3 _ _ _ _ _ _ _ _ _ _ _
      | exact ih4 _ _ _ _ _ _ _ _ _ _ _ _
      | exact spec_drWord.mono _ _
      | exact LeO.none _
      | refine LeO.ite ?_ ?_
      | refine LeO.bind ?_ (fun _ => ?_)
    · intro y0 y1 y2 y3 y4 y5 y6 y7 y8 y9 y10 y11
      unfold spec_drMistakes.l1
      repeat' first
      | (with_reducible exact ih0 _ _ _ _)
      | (with_reducible exact ih1 _ _ _ _ _ _)
      | (with_reducible exact ih2 _ _ _ _ _ _ _ _ _ _ _)
      | (with_reducible exact ih3 _ _ _ _ _ _ _ _ _ _ _)
      | (with_reducible exact ih4 _ _ _ _ _ _ _ _ _ _ _ _)
      | (with_reducible exact spec_drWord.mono _ _)
      | (with_reducible exact LeO.refl _)
      | (with_reducible exact LeO.none _)
      | (with_reducible refine LeO.ite ?_ ?_)
      | (with_reducible refine LeO.bind ?_ (fun _ => ?_))
      | exact ih0 _ _ _ _
      | exact ih1 _ _ _ _ _ _
      | exact ih2 _ _ _ _ _ _ _ _ _ _ _
      | exact ih3 _ _ _ _ _ _ _ _ _ _ _
      | exact ih4 _ _ _ _ _ _ _ _ _ _ _ _
      | exact spec_drWord.mono _ _
      | exact LeO.none _
      | refine LeO.ite ?_ ?_
      | refine LeO.bind ?_ (fun _ => ?_)
theorem spec_drMistakes.mono : ∀ a0 a1 a2 k, LeO (spec_drMistakes.f k a0 a1 a2) (spec_drMistakes.f (k + 1) a0 a1 a2) := by
  intro a0 a1 a2 k
  obtain ⟨ih0, ih1, ih2, ih3, ih4⟩ := spec_drMistakes.mono_l k
  unfold spec_drMistakes.f
  repeat' first
      | (with_reducible exact ih0 _ _ _ _)
      | (with_reducible exact ih1 _ _ _ _ _ _)
      | (with_reducible exact ih2 _ _ _ _ _ _ _ _ _ _ _)
      | (with_reducible exact ih3 _ _ _ _ _ _ _ _ _ _ _)
      | (with_reducible exact ih4 _ _ _ _ _ _ _ _ _ _ _ _)
      | (with_reducible exact spec_drWord.mono _ _)
      | (with_reducible exact LeO.refl _)
      | (with_reducible exact LeO.none _)
      | (with_reducible refine LeO.ite ?_ ?_)
      | (with_reducible refine LeO.bind ?_ (fun _ => ?_))
      | exact ih0 _ _ _ _
      | exact ih1 _ _ _ _ _ _
      | exact ih2 _ _ _ _ _ _ _ _ _ _ _
      | exact ih3 _ _ _ _ _ _ _ _ _ _ _
      | exact ih4 _ _ _ _ _ _ _ _ _ _ _ _
      | exact spec_drWord.mono _ _
      | exact LeO.none _
      | refine LeO.ite ?_ ?_
      | refine LeO.bind ?_ (fun _ => ?_)
set_option maxHeartbeats 8000000 in
set_option maxRecDepth 100000 in
theorem spec_drMistakes.calls (k : Nat) (a0 : Int) (a1 : ByteArray) (A2 : Option Addr) (c2 : Nat) (l2 : List (S34)) (r : Bool) (w : World) (hr2 : Kd.C k34 w A2 l2.length l2) (hc2 : l2.length ≤ c2) (h : spec_drMistakes.f k a0 a1 l2 = some r) :
  Calls Tryd.prog 44 #[.int .i64 a0, .string a1, .slice A2 l2.length c2] w fun e w' => e = .returned (.bool r) ∧ Below w.heap.size w w' := by
 have hu34 := Tryd.underlying34
 have HR2 := Aside0.mk hr2
 have HC2 := Aside0.mk hc2
 clear hr2 hc2
 have HB := Aside0.mk (Below.refl w.heap.size w)
 have H : ((spec_l1In.f a0 1 30).bind fun t130 => (if t130 = true then ((spec_drWord.f k a1).bind fun t131 => (if t131 = true then (spec_drMistakes.j0 k a0 a1 l2 (decide ((l2.length : Int) > 20))) else (spec_drMistakes.j0 k a0 a1 l2 true))) else (spec_drMistakes.j0 k a0 a1 l2 true))) = some r := h
 clear h
 have HC4 := Aside0.mk H
 clear H
 go_enter Tryd.func44, Tryd.ntmps44
 go_upto_region 1 with (fail)
 repeat (go_quiet (fail); go_upto_region 1 with (fail))
 go_cut [23] (fun v23 wc => ∃ (kq : Nat) (x23_3 : Bool), v23 = .bool x23_3 ∧ Aside0 (spec_drMistakes.j0 kq a0 a1 l2 x23_3 = some r) ∧ Aside0 (kq ≤ k) ∧ Aside0 (Below w.heap.size w wc))
 case first =>
  have H := HC4.out
  clear HC4
  replace H := Option.bind_eq_some_iff.mp H
  obtain ⟨t130, A50, H⟩ := H
  replace H : (if t130 = true then ((spec_drWord.f k a1).bind fun t131 => (if t131 = true then (spec_drMistakes.j0 k a0 a1 l2 (decide ((l2.length : Int) > 20))) else (spec_drMistakes.j0 k a0 a1 l2 true))) else (spec_drMistakes.j0 k a0 a1 l2 true)) = some r := H
  have A5 := Aside0.mk A50
  clear A50
  by_cases c6 : t130 = true
  ·
   subst c6
   have H1 : ((spec_drWord.f k a1).bind fun t131 => (if t131 = true then (spec_drMistakes.j0 k a0 a1 l2 (decide ((l2.length : Int) > 20))) else (spec_drMistakes.j0 k a0 a1 l2 true))) = some r := by rw [if_pos rfl] at H; exact H
   clear H
   have H := H1
   clear H1
   replace H := Option.bind_eq_some_iff.mp H
   obtain ⟨t131, A70, H⟩ := H
   replace H : (if t131 = true then (spec_drMistakes.j0 k a0 a1 l2 (decide ((l2.length : Int) > 20))) else (spec_drMistakes.j0 k a0 a1 l2 true)) = some r := H
   have A7 := Aside0.mk A70
   clear A70
   by_cases c8 : t131 = true
   ·
    subst c8
    have H1 : (spec_drMistakes.j0 k a0 a1 l2 (decide ((l2.length : Int) > 20))) = some r := by rw [if_pos rfl] at H; exact H
    clear H
    have H := H1
    clear H1
    have H' := Aside0.mk H
    clear H
    go_wp2_with (first | (go_at_call 41; (with_reducible refine (spec_l1In.calls a0 1 30 true _ A5.out).mono ?_); rintro e w' ⟨rfl, ⟨nd, rfl⟩⟩; (try first | exact ⟨rfl, _, World.drewN_drewN _ _ _⟩ | exact ⟨rfl, _, Eq.trans (World.drewN_drewN _ _ _) (congrArg (World.drewN _) (Nat.add_assoc _ _ _))⟩)) | (go_at_call 40; (with_reducible refine (spec_drWord.calls k a1 true _ A7.out).mono ?_); rintro e w' ⟨rfl, ⟨nd, rfl⟩⟩; (try first | exact ⟨rfl, _, World.drewN_drewN _ _ _⟩ | exact ⟨rfl, _, Eq.trans (World.drewN_drewN _ _ _) (congrArg (World.drewN _) (Nat.add_assoc _ _ _))⟩)))
    repeat (go_quiet (fail); try go_wp2_with (fail))
    go_meet
    case rel => exact ⟨_, (decide ((l2.length : Int) > 20)), (by first | rfl | (simp; done) | (simp [*]; done)), H', ⟨by first | omega | exact Nat.le_refl _⟩, ⟨by repeat (first | (with_reducible first | exact HB.out | apply below_alloc | apply pw_below_drewN | apply below_drew1) | exact HB.out)⟩⟩
   ·
    replace c8 := Bool.eq_false_iff.mpr c8
    subst c8
    have H1 : (spec_drMistakes.j0 k a0 a1 l2 true) = some r := by rw [if_neg (show ¬ (false = true) by decide)] at H; exact H
    clear H
    have H := H1
    clear H1
    have H' := Aside0.mk H
    clear H
    go_wp2_with (first | (go_at_call 41; (with_reducible refine (spec_l1In.calls a0 1 30 true _ A5.out).mono ?_); rintro e w' ⟨rfl, ⟨nd, rfl⟩⟩; (try first | exact ⟨rfl, _, World.drewN_drewN _ _ _⟩ | exact ⟨rfl, _, Eq.trans (World.drewN_drewN _ _ _) (congrArg (World.drewN _) (Nat.add_assoc _ _ _))⟩)) | (go_at_call 40; (with_reducible refine (spec_drWord.calls k a1 false _ A7.out).mono ?_); rintro e w' ⟨rfl, ⟨nd, rfl⟩⟩; (try first | exact ⟨rfl, _, World.drewN_drewN _ _ _⟩ | exact ⟨rfl, _, Eq.trans (World.drewN_drewN _ _ _) (congrArg (World.drewN _) (Nat.add_assoc _ _ _))⟩)))
    repeat (go_quiet (fail); try go_wp2_with (fail))
    go_meet
    case rel => exact ⟨_, (true), (by first | rfl | (simp; done) | (simp [*]; done)), H', ⟨by first | omega | exact Nat.le_refl _⟩, ⟨by repeat (first | (with_reducible first | exact HB.out | apply below_alloc | apply pw_below_drewN | apply below_drew1) | exact HB.out)⟩⟩
  ·
   replace c6 := Bool.eq_false_iff.mpr c6
   subst c6
   have H1 : (spec_drMistakes.j0 k a0 a1 l2 true) = some r := by rw [if_neg (show ¬ (false = true) by decide)] at H; exact H
   clear H
   have H := H1
   clear H1
   have H' := Aside0.mk H
   clear H
   go_wp2_with (first | (go_at_call 41; (with_reducible refine (spec_l1In.calls a0 1 30 false _ A5.out).mono ?_); rintro e w' ⟨rfl, ⟨nd, rfl⟩⟩; (try first | exact ⟨rfl, _, World.drewN_drewN _ _ _⟩ | exact ⟨rfl, _, Eq.trans (World.drewN_drewN _ _ _) (congrArg (World.drewN _) (Nat.add_assoc _ _ _))⟩)))
   repeat (go_quiet (fail); try go_wp2_with (fail))
   go_meet
   case rel => exact ⟨_, (true), (by first | rfl | (simp; done) | (simp [*]; done)), H', ⟨by first | omega | exact Nat.le_refl _⟩, ⟨by repeat (first | (with_reducible first | exact HB.out | apply below_alloc | apply pw_below_drewN | apply below_drew1) | exact HB.out)⟩⟩
 case rest =>
  clear HC4
  try clear c2
  obtain ⟨kq, x23_3, rfl, HA, HJ3, HB⟩ := hcut
  cases kq with
  | zero => exact absurd HA.out (by simp [spec_drMistakes.j0])
  | succ kj3 =>
   have H := HA.out
   clear HA
   simp only [spec_drMistakes.j0] at H
   by_cases c9 : x23_3 = true
   ·
    subst c9
    have H1 : (some false) = some r := by rw [if_pos rfl] at H; exact H
    clear H
    have H := H1
    clear H1
    obtain rfl := Option.some.inj H
    go_wp2
    repeat (go_quiet (fail); try go_wp2)
    go_ret
    exact ⟨by first | rfl | (simp [errW_none, errW_some] <;> rfl) | (simp [*, errW_none, errW_some] <;> rfl), by repeat (first | (with_reducible first | exact HB.out | apply below_alloc | apply pw_below_drewN | apply below_drew1) | exact HB.out)⟩
   ·
    replace c9 := Bool.eq_false_iff.mpr c9
    subst c9
    have H1 : (spec_drMistakes.l0 kj3 a0 a1 l2 l2 (l2.length : Int) 0) = some r := by rw [if_neg (show ¬ (false = true) by decide)] at H; exact H
    clear H
    have H := H1
    clear H1
    have H' := Aside0.mk H
    clear H
    go_wp2
    repeat (go_quiet (fail); try go_wp2)
    go_loopg [26] kj3 (fun kq v26 w' => ∃ (x26_2 : Int), v26 = .int .i64 x26_2 ∧ Aside0 (spec_drMistakes.l0 kq a0 a1 l2 l2 (l2.length : Int) x26_2 = some r) ∧ Aside0 (kq ≤ kj3) ∧ Aside0 (Below w.heap.size w w'))
    case atStart => exact ⟨(0), (by first | rfl | (simp; done) | (simp [*]; done)), H', ⟨Nat.le_refl _⟩, ⟨by repeat (first | (with_reducible first | exact HB.out | apply below_alloc | apply pw_below_drewN | apply below_drew1) | exact HB.out)⟩⟩
    case round =>
     clear H'
     try clear c2
     try clear c9
     obtain ⟨x26_2, rfl, HA, HK2, HB⟩ := hrel
     cases gk with
     | zero => exact absurd HA.out (by simp [spec_drMistakes.l0])
     | succ k2 =>
      have H := HA.out
      clear HA
      simp only [spec_drMistakes.l0] at H
      by_cases c10 : x26_2 < (l2.length : Int)
      ·
       rw [if_pos c10] at H
       have c10b0 : decide (x26_2 < (l2.length : Int)) = true := decide_eq_true c10
       clear c10
       by_cases c11 : 0 ≤ x26_2
       ·
        rw [if_pos c11] at H
        have c11b0 : decide (0 ≤ x26_2) = true := decide_eq_true c11
        clear c11
        by_cases c12 : x26_2 < (l2.length : Int)
        ·
         rw [if_pos c12] at H
         have c12b0 : decide (x26_2 < (l2.length : Int)) = true := decide_eq_true c12
         clear c12
         have HC13 := Aside0.mk H
         clear H
         have p132 : 0 ≤ (x26_2 : Int) := of_decide_eq_true (by first | (with_reducible assumption) | assumption)
         have q132 : x26_2 < (l2.length : Int) := of_decide_eq_true (by first | (with_reducible assumption) | assumption)
         obtain ⟨ad132, e132, hx132_0, hx132_1, hx132_2⟩ := at_T34 HR2.out x26_2 p132 q132
         cases e132
         replace hx132_0 := (HB.out.cell (World.block_lt_of_cell? w _ hx132_0)).trans hx132_0
         replace hx132_1 := (HB.out.cell (World.block_lt_of_cell? w _ hx132_1)).trans hx132_1
         replace hx132_2 := (HB.out.cell (World.block_lt_of_cell? w _ hx132_2)).trans hx132_2
         replace p132 := eq_true p132
         replace q132 := eq_true q132
         go_upto_region 6 with (first | ((with_reducible refine gate_dst (N := 8) rfl ?_); (try (refine gate_guard (by rfl) ?_; dsimp only)); refine box_event ?hg (N := 8) ?hd (cs := #[.int .i64 0, .int .i64 0, .string (⟨#[]⟩ : ByteArray)]) (t := 34) ?hr ?_; (case hd => rfl); (case hg => rfl); (case hr => first | (go_simp; done) | (go_simp; rfl)); intro gb133 hg w14 hbox hb; have n0_ := Aside0.mk (below_step (by repeat (first | (with_reducible first | exact HB.out | apply below_alloc | apply pw_below_drewN | apply below_drew1) | exact HB.out)) hb); have n1_ := Aside0.mk (hbox); have n2_ := Aside0.mk ((by rw [hg]; exact (below_size (by repeat (first | (with_reducible first | exact HB.out | apply below_alloc | apply pw_below_drewN | apply below_drew1) | exact HB.out))) : w.heap.size ≤ gb133)); have n3_ := Aside0.mk ((by rw [hg]; exact (below_size (by repeat (first | (with_reducible first | exact HB.out | apply below_alloc | apply pw_below_drewN | apply below_drew1) | exact HB.out))) : w.heap.size ≤ gb133)); clear HB; have HB := n0_; have BK133 := n1_; have GW133 := n2_; have GE133 := n3_; clear n0_ n1_ n2_ n3_; clear hb hbox hg; have hcz15_0 : w14.cell? ⟨gb133, 0, none⟩ = some (.int .i64 0) := (blk_cell BK133.out 0).trans rfl; have hcz15_1 : w14.cell? ⟨gb133, 1, none⟩ = some (.int .i64 0) := (blk_cell BK133.out 1).trans rfl; have hcz15_2 : w14.cell? ⟨gb133, 2, none⟩ = some (.string (⟨#[]⟩ : ByteArray)) := (blk_cell BK133.out 2).trans rfl; have hfz15_0 := blk_frozen BK133.out 0; have hfz15_1 := blk_frozen BK133.out 1; have hfz15_2 := blk_frozen BK133.out 2))
         repeat (go_quiet (fail); go_upto_region 6 with (fail))
         (try simp only [Act.put, List.setIfInBounds_toArray, List.set_cons_zero, List.set_cons_succ])
         go_cut [51] (fun v51 wc => ∃ (kq : Nat) (x51_12 : Bool), v51 = .bool x51_12 ∧ Aside0 (spec_drMistakes.j2 kq a0 a1 l2 x26_2 l2 (l2.length : Int) x26_2 x51_12 ((rd_T34 l2 x26_2).f0) ((rd_T34 l2 x26_2).f1) ((rd_T34 l2 x26_2).f2) = some r) ∧ Aside0 (kq ≤ k2) ∧ Aside0 (wc.heap[gb133]? = some (.cells #[.int .i64 ((rd_T34 l2 x26_2).f0), .int .i64 ((rd_T34 l2 x26_2).f1), .string ((rd_T34 l2 x26_2).f2)] 34 (0, 0))) ∧ Aside0 (Below w.heap.size w wc))
         case first =>
          have H := HC13.out
          clear HC13
          replace H := Option.bind_eq_some_iff.mp H
          obtain ⟨t134, A160, H⟩ := H
          replace H : (if t134 = true then ((spec_l1In.f ((rd_T34 l2 x26_2).f1) 0 (wrap64 ((a1.size : Int) - 1))).bind fun t135 => (if t135 = true then (spec_drMistakes.j2 k2 a0 a1 l2 x26_2 l2 (l2.length : Int) x26_2 ((((rd_T34 l2 x26_2).f2).size : Int) != 1) ((rd_T34 l2 x26_2).f0) ((rd_T34 l2 x26_2).f1) ((rd_T34 l2 x26_2).f2)) else (spec_drMistakes.j2 k2 a0 a1 l2 x26_2 l2 (l2.length : Int) x26_2 true ((rd_T34 l2 x26_2).f0) ((rd_T34 l2 x26_2).f1) ((rd_T34 l2 x26_2).f2)))) else (spec_drMistakes.j2 k2 a0 a1 l2 x26_2 l2 (l2.length : Int) x26_2 true ((rd_T34 l2 x26_2).f0) ((rd_T34 l2 x26_2).f1) ((rd_T34 l2 x26_2).f2))) = some r := H
          have A16 := Aside0.mk A160
          clear A160
          by_cases c17 : t134 = true
          ·
           subst c17
           have H1 : ((spec_l1In.f ((rd_T34 l2 x26_2).f1) 0 (wrap64 ((a1.size : Int) - 1))).bind fun t135 => (if t135 = true then (spec_drMistakes.j2 k2 a0 a1 l2 x26_2 l2 (l2.length : Int) x26_2 ((((rd_T34 l2 x26_2).f2).size : Int) != 1) ((rd_T34 l2 x26_2).f0) ((rd_T34 l2 x26_2).f1) ((rd_T34 l2 x26_2).f2)) else (spec_drMistakes.j2 k2 a0 a1 l2 x26_2 l2 (l2.length : Int) x26_2 true ((rd_T34 l2 x26_2).f0) ((rd_T34 l2 x26_2).f1) ((rd_T34 l2 x26_2).f2)))) = some r := by rw [if_pos rfl] at H; exact H
           clear H
           have H := H1
           clear H1
           replace H := Option.bind_eq_some_iff.mp H
           obtain ⟨t135, A180, H⟩ := H
           replace H : (if t135 = true then (spec_drMistakes.j2 k2 a0 a1 l2 x26_2 l2 (l2.length : Int) x26_2 ((((rd_T34 l2 x26_2).f2).size : Int) != 1) ((rd_T34 l2 x26_2).f0) ((rd_T34 l2 x26_2).f1) ((rd_T34 l2 x26_2).f2)) else (spec_drMistakes.j2 k2 a0 a1 l2 x26_2 l2 (l2.length : Int) x26_2 true ((rd_T34 l2 x26_2).f0) ((rd_T34 l2 x26_2).f1) ((rd_T34 l2 x26_2).f2))) = some r := H
           have A18 := Aside0.mk A180
           clear A180
           by_cases c19 : t135 = true
           ·
            subst c19
            have H1 : (spec_drMistakes.j2 k2 a0 a1 l2 x26_2 l2 (l2.length : Int) x26_2 ((((rd_T34 l2 x26_2).f2).size : Int) != 1) ((rd_T34 l2 x26_2).f0) ((rd_T34 l2 x26_2).f1) ((rd_T34 l2 x26_2).f2)) = some r := by rw [if_pos rfl] at H; exact H
            clear H
            have H := H1
            clear H1
            have H' := Aside0.mk H
            clear H
            have hcz20_0 : w14.cell? ⟨gb133, 0, none⟩ = some (.int .i64 0) := (blk_cell BK133.out 0).trans rfl
            have hcz20_1 : w14.cell? ⟨gb133, 1, none⟩ = some (.int .i64 0) := (blk_cell BK133.out 1).trans rfl
            have hcz20_2 : w14.cell? ⟨gb133, 2, none⟩ = some (.string (⟨#[]⟩ : ByteArray)) := (blk_cell BK133.out 2).trans rfl
            have hfz20_0 := blk_frozen BK133.out 0
            have hfz20_1 := blk_frozen BK133.out 1
            have hfz20_2 := blk_frozen BK133.out 2
            go_wp2_with (first | (go_at_call 41; (with_reducible refine (spec_l1In.calls ((rd_T34 l2 x26_2).f0) 0 (wrap64 (a0 - 1)) true _ A16.out).mono ?_); rintro e w' ⟨rfl, ⟨nd, rfl⟩⟩; (try first | exact ⟨rfl, _, World.drewN_drewN _ _ _⟩ | exact ⟨rfl, _, Eq.trans (World.drewN_drewN _ _ _) (congrArg (World.drewN _) (Nat.add_assoc _ _ _))⟩)) | (go_at_call 41; (with_reducible refine (spec_l1In.calls ((rd_T34 l2 x26_2).f1) 0 (wrap64 ((a1.size : Int) - 1)) true _ A18.out).mono ?_); rintro e w' ⟨rfl, ⟨nd, rfl⟩⟩; (try first | exact ⟨rfl, _, World.drewN_drewN _ _ _⟩ | exact ⟨rfl, _, Eq.trans (World.drewN_drewN _ _ _) (congrArg (World.drewN _) (Nat.add_assoc _ _ _))⟩)))
            repeat (go_quiet (fail); try go_wp2_with (fail))
            go_meet
            case rel => exact ⟨_, (((((rd_T34 l2 x26_2).f2).size : Int) != 1)), (by first | rfl | (simp; done) | (simp [*]; done)), H', ⟨by have := HJ3.out; have := HK2.out; first | omega | exact Nat.le_refl _⟩, ⟨by (with_reducible repeat (first | refine blk_drewN ?_ _ | refine blk_drew ?_ | refine blk_alloc ?_ _)); refine blk_put (cs := #[.int .i64 ((rd_T34 l2 x26_2).f0), .int .i64 ((rd_T34 l2 x26_2).f1), .string (⟨#[]⟩ : ByteArray)]) ?_ 2 _ rfl; (with_reducible repeat (first | refine blk_drewN ?_ _ | refine blk_drew ?_ | refine blk_alloc ?_ _)); refine blk_put (cs := #[.int .i64 ((rd_T34 l2 x26_2).f0), .int .i64 0, .string (⟨#[]⟩ : ByteArray)]) ?_ 1 _ rfl; (with_reducible repeat (first | refine blk_drewN ?_ _ | refine blk_drew ?_ | refine blk_alloc ?_ _)); refine blk_put (cs := #[.int .i64 0, .int .i64 0, .string (⟨#[]⟩ : ByteArray)]) ?_ 0 _ rfl; (with_reducible repeat (first | refine blk_drewN ?_ _ | refine blk_drew ?_ | refine blk_alloc ?_ _)); exact BK133.out⟩, ⟨by repeat (first | (with_reducible first | exact HB.out | apply below_alloc | apply pw_below_drewN | apply below_drew1 | refine below_set ?_ GE133.out) | exact HB.out)⟩⟩
           ·
            replace c19 := Bool.eq_false_iff.mpr c19
            subst c19
            have H1 : (spec_drMistakes.j2 k2 a0 a1 l2 x26_2 l2 (l2.length : Int) x26_2 true ((rd_T34 l2 x26_2).f0) ((rd_T34 l2 x26_2).f1) ((rd_T34 l2 x26_2).f2)) = some r := by rw [if_neg (show ¬ (false = true) by decide)] at H; exact H
            clear H
            have H := H1
            clear H1
            have H' := Aside0.mk H
            clear H
            have hcz21_0 : w14.cell? ⟨gb133, 0, none⟩ = some (.int .i64 0) := (blk_cell BK133.out 0).trans rfl
            have hcz21_1 : w14.cell? ⟨gb133, 1, none⟩ = some (.int .i64 0) := (blk_cell BK133.out 1).trans rfl
            have hcz21_2 : w14.cell? ⟨gb133, 2, none⟩ = some (.string (⟨#[]⟩ : ByteArray)) := (blk_cell BK133.out 2).trans rfl
            have hfz21_0 := blk_frozen BK133.out 0
            have hfz21_1 := blk_frozen BK133.out 1
            have hfz21_2 := blk_frozen BK133.out 2
            go_wp2_with (first | (go_at_call 41; (with_reducible refine (spec_l1In.calls ((rd_T34 l2 x26_2).f0) 0 (wrap64 (a0 - 1)) true _ A16.out).mono ?_); rintro e w' ⟨rfl, ⟨nd, rfl⟩⟩; (try first | exact ⟨rfl, _, World.drewN_drewN _ _ _⟩ | exact ⟨rfl, _, Eq.trans (World.drewN_drewN _ _ _) (congrArg (World.drewN _) (Nat.add_assoc _ _ _))⟩)) | (go_at_call 41; (with_reducible refine (spec_l1In.calls ((rd_T34 l2 x26_2).f1) 0 (wrap64 ((a1.size : Int) - 1)) false _ A18.out).mono ?_); rintro e w' ⟨rfl, ⟨nd, rfl⟩⟩; (try first | exact ⟨rfl, _, World.drewN_drewN _ _ _⟩ | exact ⟨rfl, _, Eq.trans (World.drewN_drewN _ _ _) (congrArg (World.drewN _) (Nat.add_assoc _ _ _))⟩)))
            repeat (go_quiet (fail); try go_wp2_with (fail))
            go_meet
            case rel => exact ⟨_, (true), (by first | rfl | (simp; done) | (simp [*]; done)), H', ⟨by have := HJ3.out; have := HK2.out; first | omega | exact Nat.le_refl _⟩, ⟨by (with_reducible repeat (first | refine blk_drewN ?_ _ | refine blk_drew ?_ | refine blk_alloc ?_ _)); refine blk_put (cs := #[.int .i64 ((rd_T34 l2 x26_2).f0), .int .i64 ((rd_T34 l2 x26_2).f1), .string (⟨#[]⟩ : ByteArray)]) ?_ 2 _ rfl; (with_reducible repeat (first | refine blk_drewN ?_ _ | refine blk_drew ?_ | refine blk_alloc ?_ _)); refine blk_put (cs := #[.int .i64 ((rd_T34 l2 x26_2).f0), .int .i64 0, .string (⟨#[]⟩ : ByteArray)]) ?_ 1 _ rfl; (with_reducible repeat (first | refine blk_drewN ?_ _ | refine blk_drew ?_ | refine blk_alloc ?_ _)); refine blk_put (cs := #[.int .i64 0, .int .i64 0, .string (⟨#[]⟩ : ByteArray)]) ?_ 0 _ rfl; (with_reducible repeat (first | refine blk_drewN ?_ _ | refine blk_drew ?_ | refine blk_alloc ?_ _)); exact BK133.out⟩, ⟨by repeat (first | (with_reducible first | exact HB.out | apply below_alloc | apply pw_below_drewN | apply below_drew1 | refine below_set ?_ GE133.out) | exact HB.out)⟩⟩
          ·
           replace c17 := Bool.eq_false_iff.mpr c17
           subst c17
           have H1 : (spec_drMistakes.j2 k2 a0 a1 l2 x26_2 l2 (l2.length : Int) x26_2 true ((rd_T34 l2 x26_2).f0) ((rd_T34 l2 x26_2).f1) ((rd_T34 l2 x26_2).f2)) = some r := by rw [if_neg (show ¬ (false = true) by decide)] at H; exact H
           clear H
           have H := H1
           clear H1
           have H' := Aside0.mk H
           clear H
           have hcz22_0 : w14.cell? ⟨gb133, 0, none⟩ = some (.int .i64 0) := (blk_cell BK133.out 0).trans rfl
           have hcz22_1 : w14.cell? ⟨gb133, 1, none⟩ = some (.int .i64 0) := (blk_cell BK133.out 1).trans rfl
           have hcz22_2 : w14.cell? ⟨gb133, 2, none⟩ = some (.string (⟨#[]⟩ : ByteArray)) := (blk_cell BK133.out 2).trans rfl
           have hfz22_0 := blk_frozen BK133.out 0
           have hfz22_1 := blk_frozen BK133.out 1
           have hfz22_2 := blk_frozen BK133.out 2
           go_wp2_with (first | (go_at_call 41; (with_reducible refine (spec_l1In.calls ((rd_T34 l2 x26_2).f0) 0 (wrap64 (a0 - 1)) false _ A16.out).mono ?_); rintro e w' ⟨rfl, ⟨nd, rfl⟩⟩; (try first | exact ⟨rfl, _, World.drewN_drewN _ _ _⟩ | exact ⟨rfl, _, Eq.trans (World.drewN_drewN _ _ _) (congrArg (World.drewN _) (Nat.add_assoc _ _ _))⟩)))
           repeat (go_quiet (fail); try go_wp2_with (fail))
           go_meet
           case rel => exact ⟨_, (true), (by first | rfl | (simp; done) | (simp [*]; done)), H', ⟨by have := HJ3.out; have := HK2.out; first | omega | exact Nat.le_refl _⟩, ⟨by (with_reducible repeat (first | refine blk_drewN ?_ _ | refine blk_drew ?_ | refine blk_alloc ?_ _)); refine blk_put (cs := #[.int .i64 ((rd_T34 l2 x26_2).f0), .int .i64 ((rd_T34 l2 x26_2).f1), .string (⟨#[]⟩ : ByteArray)]) ?_ 2 _ rfl; (with_reducible repeat (first | refine blk_drewN ?_ _ | refine blk_drew ?_ | refine blk_alloc ?_ _)); refine blk_put (cs := #[.int .i64 ((rd_T34 l2 x26_2).f0), .int .i64 0, .string (⟨#[]⟩ : ByteArray)]) ?_ 1 _ rfl; (with_reducible repeat (first | refine blk_drewN ?_ _ | refine blk_drew ?_ | refine blk_alloc ?_ _)); refine blk_put (cs := #[.int .i64 0, .int .i64 0, .string (⟨#[]⟩ : ByteArray)]) ?_ 0 _ rfl; (with_reducible repeat (first | refine blk_drewN ?_ _ | refine blk_drew ?_ | refine blk_alloc ?_ _)); exact BK133.out⟩, ⟨by repeat (first | (with_reducible first | exact HB.out | apply below_alloc | apply pw_below_drewN | apply below_drew1 | refine below_set ?_ GE133.out) | exact HB.out)⟩⟩
         case rest =>
          clear HC13
          try clear c2
          try clear c9
          try clear c10
          try clear c10b0
          try clear c11
          try clear c11b0
          try clear c12
          try clear c12b0
          try clear hcz15_0
          try clear hcz15_1
          try clear hcz15_2
          try clear hfz15_0
          try clear hfz15_1
          try clear hfz15_2
          try clear hx132_0
          try clear hx132_1
          try clear hx132_2
          try clear p132
          try clear q132
          obtain ⟨kq, x51_12, rfl, HA, HJ12, BK133, HB⟩ := hcut
          cases kq with
          | zero => exact absurd HA.out (by simp [spec_drMistakes.j2])
          | succ kj12 =>
           have H := HA.out
           clear HA
           simp only [spec_drMistakes.j2] at H
           by_cases c23 : x51_12 = true
           ·
            subst c23
            have H1 : (some false) = some r := by rw [if_pos rfl] at H; exact H
            clear H
            have H := H1
            clear H1
            obtain rfl := Option.some.inj H
            go_wp2
            repeat (go_quiet (fail); try go_wp2)
            go_ret
            exact ⟨by first | rfl | (simp [errW_none, errW_some] <;> rfl) | (simp [*, errW_none, errW_some] <;> rfl), by repeat (first | (with_reducible first | exact HB.out | apply below_alloc | apply pw_below_drewN | apply below_drew1 | refine below_set ?_ GE133.out) | exact HB.out)⟩
           ·
            replace c23 := Bool.eq_false_iff.mpr c23
            subst c23
            have H1 : (if 0 < (((rd_T34 l2 x26_2).f2).size : Int) then ((spec_drTurn.f (bt ((rd_T34 l2 x26_2).f2) 0)).bind fun t136 => (if t136 < 0 then (spec_drMistakes.j3 kj12 a0 a1 l2 x26_2 l2 (l2.length : Int) x26_2 true ((rd_T34 l2 x26_2).f0) ((rd_T34 l2 x26_2).f1) ((rd_T34 l2 x26_2).f2)) else (if 0 ≤ ((rd_T34 l2 x26_2).f1) then (if ((rd_T34 l2 x26_2).f1) < (a1.size : Int) then (spec_drMistakes.j3 kj12 a0 a1 l2 x26_2 l2 (l2.length : Int) x26_2 ((bt ((rd_T34 l2 x26_2).f2) 0) == (bt a1 ((rd_T34 l2 x26_2).f1))) ((rd_T34 l2 x26_2).f0) ((rd_T34 l2 x26_2).f1) ((rd_T34 l2 x26_2).f2)) else (none)) else (none)))) else (none)) = some r := by rw [if_neg (show ¬ (false = true) by decide)] at H; exact H
            clear H
            have H := H1
            clear H1
            have HC24 := Aside0.mk H
            clear H
            go_upto_region 8 with (fail)
            repeat (go_quiet (fail); go_upto_region 8 with (fail))
            go_cut [66] (fun v66 wc => ∃ (kq : Nat) (x66_23 : Bool), v66 = .bool x66_23 ∧ Aside0 (spec_drMistakes.j3 kq a0 a1 l2 x26_2 l2 (l2.length : Int) x26_2 x66_23 ((rd_T34 l2 x26_2).f0) ((rd_T34 l2 x26_2).f1) ((rd_T34 l2 x26_2).f2) = some r) ∧ Aside0 (kq ≤ kj12) ∧ Aside0 (wc.heap[gb133]? = some (.cells #[.int .i64 ((rd_T34 l2 x26_2).f0), .int .i64 ((rd_T34 l2 x26_2).f1), .string ((rd_T34 l2 x26_2).f2)] 34 (0, 0))) ∧ Aside0 (Below w.heap.size w wc))
            case first =>
             have H := HC24.out
             clear HC24
             by_cases c25 : 0 < (((rd_T34 l2 x26_2).f2).size : Int)
             ·
              rw [if_pos c25] at H
              have c25b0 : decide (0 < (((rd_T34 l2 x26_2).f2).size : Int)) = true := decide_eq_true c25
              have c25b1 : decide (0 < ((rd_T34 l2 x26_2).f2).size) = true := decide_eq_true (by omega)
              clear c25
              (first | rw [c25b0] | (simp only [i64_w, i32_w]; rw [c25b0]) | skip)
              replace H := Option.bind_eq_some_iff.mp H
              obtain ⟨t136, A270, H⟩ := H
              replace H : (if t136 < 0 then (spec_drMistakes.j3 kj12 a0 a1 l2 x26_2 l2 (l2.length : Int) x26_2 true ((rd_T34 l2 x26_2).f0) ((rd_T34 l2 x26_2).f1) ((rd_T34 l2 x26_2).f2)) else (if 0 ≤ ((rd_T34 l2 x26_2).f1) then (if ((rd_T34 l2 x26_2).f1) < (a1.size : Int) then (spec_drMistakes.j3 kj12 a0 a1 l2 x26_2 l2 (l2.length : Int) x26_2 ((bt ((rd_T34 l2 x26_2).f2) 0) == (bt a1 ((rd_T34 l2 x26_2).f1))) ((rd_T34 l2 x26_2).f0) ((rd_T34 l2 x26_2).f1) ((rd_T34 l2 x26_2).f2)) else (none)) else (none))) = some r := H
              have A27 := Aside0.mk A270
              clear A270
              by_cases c28 : t136 < 0
              ·
               rw [if_pos c28] at H
               have c28b0 : decide (t136 < 0) = true := decide_eq_true c28
               clear c28
               have H' := Aside0.mk H
               clear H
               have hcz29_0 : wc.cell? ⟨gb133, 0, none⟩ = some (.int .i64 ((rd_T34 l2 x26_2).f0)) := (blk_cell BK133.out 0).trans rfl
               have hcz29_1 : wc.cell? ⟨gb133, 1, none⟩ = some (.int .i64 ((rd_T34 l2 x26_2).f1)) := (blk_cell BK133.out 1).trans rfl
               have hcz29_2 : wc.cell? ⟨gb133, 2, none⟩ = some (.string ((rd_T34 l2 x26_2).f2)) := (blk_cell BK133.out 2).trans rfl
               have hfz29_0 := blk_frozen BK133.out 0
               have hfz29_1 := blk_frozen BK133.out 1
               have hfz29_2 := blk_frozen BK133.out 2
               have p26 : 0 ≤ (0 : Int) := (by omega)
               have q26 : 0 < ((rd_T34 l2 x26_2).f2).size := (by have : (0 : Int) < (((rd_T34 l2 x26_2).f2).size : Int) := of_decide_eq_true (by first | (with_reducible assumption) | assumption); omega)
               have hx26 : ∀ h : 0 < ((rd_T34 l2 x26_2).f2).size, ((((rd_T34 l2 x26_2).f2)[0]'h).toNat : Int) = bt ((rd_T34 l2 x26_2).f2) 0 := bt_at ((rd_T34 l2 x26_2).f2) 0
               clear p26
               have qi26 : (0 < (((rd_T34 l2 x26_2).f2).size : Int)) = True := eq_true (of_decide_eq_true (by first | (with_reducible assumption) | assumption))
               replace q26 := eq_true q26
               go_wp2_with (fail)
               repeat (go_quiet (first | (go_at_call 42; (with_reducible refine (spec_drTurn.calls (bt ((rd_T34 l2 x26_2).f2) 0) t136 _ A27.out).mono ?_); rintro e w' ⟨rfl, ⟨nd, rfl⟩⟩; (try first | exact ⟨rfl, _, World.drewN_drewN _ _ _⟩ | exact ⟨rfl, _, Eq.trans (World.drewN_drewN _ _ _) (congrArg (World.drewN _) (Nat.add_assoc _ _ _))⟩))); try go_wp2_with (fail))
               go_meet
               case rel => exact ⟨_, (true), (by first | rfl | (simp; done) | (simp [*]; done)), H', ⟨by have := HJ3.out; have := HK2.out; have := HJ12.out; first | omega | exact Nat.le_refl _⟩, ⟨by (with_reducible repeat (first | refine blk_drewN ?_ _ | refine blk_drew ?_ | refine blk_alloc ?_ _)); exact BK133.out⟩, ⟨by repeat (first | (with_reducible first | exact HB.out | apply below_alloc | apply pw_below_drewN | apply below_drew1 | refine below_set ?_ GE133.out) | exact HB.out)⟩⟩
              ·
               rw [if_neg c28] at H
               have c28b0 : decide (t136 < 0) = false := decide_eq_false c28
               clear c28
               by_cases c31 : 0 ≤ ((rd_T34 l2 x26_2).f1)
               ·
                rw [if_pos c31] at H
                have c31b0 : decide (0 ≤ ((rd_T34 l2 x26_2).f1)) = true := decide_eq_true c31
                clear c31
                by_cases c32 : ((rd_T34 l2 x26_2).f1) < (a1.size : Int)
                ·
                 rw [if_pos c32] at H
                 have c32b0 : decide (((rd_T34 l2 x26_2).f1) < (a1.size : Int)) = true := decide_eq_true c32
                 clear c32
                 have H' := Aside0.mk H
                 clear H
                 have hcz34_0 : wc.cell? ⟨gb133, 0, none⟩ = some (.int .i64 ((rd_T34 l2 x26_2).f0)) := (blk_cell BK133.out 0).trans rfl
                 have hcz34_1 : wc.cell? ⟨gb133, 1, none⟩ = some (.int .i64 ((rd_T34 l2 x26_2).f1)) := (blk_cell BK133.out 1).trans rfl
                 have hcz34_2 : wc.cell? ⟨gb133, 2, none⟩ = some (.string ((rd_T34 l2 x26_2).f2)) := (blk_cell BK133.out 2).trans rfl
                 have hfz34_0 := blk_frozen BK133.out 0
                 have hfz34_1 := blk_frozen BK133.out 1
                 have hfz34_2 := blk_frozen BK133.out 2
                 have p26 : 0 ≤ (0 : Int) := (by omega)
                 have q26 : 0 < ((rd_T34 l2 x26_2).f2).size := (by have : (0 : Int) < (((rd_T34 l2 x26_2).f2).size : Int) := of_decide_eq_true (by first | (with_reducible assumption) | assumption); omega)
                 have hx26 : ∀ h : 0 < ((rd_T34 l2 x26_2).f2).size, ((((rd_T34 l2 x26_2).f2)[0]'h).toNat : Int) = bt ((rd_T34 l2 x26_2).f2) 0 := bt_at ((rd_T34 l2 x26_2).f2) 0
                 clear p26
                 have qi26 : (0 < (((rd_T34 l2 x26_2).f2).size : Int)) = True := eq_true (of_decide_eq_true (by first | (with_reducible assumption) | assumption))
                 replace q26 := eq_true q26
                 go_wp2_with (fail)
                 repeat (go_quiet (first | (go_at_call 42; (with_reducible refine (spec_drTurn.calls (bt ((rd_T34 l2 x26_2).f2) 0) t136 _ A27.out).mono ?_); rintro e w' ⟨rfl, ⟨nd, rfl⟩⟩; (try first | exact ⟨rfl, _, World.drewN_drewN _ _ _⟩ | exact ⟨rfl, _, Eq.trans (World.drewN_drewN _ _ _) (congrArg (World.drewN _) (Nat.add_assoc _ _ _))⟩); have p30 : 0 ≤ (0 : Int) := (by omega); have q30 : 0 < ((rd_T34 l2 x26_2).f2).size := (by have : (0 : Int) < (((rd_T34 l2 x26_2).f2).size : Int) := of_decide_eq_true (by first | (with_reducible assumption) | assumption); omega); have hx30 : ∀ h : 0 < ((rd_T34 l2 x26_2).f2).size, ((((rd_T34 l2 x26_2).f2)[0]'h).toNat : Int) = bt ((rd_T34 l2 x26_2).f2) 0 := bt_at ((rd_T34 l2 x26_2).f2) 0; clear p30; have qi30 : (0 < (((rd_T34 l2 x26_2).f2).size : Int)) = True := eq_true (of_decide_eq_true (by first | (with_reducible assumption) | assumption)); replace q30 := eq_true q30; have p33 : 0 ≤ (((rd_T34 l2 x26_2).f1) : Int) := of_decide_eq_true (by first | (with_reducible assumption) | assumption); have q33 : ((rd_T34 l2 x26_2).f1) < (a1.size : Int) := of_decide_eq_true (by first | (with_reducible assumption) | assumption); have hx33 := bt_at a1 ((rd_T34 l2 x26_2).f1); replace p33 := eq_true p33; replace q33 := eq_true q33)); try go_wp2_with (fail))
                 go_meet
                 case rel => exact ⟨_, (((bt ((rd_T34 l2 x26_2).f2) 0) == (bt a1 ((rd_T34 l2 x26_2).f1)))), (by first | rfl | (simp; done) | (simp [*]; done)), H', ⟨by have := HJ3.out; have := HK2.out; have := HJ12.out; first | omega | exact Nat.le_refl _⟩, ⟨by (with_reducible repeat (first | refine blk_drewN ?_ _ | refine blk_drew ?_ | refine blk_alloc ?_ _)); exact BK133.out⟩, ⟨by repeat (first | (with_reducible first | exact HB.out | apply below_alloc | apply pw_below_drewN | apply below_drew1 | refine below_set ?_ GE133.out) | exact HB.out)⟩⟩
                ·
                 rw [if_neg c32] at H
                 exact absurd H (by simp)
               ·
                rw [if_neg c31] at H
                exact absurd H (by simp)
             ·
              rw [if_neg c25] at H
              exact absurd H (by simp)
            case rest =>
             clear HC24
             try clear c2
             try clear c9
             try clear c10
             try clear c10b0
             try clear c11
             try clear c11b0
             try clear c12
             try clear c12b0
             try clear c23
             try clear hcz15_0
             try clear hcz15_1
             try clear hcz15_2
             try clear hfz15_0
             try clear hfz15_1
             try clear hfz15_2
             try clear hx132_0
             try clear hx132_1
             try clear hx132_2
             try clear p132
             try clear q132
             obtain ⟨kq, x66_23, rfl, HA, HJ23, BK133, HB⟩ := hcut
             cases kq with
             | zero => exact absurd HA.out (by simp [spec_drMistakes.j3])
             | succ kj23 =>
              have H := HA.out
              clear HA
              simp only [spec_drMistakes.j3] at H
              by_cases c35 : x66_23 = true
              ·
               subst c35
               have H1 : (some false) = some r := by rw [if_pos rfl] at H; exact H
               clear H
               have H := H1
               clear H1
               obtain rfl := Option.some.inj H
               go_wp2
               repeat (go_quiet (fail); try go_wp2)
               go_ret
               exact ⟨by first | rfl | (simp [errW_none, errW_some] <;> rfl) | (simp [*, errW_none, errW_some] <;> rfl), by repeat (first | (with_reducible first | exact HB.out | apply below_alloc | apply pw_below_drewN | apply below_drew1 | refine below_set ?_ GE133.out) | exact HB.out)⟩
              ·
               replace c35 := Bool.eq_false_iff.mpr c35
               subst c35
               have H1 : (if 0 ≤ x26_2 then (if x26_2 ≤ (l2.length : Int) then ((some (l2.take (x26_2 : Int).toNat : List (S34))).bind fun y137 => (spec_drMistakes.l1 kj23 a0 a1 l2 l2 (l2.length : Int) x26_2 y137 (y137.length : Int) 0 ((rd_T34 l2 x26_2).f0) ((rd_T34 l2 x26_2).f1) ((rd_T34 l2 x26_2).f2))) else (none)) else (none)) = some r := by rw [if_neg (show ¬ (false = true) by decide)] at H; exact H
               clear H
               have H := H1
               clear H1
               by_cases c36 : 0 ≤ x26_2
               ·
                rw [if_pos c36] at H
                have c36b0 := eq_true c36
                have c36b1 : decide (0 ≤ x26_2) = true := decide_eq_true c36
                clear c36
                by_cases c37 : x26_2 ≤ (l2.length : Int)
                ·
                 rw [if_pos c37] at H
                 have c37b0 := eq_true c37
                 have c37b1 : decide (x26_2 ≤ (l2.length : Int)) = true := decide_eq_true c37
                 clear c37
                 obtain ⟨y137, hy137⟩ : ∃ y_ : List (S34), y_ = (l2.take (x26_2 : Int).toNat) := ⟨_, rfl⟩
                 replace H : (spec_drMistakes.l1 kj23 a0 a1 l2 l2 (l2.length : Int) x26_2 y137 (y137.length : Int) 0 ((rd_T34 l2 x26_2).f0) ((rd_T34 l2 x26_2).f1) ((rd_T34 l2 x26_2).f2)) = some r := by first | (rw [hy137]; with_reducible exact H) | (have H2_ := (Option.bind_some _ _).symm.trans H; rw [hy137]; with_reducible exact H2_) | (have H2_ := (Option.bind_some _ _).symm.trans H; with_reducible exact H2_) | with_reducible exact H | (rw [hy137]; exact H) | exact H
                 have Ny137 := Aside0.mk hy137
                 clear hy137
                 have H' := Aside0.mk H
                 clear H
                 have q38 : (x26_2 : Int) ≤ ((l2.length : Int) : Int) := of_decide_eq_true (by first | (with_reducible assumption) | assumption)
                 obtain ⟨i038, hi038, _, hsz38, _⟩ := info_parts info34
                 have hroom38 : l2.length ≤ c2 := HC2.out
                 have hC38 : Kd.C k34 _ (some ad132) l2.length l2 := HR2.out
                 have hcut38 := cut_to (P := Tryd.prog) 22 34 .i64 Tryd.underlying22 hi038 (some ad132) l2.length c2 x26_2 (of_decide_eq_true (by first | (with_reducible assumption) | assumption)) q38 hroom38
                 have hr38 := Kd.C_take (m := (x26_2 : Int).toNat) hC38 (by omega)
                 have hy38 : y137.length = (x26_2 : Int).toNat := (by rw [Ny137.out, List.length_take]; omega)
                 rw [← Ny137.out] at hr38
                 rw [← hy38] at hcut38
                 have HR140 := Aside0.mk hr38
                 have HC140 := Aside0.mk (show y137.length ≤ c2 from by omega)
                 clear hr38 hC38 hroom38 hi038 hsz38
                 have KY38 := Aside0.mk hy38
                 clear hy38
                 replace q38 := eq_true q38
                 go_wp2
                 repeat (go_quiet (fail); try go_wp2)
                 go_loopg [71] kj23 (fun kq v71 w' => ∃ (x71_5 : Int), v71 = .int .i64 x71_5 ∧ Aside0 (spec_drMistakes.l1 kq a0 a1 l2 l2 (l2.length : Int) x26_2 y137 (y137.length : Int) x71_5 ((rd_T34 l2 x26_2).f0) ((rd_T34 l2 x26_2).f1) ((rd_T34 l2 x26_2).f2) = some r) ∧ Aside0 (kq ≤ kj23) ∧ Aside0 (w'.heap[gb133]? = some (.cells #[.int .i64 ((rd_T34 l2 x26_2).f0), .int .i64 ((rd_T34 l2 x26_2).f1), .string ((rd_T34 l2 x26_2).f2)] 34 (0, 0))) ∧ Aside0 (Below w.heap.size w w'))
                 case atStart => exact ⟨(0), (by first | rfl | (simp; done) | (simp [*]; done)), H', ⟨Nat.le_refl _⟩, ⟨by (with_reducible repeat (first | refine blk_drewN ?_ _ | refine blk_drew ?_ | refine blk_alloc ?_ _)); exact BK133.out⟩, ⟨by repeat (first | (with_reducible first | exact HB.out | apply below_alloc | apply pw_below_drewN | apply below_drew1 | refine below_set ?_ GE133.out) | exact HB.out)⟩⟩
                 case round =>
                  clear H'
                  try clear c2
                  try clear c9
                  try clear c10
                  try clear c10b0
                  try clear c11
                  try clear c11b0
                  try clear c12
                  try clear c12b0
                  try clear c23
                  try clear c35
                  try clear c36
                  try clear c36b0
                  try clear c36b1
                  try clear c37
                  try clear c37b0
                  try clear c37b1
                  try clear q38
                  try clear hcz15_0
                  try clear hcz15_1
                  try clear hcz15_2
                  try clear hfz15_0
                  try clear hfz15_1
                  try clear hfz15_2
                  try clear hx132_0
                  try clear hx132_1
                  try clear hx132_2
                  try clear p132
                  try clear q132
                  try clear q38
                  obtain ⟨x71_5, rfl, HA, HK5, BK133, HB⟩ := hrel
                  cases gk with
                  | zero => exact absurd HA.out (by simp [spec_drMistakes.l1])
                  | succ k5 =>
                   have H := HA.out
                   clear HA
                   simp only [spec_drMistakes.l1] at H
                   by_cases c39 : x71_5 < (y137.length : Int)
                   ·
                    rw [if_pos c39] at H
                    have c39b0 : decide (x71_5 < (y137.length : Int)) = true := decide_eq_true c39
                    clear c39
                    by_cases c40 : 0 ≤ x71_5
                    ·
                     rw [if_pos c40] at H
                     have c40b0 : decide (0 ≤ x71_5) = true := decide_eq_true c40
                     clear c40
                     by_cases c41 : x71_5 < (y137.length : Int)
                     ·
                      rw [if_pos c41] at H
                      have c41b0 : decide (x71_5 < (y137.length : Int)) = true := decide_eq_true c41
                      clear c41
                      by_cases c42 : ((rd_T34 y137 x71_5).f0) = ((rd_T34 l2 x26_2).f0)
                      ·
                       rw [if_pos c42] at H
                       have c42b0 : (((rd_T34 y137 x71_5).f0) == ((rd_T34 l2 x26_2).f0)) = true := beq_iff_eq.mpr c42
                       have c42b1 : (((rd_T34 y137 x71_5).f0) != ((rd_T34 l2 x26_2).f0)) = false := bne_eq_false_iff_eq.mpr c42
                       clear c42
                       by_cases c43 : ((rd_T34 y137 x71_5).f1) = ((rd_T34 l2 x26_2).f1)
                       ·
                        rw [if_pos c43] at H
                        have c43b0 : (((rd_T34 y137 x71_5).f1) == ((rd_T34 l2 x26_2).f1)) = true := beq_iff_eq.mpr c43
                        have c43b1 : (((rd_T34 y137 x71_5).f1) != ((rd_T34 l2 x26_2).f1)) = false := bne_eq_false_iff_eq.mpr c43
                        clear c43
                        obtain rfl := Option.some.inj H
                        have p141 : 0 ≤ (x71_5 : Int) := of_decide_eq_true (by first | (with_reducible assumption) | assumption)
                        have q141 : x71_5 < (y137.length : Int) := of_decide_eq_true (by first | (with_reducible assumption) | assumption)
                        obtain ⟨ad141, e141, hx141_0, hx141_1, hx141_2⟩ := at_T34 HR140.out x71_5 p141 q141
                        obtain rfl : ad132 = ad141 := (by injection e141)
                        replace hx141_0 := (HB.out.cell (World.block_lt_of_cell? w _ hx141_0)).trans hx141_0
                        replace hx141_1 := (HB.out.cell (World.block_lt_of_cell? w _ hx141_1)).trans hx141_1
                        replace hx141_2 := (HB.out.cell (World.block_lt_of_cell? w _ hx141_2)).trans hx141_2
                        replace p141 := eq_true p141
                        replace q141 := eq_true q141
                        go_wp2_with (first | ((with_reducible refine gate_dst (N := 10) rfl ?_); (try (refine gate_guard (by rfl) ?_; dsimp only)); refine box_event ?hg (N := 10) ?hd (cs := #[.int .i64 0, .int .i64 0, .string (⟨#[]⟩ : ByteArray)]) (t := 34) ?hr ?_; (case hd => rfl); (case hg => rfl); (case hr => first | (go_simp; done) | (go_simp; rfl)); intro gb142 hg w44 hbox hb; have n0_ := Aside0.mk (blk_below (g := gb133) (o := .cells #[.int .i64 ((rd_T34 l2 x26_2).f0), .int .i64 ((rd_T34 l2 x26_2).f1), .string ((rd_T34 l2 x26_2).f2)] 34 (0, 0)) (by (with_reducible repeat (first | refine blk_drewN ?_ _ | refine blk_drew ?_ | refine blk_alloc ?_ _)); exact BK133.out) hb); have n1_ := Aside0.mk (below_step (by repeat (first | (with_reducible first | exact HB.out | apply below_alloc | apply pw_below_drewN | apply below_drew1 | refine below_set ?_ GE133.out) | exact HB.out)) hb); have n2_ := Aside0.mk (hbox); have n3_ := Aside0.mk ((by rw [hg]; exact (below_size (by repeat (first | (with_reducible first | exact HB.out | apply below_alloc | apply pw_below_drewN | apply below_drew1 | refine below_set ?_ GE133.out) | exact HB.out))) : w.heap.size ≤ gb142)); have n4_ := Aside0.mk ((by rw [hg]; exact (below_size (by repeat (first | (with_reducible first | exact HB.out | apply below_alloc | apply pw_below_drewN | apply below_drew1 | refine below_set ?_ GE133.out) | exact HB.out))) : w.heap.size ≤ gb142)); have n5_ := Aside0.mk ((by rw [hg]; exact Nat.ne_of_lt (blk_lt (g := gb133) (o := .cells #[.int .i64 ((rd_T34 l2 x26_2).f0), .int .i64 ((rd_T34 l2 x26_2).f1), .string ((rd_T34 l2 x26_2).f2)] 34 (0, 0)) (by (with_reducible repeat (first | refine blk_drewN ?_ _ | refine blk_drew ?_ | refine blk_alloc ?_ _)); exact BK133.out)) : gb133 ≠ gb142)); have n6_ := Aside0.mk ((by rw [hg]; exact Nat.ne_of_gt (blk_lt (g := gb133) (o := .cells #[.int .i64 ((rd_T34 l2 x26_2).f0), .int .i64 ((rd_T34 l2 x26_2).f1), .string ((rd_T34 l2 x26_2).f2)] 34 (0, 0)) (by (with_reducible repeat (first | refine blk_drewN ?_ _ | refine blk_drew ?_ | refine blk_alloc ?_ _)); exact BK133.out)) : gb142 ≠ gb133)); clear BK133; clear HB; have BK133 := n0_; have HB := n1_; have BK142 := n2_; have GW142 := n3_; have GE142 := n4_; have NB133_142 := n5_; have NB142_133 := n6_; clear n0_ n1_ n2_ n3_ n4_ n5_ n6_; clear hb hbox hg; have hnb45 := NB142_133.out; have hnc45 := NB133_142.out; have hcz46_0 : w44.cell? ⟨gb142, 0, none⟩ = some (.int .i64 0) := (blk_cell BK142.out 0).trans rfl; have hcz46_1 : w44.cell? ⟨gb142, 1, none⟩ = some (.int .i64 0) := (blk_cell BK142.out 1).trans rfl; have hcz46_2 : w44.cell? ⟨gb142, 2, none⟩ = some (.string (⟨#[]⟩ : ByteArray)) := (blk_cell BK142.out 2).trans rfl; have hfz46_0 := blk_frozen BK142.out 0; have hfz46_1 := blk_frozen BK142.out 1; have hfz46_2 := blk_frozen BK142.out 2; have hcz47_0 : w44.cell? ⟨gb133, 0, none⟩ = some (.int .i64 ((rd_T34 l2 x26_2).f0)) := (blk_cell BK133.out 0).trans rfl; have hcz47_1 : w44.cell? ⟨gb133, 1, none⟩ = some (.int .i64 ((rd_T34 l2 x26_2).f1)) := (blk_cell BK133.out 1).trans rfl; have hcz47_2 : w44.cell? ⟨gb133, 2, none⟩ = some (.string ((rd_T34 l2 x26_2).f2)) := (blk_cell BK133.out 2).trans rfl; have hfz47_0 := blk_frozen BK133.out 0; have hfz47_1 := blk_frozen BK133.out 1; have hfz47_2 := blk_frozen BK133.out 2))
                        repeat (go_quiet (fail); try go_wp2_with (fail))
                        go_ret
                        exact ⟨by first | rfl | (simp [errW_none, errW_some] <;> rfl) | (simp [*, errW_none, errW_some] <;> rfl), by repeat (first | (with_reducible first | exact HB.out | apply below_alloc | apply pw_below_drewN | apply below_drew1 | refine below_set ?_ GE133.out | refine below_set ?_ GE142.out) | exact HB.out)⟩
                       ·
                        rw [if_neg c43] at H
                        have c43b0 : (((rd_T34 y137 x71_5).f1) == ((rd_T34 l2 x26_2).f1)) = false := beq_eq_false_iff_ne.mpr c43
                        have c43b1 : (((rd_T34 y137 x71_5).f1) != ((rd_T34 l2 x26_2).f1)) = true := bne_iff_ne.mpr c43
                        have H' := Aside0.mk H
                        clear H
                        have p141 : 0 ≤ (x71_5 : Int) := of_decide_eq_true (by first | (with_reducible assumption) | assumption)
                        have q141 : x71_5 < (y137.length : Int) := of_decide_eq_true (by first | (with_reducible assumption) | assumption)
                        obtain ⟨ad141, e141, hx141_0, hx141_1, hx141_2⟩ := at_T34 HR140.out x71_5 p141 q141
                        obtain rfl : ad132 = ad141 := (by injection e141)
                        replace hx141_0 := (HB.out.cell (World.block_lt_of_cell? w _ hx141_0)).trans hx141_0
                        replace hx141_1 := (HB.out.cell (World.block_lt_of_cell? w _ hx141_1)).trans hx141_1
                        replace hx141_2 := (HB.out.cell (World.block_lt_of_cell? w _ hx141_2)).trans hx141_2
                        replace p141 := eq_true p141
                        replace q141 := eq_true q141
                        go_wp2_with (first | ((with_reducible refine gate_dst (N := 10) rfl ?_); (try (refine gate_guard (by rfl) ?_; dsimp only)); refine box_event ?hg (N := 10) ?hd (cs := #[.int .i64 0, .int .i64 0, .string (⟨#[]⟩ : ByteArray)]) (t := 34) ?hr ?_; (case hd => rfl); (case hg => rfl); (case hr => first | (go_simp; done) | (go_simp; rfl)); intro gb142 hg w48 hbox hb; have n0_ := Aside0.mk (blk_below (g := gb133) (o := .cells #[.int .i64 ((rd_T34 l2 x26_2).f0), .int .i64 ((rd_T34 l2 x26_2).f1), .string ((rd_T34 l2 x26_2).f2)] 34 (0, 0)) (by (with_reducible repeat (first | refine blk_drewN ?_ _ | refine blk_drew ?_ | refine blk_alloc ?_ _)); exact BK133.out) hb); have n1_ := Aside0.mk (below_step (by repeat (first | (with_reducible first | exact HB.out | apply below_alloc | apply pw_below_drewN | apply below_drew1 | refine below_set ?_ GE133.out) | exact HB.out)) hb); have n2_ := Aside0.mk (hbox); have n3_ := Aside0.mk ((by rw [hg]; exact (below_size (by repeat (first | (with_reducible first | exact HB.out | apply below_alloc | apply pw_below_drewN | apply below_drew1 | refine below_set ?_ GE133.out) | exact HB.out))) : w.heap.size ≤ gb142)); have n4_ := Aside0.mk ((by rw [hg]; exact (below_size (by repeat (first | (with_reducible first | exact HB.out | apply below_alloc | apply pw_below_drewN | apply below_drew1 | refine below_set ?_ GE133.out) | exact HB.out))) : w.heap.size ≤ gb142)); have n5_ := Aside0.mk ((by rw [hg]; exact Nat.ne_of_lt (blk_lt (g := gb133) (o := .cells #[.int .i64 ((rd_T34 l2 x26_2).f0), .int .i64 ((rd_T34 l2 x26_2).f1), .string ((rd_T34 l2 x26_2).f2)] 34 (0, 0)) (by (with_reducible repeat (first | refine blk_drewN ?_ _ | refine blk_drew ?_ | refine blk_alloc ?_ _)); exact BK133.out)) : gb133 ≠ gb142)); have n6_ := Aside0.mk ((by rw [hg]; exact Nat.ne_of_gt (blk_lt (g := gb133) (o := .cells #[.int .i64 ((rd_T34 l2 x26_2).f0), .int .i64 ((rd_T34 l2 x26_2).f1), .string ((rd_T34 l2 x26_2).f2)] 34 (0, 0)) (by (with_reducible repeat (first | refine blk_drewN ?_ _ | refine blk_drew ?_ | refine blk_alloc ?_ _)); exact BK133.out)) : gb142 ≠ gb133)); clear BK133; clear HB; have BK133 := n0_; have HB := n1_; have BK142 := n2_; have GW142 := n3_; have GE142 := n4_; have NB133_142 := n5_; have NB142_133 := n6_; clear n0_ n1_ n2_ n3_ n4_ n5_ n6_; clear hb hbox hg; have hnb49 := NB142_133.out; have hnc49 := NB133_142.out; have hcz50_0 : w48.cell? ⟨gb142, 0, none⟩ = some (.int .i64 0) := (blk_cell BK142.out 0).trans rfl; have hcz50_1 : w48.cell? ⟨gb142, 1, none⟩ = some (.int .i64 0) := (blk_cell BK142.out 1).trans rfl; have hcz50_2 : w48.cell? ⟨gb142, 2, none⟩ = some (.string (⟨#[]⟩ : ByteArray)) := (blk_cell BK142.out 2).trans rfl; have hfz50_0 := blk_frozen BK142.out 0; have hfz50_1 := blk_frozen BK142.out 1; have hfz50_2 := blk_frozen BK142.out 2; have hcz51_0 : w48.cell? ⟨gb133, 0, none⟩ = some (.int .i64 ((rd_T34 l2 x26_2).f0)) := (blk_cell BK133.out 0).trans rfl; have hcz51_1 : w48.cell? ⟨gb133, 1, none⟩ = some (.int .i64 ((rd_T34 l2 x26_2).f1)) := (blk_cell BK133.out 1).trans rfl; have hcz51_2 : w48.cell? ⟨gb133, 2, none⟩ = some (.string ((rd_T34 l2 x26_2).f2)) := (blk_cell BK133.out 2).trans rfl; have hfz51_0 := blk_frozen BK133.out 0; have hfz51_1 := blk_frozen BK133.out 1; have hfz51_2 := blk_frozen BK133.out 2))
                        repeat (go_quiet (fail); try go_wp2_with (fail))
                        go_roundg k5
                        case measure => have := HJ3.out; have := HK2.out; have := HJ12.out; have := HJ23.out; have := HK5.out; omega
                        case rel => exact ⟨(wrap64 (x71_5 + 1)), (by first | rfl | (simp; done) | (simp [*]; done)), H', ⟨by have := HJ3.out; have := HK2.out; have := HJ12.out; have := HJ23.out; have := HK5.out; omega⟩, ⟨by (with_reducible repeat (first | refine blk_drewN ?_ _ | refine blk_drew ?_ | refine blk_alloc ?_ _)); refine blk_far ?_ NB133_142.out _; (with_reducible repeat (first | refine blk_drewN ?_ _ | refine blk_drew ?_ | refine blk_alloc ?_ _)); refine blk_far ?_ NB133_142.out _; (with_reducible repeat (first | refine blk_drewN ?_ _ | refine blk_drew ?_ | refine blk_alloc ?_ _)); refine blk_far ?_ NB133_142.out _; (with_reducible repeat (first | refine blk_drewN ?_ _ | refine blk_drew ?_ | refine blk_alloc ?_ _)); exact BK133.out⟩, ⟨by repeat (first | (with_reducible first | exact HB.out | apply below_alloc | apply pw_below_drewN | apply below_drew1 | refine below_set ?_ GE133.out | refine below_set ?_ GE142.out) | exact HB.out)⟩⟩
                      ·
                       rw [if_neg c42] at H
                       have c42b0 : (((rd_T34 y137 x71_5).f0) == ((rd_T34 l2 x26_2).f0)) = false := beq_eq_false_iff_ne.mpr c42
                       have c42b1 : (((rd_T34 y137 x71_5).f0) != ((rd_T34 l2 x26_2).f0)) = true := bne_iff_ne.mpr c42
                       have H' := Aside0.mk H
                       clear H
                       have p141 : 0 ≤ (x71_5 : Int) := of_decide_eq_true (by first | (with_reducible assumption) | assumption)
                       have q141 : x71_5 < (y137.length : Int) := of_decide_eq_true (by first | (with_reducible assumption) | assumption)
                       obtain ⟨ad141, e141, hx141_0, hx141_1, hx141_2⟩ := at_T34 HR140.out x71_5 p141 q141
                       obtain rfl : ad132 = ad141 := (by injection e141)
                       replace hx141_0 := (HB.out.cell (World.block_lt_of_cell? w _ hx141_0)).trans hx141_0
                       replace hx141_1 := (HB.out.cell (World.block_lt_of_cell? w _ hx141_1)).trans hx141_1
                       replace hx141_2 := (HB.out.cell (World.block_lt_of_cell? w _ hx141_2)).trans hx141_2
                       replace p141 := eq_true p141
                       replace q141 := eq_true q141
                       go_wp2_with (first | ((with_reducible refine gate_dst (N := 10) rfl ?_); (try (refine gate_guard (by rfl) ?_; dsimp only)); refine box_event ?hg (N := 10) ?hd (cs := #[.int .i64 0, .int .i64 0, .string (⟨#[]⟩ : ByteArray)]) (t := 34) ?hr ?_; (case hd => rfl); (case hg => rfl); (case hr => first | (go_simp; done) | (go_simp; rfl)); intro gb142 hg w52 hbox hb; have n0_ := Aside0.mk (blk_below (g := gb133) (o := .cells #[.int .i64 ((rd_T34 l2 x26_2).f0), .int .i64 ((rd_T34 l2 x26_2).f1), .string ((rd_T34 l2 x26_2).f2)] 34 (0, 0)) (by (with_reducible repeat (first | refine blk_drewN ?_ _ | refine blk_drew ?_ | refine blk_alloc ?_ _)); exact BK133.out) hb); have n1_ := Aside0.mk (below_step (by repeat (first | (with_reducible first | exact HB.out | apply below_alloc | apply pw_below_drewN | apply below_drew1 | refine below_set ?_ GE133.out) | exact HB.out)) hb); have n2_ := Aside0.mk (hbox); have n3_ := Aside0.mk ((by rw [hg]; exact (below_size (by repeat (first | (with_reducible first | exact HB.out | apply below_alloc | apply pw_below_drewN | apply below_drew1 | refine below_set ?_ GE133.out) | exact HB.out))) : w.heap.size ≤ gb142)); have n4_ := Aside0.mk ((by rw [hg]; exact (below_size (by repeat (first | (with_reducible first | exact HB.out | apply below_alloc | apply pw_below_drewN | apply below_drew1 | refine below_set ?_ GE133.out) | exact HB.out))) : w.heap.size ≤ gb142)); have n5_ := Aside0.mk ((by rw [hg]; exact Nat.ne_of_lt (blk_lt (g := gb133) (o := .cells #[.int .i64 ((rd_T34 l2 x26_2).f0), .int .i64 ((rd_T34 l2 x26_2).f1), .string ((rd_T34 l2 x26_2).f2)] 34 (0, 0)) (by (with_reducible repeat (first | refine blk_drewN ?_ _ | refine blk_drew ?_ | refine blk_alloc ?_ _)); exact BK133.out)) : gb133 ≠ gb142)); have n6_ := Aside0.mk ((by rw [hg]; exact Nat.ne_of_gt (blk_lt (g := gb133) (o := .cells #[.int .i64 ((rd_T34 l2 x26_2).f0), .int .i64 ((rd_T34 l2 x26_2).f1), .string ((rd_T34 l2 x26_2).f2)] 34 (0, 0)) (by (with_reducible repeat (first | refine blk_drewN ?_ _ | refine blk_drew ?_ | refine blk_alloc ?_ _)); exact BK133.out)) : gb142 ≠ gb133)); clear BK133; clear HB; have BK133 := n0_; have HB := n1_; have BK142 := n2_; have GW142 := n3_; have GE142 := n4_; have NB133_142 := n5_; have NB142_133 := n6_; clear n0_ n1_ n2_ n3_ n4_ n5_ n6_; clear hb hbox hg; have hnb53 := NB142_133.out; have hnc53 := NB133_142.out; have hcz54_0 : w52.cell? ⟨gb142, 0, none⟩ = some (.int .i64 0) := (blk_cell BK142.out 0).trans rfl; have hcz54_1 : w52.cell? ⟨gb142, 1, none⟩ = some (.int .i64 0) := (blk_cell BK142.out 1).trans rfl; have hcz54_2 : w52.cell? ⟨gb142, 2, none⟩ = some (.string (⟨#[]⟩ : ByteArray)) := (blk_cell BK142.out 2).trans rfl; have hfz54_0 := blk_frozen BK142.out 0; have hfz54_1 := blk_frozen BK142.out 1; have hfz54_2 := blk_frozen BK142.out 2; have hcz55_0 : w52.cell? ⟨gb133, 0, none⟩ = some (.int .i64 ((rd_T34 l2 x26_2).f0)) := (blk_cell BK133.out 0).trans rfl; have hcz55_1 : w52.cell? ⟨gb133, 1, none⟩ = some (.int .i64 ((rd_T34 l2 x26_2).f1)) := (blk_cell BK133.out 1).trans rfl; have hcz55_2 : w52.cell? ⟨gb133, 2, none⟩ = some (.string ((rd_T34 l2 x26_2).f2)) := (blk_cell BK133.out 2).trans rfl; have hfz55_0 := blk_frozen BK133.out 0; have hfz55_1 := blk_frozen BK133.out 1; have hfz55_2 := blk_frozen BK133.out 2))
                       repeat (go_quiet (fail); try go_wp2_with (fail))
                       go_roundg k5
                       case measure => have := HJ3.out; have := HK2.out; have := HJ12.out; have := HJ23.out; have := HK5.out; omega
                       case rel => exact ⟨(wrap64 (x71_5 + 1)), (by first | rfl | (simp; done) | (simp [*]; done)), H', ⟨by have := HJ3.out; have := HK2.out; have := HJ12.out; have := HJ23.out; have := HK5.out; omega⟩, ⟨by (with_reducible repeat (first | refine blk_drewN ?_ _ | refine blk_drew ?_ | refine blk_alloc ?_ _)); refine blk_far ?_ NB133_142.out _; (with_reducible repeat (first | refine blk_drewN ?_ _ | refine blk_drew ?_ | refine blk_alloc ?_ _)); refine blk_far ?_ NB133_142.out _; (with_reducible repeat (first | refine blk_drewN ?_ _ | refine blk_drew ?_ | refine blk_alloc ?_ _)); refine blk_far ?_ NB133_142.out _; (with_reducible repeat (first | refine blk_drewN ?_ _ | refine blk_drew ?_ | refine blk_alloc ?_ _)); exact BK133.out⟩, ⟨by repeat (first | (with_reducible first | exact HB.out | apply below_alloc | apply pw_below_drewN | apply below_drew1 | refine below_set ?_ GE133.out | refine below_set ?_ GE142.out) | exact HB.out)⟩⟩
                     ·
                      rw [if_neg c41] at H
                      exact absurd H (by simp)
                    ·
                     rw [if_neg c40] at H
                     exact absurd H (by simp)
                   ·
                    rw [if_neg c39] at H
                    have c39b0 : decide (x71_5 < (y137.length : Int)) = false := decide_eq_false c39
                    clear c39
                    have H' := Aside0.mk H
                    clear H
                    go_wp2
                    repeat (go_quiet (fail); try go_wp2)
                    go_roundg k5
                    case measure => have := HJ3.out; have := HK2.out; have := HJ12.out; have := HJ23.out; have := HK5.out; omega
                    case rel => exact ⟨(wrap64 (x26_2 + 1)), (by first | rfl | (simp; done) | (simp [*]; done)), H', ⟨by have := HJ3.out; have := HK2.out; have := HJ12.out; have := HJ23.out; have := HK5.out; omega⟩, ⟨by repeat (first | (with_reducible first | exact HB.out | apply below_alloc | apply pw_below_drewN | apply below_drew1 | refine below_set ?_ GE133.out) | exact HB.out)⟩⟩
                ·
                 rw [if_neg c37] at H
                 exact absurd H (by simp)
               ·
                rw [if_neg c36] at H
                exact absurd H (by simp)
        ·
         rw [if_neg c12] at H
         exact absurd H (by simp)
       ·
        rw [if_neg c11] at H
        exact absurd H (by simp)
      ·
       rw [if_neg c10] at H
       have c10b0 : decide (x26_2 < (l2.length : Int)) = false := decide_eq_false c10
       clear c10
       obtain rfl := Option.some.inj H
       go_wp2
       repeat (go_quiet (fail); try go_wp2)
       go_ret
       exact ⟨by first | rfl | (simp [errW_none, errW_some] <;> rfl) | (simp [*, errW_none, errW_some] <;> rfl), by repeat (first | (with_reducible first | exact HB.out | apply below_alloc | apply pw_below_drewN | apply below_drew1) | exact HB.out)⟩

end Go.Proofs.YtgdmbhldabeelaaRDoor.PFnDrillsMistaken
