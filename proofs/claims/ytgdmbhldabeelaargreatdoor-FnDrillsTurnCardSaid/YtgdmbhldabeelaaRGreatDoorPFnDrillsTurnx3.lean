-- Written by a program of this session's (pg.py) over the kit's print.
import Derived.Test.YtgdmbhldabeelaaRGreatDoorPFnDrillsTurnx0
import Derived.Test.YtgdmbhldabeelaaRGreatDoorPFnDrillsTurnx1
import Derived.Test.YtgdmbhldabeelaaRGreatDoorPFnDrillsTurnx2
namespace Go.Proofs.YtgdmbhldabeelaaRGreatDoor.PFnDrillsTurn
open Go.RowKit Go.Proofs.YtgdmbhldabeelaaRGreatDoorW.PrintWords Go.Proofs.YtgdmbhldabeelaaRGreatDoorW.PrintLast Go.Proofs.YtgdmbhldabeelaaRGreatDoorW.PrintMore
attribute [local go_sem] max2_int min2_int max_two min_two max_three min_three max_four min_four   -- for this text's walks alone
set_option linter.unusedVariables false
set_option linter.unusedSimpArgs false

/-! ### impl_ShortCommands: function 9 -/
def impl_ShortCommands.f (k : Nat) (a0 : ByteArray) : Option (ByteArray × Bool) := (impl_areCommands.f a0).bind fun t125 => (if t125 = true then ((impl_netTurn.f k a0).bind fun t126 => (if t126 = 0 then (some ((⟨#[]⟩ : ByteArray), true)) else (if 0 ≤ t126 then (if t126 ≤ (wrap64 (t126 + 1)) then (if (wrap64 (t126 + 1)) ≤ 4 then (some ((⟨#[83, 82, 65, 76]⟩ : ByteArray).extract (t126 : Int).toNat ((wrap64 (t126 + 1)) : Int).toNat, true)) else (none)) else (none)) else (none)))) else (some ((⟨#[]⟩ : ByteArray), false)))
theorem impl_ShortCommands.mono : ∀ a0 k, LeO (impl_ShortCommands.f k a0) (impl_ShortCommands.f (k + 1) a0) := by
  intro a0 k
  unfold impl_ShortCommands.f
  repeat' first
      | (with_reducible exact impl_netTurn.mono _ _)
      | (with_reducible exact LeO.refl _)
      | (with_reducible exact LeO.none _)
      | (with_reducible refine LeO.ite ?_ ?_)
      | (with_reducible refine LeO.bind ?_ (fun _ => ?_))
      | exact impl_netTurn.mono _ _
      | exact LeO.none _
      | refine LeO.ite ?_ ?_
      | refine LeO.bind ?_ (fun _ => ?_)
set_option maxHeartbeats 8000000 in
set_option maxRecDepth 100000 in
theorem impl_ShortCommands.calls (k : Nat) (a0 : ByteArray) (r1 : ByteArray) (r2 : Bool) (w : World) (h : impl_ShortCommands.f k a0 = some (r1, r2)) :
    Calls Tryz.prog 9 #[.string a0] w fun e w' => e = .returned (.tuple #[.string r1, .bool r2]) ∧ Below w.heap.size w w' := by
  have HB := Aside0.mk (Below.refl w.heap.size w)
  have H : ((impl_areCommands.f a0).bind fun t125 => (if t125 = true then ((impl_netTurn.f k a0).bind fun t126 => (if t126 = 0 then (some ((⟨#[]⟩ : ByteArray), true)) else (if 0 ≤ t126 then (if t126 ≤ (wrap64 (t126 + 1)) then (if (wrap64 (t126 + 1)) ≤ 4 then (some ((⟨#[83, 82, 65, 76]⟩ : ByteArray).extract (t126 : Int).toNat ((wrap64 (t126 + 1)) : Int).toNat, true)) else (none)) else (none)) else (none)))) else (some ((⟨#[]⟩ : ByteArray), false)))) = some (r1, r2) := h
  clear h
  replace H := Option.bind_eq_some_iff.mp H
  obtain ⟨t125, A20, H⟩ := H
  replace H : (if t125 = true then ((impl_netTurn.f k a0).bind fun t126 => (if t126 = 0 then (some ((⟨#[]⟩ : ByteArray), true)) else (if 0 ≤ t126 then (if t126 ≤ (wrap64 (t126 + 1)) then (if (wrap64 (t126 + 1)) ≤ 4 then (some ((⟨#[83, 82, 65, 76]⟩ : ByteArray).extract (t126 : Int).toNat ((wrap64 (t126 + 1)) : Int).toNat, true)) else (none)) else (none)) else (none)))) else (some ((⟨#[]⟩ : ByteArray), false))) = some (r1, r2) := H
  have A2 := Aside0.mk A20
  clear A20
  by_cases c3 : t125 = true
  · subst c3
    have H1 : ((impl_netTurn.f k a0).bind fun t126 => (if t126 = 0 then (some ((⟨#[]⟩ : ByteArray), true)) else (if 0 ≤ t126 then (if t126 ≤ (wrap64 (t126 + 1)) then (if (wrap64 (t126 + 1)) ≤ 4 then (some ((⟨#[83, 82, 65, 76]⟩ : ByteArray).extract (t126 : Int).toNat ((wrap64 (t126 + 1)) : Int).toNat, true)) else (none)) else (none)) else (none)))) = some (r1, r2) := by rw [if_pos rfl] at H; exact H
    clear H
    have H := H1
    clear H1
    replace H := Option.bind_eq_some_iff.mp H
    obtain ⟨t126, A40, H⟩ := H
    replace H : (if t126 = 0 then (some ((⟨#[]⟩ : ByteArray), true)) else (if 0 ≤ t126 then (if t126 ≤ (wrap64 (t126 + 1)) then (if (wrap64 (t126 + 1)) ≤ 4 then (some ((⟨#[83, 82, 65, 76]⟩ : ByteArray).extract (t126 : Int).toNat ((wrap64 (t126 + 1)) : Int).toNat, true)) else (none)) else (none)) else (none))) = some (r1, r2) := H
    have A4 := Aside0.mk A40
    clear A40
    by_cases c5 : t126 = 0
    · rw [if_pos c5] at H
      have c5b0 : (t126 == 0) = true := beq_iff_eq.mpr c5
      have c5b1 : (t126 != 0) = false := bne_eq_false_iff_eq.mpr c5
      clear c5
      simp only [Option.some.injEq, Prod.mk.injEq] at H
      obtain ⟨rfl, rfl⟩ := H
      go_enter Tryz.func9, Tryz.ntmps9
      go_wp2_with (first | ((with_reducible refine gate_callee (f := 36) rfl ?_); refine goesL_ (some 6) rfl rfl Tryz.func36 (by kernel_rfl) rfl #[.string a0] rfl (by (try simp only [List.map_toArray, List.map_cons, List.map_nil]); first | done | rfl | (simp only [List.length_drop, List.length_take]; rfl)) ?_; (with_reducible refine (impl_areCommands.calls a0 true _ A2.out).mono ?_); rintro e w6 ⟨rfl, hb⟩; refine ⟨_, rfl, ?_⟩; have n0_ := Aside0.mk (below_step (by repeat (first | (with_reducible first | exact HB.out | apply below_alloc | apply pw_below_drewN | apply below_drew1) | exact HB.out)) hb); clear HB; have HB := n0_; clear n0_; (try clear hb); (try clear hb2); (try clear hk); (try clear hi)) | ((with_reducible refine gate_callee (f := 37) rfl ?_); refine goesL_ (some 9) rfl rfl Tryz.func37 (by kernel_rfl) rfl #[.string a0] rfl (by (try simp only [List.map_toArray, List.map_cons, List.map_nil]); first | done | rfl | (simp only [List.length_drop, List.length_take]; rfl)) ?_; (with_reducible refine (impl_netTurn.calls k a0 t126 _ A4.out).mono ?_); rintro e w' ⟨rfl, ⟨nd, rfl⟩⟩; refine ⟨_, rfl, ?_⟩))
      go_ret2
      exact ⟨by first | rfl | (simp [errW_none, errW_some] <;> rfl) | (simp [*, errW_none, errW_some] <;> rfl), by repeat (first | (with_reducible first | exact HB.out | apply below_alloc | apply pw_below_drewN | apply below_drew1) | exact HB.out)⟩
    · rw [if_neg c5] at H
      have c5b0 : (t126 == 0) = false := beq_eq_false_iff_ne.mpr c5
      have c5b1 : (t126 != 0) = true := bne_iff_ne.mpr c5
      by_cases c7 : 0 ≤ t126
      · rw [if_pos c7] at H
        have c7b0 := eq_true c7
        have c7b1 : decide (0 ≤ t126) = true := decide_eq_true c7
        clear c7
        by_cases c8 : t126 ≤ (wrap64 (t126 + 1))
        · rw [if_pos c8] at H
          have c8b0 := eq_true c8
          have c8b1 : decide (t126 ≤ (wrap64 (t126 + 1))) = true := decide_eq_true c8
          by_cases c9 : (wrap64 (t126 + 1)) ≤ 4
          · rw [if_pos c9] at H
            have c9b0 := eq_true c9
            have c9b1 : decide ((wrap64 (t126 + 1)) ≤ 4) = true := decide_eq_true c9
            simp only [Option.some.injEq, Prod.mk.injEq] at H
            obtain ⟨rfl, rfl⟩ := H
            go_enter Tryz.func9, Tryz.ntmps9
            go_wp2_with (first | ((with_reducible refine gate_callee (f := 36) rfl ?_); refine goesL_ (some 6) rfl rfl Tryz.func36 (by kernel_rfl) rfl #[.string a0] rfl (by (try simp only [List.map_toArray, List.map_cons, List.map_nil]); first | done | rfl | (simp only [List.length_drop, List.length_take]; rfl)) ?_; (with_reducible refine (impl_areCommands.calls a0 true _ A2.out).mono ?_); rintro e w10 ⟨rfl, hb⟩; refine ⟨_, rfl, ?_⟩; have n0_ := Aside0.mk (below_step (by repeat (first | (with_reducible first | exact HB.out | apply below_alloc | apply pw_below_drewN | apply below_drew1) | exact HB.out)) hb); clear HB; have HB := n0_; clear n0_; (try clear hb); (try clear hb2); (try clear hk); (try clear hi)) | ((with_reducible refine gate_callee (f := 37) rfl ?_); refine goesL_ (some 9) rfl rfl Tryz.func37 (by kernel_rfl) rfl #[.string a0] rfl (by (try simp only [List.map_toArray, List.map_cons, List.map_nil]); first | done | rfl | (simp only [List.length_drop, List.length_take]; rfl)) ?_; (with_reducible refine (impl_netTurn.calls k a0 t126 _ A4.out).mono ?_); rintro e w' ⟨rfl, ⟨nd, rfl⟩⟩; refine ⟨_, rfl, ?_⟩))
            go_ret2
            exact ⟨by first | rfl | (simp [errW_none, errW_some] <;> rfl) | (simp [*, errW_none, errW_some] <;> rfl), by repeat (first | (with_reducible first | exact HB.out | apply below_alloc | apply pw_below_drewN | apply below_drew1) | exact HB.out)⟩
          · rw [if_neg c9] at H
            exact absurd H (by simp)
        · rw [if_neg c8] at H
          exact absurd H (by simp)
      · rw [if_neg c7] at H
        exact absurd H (by simp)
  · replace c3 := Bool.eq_false_iff.mpr c3
    subst c3
    have H1 : (some ((⟨#[]⟩ : ByteArray), false)) = some (r1, r2) := by rw [if_neg (show ¬ (false = true) by decide)] at H; exact H
    clear H
    have H := H1
    clear H1
    simp only [Option.some.injEq, Prod.mk.injEq] at H
    obtain ⟨rfl, rfl⟩ := H
    go_enter Tryz.func9, Tryz.ntmps9
    go_wp2_with (first | ((with_reducible refine gate_callee (f := 36) rfl ?_); refine goesL_ (some 6) rfl rfl Tryz.func36 (by kernel_rfl) rfl #[.string a0] rfl (by (try simp only [List.map_toArray, List.map_cons, List.map_nil]); first | done | rfl | (simp only [List.length_drop, List.length_take]; rfl)) ?_; (with_reducible refine (impl_areCommands.calls a0 false _ A2.out).mono ?_); rintro e w11 ⟨rfl, hb⟩; refine ⟨_, rfl, ?_⟩; have n0_ := Aside0.mk (below_step (by repeat (first | (with_reducible first | exact HB.out | apply below_alloc | apply pw_below_drewN | apply below_drew1) | exact HB.out)) hb); clear HB; have HB := n0_; clear n0_; (try clear hb); (try clear hb2); (try clear hk); (try clear hi)))
    go_ret2
    exact ⟨by first | rfl | (simp [errW_none, errW_some] <;> rfl) | (simp [*, errW_none, errW_some] <;> rfl), by repeat (first | (with_reducible first | exact HB.out | apply below_alloc | apply pw_below_drewN | apply below_drew1) | exact HB.out)⟩

/-! ### spec_drSign: function 44 -/
def spec_drSign.f (a0 : Int) : Option (ByteArray) := if 0 ≤ a0 then (if a0 ≤ (wrap64 (a0 + 1)) then (if (wrap64 (a0 + 1)) ≤ 4 then (some ((⟨#[83, 82, 65, 76]⟩ : ByteArray).extract (a0 : Int).toNat ((wrap64 (a0 + 1)) : Int).toNat)) else (none)) else (none)) else (none)
set_option maxHeartbeats 8000000 in
set_option maxRecDepth 100000 in
theorem spec_drSign.calls (a0 : Int) (r : ByteArray) (w : World) (h : spec_drSign.f a0 = some r) :
    Calls Tryz.prog 44 #[.int .i64 a0] w fun e w' => e = .returned (.string r) ∧ Drawn0 w w' := by
  have H : (if 0 ≤ a0 then (if a0 ≤ (wrap64 (a0 + 1)) then (if (wrap64 (a0 + 1)) ≤ 4 then (some ((⟨#[83, 82, 65, 76]⟩ : ByteArray).extract (a0 : Int).toNat ((wrap64 (a0 + 1)) : Int).toNat)) else (none)) else (none)) else (none)) = some r := h
  clear h
  by_cases c2 : 0 ≤ a0
  · rw [if_pos c2] at H
    have c2b0 := eq_true c2
    have c2b1 : decide (0 ≤ a0) = true := decide_eq_true c2
    clear c2
    by_cases c3 : a0 ≤ (wrap64 (a0 + 1))
    · rw [if_pos c3] at H
      have c3b0 := eq_true c3
      have c3b1 : decide (a0 ≤ (wrap64 (a0 + 1))) = true := decide_eq_true c3
      by_cases c4 : (wrap64 (a0 + 1)) ≤ 4
      · rw [if_pos c4] at H
        have c4b0 := eq_true c4
        have c4b1 : decide ((wrap64 (a0 + 1)) ≤ 4) = true := decide_eq_true c4
        obtain rfl := Option.some.inj H
        go_enter Tryz.func44, Tryz.ntmps44
        go_wp2
        go_ret
        exact ⟨by first | rfl | (simp; done) | (simp [*]; done), by repeat (first | exact Drawn0.refl _ | apply Drawn0.step)⟩
      · rw [if_neg c4] at H
        exact absurd H (by simp)
    · rw [if_neg c3] at H
      exact absurd H (by simp)
  · rw [if_neg c2] at H
    exact absurd H (by simp)

/-! ### spec_ShortCommands: function 10 -/
def spec_ShortCommands.f (k : Nat) (a0 : ByteArray) : Option (ByteArray × Bool) := (spec_drWord.f k a0).bind fun t127 => (if t127 = true then ((spec_drNet.f k a0).bind fun t128 => (if t128 > 0 then ((spec_drSign.f t128).bind fun t129 => (some (t129, true))) else (some ((⟨#[]⟩ : ByteArray), true)))) else (some ((⟨#[]⟩ : ByteArray), false)))
theorem spec_ShortCommands.mono : ∀ a0 k, LeO (spec_ShortCommands.f k a0) (spec_ShortCommands.f (k + 1) a0) := by
  intro a0 k
  unfold spec_ShortCommands.f
  repeat' first
      | (with_reducible exact spec_drNet.mono _ _)
      | (with_reducible exact spec_drWord.mono _ _)
      | (with_reducible exact LeO.refl _)
      | (with_reducible exact LeO.none _)
      | (with_reducible refine LeO.ite ?_ ?_)
      | (with_reducible refine LeO.bind ?_ (fun _ => ?_))
      | exact spec_drNet.mono _ _
      | exact spec_drWord.mono _ _
      | exact LeO.none _
      | refine LeO.ite ?_ ?_
      | refine LeO.bind ?_ (fun _ => ?_)
set_option maxHeartbeats 8000000 in
set_option maxRecDepth 100000 in
theorem spec_ShortCommands.calls (k : Nat) (a0 : ByteArray) (r1 : ByteArray) (r2 : Bool) (w : World) (h : spec_ShortCommands.f k a0 = some (r1, r2)) :
    Calls Tryz.prog 10 #[.string a0] w fun e w' => e = .returned (.tuple #[.string r1, .bool r2]) ∧ Drawn0 w w' := by
  have H : ((spec_drWord.f k a0).bind fun t127 => (if t127 = true then ((spec_drNet.f k a0).bind fun t128 => (if t128 > 0 then ((spec_drSign.f t128).bind fun t129 => (some (t129, true))) else (some ((⟨#[]⟩ : ByteArray), true)))) else (some ((⟨#[]⟩ : ByteArray), false)))) = some (r1, r2) := h
  clear h
  replace H := Option.bind_eq_some_iff.mp H
  obtain ⟨t127, A20, H⟩ := H
  replace H : (if t127 = true then ((spec_drNet.f k a0).bind fun t128 => (if t128 > 0 then ((spec_drSign.f t128).bind fun t129 => (some (t129, true))) else (some ((⟨#[]⟩ : ByteArray), true)))) else (some ((⟨#[]⟩ : ByteArray), false))) = some (r1, r2) := H
  have A2 := Aside0.mk A20
  clear A20
  by_cases c3 : t127 = true
  · subst c3
    have H1 : ((spec_drNet.f k a0).bind fun t128 => (if t128 > 0 then ((spec_drSign.f t128).bind fun t129 => (some (t129, true))) else (some ((⟨#[]⟩ : ByteArray), true)))) = some (r1, r2) := by rw [if_pos rfl] at H; exact H
    clear H
    have H := H1
    clear H1
    replace H := Option.bind_eq_some_iff.mp H
    obtain ⟨t128, A40, H⟩ := H
    replace H : (if t128 > 0 then ((spec_drSign.f t128).bind fun t129 => (some (t129, true))) else (some ((⟨#[]⟩ : ByteArray), true))) = some (r1, r2) := H
    have A4 := Aside0.mk A40
    clear A40
    by_cases c5 : t128 > 0
    · rw [if_pos c5] at H
      have c5b0 : decide (0 < t128) = true := decide_eq_true c5
      clear c5
      replace H := Option.bind_eq_some_iff.mp H
      obtain ⟨t129, A60, H⟩ := H
      replace H : (some (t129, true)) = some (r1, r2) := H
      have A6 := Aside0.mk A60
      clear A60
      simp only [Option.some.injEq, Prod.mk.injEq] at H
      obtain ⟨rfl, rfl⟩ := H
      go_enter Tryz.func10, Tryz.ntmps10
      go_wp2_with (first | ((with_reducible refine gate_callee (f := 41) rfl ?_); refine goesL_ (some 6) rfl rfl Tryz.func41 (by kernel_rfl) rfl #[.string a0] rfl (by (try simp only [List.map_toArray, List.map_cons, List.map_nil]); first | done | rfl | (simp only [List.length_drop, List.length_take]; rfl)) ?_; (with_reducible refine (spec_drWord.calls k a0 true _ A2.out).mono ?_); rintro e w' ⟨rfl, ⟨nd, rfl⟩⟩; refine ⟨_, rfl, ?_⟩) | ((with_reducible refine gate_callee (f := 43) rfl ?_); refine goesL_ (some 9) rfl rfl Tryz.func43 (by kernel_rfl) rfl #[.string a0] rfl (by (try simp only [List.map_toArray, List.map_cons, List.map_nil]); first | done | rfl | (simp only [List.length_drop, List.length_take]; rfl)) ?_; (with_reducible refine (spec_drNet.calls k a0 t128 _ A4.out).mono ?_); rintro e w' ⟨rfl, ⟨nd, rfl⟩⟩; refine ⟨_, rfl, ?_⟩) | ((with_reducible refine gate_callee (f := 44) rfl ?_); refine goesL_ (some 13) rfl rfl Tryz.func44 (by kernel_rfl) rfl #[.int .i64 t128] rfl (by (try simp only [List.map_toArray, List.map_cons, List.map_nil]); first | done | rfl | (simp only [List.length_drop, List.length_take]; rfl)) ?_; (with_reducible refine (spec_drSign.calls t128 t129 _ A6.out).mono ?_); rintro e w' ⟨rfl, ⟨nd, rfl⟩⟩; refine ⟨_, rfl, ?_⟩))
      go_ret2
      exact ⟨by first | rfl | (simp; done) | (simp [*]; done), by repeat (first | exact Drawn0.refl _ | apply Drawn0.step)⟩
    · rw [if_neg c5] at H
      have c5b0 : decide (0 < t128) = false := decide_eq_false c5
      clear c5
      simp only [Option.some.injEq, Prod.mk.injEq] at H
      obtain ⟨rfl, rfl⟩ := H
      go_enter Tryz.func10, Tryz.ntmps10
      go_wp2_with (first | ((with_reducible refine gate_callee (f := 41) rfl ?_); refine goesL_ (some 6) rfl rfl Tryz.func41 (by kernel_rfl) rfl #[.string a0] rfl (by (try simp only [List.map_toArray, List.map_cons, List.map_nil]); first | done | rfl | (simp only [List.length_drop, List.length_take]; rfl)) ?_; (with_reducible refine (spec_drWord.calls k a0 true _ A2.out).mono ?_); rintro e w' ⟨rfl, ⟨nd, rfl⟩⟩; refine ⟨_, rfl, ?_⟩) | ((with_reducible refine gate_callee (f := 43) rfl ?_); refine goesL_ (some 9) rfl rfl Tryz.func43 (by kernel_rfl) rfl #[.string a0] rfl (by (try simp only [List.map_toArray, List.map_cons, List.map_nil]); first | done | rfl | (simp only [List.length_drop, List.length_take]; rfl)) ?_; (with_reducible refine (spec_drNet.calls k a0 t128 _ A4.out).mono ?_); rintro e w' ⟨rfl, ⟨nd, rfl⟩⟩; refine ⟨_, rfl, ?_⟩))
      go_ret2
      exact ⟨by first | rfl | (simp; done) | (simp [*]; done), by repeat (first | exact Drawn0.refl _ | apply Drawn0.step)⟩
  · replace c3 := Bool.eq_false_iff.mpr c3
    subst c3
    have H1 : (some ((⟨#[]⟩ : ByteArray), false)) = some (r1, r2) := by rw [if_neg (show ¬ (false = true) by decide)] at H; exact H
    clear H
    have H := H1
    clear H1
    simp only [Option.some.injEq, Prod.mk.injEq] at H
    obtain ⟨rfl, rfl⟩ := H
    go_enter Tryz.func10, Tryz.ntmps10
    go_wp2_with (first | ((with_reducible refine gate_callee (f := 41) rfl ?_); refine goesL_ (some 6) rfl rfl Tryz.func41 (by kernel_rfl) rfl #[.string a0] rfl (by (try simp only [List.map_toArray, List.map_cons, List.map_nil]); first | done | rfl | (simp only [List.length_drop, List.length_take]; rfl)) ?_; (with_reducible refine (spec_drWord.calls k a0 false _ A2.out).mono ?_); rintro e w' ⟨rfl, ⟨nd, rfl⟩⟩; refine ⟨_, rfl, ?_⟩))
    go_ret2
    exact ⟨by first | rfl | (simp; done) | (simp [*]; done), by repeat (first | exact Drawn0.refl _ | apply Drawn0.step)⟩

/-! ### impl_mirrorCommands: function 45 -/
theorem mi_disable (w : World) : (callFunc 110 #[]).run Tryz.prog w = .ok (.value (.tuple #[])) w := run_call_mark0 Tryz.func110 (by kernel_rfl) (by kernel_rfl) (by kernel_rfl) .disable (by kernel_rfl) w
theorem mi_enable (w : World) : (callFunc 112 #[]).run Tryz.prog w = .ok (.value (.tuple #[])) w := run_call_mark0 Tryz.func112 (by kernel_rfl) (by kernel_rfl) (by kernel_rfl) .enable (by kernel_rfl) w
theorem mi_acquire (a : Addr) (w : World) : (callFunc 113 #[.pointer (some a)]).run Tryz.prog w = .ok (.value (.tuple #[])) w := run_call_marked Tryz.func113 (by kernel_rfl) (by kernel_rfl) (by kernel_rfl) .acquire (by kernel_rfl) a w
theorem mi_releaseMerge (a : Addr) (w : World) : (callFunc 115 #[.pointer (some a)]).run Tryz.prog w = .ok (.value (.tuple #[])) w := run_call_marked Tryz.func115 (by kernel_rfl) (by kernel_rfl) (by kernel_rfl) .releaseMerge (by kernel_rfl) a w
theorem mi_store_deferred (a : Addr) (x : Value) (u : FrameMode) (w : World) (hc : w.cell? a = some x) (hz : w.frozen? a = false) :
    CallsD Tryz.prog 99 #[.pointer (some a), .bool true] u w fun e u' w' => u' = u ∧ (e = .returned (.tuple #[]) ∧ w' = w.drew.setCell a (.int .u32 1)) := by
  have hc' : w.drew.cell? a = some x := by go_simp
  have hz' : w.drew.frozen? a = false := by go_simp
  have hst := run_call_store (P := Tryz.prog) Tryz.func106 (by kernel_rfl) (by kernel_rfl) (by kernel_rfl) (by kernel_rfl) (k := .u32) (y := 1) hc' hz'
  go_enter_d Tryz.func99, Tryz.ntmps99
  go_wp2
  go_region_calls
  all_goals (go_end0; exact ⟨rfl, rfl⟩)
set_option maxHeartbeats 1600000 in
set_option maxRecDepth 100000 in
theorem mi_unlock_in (a : Addr) (w : World) (hc : w.cell? a = some (.int .i32 1)) (hz : w.frozen? a = false) :
    Calls Tryz.prog 105 #[.pointer (some a)] w fun e w' => e = .returned (.tuple #[]) ∧ w' = w.setCell a (.int .i32 0) := by
  have hd := mi_disable
  have he := mi_enable
  have hr := mi_releaseMerge
  have hadd := run_call_add (P := Tryz.prog) Tryz.func116 (by kernel_rfl) (by kernel_rfl) (by kernel_rfl) .i32 (by kernel_rfl) (y := -1) (s := 0) hc hz (by simp [go_sem]; rfl)
  have hcv := run_convert_to_unsafe (P := Tryz.prog) (src := 135) (dst := 139) Tryz.underlying135 Tryz.underlying139 (by kernel_rfl) hc
  go_enter Tryz.func105, Tryz.ntmps105
  go_wp2
  go_end0
  exact ⟨rfl, rfl⟩
theorem mi_unlock_deferred (a : Addr) (u : FrameMode) (w : World) (hc : w.cell? a = some (.int .i32 1)) (hz : w.frozen? a = false) :
    CallsD Tryz.prog 98 #[.pointer (some a)] u w fun e u' w' => u' = u ∧ (e = .returned (.tuple #[]) ∧ w' = w.setCell a (.int .i32 0)) := by
  go_enter_d Tryz.func98, Tryz.ntmps98
  go_wp2_with (refine (mi_unlock_in _ _ hc hz).mono ?_; rintro e w' ⟨rfl, rfl⟩)
  go_end0
  exact ⟨rfl, rfl⟩
set_option maxHeartbeats 1600000 in
set_option maxRecDepth 100000 in
theorem mi_lock_in (a : Addr) (w : World) (hc : w.cell? a = some (.int .i32 0)) (hz : w.frozen? a = false) :
    Calls Tryz.prog 104 #[.pointer (some a)] w fun e w' => e = .returned (.tuple #[]) ∧ w' = w.setCell a (.int .i32 1) := by
  have hd := mi_disable
  have he := mi_enable
  have ha := mi_acquire
  have hcas := run_call_cas_hit (P := Tryz.prog) Tryz.func111 (by kernel_rfl) (by kernel_rfl) (by kernel_rfl) .i32 (by kernel_rfl) (y := 1) hc hz
  have hc' : (w.setCell a (.int .i32 1)).cell? a = some (.int .i32 1) := World.cell?_setCell_same w a _ hc
  have hcv := run_convert_to_unsafe (P := Tryz.prog) (src := 135) (dst := 139) Tryz.underlying135 Tryz.underlying139 (by kernel_rfl) hc'
  go_enter Tryz.func104, Tryz.ntmps104
  go_wp2
  first | go_end0 | (simp only [Exit.inBlock, Exit.then]; refine bodyPost_ret (results_none rfl _ _ _) rfl ?_) | refine bodyPost_ret (results_none rfl _ _ _) rfl ?_
  exact ⟨rfl, rfl⟩
theorem mi_lock (a : Addr) (w : World) (hc : w.cell? a = some (.int .i32 0)) (hz : w.frozen? a = false) :
    Calls Tryz.prog 97 #[.pointer (some a)] w fun e w' => e = .returned (.tuple #[]) ∧ w' = w.setCell a (.int .i32 1) := by
  go_enter Tryz.func97, Tryz.ntmps97
  go_wp2_with (refine (mi_lock_in _ _ hc hz).mono ?_; rintro e w' ⟨rfl, rfl⟩)
  go_end0
  exact ⟨rfl, rfl⟩
theorem mi_load0 (a : Addr) (w : World) (hc : w.cell? a = some (.int .u32 0)) :
    Calls Tryz.prog 86 #[.pointer (some a)] w fun e w' => e = .returned (.bool false) ∧ w' = w := by
  have hl := run_call_load (P := Tryz.prog) Tryz.func96 (by kernel_rfl) (by kernel_rfl) (by kernel_rfl) .u32 (by kernel_rfl) (w := w) (a := a) (x := 0) hc
  go_enter Tryz.func86, Tryz.ntmps86
  go_wp2
  go_ret
  exact ⟨rfl, rfl⟩
set_option maxRecDepth 100000 in
set_option maxHeartbeats 1600000 in
theorem mi_slow (b : Nat) (w : World) (Post : World → Prop) (h0 : w.cell? ⟨b, 0, none⟩ = some (.int .u32 0)) (h1 : w.cell? ⟨b, 1, none⟩ = some (.int .i32 0)) (f1 : w.frozen? ⟨b, 1, none⟩ = false)
    (hbuild : Calls Tryz.prog 79 #[.pointer (some ⟨b, 0, none⟩)] (w.setCell ⟨b, 1, none⟩ (.int .i32 1)) fun e w' => e = .returned (.tuple #[]) ∧ Post w')
    (hP : ∀ w', Post w' → w'.cell? ⟨b, 0, none⟩ = some (.int .u32 0) ∧ w'.cell? ⟨b, 1, none⟩ = some (.int .i32 1) ∧ w'.frozen? ⟨b, 0, none⟩ = false ∧ w'.frozen? ⟨b, 1, none⟩ = false) :
    Calls Tryz.prog 87 #[.pointer (some ⟨b, 0, none⟩), .func (.func 79) #[.pointer (some ⟨b, 0, none⟩)] #[]] w fun e w'' => e = .returned (.tuple #[]) ∧ ∃ w', Post w' ∧ w'' = (w'.drew.setCell ⟨b, 0, none⟩ (.int .u32 1)).setCell ⟨b, 1, none⟩ (.int .i32 0) := by
  have hld0 : (w.setCell ⟨b, 1, none⟩ (.int .i32 1)).cell? ⟨b, 0, none⟩ = some (.int .u32 0) := (World.cell?_setCell_other _ ⟨b, 1, none⟩ ⟨b, 0, none⟩ _ (by simp)).trans h0
  have hnot : ∀ (x : Bool) (w : World), (Op.unary .not (.bool x)).run Tryz.prog w = .ok (.bool (!x)) w := fun _ _ => rfl
  go_enter_defers Tryz.func87, Tryz.ntmps87
  go_wp2_with (go_at_call 97; refine (mi_lock ⟨b, 1, none⟩ _ h1 f1).mono ?_; rintro e w' ⟨rfl, rfl⟩)
  refine (mi_load0 ⟨b, 0, none⟩ _ hld0).mono ?_
  rintro e w1 ⟨rfl, hw1⟩
  rw [hw1]
  clear hw1
  go_wp2_with fail
  refine hbuild.mono ?_
  rintro e w2 ⟨rfl, hp⟩
  have hq := hP w2 hp
  obtain ⟨c0, c1, z0, z1⟩ := hq
  go_wp2_with fail
  refine leaves_cons (f := 99) (args := #[.pointer (some ⟨b, 0, none⟩), .bool true]) (by simp) (by simp [go_sem]) ?_
  refine (mi_store_deferred ⟨b, 0, none⟩ (.int .u32 0) .returning _ c0 z0).mono ?_
  rintro e u' w'' ⟨rfl, rfl, rfl⟩
  refine leaves_cons (f := 98) (args := #[.pointer (some ⟨b, 1, none⟩)]) (by simp [settle]) (by simp [go_sem]) ?_
  refine (mi_unlock_deferred ⟨b, 1, none⟩ _ _ ?_ (by simp [z1])).mono ?_
  · refine (World.cell?_setCell_other _ ⟨b, 0, none⟩ ⟨b, 1, none⟩ _ (by simp)).trans ?_
    rw [World.cell?_drew]
    exact c1
  rintro e u' w'' ⟨rfl, rfl, rfl⟩
  simp [Leaves, settle, results, Tryz.results87]
  exact ⟨w2, hp, rfl⟩
set_option maxRecDepth 100000 in
set_option maxHeartbeats 1600000 in
theorem mi_do (b : Nat) (w : World) (Post : World → Prop) (h0 : w.cell? ⟨b, 0, none⟩ = some (.int .u32 0)) (h1 : w.cell? ⟨b, 1, none⟩ = some (.int .i32 0)) (f1 : w.frozen? ⟨b, 1, none⟩ = false)
    (hbuild : Calls Tryz.prog 79 #[.pointer (some ⟨b, 0, none⟩)] (w.setCell ⟨b, 1, none⟩ (.int .i32 1)) fun e w' => e = .returned (.tuple #[]) ∧ Post w')
    (hP : ∀ w', Post w' → w'.cell? ⟨b, 0, none⟩ = some (.int .u32 0) ∧ w'.cell? ⟨b, 1, none⟩ = some (.int .i32 1) ∧ w'.frozen? ⟨b, 0, none⟩ = false ∧ w'.frozen? ⟨b, 1, none⟩ = false) :
    Calls Tryz.prog 78 #[.pointer (some ⟨b, 0, none⟩), .func (.func 79) #[.pointer (some ⟨b, 0, none⟩)] #[]] w fun e w'' => e = .returned (.tuple #[]) ∧ ∃ w', Post w' ∧ w'' = (w'.drew.setCell ⟨b, 0, none⟩ (.int .u32 1)).setCell ⟨b, 1, none⟩ (.int .i32 0) := by
  have hnot : ∀ (x : Bool) (w : World), (Op.unary .not (.bool x)).run Tryz.prog w = .ok (.bool (!x)) w := fun _ _ => rfl
  go_enter Tryz.func78, Tryz.ntmps78
  go_wp2_with fail
  refine (mi_load0 ⟨b, 0, none⟩ _ h0).mono ?_
  rintro e w1 ⟨rfl, hw1⟩
  rw [hw1]
  clear hw1
  go_wp2_with fail
  refine (mi_slow b w Post h0 h1 f1 hbuild hP).mono ?_
  rintro e w2 ⟨rfl, hw⟩
  have HW := Aside0.mk hw
  clear hw
  go_wp2
  go_end0
  exact ⟨rfl, HW.out⟩
theorem mi_hid {p : Prop} (h : p) : Hid p := h
theorem mi_st {P : Program} {W W1 : World} {o : Oper} {ρ : Operand → Value} {t : TypeId} {x y : Operand} (ho : o.op = .store t x y) (h : (Instr.storeAt t (ρ x) (ρ y)).run P W = .ok () W1) : (execOp ρ o).run P W = .ok .skip W1 := by
  unfold execOp
  simp only [ho]
  simp [h, Result.andThen]
theorem mi_bl {P : Program} {W : World} {o : Oper} {ρ : Operand → Value} {t : TypeId} {v : Value} (ho : o.op = .build t #[]) (h : (Instr.build t #[]).run P W = .ok v W) : (execOp ρ o).run P W = .ok (.value v) W := by
  unfold execOp
  simp only [ho]
  simp [h, Result.andThen]
theorem mi_al {P : Program} {W W1 : World} {o : Oper} {ρ : Operand → Value} {t : TypeId} {v : Value} (ho : o.op = .alloc t) (h : (Instr.alloc t true (.tuple #[])).run P W = .ok v W1) : (execOp ρ o).run P W = .ok (.value v) W1 := by
  unfold execOp
  simp only [ho]
  simp [h, Result.andThen]
/-- Two hundred and fifty-six bytes. -/
def mbL (f : Nat → Int) : List Value := (List.range 256).map fun j => Value.int .u8 (f j)
/-- The block g holds just the bytes f. -/
def mbRow (w : World) (g : Nat) (f : Nat → Int) : Prop := w.heap[g]? = some (.cells (mbL f).toArray 109 (0, 0))
theorem mbL_len (f : Nat → Int) : (mbL f).length = 256 := by simp [mbL]
theorem mbRow_cell {w : World} {g : Nat} {f : Nat → Int} (h : mbRow w g f) (j : Nat) (hj : j < 256) : w.cell? ⟨g, j, none⟩ = some (.int .u8 (f j)) ∧ w.frozen? ⟨g, j, none⟩ = false := by
  constructor
  · simp [World.cell?, show w.heap[g]? = _ from h, mbL, hj]
  · simp [World.frozen?, show w.heap[g]? = _ from h]
theorem mbL_set (f : Nat → Int) (j : Nat) (x : Int) : (mbL f).set j (.int .u8 x) = mbL fun i => if i = j then x else f i := by
  apply List.ext_getElem?
  intro i
  rw [List.getElem?_set, mbL_len]
  unfold mbL
  by_cases hi : i < 256
  · by_cases hij : j = i
    · subst hij
      simp [hi]
    · have hji : i ≠ j := fun h => hij h.symm
      simp [hi, hij, hji]
  · by_cases hij : j = i
    · subst hij
      simp [hi]
    · simp [hi, hij]
theorem mbRow_set {w : World} {g : Nat} {f : Nat → Int} (h : mbRow w g f) (j : Nat) (x : Int) : mbRow (w.setCell ⟨g, j, none⟩ (.int .u8 x)) g fun i => if i = j then x else f i := by
  unfold mbRow
  rw [setCell_eq_setRow w g j _ 109 (0, 0) _ h, setRow_heap w g _ _ 109 _ h]
  congr 2
  apply Array.ext'
  rw [← mbL_set]
  simp
theorem mbRow_congr {w : World} {g : Nat} {f f' : Nat → Int} (h : mbRow w g f) (e : ∀ j, j < 256 → f j = f' j) : mbRow w g f' := by
  have : mbL f = mbL f' := by
    unfold mbL
    apply List.map_congr_left
    intro j hj
    rw [e j (List.mem_range.1 hj)]
  unfold mbRow
  rw [← this]
  exact h
theorem mb_one (f : Nat → Int) : ((mbL f).toArray).all (·.oneCell') = true := by
  rw [Array.all_eq_true_iff_forall_mem]
  intro x hx
  simp [mbL] at hx
  obtain ⟨y, _, rfl⟩ := hx
  rfl
theorem mb_info : (Tryz.prog.info? 109).map (fun i => (i.zero, i.size)) = some (some (.agg (Array.replicate 256 (.int .u8 0))), 256) := by kernel_rfl
theorem mb_zs : (mbL fun _ => 0).toArray = Array.replicate 256 (.int .u8 0) := by
  apply Array.ext'
  unfold mbL
  rw [List.map_const']
  simp
theorem mb_build (W : World) : (Instr.build 109 #[]).run Tryz.prog W = .ok (.agg (mbL fun _ => 0).toArray) W := by
  obtain ⟨hz, hi⟩ := zero_of_info (P := Tryz.prog) mb_info
  rw [mb_zs]
  have hu := Tryz.underlying109
  simp only [Instr.build, Sem.run_bind, hz W, Result.andThen_ok, run_underlying hu]
  have hs := Tryz.sizeOf5
  simp [hs, Instr.fill, Result.andThen, Value.cells]
theorem mb_alloc (W : World) : (Instr.alloc 109 true (.tuple #[])).run Tryz.prog W = .ok (.pointer (some ⟨W.heap.size, 0, none⟩)) (W.alloc (.cells (mbL fun _ => 0).toArray 109)) := by
  obtain ⟨hz, hi⟩ := zero_of_info (P := Tryz.prog) mb_info
  rw [mb_zs]
  simp only [Instr.alloc, Sem.run_bind, hz W, Result.andThen_ok]
  rfl
theorem mb_store {W : World} {g : Nat} {f : Nat → Int} (h : mbRow W g f) (f' : Nat → Int) : (Instr.storeAt 109 (.pointer (some ⟨g, 0, none⟩)) (.agg (mbL f').toArray)).run Tryz.prog W = .ok () (W.setRow g (mbL f').toArray) := by
  obtain ⟨hz, hi⟩ := zero_of_info (P := Tryz.prog) mb_info
  simp only [Instr.storeAt, Instr.sureAddr, Sem.run_bind, Sem.run_pure, Result.andThen]
  exact run_storeVar_row W g 109 109 _ _ h (by rw [hi]; simp [mbL_len]) (by simp [mbL_len]) (mb_one f')
theorem mbRow_setRow {W : World} {g : Nat} {f : Nat → Int} (h : mbRow W g f) (f' : Nat → Int) : mbRow (W.setRow g (mbL f').toArray) g f' := setRow_heap W g _ _ _ _ h
theorem mbRow_new (W : World) (f : Nat → Int) : mbRow (W.alloc (.cells (mbL f).toArray 109)) W.heap.size f := heap_alloc_last W _
theorem mbRow_other {w w' : World} {g : Nat} {f : Nat → Int} (h : mbRow w g f) (e : w'.heap[g]? = w.heap[g]?) : mbRow w' g f := e.trans h
/-- Left for right, right for left. -/
def mbT (j : Nat) : Int := if j = 76 then 82 else if j = 82 then 76 else (j : Int)
theorem mb_b82 (h : 0 < (ByteArray.mk #[82]).size) : ((ByteArray.mk #[82])[0]'h).toNat = 82 := rfl
theorem mb_b76 (h : 0 < (ByteArray.mk #[76]).size) : ((ByteArray.mk #[76])[0]'h).toNat = 76 := rfl
attribute [local go_sem] mb_b82 mb_b76
def mbS (k : Nat) (j : Nat) : Int := if k = 0 then (j : Int) else if k = 1 then (if j = 82 then 76 else (j : Int)) else mbT j
theorem mi_cell {B : Nat} {w w' : World} {b : Nat} {v : Value} (h : Below B w w') (hb : b < B) (i : Nat) (hc : w.cell? ⟨b, i, none⟩ = some v) : w'.cell? ⟨b, i, none⟩ = some v := by
  rw [← hc]
  simp only [World.cell?, h.block b hb]
set_option maxRecDepth 100000 in
set_option maxHeartbeats 4000000 in
theorem mi_build (b os cc : Nat) (w : World) (hb4 : w.cell? ⟨b, 4, none⟩ = some (.slice (some ⟨os, 0, none⟩) 4 cc)) (hlt : os < w.heap.size)
    (s0 : w.cell? ⟨os, 0, none⟩ = some (.string ⟨#[76]⟩)) (s1 : w.cell? ⟨os, 1, none⟩ = some (.string ⟨#[82]⟩)) (s2 : w.cell? ⟨os, 2, none⟩ = some (.string ⟨#[82]⟩)) (s3 : w.cell? ⟨os, 3, none⟩ = some (.string ⟨#[76]⟩)) :
    Calls Tryz.prog 88 #[.pointer (some ⟨b, 0, none⟩)] w fun e w' => e = .returned (.iface 110 (.pointer (some ⟨w.heap.size, 0, none⟩))) ∧ Below w.heap.size w w' ∧ mbRow w' w.heap.size mbT ∧ w.heap.size < w'.heap.size := by
  go_enter Tryz.func88, Tryz.ntmps88
  go_wp2
  go_loopw [4, 5] (fun v4 v5 wr => ∃ k : Nat, k ≤ 2 ∧ v4 = .bool true ∧ v5 = .int .i64 (2 * k : Nat) ∧ w = wr) (fun _ v5 _ => 4 - (intOf v5).toNat)
  case atStart => exact ⟨0, by decide, rfl, rfl, rfl⟩
  case round =>
    obtain ⟨k, hk, rfl, rfl, hw⟩ := hrel
    subst hw
    have hk3 : k = 0 ∨ k = 1 ∨ k = 2 := by omega
    rcases hk3 with rfl | rfl | rfl
    · go_wp2
      exact ⟨⟨1, by decide, rfl, rfl, trivial⟩, by decide⟩
    · go_wp2
      exact ⟨⟨2, by decide, rfl, rfl, trivial⟩, by decide⟩
    · have hr0 := mbRow_new w fun _ => 0
      have hB0 := below_alloc (Below.refl w.heap.size w) (.cells (mbL fun _ => 0).toArray 109)
      have hbl := mb_build w
      have hal := mb_alloc w
      have hst := mb_store hr0 fun _ => 0
      have hr1 := mbRow_setRow hr0 fun _ => 0
      have hB1 := below_setRow hB0 (Nat.le_refl _) (mbL fun _ => 0).toArray
      have hz1 : w.heap.size < ((w.alloc (.cells (mbL fun _ => 0).toArray 109)).setRow w.heap.size (mbL fun _ => 0).toArray).heap.size := by
        have := hB1.size
        have h2 := Array.getElem?_eq_some_iff.1 hr1
        exact h2.1
      generalize (mbL fun _ => 0).toArray = Z at hr0 hB0 hbl hal hst hr1 hB1 hz1
      have HR1 := mi_hid hr1
      have HB1 := mi_hid hB1
      have HZ1 := mi_hid hz1
      clear hr1 hB1 hr0 hB0 hz1
      go_wp2_with (first | ((with_reducible refine gate_dst (N := 60) rfl ?_); refine Kd.event_run rfl (mi_bl rfl hbl) ?_) | ((with_reducible refine gate_dst (N := 6) rfl ?_); refine Kd.event_run rfl (mi_al rfl hal) ?_) | ((with_reducible refine gate_store (t := 109) (p := 6) rfl ?_); refine store_event rfl rfl rfl (mi_st rfl hst) ?_; intro w4 hw4; rw [← hw4] at HR1 HB1 HZ1; clear hst hal hbl hw4))
      have hr5 := HR1.out
      have hB5 := HB1.out
      have hz5 := HZ1.out
      clear HR1 HB1 HZ1
      go_loopw [61] (fun v61 wq => ∃ k : Nat, k ≤ 256 ∧ v61 = .int .i64 k ∧ mbRow wq w.heap.size (fun j => if j < k then (j : Int) else 0) ∧ Below w.heap.size w wq ∧ w.heap.size < wq.heap.size) (fun v61 _ => 256 - (intOf v61).toNat)
      case atStart => exact ⟨0, by decide, rfl, mbRow_congr hr5 (fun j _ => by simp), hB5, hz5⟩
      case round =>
        obtain ⟨k, hk, rfl, hr, hB, hz⟩ := hrel
        clear hr5 hB5 hz5
        by_cases ck : k < 256
        · have q1 : decide ((k : Int) < 256) = true := decide_eq_true (by omega)
          have p1 : (0 : Int) ≤ (k : Int) := by omega
          have p2 : (k : Int) < 256 := by omega
          have hck := (mbRow_cell hr k ck).1
          have hfk := (mbRow_cell hr k ck).2
          go_wp2
          refine ⟨⟨k + 1, by omega, by simp, mbRow_congr (mbRow_set hr k (k : Int)) (fun j hj => ?_), below_set hB (Nat.le_refl _), by simpa using hz⟩, by simp [intOf]; omega⟩
          by_cases hjk : j = k
          · subst hjk
            simp
          · by_cases c : j < k
            · simp [hjk, c, show j < k + 1 by omega]
            · simp [hjk, c, show ¬ j < k + 1 by omega]
        · obtain rfl : k = 256 := by omega
          have hr6 : mbRow wr w.heap.size (mbS 0) := mbRow_congr hr (fun j hj => by simp [hj, mbS])
          clear hr
          go_wp2
          go_loopw [8] (fun v8 wq => ∃ k : Nat, k ≤ 2 ∧ v8 = .int .i64 (2 - 2 * (k : Int)) ∧ mbRow wq w.heap.size (mbS k) ∧ Below w.heap.size w wq ∧ w.heap.size < wq.heap.size) (fun v8 _ => (intOf v8 + 2).toNat)
          case atStart => exact ⟨0, by decide, rfl, hr6, hB, hz⟩
          case round =>
            obtain ⟨k, hk, rfl, hr, hB, hz⟩ := hrel
            clear hr6
            have e0 := mi_cell hB hlt 0 s0
            have e1 := mi_cell hB hlt 1 s1
            have e2 := mi_cell hB hlt 2 s2
            have e3 := mi_cell hB hlt 3 s3
            have f82 := (mbRow_cell hr 82 (by decide)).2
            have f76 := (mbRow_cell hr 76 (by decide)).2
            have c82 := (mbRow_cell hr 82 (by decide)).1
            have c76 := (mbRow_cell hr 76 (by decide)).1
            have hk3 : k = 0 ∨ k = 1 ∨ k = 2 := by omega
            rcases hk3 with rfl | rfl | rfl
            · go_wp2
              exact ⟨⟨1, by decide, rfl, mbRow_congr (mbRow_set hr 82 76) (fun j hj => by simp [mbS, mbT]), below_set hB (Nat.le_refl _), by simpa using hz⟩, by simp [intOf]⟩
            · go_wp2
              refine ⟨⟨2, by decide, rfl, mbRow_congr (mbRow_set hr 76 82) (fun j hj => by simp [mbS, mbT]), below_set hB (Nat.le_refl _), by simpa using hz⟩, by simp [intOf]⟩
            · go_wp2
              go_ret
              exact ⟨rfl, hB, hr, hz⟩
set_option maxRecDepth 100000 in
set_option maxHeartbeats 4000000 in
theorem mi_once (b os cc : Nat) (w : World) (hb4 : w.cell? ⟨b, 4, none⟩ = some (.slice (some ⟨os, 0, none⟩) 4 cc)) (hlt : os < w.heap.size) (hbl : b < w.heap.size) (f3 : w.frozen? ⟨b, 3, none⟩ = false) (f4 : w.frozen? ⟨b, 4, none⟩ = false) (c3 : w.cell? ⟨b, 3, none⟩ = some .nilIface)
    (s0 : w.cell? ⟨os, 0, none⟩ = some (.string ⟨#[76]⟩)) (s1 : w.cell? ⟨os, 1, none⟩ = some (.string ⟨#[82]⟩)) (s2 : w.cell? ⟨os, 2, none⟩ = some (.string ⟨#[82]⟩)) (s3 : w.cell? ⟨os, 3, none⟩ = some (.string ⟨#[76]⟩)) :
    Calls Tryz.prog 79 #[.pointer (some ⟨b, 0, none⟩)] w fun e w' => e = .returned (.tuple #[]) ∧ ∃ wb, (Below w.heap.size w wb ∧ mbRow wb w.heap.size mbT ∧ w.heap.size < wb.heap.size) ∧ w' = (wb.setCell ⟨b, 3, none⟩ (.iface 110 (.pointer (some ⟨w.heap.size, 0, none⟩)))).setCell ⟨b, 4, none⟩ (.slice none 0 0) := by
  go_enter Tryz.func79, Tryz.ntmps79
  go_wp2_with fail
  refine (mi_build b os cc w hb4 hlt s0 s1 s2 s3).mono ?_
  rintro e wb ⟨rfl, hB, hrow, hz⟩
  have d3 := mi_cell hB hbl 3 c3
  have d4 := mi_cell hB hbl 4 hb4
  have g3 : wb.frozen? ⟨b, 3, none⟩ = false := by
    rw [← f3]
    simp only [World.frozen?, hB.block b hbl]
  have g4 : wb.frozen? ⟨b, 4, none⟩ = false := by
    rw [← f4]
    simp only [World.frozen?, hB.block b hbl]
  have HP : Hid (Below w.heap.size w wb ∧ mbRow wb w.heap.size mbT ∧ w.heap.size < wb.heap.size) := mi_hid ⟨hB, hrow, hz⟩
  clear hB hrow hz
  go_wp2
  go_end0
  exact ⟨rfl, wb, HP.out, rfl⟩
/-- The word with left for right. -/
def mbStr (s : ByteArray) : ByteArray := strOfNums ((List.range s.size).map fun (i : Nat) => mbT (bt s (i : Int)).toNat)
theorem mbStr_same (s : ByteArray) (h : ∀ j : Nat, j < s.size → mbT (bt s (j : Int)).toNat = bt s (j : Int)) : mbStr s = s := by
  have e : ((List.range s.size).map fun (i : Nat) => mbT (bt s (i : Int)).toNat) = s.data.toList.map fun b => (b.toNat : Int) := by
    apply List.ext_getElem
    · simp
    intro i h1 h2
    have h3 : i < s.size := by simpa using h1
    simp only [List.getElem_map, List.getElem_range]
    rw [h i h3]
    unfold bt
    rw [dif_pos (by simpa using h3)]
    simp
    rfl
  unfold mbStr
  rw [e, Lib.Lz.strOfNums_map]
theorem mi_below_bytes (w : World) (e : TypeId) (s : ByteArray) : Below w.heap.size w (Lib.bytesWorld w e s) :=
  ⟨rfl, rfl, rfl, by rw [Lib.bytesWorld_size]; omega, fun j hj => Lib.bytesWorld_at_old w e s j hj⟩
theorem mi_bytes_at (s : ByteArray) (j : Nat) (h : j < s.size) : ((s.data.toList.getD j 0).toNat : Int) = bt s (j : Int) := by
  have hz := Lib.size_eq s
  unfold bt
  rw [dif_pos (by simpa using h)]
  have : s.data.toList.getD j 0 = s[j] := by
    rw [List.getD_eq_getElem?_getD, List.getElem?_eq_getElem (by omega)]
    simp
    rfl
  rw [this]
  rfl
theorem mi_bytes_cells (w : World) (s : ByteArray) : (∀ (j : Nat), j < s.size → (Lib.bytesWorld w 5 s).cell? ⟨w.heap.size, j, none⟩ = some (.int .u8 (bt s (j : Int)))) ∧ (∀ (j : Nat), j < s.size → (Lib.bytesWorld w 5 s).frozen? ⟨w.heap.size, j, none⟩ = false) := by
  constructor
  · exact fun j hj => by rw [Lib.bytesWorld_cell w 5 s j hj, mi_bytes_at s j hj]
  · exact fun j hj => by
      have hb := Lib.bytesWorld_at_new w 5 s
      have hz : s.size ≤ (Lib.bytesCells w 5 s).size := by unfold Lib.bytesCells; rw [Array.size_append, Array.size_map, Array.size_replicate, show s.data.size = s.size from rfl]; omega
      simp [World.frozen?, hb]
      omega
theorem mb_cell_at {w : World} {g : Nat} (h : mbRow w g mbT) (b : Int) (h0 : 0 ≤ b) (h1 : b ≤ 255) : w.cell? ⟨g, b.toNat, none⟩ = some (.int .u8 (mbT b.toNat)) := (mbRow_cell h b.toNat (by omega)).1
/-- What the buffer is behind k letters. -/
def mbBuf (w0 : World) (s : ByteArray) (k : Nat) (v5 : Value) (wr : World) : Prop :=
  (v5 = .slice none 0 0 ∧ ∀ j : Nat, j < k → mbT (bt s (j : Int)).toNat = bt s (j : Int)) ∨
  ∃ h c : Nat, v5 = .slice (some ⟨h, 0, none⟩) s.size c ∧ w0.heap.size ≤ h ∧ (∀ j : Nat, j < s.size → wr.cell? ⟨h, j, none⟩ = some (.int .u8 (if j < k then mbT (bt s (j : Int)).toNat else bt s (j : Int)))) ∧ (∀ (j : Nat), j < s.size → wr.frozen? ⟨h, j, none⟩ = false)
theorem mbBuf_step {w0 wr : World} {s : ByteArray} {k : Nat} (ck : k < s.size) (h c : Nat) (hh : w0.heap.size ≤ h) (hc : ∀ j : Nat, j < s.size → wr.cell? ⟨h, j, none⟩ = some (.int .u8 (if j < k then mbT (bt s (j : Int)).toNat else bt s (j : Int)))) (hf : ∀ (j : Nat), j < s.size → wr.frozen? ⟨h, j, none⟩ = false) (x : Nat) (hx : bt s (k : Int) = (x : Int)) :
    mbBuf w0 s (k + 1) (.slice (some ⟨h, 0, none⟩) s.size c) (wr.setCell ⟨h, k, none⟩ (.int .u8 (mbT x))) := by
  refine .inr ⟨h, c, rfl, hh, fun j hj => ?_, fun j hj => ?_⟩
  · by_cases hjk : j = k
    · subst hjk
      rw [World.cell?_setCell_same' wr _ _ (by rw [hc j hj]; rfl), if_pos (by omega), hx]
      simp
    · rw [World.cell?_setCell_other wr _ _ _ (show (⟨h, k, none⟩ : Addr) ≠ ⟨h, j, none⟩ by intro e; injection e with _ h2 _; omega), hc j hj]
      by_cases c2 : j < k
      · rw [if_pos c2, if_pos (by omega)]
      · rw [if_neg c2, if_neg (by omega)]
  · rw [World.frozen?_setCell]
    exact hf j hj
set_option maxRecDepth 100000 in
set_option maxHeartbeats 4000000 in
theorem mi_bytes (g : Nat) (s : ByteArray) (hs : s.size ≤ 1000000) (w : World) (hrow : mbRow w g mbT) (hg : g < w.heap.size) :
    Calls Tryz.prog 157 #[.pointer (some ⟨g, 0, none⟩), .string s] w fun e w' => e = .returned (.string (mbStr s)) ∧ Below w.heap.size w w' := by
  go_enter Tryz.func157, Tryz.ntmps157
  have hnil : ∀ (a : Option Addr) (l c : Nat) (W : World), (binOp .eql 34 (.slice a l c) (.slice none 0 0)).run Tryz.prog W = .ok (.bool a.isNone) W := fun a l c W => run_eql_slice_nil W _ _ a l c Tryz.underlying34
  go_wp2
  go_loopw [5, 6] (fun v5 v6 wr => ∃ k : Nat, k ≤ s.size ∧ v6 = .int .i64 k ∧ mbBuf w s k v5 wr ∧ Below w.heap.size w wr) (fun _ v6 _ => s.size - (intOf v6).toNat)
  case atStart => exact ⟨0, Nat.zero_le _, rfl, .inl ⟨rfl, fun j hj => absurd hj (Nat.not_lt_zero _)⟩, Below.refl _ _⟩
  case round =>
    obtain ⟨k, hk, rfl, hbuf, hB⟩ := hrel
    have hrw : mbRow wr g mbT := mbRow_other hrow (hB.block g hg)
    have hzz : w.heap.size ≤ wr.heap.size := hB.size
    by_cases ck : k < s.size
    · have q1 : decide ((k : Int) < (s.size : Int)) = true := decide_eq_true (by omega)
      have p1 : (0 : Int) ≤ (k : Int) := by omega
      have p2 : (k : Int) < (s.size : Int) := by omega
      have hx : bt s (k : Int) = ((s[k]'ck).toNat : Int) := (bt_at s (k : Int) ck).symm
      have hlt : (s[k]'ck).toNat < 256 := (s[k]'ck).toNat_lt
      have hck := (mbRow_cell hrw _ hlt).1
      by_cases ce : mbT (s[k]'ck).toNat = ((s[k]'ck).toNat : Int)
      · have q2 : decide (mbT (s[k]'ck).toNat = ((s[k]'ck).toNat : Int)) = true := decide_eq_true ce
        have HBUF := mi_hid hbuf
        clear hbuf
        go_wp2
        refine ⟨⟨k + 1, by omega, by simp, ?_, hB⟩, by simp [intOf]; omega⟩
        rcases HBUF.out with ⟨e, h⟩ | ⟨h, c, e, hh, hc, hf⟩
        · refine .inl ⟨e, fun j hj => ?_⟩
          by_cases hjk : j = k
          · subst hjk
            rw [hx]
            exact ce
          · exact h j (by omega)
        · refine .inr ⟨h, c, e, hh, fun j hj => ?_, hf⟩
          rw [hc j hj]
          by_cases hjk : j = k
          · subst hjk
            rw [hx]
            simp [ce]
          · by_cases c2 : j < k
            · rw [if_pos c2, if_pos (by omega)]
            · rw [if_neg c2, if_neg (by omega)]
      · have q2 : decide (mbT (s[k]'ck).toNat = ((s[k]'ck).toNat : Int)) = false := decide_eq_false ce
        rcases hbuf with ⟨rfl, h⟩ | ⟨h, c, rfl, hh, hc, hf⟩
        · have hcv := Lib.run_convert_string_bytes (P := Tryz.prog) wr 9 34 5 s Tryz.underlying9 Tryz.underlying34 Tryz.underlying5
          obtain ⟨hc0, hf0⟩ := mi_bytes_cells wr s
          have hsz := Lib.bytesWorld_size wr 5 s
          have hbel := below_step hB (mi_below_bytes wr 5 s)
          have hr2 : mbRow (Lib.bytesWorld wr 5 s) g mbT := mbRow_other hrw (Lib.bytesWorld_at_old wr 5 s g (by omega))
          generalize Lib.bytesWorld wr 5 s = w1 at hcv hc0 hf0 hsz hbel hr2
          have hck2 := (mbRow_cell hr2 _ hlt).1
          have hc2 := hc0 k ck
          have hf2 := hf0 k ck
          have HC := mi_hid hc0
          have HF := mi_hid hf0
          clear hc0 hf0
          go_wp2
          refine ⟨⟨k + 1, by omega, by simp, mbBuf_step ck _ _ hzz (fun j hj => ?_) HF.out _ hx, below_set hbel hzz⟩, by simp [intOf]; omega⟩
          rw [HC.out j hj]
          by_cases c2 : j < k
          · rw [if_pos c2, h j c2]
          · rw [if_neg c2]
        · have hc2 := hc k ck
          have hf2 := hf k ck
          rw [if_neg (by omega)] at hc2
          have HC := mi_hid hc
          have HF := mi_hid hf
          clear hc hf
          go_wp2
          exact ⟨⟨k + 1, by omega, by simp, mbBuf_step ck _ _ hh HC.out HF.out _ hx, below_set hB hh⟩, by simp [intOf]; omega⟩
    · obtain rfl : k = s.size := by omega
      have q1 : decide ((s.size : Int) < (s.size : Int)) = false := decide_eq_false (by omega)
      rcases hbuf with ⟨rfl, h⟩ | ⟨h, c, rfl, hh, hc, hf⟩
      · go_wp2
        go_ret
        rw [mbStr_same s h]
        exact ⟨rfl, hB⟩
      · have hback := run_convert_bytes_arg (P := Tryz.prog) wr 34 5 Tryz.underlying34 Tryz.underlying5 h 0 s.size c ((List.range s.size).map fun (i : Nat) => mbT (bt s (i : Int)).toNat) (by simp) (fun i hi => by
          rw [Nat.zero_add, hc i hi, if_pos hi]
          simp [List.getD, hi]) 9 Tryz.underlying9
        clear hc hf
        go_wp2
        go_ret
        exact ⟨rfl, hB⟩
/-- A new replacer at block b. -/
structure MiRep (w0 : World) (b os cc : Nat) (w : World) : Prop where
  below : Below w0.heap.size w0 w
  new : w0.heap.size ≤ b
  hbl : b < w.heap.size
  hlt : os < w.heap.size
  ne : os ≠ b
  h0 : w.cell? ⟨b, 0, none⟩ = some (.int .u32 0)
  h1 : w.cell? ⟨b, 1, none⟩ = some (.int .i32 0)
  c3 : w.cell? ⟨b, 3, none⟩ = some .nilIface
  hb4 : w.cell? ⟨b, 4, none⟩ = some (.slice (some ⟨os, 0, none⟩) 4 cc)
  fr : ∀ j, j < 5 → w.frozen? ⟨b, j, none⟩ = false
  s0 : w.cell? ⟨os, 0, none⟩ = some (.string ⟨#[76]⟩)
  s1 : w.cell? ⟨os, 1, none⟩ = some (.string ⟨#[82]⟩)
  s2 : w.cell? ⟨os, 2, none⟩ = some (.string ⟨#[82]⟩)
  s3 : w.cell? ⟨os, 3, none⟩ = some (.string ⟨#[76]⟩)
theorem mi_rep_mk (w : World) (Z : Array Value) (cc : Nat) :
    MiRep w (w.heap.size + 1) w.heap.size cc ((w.alloc (.cells (#[.string ⟨#[76]⟩, .string ⟨#[82]⟩, .string ⟨#[82]⟩, .string ⟨#[76]⟩] ++ Z) 9)).alloc (.cells #[.int .u32 0, .int .i32 0, .int .u32 0, .nilIface, .slice (some ⟨w.heap.size, 0, none⟩) 4 cc] 89)).drew := by
  have hB0 := below_alloc (Below.refl w.heap.size w) (.cells (#[.string ⟨#[76]⟩, .string ⟨#[82]⟩, .string ⟨#[82]⟩, .string ⟨#[76]⟩] ++ Z) 9)
  have e0 := heap_alloc_last w (.cells (#[.string ⟨#[76]⟩, .string ⟨#[82]⟩, .string ⟨#[82]⟩, .string ⟨#[76]⟩] ++ Z) 9)
  have z0 : (w.alloc (.cells (#[.string ⟨#[76]⟩, .string ⟨#[82]⟩, .string ⟨#[82]⟩, .string ⟨#[76]⟩] ++ Z) 9)).heap.size = w.heap.size + 1 := by simp
  generalize w.alloc (.cells (#[.string ⟨#[76]⟩, .string ⟨#[82]⟩, .string ⟨#[82]⟩, .string ⟨#[76]⟩] ++ Z) 9) = w1 at hB0 e0 z0 ⊢
  have hB1 := hB0.alloc (by omega) (.cells #[.int .u32 0, .int .i32 0, .int .u32 0, .nilIface, .slice (some ⟨w.heap.size, 0, none⟩) 4 cc] 89)
  have e1 := heap_alloc_last w1 (.cells #[.int .u32 0, .int .i32 0, .int .u32 0, .nilIface, .slice (some ⟨w.heap.size, 0, none⟩) 4 cc] 89)
  have k1 := below_alloc (Below.refl w1.heap.size w1) (.cells #[.int .u32 0, .int .i32 0, .int .u32 0, .nilIface, .slice (some ⟨w.heap.size, 0, none⟩) 4 cc] 89)
  have z1 : (w1.alloc (.cells #[.int .u32 0, .int .i32 0, .int .u32 0, .nilIface, .slice (some ⟨w.heap.size, 0, none⟩) 4 cc] 89)).heap.size = w.heap.size + 2 := by simp [z0]
  have e2 := (k1.block w.heap.size (by omega)).trans e0
  generalize w1.alloc (.cells #[.int .u32 0, .int .i32 0, .int .u32 0, .nilIface, .slice (some ⟨w.heap.size, 0, none⟩) 4 cc] 89) = w2 at hB1 e1 z1 e2 ⊢
  rw [z0] at e1
  have e1' : w2.drew.heap[w.heap.size + 1]? = _ := e1
  have e2' : w2.drew.heap[w.heap.size]? = _ := e2
  refine ⟨below_drew1 hB1, by omega, by simp [z1], by simp [z1], by omega, ?_, ?_, ?_, ?_, ?_, ?_, ?_, ?_, ?_⟩
  · simp [World.cell?, e1']
  · simp [World.cell?, e1']
  · simp [World.cell?, e1']
  · simp [World.cell?, e1']
  · intro j hj
    simp [World.frozen?, e1']
  · simp [World.cell?, e2', Array.getElem?_append]
  · simp [World.cell?, e2', Array.getElem?_append]
  · simp [World.cell?, e2', Array.getElem?_append]
  · simp [World.cell?, e2', Array.getElem?_append]
set_option maxRecDepth 100000 in
set_option maxHeartbeats 4000000 in
theorem mi_new (va : Nat) (w : World)
    (s0 : w.cell? ⟨va, 0, none⟩ = some (.string ⟨#[76]⟩)) (s1 : w.cell? ⟨va, 1, none⟩ = some (.string ⟨#[82]⟩)) (s2 : w.cell? ⟨va, 2, none⟩ = some (.string ⟨#[82]⟩)) (s3 : w.cell? ⟨va, 3, none⟩ = some (.string ⟨#[76]⟩)) :
    Calls Tryz.prog 63 #[.slice (some ⟨va, 0, none⟩) 4 4] w fun e w' => ∃ b os cc, e = .returned (.pointer (some ⟨b, 0, none⟩)) ∧ MiRep w b os cc w' := by
  go_enter Tryz.func63, Tryz.ntmps63
  go_wp2
  go_ret
  exact ⟨_, _, _, rfl, mi_rep_mk w _ _⟩
set_option maxRecDepth 100000 in
set_option maxHeartbeats 4000000 in
theorem mi_replace (w0 : World) (b os cc : Nat) (s : ByteArray) (hs : s.size ≤ 1000000) (w : World) (h : MiRep w0 b os cc w) :
    Calls Tryz.prog 64 #[.pointer (some ⟨b, 0, none⟩), .string s] w fun e w' => e = .returned (.string (mbStr s)) ∧ Below w0.heap.size w0 w' := by
  obtain ⟨hb, hnew, hbl, hlt, hne, h0, h1, c3, hb4, fr, s0, s1, s2, s3⟩ := h
  have oth : ∀ (w : World) (i : Nat) (v : Value), (w.setCell ⟨b, i, none⟩ v).heap.size = w.heap.size := fun w i v => by simp
  have cellb : ∀ (w : World) (i j : Nat) (v : Value), i ≠ j → (w.setCell ⟨b, i, none⟩ v).cell? ⟨b, j, none⟩ = w.cell? ⟨b, j, none⟩ := fun w i j v hij => World.cell?_setCell_other w _ _ _ (by intro e; injection e with _ h2 _; exact hij h2)
  have cello : ∀ (w : World) (i j : Nat) (v : Value), (w.setCell ⟨b, i, none⟩ v).cell? ⟨os, j, none⟩ = w.cell? ⟨os, j, none⟩ := fun w i j v => World.cell?_setCell_other w _ _ _ (by intro e; injection e with h2 _ _; exact hne h2.symm)
  have hon := mi_once b os cc (w.setCell ⟨b, 1, none⟩ (.int .i32 1)) (by rw [cellb _ _ _ _ (by decide)]; exact hb4) (by rw [oth]; exact hlt) (by rw [oth]; exact hbl) (by rw [World.frozen?_setCell]; exact fr 3 (by decide)) (by rw [World.frozen?_setCell]; exact fr 4 (by decide)) (by rw [cellb _ _ _ _ (by decide)]; exact c3) (by rw [cello]; exact s0) (by rw [cello]; exact s1) (by rw [cello]; exact s2) (by rw [cello]; exact s3)
  have hc0 : (w.setCell ⟨b, 1, none⟩ (.int .i32 1)).cell? ⟨b, 0, none⟩ = some (.int .u32 0) := by rw [cellb _ _ _ _ (by decide)]; exact h0
  have hc1 : (w.setCell ⟨b, 1, none⟩ (.int .i32 1)).cell? ⟨b, 1, none⟩ = some (.int .i32 1) := World.cell?_setCell_same' w _ _ (by rw [h1]; rfl)
  have hf : ∀ j, j < 5 → (w.setCell ⟨b, 1, none⟩ (.int .i32 1)).frozen? ⟨b, j, none⟩ = false := fun j hj => by rw [World.frozen?_setCell]; exact fr j hj
  have hc3 : (w.setCell ⟨b, 1, none⟩ (.int .i32 1)).cell? ⟨b, 3, none⟩ = some .nilIface := by rw [cellb _ _ _ _ (by decide)]; exact c3
  have hb1 := below_set (j := 1) (v := .int .i32 1) hb hnew
  have hz : (w.setCell ⟨b, 1, none⟩ (.int .i32 1)).heap.size = w.heap.size := oth _ _ _
  have hdo := mi_do b w _ h0 h1 (fr 1 (by decide)) hon (by
    rintro w' ⟨wb, ⟨hB, _, _⟩, rfl⟩
    have q0 := mi_cell hB (by rw [oth]; exact hbl) 0 hc0
    have q1 := mi_cell hB (by rw [oth]; exact hbl) 1 hc1
    have q2 : ∀ j, j < 5 → wb.frozen? ⟨b, j, none⟩ = false := fun j hj => by
      rw [← hf j hj]
      simp only [World.frozen?, hB.block b (show b < (w.setCell ⟨b, 1, none⟩ (.int .i32 1)).heap.size by rw [oth]; exact hbl)]
    refine ⟨?_, ?_, ?_, ?_⟩
    · rw [cellb _ _ _ _ (by decide), cellb _ _ _ _ (by decide)]; exact q0
    · rw [cellb _ _ _ _ (by decide), cellb _ _ _ _ (by decide)]; exact q1
    · rw [World.frozen?_setCell, World.frozen?_setCell]; exact q2 0 (by decide)
    · rw [World.frozen?_setCell, World.frozen?_setCell]; exact q2 1 (by decide))
  have HON := mi_hid hon
  clear hon
  go_enter Tryz.func64, Tryz.ntmps64
  go_wp2_with fail
  refine hdo.mono ?_
  rintro e w2 ⟨rfl, w', ⟨wb, ⟨hB, hrow, hzz⟩, rfl⟩, hw2⟩
  rw [hz] at hB hrow hzz
  have k3 := mi_cell hB hbl 3 hc3
  have hne2 : w.heap.size ≠ b := by omega
  have hB2 : Below w0.heap.size w0 w2 := by
    rw [hw2]
    exact below_set (below_set (below_drew1 (below_set (below_set (below_weaken hb1 hb.size hB) hnew) hnew)) hnew) hnew
  have hc : w2.cell? ⟨b, 3, none⟩ = some (.iface 110 (.pointer (some ⟨w.heap.size, 0, none⟩))) := by
    rw [hw2, cellb _ _ _ _ (by decide), cellb _ _ _ _ (by decide), World.cell?_drew, cellb _ _ _ _ (by decide), hz]
    exact World.cell?_setCell_same' wb _ _ (by rw [k3]; rfl)
  have hr2 : mbRow w2 w.heap.size mbT := by
    refine mbRow_other hrow ?_
    rw [hw2, Below.heap_setCell _ _ _ _ hne2, Below.heap_setCell _ _ _ _ hne2]
    change ((wb.setCell ⟨b, 3, none⟩ _).setCell ⟨b, 4, none⟩ _).heap[w.heap.size]? = _
    rw [Below.heap_setCell _ _ _ _ hne2, Below.heap_setCell _ _ _ _ hne2]
  have hz2 : w.heap.size < w2.heap.size := by
    rw [hw2]
    simpa using hzz
  clear hw2 hrow hB k3 hzz HON
  clear hdo
  go_wp2_with fail
  refine (mi_bytes _ s hs w2 hr2 hz2).mono ?_
  rintro e w3 ⟨rfl, hB3⟩
  have hB4 := below_weaken hB2 hB2.size hB3
  go_wp2
  go_ret
  exact ⟨rfl, hB4⟩
set_option maxRecDepth 100000 in
set_option maxHeartbeats 4000000 in
theorem mi_mirror (s : ByteArray) (hs : s.size ≤ 1000000) (w : World) :
    Calls Tryz.prog 45 #[.string s] w fun e w' => e = .returned (.string (mbStr s)) ∧ Below w.heap.size w w' := by
  go_enter Tryz.func45, Tryz.ntmps45
  go_wp2_with fail
  have ha := below_alloc (Below.refl w.heap.size w) (.cells #[.string ⟨#[76]⟩, .string ⟨#[82]⟩, .string ⟨#[82]⟩, .string ⟨#[76]⟩] 9)
  have e0 := heap_alloc_last w (.cells #[.string ⟨#[76]⟩, .string ⟨#[82]⟩, .string ⟨#[82]⟩, .string ⟨#[76]⟩] 9)
  generalize w.alloc (.cells #[.string ⟨#[76]⟩, .string ⟨#[82]⟩, .string ⟨#[82]⟩, .string ⟨#[76]⟩] 9) = w1 at ha e0 ⊢
  refine (mi_new w.heap.size w1 (by simp [World.cell?, e0]) (by simp [World.cell?, e0]) (by simp [World.cell?, e0]) (by simp [World.cell?, e0])).mono ?_
  rintro e w2 ⟨b, os, cc, rfl, hr⟩
  have hrep := mi_replace w1 b os cc s hs w2 hr
  clear e0 hr
  go_wp2_with fail
  refine hrep.mono ?_
  rintro e w3 ⟨rfl, hB3⟩
  have hB4 := below_step ha hB3
  clear hrep
  go_wp2
  go_ret
  exact ⟨rfl, hB4⟩
/-- What mirrorCommands answers. -/
def impl_mirrorCommands.f (a0 : ByteArray) : Option ByteArray := if a0.size ≤ 1000000 then some (mbStr a0) else none
theorem impl_mirrorCommands.calls (a0 : ByteArray) (r : ByteArray) (w : World) (h : impl_mirrorCommands.f a0 = some r) :
    Calls Tryz.prog 45 #[.string a0] w fun e w' => e = .returned (.string r) ∧ Below w.heap.size w w' := by
  unfold impl_mirrorCommands.f at h
  split at h
  · rename_i c
    obtain rfl := Option.some.inj h
    exact mi_mirror a0 c w
  · cases h

end Go.Proofs.YtgdmbhldabeelaaRGreatDoor.PFnDrillsTurn
