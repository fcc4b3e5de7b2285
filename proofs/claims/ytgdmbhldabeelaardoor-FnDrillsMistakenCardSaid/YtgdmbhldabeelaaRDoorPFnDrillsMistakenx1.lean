-- Written by a program of this session's (pg.py) over the kit's print.
import Derived.Test.YtgdmbhldabeelaaRDoorPFnDrillsMistakenx0
namespace Go.Proofs.YtgdmbhldabeelaaRDoor.PFnDrillsMistaken
open Go.RowKit Go.Proofs.YtgdmbhldabeelaaRDoorW.PrintWords Go.Proofs.YtgdmbhldabeelaaRDoorW.PrintLast Go.Proofs.YtgdmbhldabeelaaRDoorW.PrintMore
attribute [local go_sem] max2_int min2_int max_two min_two max_three min_three max_four min_four   -- for this text's walks alone
set_option linter.unusedVariables false
set_option linter.unusedSimpArgs false

/-! ### impl_in: function 37 -/
def impl_in.f (a0 : Int) (a1 : Int) (a2 : Int) : Option (Bool) := if a1 ≤ a0 then (some (decide (a0 ≤ a2))) else (some false)
set_option maxHeartbeats 8000000 in
set_option maxRecDepth 100000 in
theorem impl_in.calls (a0 : Int) (a1 : Int) (a2 : Int) (r : Bool) (w : World) (h : impl_in.f a0 a1 a2 = some r) :
  Calls Tryd.prog 37 #[.int .i64 a0, .int .i64 a1, .int .i64 a2] w fun e w' => e = .returned (.bool r) ∧ Drawn0 w w' := by
 have H : (if a1 ≤ a0 then (some (decide (a0 ≤ a2))) else (some false)) = some r := h
 clear h
 by_cases c4 : a1 ≤ a0
 ·
  rw [if_pos c4] at H
  have c4b0 : decide (a1 ≤ a0) = true := decide_eq_true c4
  clear c4
  obtain rfl := Option.some.inj H
  go_enter Tryd.func37, Tryd.ntmps37
  go_wp2
  go_ret
  exact ⟨by first | rfl | (simp; done) | (simp [*]; done), by repeat (first | exact Drawn0.refl _ | apply Drawn0.step)⟩
 ·
  rw [if_neg c4] at H
  have c4b0 : decide (a1 ≤ a0) = false := decide_eq_false c4
  clear c4
  obtain rfl := Option.some.inj H
  go_enter Tryd.func37, Tryd.ntmps37
  go_wp2
  go_ret
  exact ⟨by first | rfl | (simp; done) | (simp [*]; done), by repeat (first | exact Drawn0.refl _ | apply Drawn0.step)⟩

/-! ### strings_Trim: function 54 -/
def strings_Trim.f (a0 : ByteArray) (a1 : ByteArray) : Option (ByteArray) := if a0.size ≤ 9223372036854775807 ∧ a1.size ≤ 1000000 ∧ a1.data.toList.all (fun b => decide (b.toNat < 128)) = true then some ⟨(Lib.trimS a0.data.toList a1.data.toList).toArray⟩ else none
theorem strings_Trim.calls (a0 : ByteArray) (a1 : ByteArray) (r : ByteArray) (w : World) (h : strings_Trim.f a0 a1 = some r) :
    Calls Tryd.prog 54 #[.string a0, .string a1] w fun e w' => e = .returned (.string r) ∧ Below w.heap.size w w' := by
  unfold strings_Trim.f at h
  split at h
  · rename_i c
    obtain rfl := Option.some.inj h
    exact Lays.trim a0 a1 c.1 c.2.1 c.2.2 w
  · cases h

/-! ### impl_areFacing: function 31 -/
def impl_areFacing.f (a0 : ByteArray) : Option (Bool) := (impl_in.f (a0.size : Int) 1 30).bind fun t101 => (if t101 = true then ((strings_Trim.f a0 (⟨#[48, 49, 50, 51]⟩ : ByteArray)).bind fun t102 => (some (t102.toList == ([] : List UInt8)))) else (some false))
set_option maxHeartbeats 8000000 in
set_option maxRecDepth 100000 in
theorem impl_areFacing.calls (a0 : ByteArray) (r : Bool) (w : World) (h : impl_areFacing.f a0 = some r) :
  Calls Tryd.prog 31 #[.string a0] w fun e w' => e = .returned (.bool r) ∧ Below w.heap.size w w' := by
 have HB := Aside0.mk (Below.refl w.heap.size w)
 have H : ((impl_in.f (a0.size : Int) 1 30).bind fun t101 => (if t101 = true then ((strings_Trim.f a0 (⟨#[48, 49, 50, 51]⟩ : ByteArray)).bind fun t102 => (some (t102.toList == ([] : List UInt8)))) else (some false))) = some r := h
 clear h
 replace H := Option.bind_eq_some_iff.mp H
 obtain ⟨t101, A20, H⟩ := H
 replace H : (if t101 = true then ((strings_Trim.f a0 (⟨#[48, 49, 50, 51]⟩ : ByteArray)).bind fun t102 => (some (t102.toList == ([] : List UInt8)))) else (some false)) = some r := H
 have A2 := Aside0.mk A20
 clear A20
 by_cases c3 : t101 = true
 ·
  subst c3
  have H1 : ((strings_Trim.f a0 (⟨#[48, 49, 50, 51]⟩ : ByteArray)).bind fun t102 => (some (t102.toList == ([] : List UInt8)))) = some r := by rw [if_pos rfl] at H; exact H
  clear H
  have H := H1
  clear H1
  replace H := Option.bind_eq_some_iff.mp H
  obtain ⟨t102, A40, H⟩ := H
  replace H : (some (t102.toList == ([] : List UInt8))) = some r := H
  have A4 := Aside0.mk A40
  clear A40
  obtain rfl := Option.some.inj H
  go_enter Tryd.func31, Tryd.ntmps31
  go_wp2_with (first | ((with_reducible refine gate_callee (f := 37) rfl ?_); refine goesL_ (some 5) rfl rfl Tryd.func37 (by kernel_rfl) rfl #[.int .i64 (a0.size : Int), .int .i64 1, .int .i64 30] rfl (by (try simp only [List.map_toArray, List.map_cons, List.map_nil]); first | done | rfl | (simp only [List.length_drop, List.length_take]; rfl)) ?_; (with_reducible refine (impl_in.calls (a0.size : Int) 1 30 true _ A2.out).mono ?_); rintro e w' ⟨rfl, ⟨nd, rfl⟩⟩; refine ⟨_, rfl, ?_⟩) | (go_at_call 54; (with_reducible refine (strings_Trim.calls a0 (⟨#[48, 49, 50, 51]⟩ : ByteArray) t102 _ A4.out).mono ?_); rintro e w5 ⟨rfl, hb⟩; have n0_ := Aside0.mk (below_step (by repeat (first | (with_reducible first | exact HB.out | apply below_alloc | apply pw_below_drewN | apply below_drew1) | exact HB.out)) hb); clear HB; have HB := n0_; clear n0_; (try clear hb); (try clear hb2); (try clear hk); (try clear hi)))
  go_ret
  exact ⟨by first | rfl | (simp [errW_none, errW_some] <;> rfl) | (simp [*, errW_none, errW_some] <;> rfl), by repeat (first | (with_reducible first | exact HB.out | apply below_alloc | apply pw_below_drewN | apply below_drew1) | exact HB.out)⟩
 ·
  replace c3 := Bool.eq_false_iff.mpr c3
  subst c3
  have H1 : (some false) = some r := by rw [if_neg (show ¬ (false = true) by decide)] at H; exact H
  clear H
  have H := H1
  clear H1
  obtain rfl := Option.some.inj H
  go_enter Tryd.func31, Tryd.ntmps31
  go_wp2_with (first | ((with_reducible refine gate_callee (f := 37) rfl ?_); refine goesL_ (some 5) rfl rfl Tryd.func37 (by kernel_rfl) rfl #[.int .i64 (a0.size : Int), .int .i64 1, .int .i64 30] rfl (by (try simp only [List.map_toArray, List.map_cons, List.map_nil]); first | done | rfl | (simp only [List.length_drop, List.length_take]; rfl)) ?_; (with_reducible refine (impl_in.calls (a0.size : Int) 1 30 false _ A2.out).mono ?_); rintro e w' ⟨rfl, ⟨nd, rfl⟩⟩; refine ⟨_, rfl, ?_⟩))
  go_ret
  exact ⟨by first | rfl | (simp [errW_none, errW_some] <;> rfl) | (simp [*, errW_none, errW_some] <;> rfl), by repeat (first | (with_reducible first | exact HB.out | apply below_alloc | apply pw_below_drewN | apply below_drew1) | exact HB.out)⟩

/-! ### impl_areCommands: function 32 -/
def impl_areCommands.f (a0 : ByteArray) : Option (Bool) := if (a0.size : Int) ≤ 60 then ((strings_Trim.f a0 (⟨#[83, 82, 65, 76]⟩ : ByteArray)).bind fun t103 => (some (t103.toList == ([] : List UInt8)))) else (some false)
set_option maxHeartbeats 8000000 in
set_option maxRecDepth 100000 in
theorem impl_areCommands.calls (a0 : ByteArray) (r : Bool) (w : World) (h : impl_areCommands.f a0 = some r) :
  Calls Tryd.prog 32 #[.string a0] w fun e w' => e = .returned (.bool r) ∧ Below w.heap.size w w' := by
 have HB := Aside0.mk (Below.refl w.heap.size w)
 have H : (if (a0.size : Int) ≤ 60 then ((strings_Trim.f a0 (⟨#[83, 82, 65, 76]⟩ : ByteArray)).bind fun t103 => (some (t103.toList == ([] : List UInt8)))) else (some false)) = some r := h
 clear h
 by_cases c2 : (a0.size : Int) ≤ 60
 ·
  rw [if_pos c2] at H
  have c2b0 : decide ((a0.size : Int) ≤ 60) = true := decide_eq_true c2
  have c2b1 : decide (a0.size ≤ 60) = true := decide_eq_true (by omega)
  clear c2
  replace H := Option.bind_eq_some_iff.mp H
  obtain ⟨t103, A30, H⟩ := H
  replace H : (some (t103.toList == ([] : List UInt8))) = some r := H
  have A3 := Aside0.mk A30
  clear A30
  obtain rfl := Option.some.inj H
  go_enter Tryd.func32, Tryd.ntmps32
  go_wp2_with (first | (go_at_call 54; (with_reducible refine (strings_Trim.calls a0 (⟨#[83, 82, 65, 76]⟩ : ByteArray) t103 _ A3.out).mono ?_); rintro e w4 ⟨rfl, hb⟩; have n0_ := Aside0.mk (below_step (by repeat (first | (with_reducible first | exact HB.out | apply below_alloc | apply pw_below_drewN | apply below_drew1) | exact HB.out)) hb); clear HB; have HB := n0_; clear n0_; (try clear hb); (try clear hb2); (try clear hk); (try clear hi)))
  go_ret
  exact ⟨by first | rfl | (simp [errW_none, errW_some] <;> rfl) | (simp [*, errW_none, errW_some] <;> rfl), by repeat (first | (with_reducible first | exact HB.out | apply below_alloc | apply pw_below_drewN | apply below_drew1) | exact HB.out)⟩
 ·
  rw [if_neg c2] at H
  have c2b0 : decide ((a0.size : Int) ≤ 60) = false := decide_eq_false c2
  have c2b1 : decide (a0.size ≤ 60) = false := decide_eq_false (by omega)
  clear c2
  obtain rfl := Option.some.inj H
  go_enter Tryd.func32, Tryd.ntmps32
  go_wp2
  go_ret
  exact ⟨by first | rfl | (simp [errW_none, errW_some] <;> rfl) | (simp [*, errW_none, errW_some] <;> rfl), by repeat (first | (with_reducible first | exact HB.out | apply below_alloc | apply pw_below_drewN | apply below_drew1) | exact HB.out)⟩

/-! ### strings_IndexByte: function 58 -/
def strings_IndexByte.f (a0 : ByteArray) (a1 : Int) : Option (Int) := some (Lib.indexByte a0.data.toList a1.toNat.toUInt8)
theorem strings_IndexByte.calls (a0 : ByteArray) (a1 : Int) (r : Int) (w : World) (h : strings_IndexByte.f a0 a1 = some r) :
    Calls Tryd.prog 58 #[.string a0, .int .u8 a1] w fun e w' => e = .returned (.int .i64 r) ∧ Drawn0 w w' := by
  obtain rfl := Option.some.inj h
  exact (Lays.indexByte a0 a1 w).mono fun e w' ⟨he, hw⟩ => ⟨he, by subst hw; exact Drawn0.refl _⟩

/-! ### impl_turnOf: function 39 -/
def impl_turnOf.f (a0 : Int) : Option (Int) := (strings_IndexByte.f (⟨#[83, 82, 65, 76]⟩ : ByteArray) a0).bind fun t104 => (some t104)
set_option maxHeartbeats 8000000 in
set_option maxRecDepth 100000 in
theorem impl_turnOf.calls (a0 : Int) (r : Int) (w : World) (h : impl_turnOf.f a0 = some r) :
  Calls Tryd.prog 39 #[.int .u8 a0] w fun e w' => e = .returned (.int .i64 r) ∧ Drawn0 w w' := by
 have H : ((strings_IndexByte.f (⟨#[83, 82, 65, 76]⟩ : ByteArray) a0).bind fun t104 => (some t104)) = some r := h
 clear h
 replace H := Option.bind_eq_some_iff.mp H
 obtain ⟨t104, A20, H⟩ := H
 replace H : (some t104) = some r := H
 have A2 := Aside0.mk A20
 clear A20
 obtain rfl := Option.some.inj H
 go_enter Tryd.func39, Tryd.ntmps39
 go_wp2_with (first | ((with_reducible refine gate_callee (f := 58) rfl ?_); refine goesL_ (some 4) rfl rfl Tryd.func58 (by kernel_rfl) rfl #[.string (⟨#[83, 82, 65, 76]⟩ : ByteArray), .int .u8 a0] rfl (by (try simp only [List.map_toArray, List.map_cons, List.map_nil]); first | done | rfl | (simp only [List.length_drop, List.length_take]; rfl)) ?_; (with_reducible refine (strings_IndexByte.calls (⟨#[83, 82, 65, 76]⟩ : ByteArray) a0 t104 _ A2.out).mono ?_); rintro e w' ⟨rfl, ⟨nd, rfl⟩⟩; refine ⟨_, rfl, ?_⟩))
 go_ret
 exact ⟨by first | rfl | (simp; done) | (simp [*]; done), by repeat (first | exact Drawn0.refl _ | apply Drawn0.step)⟩

/-! ### impl_netTurn: function 33 -/
def impl_netTurn.l0 : Nat → ByteArray → Int → Int → Int → Option (Int)
  | 0, _, _, _, _ => none
  | k + 1, x0, x3, x6, x7 => if x7 < x6 then (if 0 ≤ x7 then (if x7 < (x0.size : Int) then ((impl_turnOf.f (bt x0 x7)).bind fun t105 => (impl_netTurn.l0 k x0 (wrap64 (x3 + t105)) x6 (wrap64 (x7 + 1)))) else (none)) else (none)) else (some (Int.tmod x3 4))
def impl_netTurn.f (k : Nat) (a0 : ByteArray) : Option (Int) := impl_netTurn.l0 k a0 0 (a0.size : Int) 0
theorem impl_netTurn.mono_l : ∀ k, (∀ y0 y1 y2 y3, LeO (impl_netTurn.l0 k y0 y1 y2 y3) (impl_netTurn.l0 (k + 1) y0 y1 y2 y3))
  | 0 => fun _ _ _ _ r h => by simp [impl_netTurn.l0] at h
  | k + 1 => by
    have ih0 := impl_netTurn.mono_l k
    · intro y0 y1 y2 y3
      unfold impl_netTurn.l0
      repeat' first
      | (with_reducible exact ih0 _ _ _ _)
      | (with_reducible exact LeO.refl _)
      | (with_reducible exact LeO.none _)
      | (with_reducible refine LeO.ite ?_ ?_)
      | (with_reducible refine LeO.bind ?_ (fun _ => ?_))
      | exact ih0 _ _ _ _
      | exact LeO.none _
      | refine LeO.ite ?_ ?_
      | refine LeO.bind ?_ (fun _ => ?_)
theorem impl_netTurn.mono : ∀ a0 k, LeO (impl_netTurn.f k a0) (impl_netTurn.f (k + 1) a0) := by
  intro a0 k
  have ih0 := impl_netTurn.mono_l k
  unfold impl_netTurn.f
  repeat' first
      | (with_reducible exact ih0 _ _ _ _)
      | (with_reducible exact LeO.refl _)
      | (with_reducible exact LeO.none _)
      | (with_reducible refine LeO.ite ?_ ?_)
      | (with_reducible refine LeO.bind ?_ (fun _ => ?_))
      | exact ih0 _ _ _ _
      | exact LeO.none _
      | refine LeO.ite ?_ ?_
      | refine LeO.bind ?_ (fun _ => ?_)
set_option maxHeartbeats 8000000 in
set_option maxRecDepth 100000 in
theorem impl_netTurn.calls (k : Nat) (a0 : ByteArray) (r : Int) (w : World) (h : impl_netTurn.f k a0 = some r) :
  Calls Tryd.prog 33 #[.string a0] w fun e w' => e = .returned (.int .i64 r) ∧ Drawn0 w w' := by
 have H : (impl_netTurn.l0 k a0 0 (a0.size : Int) 0) = some r := h
 clear h
 have H' := Aside0.mk H
 clear H
 go_enter Tryd.func33, Tryd.ntmps33
 go_wp2
 go_loopg [3, 7] k (fun kq v3 v7 w' => ∃ (x3_1 : Int) (x7_1 : Int), v3 = .int .i64 x3_1 ∧ v7 = .int .i64 x7_1 ∧ Aside0 (impl_netTurn.l0 kq a0 x3_1 (a0.size : Int) x7_1 = some r) ∧ Aside0 (kq ≤ k) ∧ Drawn0 w w')
 case atStart => exact ⟨(0), (0), (by first | rfl | (simp; done) | (simp [*]; done)), (by first | rfl | (simp; done) | (simp [*]; done)), H', ⟨Nat.le_refl _⟩, by repeat (first | exact Drawn0.refl _ | apply Drawn0.step)⟩
 case round =>
  clear H'
  obtain ⟨x3_1, x7_1, rfl, rfl, HA, HK1, ⟨m1, rfl⟩⟩ := hrel
  cases gk with
  | zero => exact absurd HA.out (by simp [impl_netTurn.l0])
  | succ k1 =>
   have H := HA.out
   clear HA
   simp only [impl_netTurn.l0] at H
   by_cases c2 : x7_1 < (a0.size : Int)
   ·
    rw [if_pos c2] at H
    have c2b0 : decide (x7_1 < (a0.size : Int)) = true := decide_eq_true c2
    clear c2
    by_cases c3 : 0 ≤ x7_1
    ·
     rw [if_pos c3] at H
     have c3b0 : decide (0 ≤ x7_1) = true := decide_eq_true c3
     clear c3
     by_cases c4 : x7_1 < (a0.size : Int)
     ·
      rw [if_pos c4] at H
      have c4b0 : decide (x7_1 < (a0.size : Int)) = true := decide_eq_true c4
      clear c4
      replace H := Option.bind_eq_some_iff.mp H
      obtain ⟨t105, A60, H⟩ := H
      replace H : (impl_netTurn.l0 k1 a0 (wrap64 (x3_1 + t105)) (a0.size : Int) (wrap64 (x7_1 + 1))) = some r := H
      have A6 := Aside0.mk A60
      clear A60
      have H' := Aside0.mk H
      clear H
      have p5 : 0 ≤ (x7_1 : Int) := of_decide_eq_true (by first | (with_reducible assumption) | assumption)
      have q5 : x7_1 < (a0.size : Int) := of_decide_eq_true (by first | (with_reducible assumption) | assumption)
      have hx5 := bt_at a0 x7_1
      replace p5 := eq_true p5
      replace q5 := eq_true q5
      go_wp2_with (first | ((with_reducible refine gate_callee (f := 39) rfl ?_); refine goesL_ (some 14) rfl rfl Tryd.func39 (by kernel_rfl) rfl #[.int .u8 (bt a0 x7_1)] rfl (by (try simp only [List.map_toArray, List.map_cons, List.map_nil]); first | done | rfl | (simp only [List.length_drop, List.length_take]; rfl)) ?_; (with_reducible refine (impl_turnOf.calls (bt a0 x7_1) t105 _ A6.out).mono ?_); rintro e w' ⟨rfl, ⟨nd, rfl⟩⟩; refine ⟨_, rfl, ?_⟩))
      go_roundg k1
      case measure => have := HK1.out; omega
      case rel => exact ⟨(wrap64 (x3_1 + t105)), (wrap64 (x7_1 + 1)), (by first | rfl | (simp; done) | (simp [*]; done)), (by first | rfl | (simp; done) | (simp [*]; done)), H', ⟨by have := HK1.out; omega⟩, by repeat (first | exact Drawn0.refl _ | apply Drawn0.step)⟩
     ·
      rw [if_neg c4] at H
      exact absurd H (by simp)
    ·
     rw [if_neg c3] at H
     exact absurd H (by simp)
   ·
    rw [if_neg c2] at H
    have c2b0 : decide (x7_1 < (a0.size : Int)) = false := decide_eq_false c2
    clear c2
    obtain rfl := Option.some.inj H
    go_wp2
    go_ret
    exact ⟨by first | rfl | (simp; done) | (simp [*]; done), by repeat (first | exact Drawn0.refl _ | apply Drawn0.step)⟩

-- NOT PRINTED: function 34 (impl_facingAfter)

/-! ### strings_Contains: function 55 -/
def strings_Contains.f (a0 : ByteArray) (a1 : ByteArray) : Option (Bool) := if a1.size = 1 then some (decide (0 ≤ Lib.indexByte a0.data.toList (a1.data.getD 0 0))) else none
theorem strings_Contains.calls (a0 : ByteArray) (a1 : ByteArray) (r : Bool) (w : World) (h : strings_Contains.f a0 a1 = some r) :
    Calls Tryd.prog 55 #[.string a0, .string a1] w fun e w' => e = .returned (.bool r) ∧ Drawn0 w w' := by
  unfold strings_Contains.f at h
  split at h
  · rename_i c
    obtain rfl := Option.some.inj h
    obtain ⟨⟨l⟩⟩ := a1
    match l, c with
    | [x], _ => exact (Lays.containsOne a0 x w).mono fun e w' ⟨he, hw⟩ => ⟨he, by subst hw; exact Drawn0.refl _⟩
  · cases h

/-! ### slices_ContainsFunc_impl_Mistake_impl_Mistake: function 56 -/
/-- The closure: is it the same soldier and the same place? -/
theorem same_mistake (x1 x2 : Int) (xd : ByteArray) (g : Nat) (a1 a2 : Int) (d : ByteArray) (w : World) (hg : w.heap[g]? = some (.cells #[.int .i64 a1, .int .i64 a2, .string d] 34 (0, 0))) :
    Calls Tryd.prog 57 #[.agg #[.int .i64 x1, .int .i64 x2, .string xd], .pointer (some ⟨g, 0, none⟩)] w fun e w' => e = .returned (.bool (decide (x1 = a1) && decide (x2 = a2))) ∧ Below w.heap.size w w' := by
  have hgl : g < w.heap.size := blk_lt hg
  have h0 : ∀ o : Obj, (w.alloc o).cell? ⟨g, 0, none⟩ = some (.int .i64 a1) := fun o => by
    rw [World.cell?_alloc_lt _ _ _ hgl]; simp [World.cell?, hg]
  have h1 : ∀ o : Obj, (w.alloc o).cell? ⟨g, 1, none⟩ = some (.int .i64 a2) := fun o => by
    rw [World.cell?_alloc_lt _ _ _ hgl]; simp [World.cell?, hg]
  by_cases c1 : x1 = a1
  · have q1 : (x1 == a1) = true := beq_iff_eq.mpr c1
    by_cases c2 : x2 = a2
    · have q2 : (x2 == a2) = true := beq_iff_eq.mpr c2
      go_enter Tryd.func57, Tryd.ntmps57
      go_wp2
      repeat (go_quiet (fail); try go_wp2)
      go_ret
      exact ⟨by simp [c1, c2], by repeat (first | exact Below.refl _ _ | apply below_alloc | apply pw_below_drewN | apply below_drew1)⟩
    · have q2 : (x2 == a2) = false := beq_eq_false_iff_ne.mpr c2
      go_enter Tryd.func57, Tryd.ntmps57
      go_wp2
      repeat (go_quiet (fail); try go_wp2)
      go_ret
      exact ⟨by simp [c1, c2], by repeat (first | exact Below.refl _ _ | apply below_alloc | apply pw_below_drewN | apply below_drew1)⟩
  · have q1 : (x1 == a1) = false := beq_eq_false_iff_ne.mpr c1
    go_enter Tryd.func57, Tryd.ntmps57
    go_wp2
    repeat (go_quiet (fail); try go_wp2)
    go_ret
    exact ⟨by simp [c1], by repeat (first | exact Below.refl _ _ | apply below_alloc | apply pw_below_drewN | apply below_drew1)⟩
set_option maxHeartbeats 4000000 in
set_option maxRecDepth 100000 in
theorem index_mistake (A0 : Option Addr) (c0 : Nat) (l0 : List S34) (a1 a2 : Int) (w : World) (hr0 : Kd.C k34 w A0 l0.length l0) {g : Nat} {d : ByteArray} (hg : w.heap[g]? = some (.cells #[.int .i64 a1, .int .i64 a2, .string d] 34 (0, 0))) :
    Calls Tryd.prog 73 #[.slice A0 l0.length c0, .func (.func 57) #[] #[.pointer (some ⟨g, 0, none⟩)]] w fun e w' => ∃ n : Int, e = .returned (.int .i64 n) ∧ (decide (0 ≤ n) = l0.any fun o => decide (o.f0 = a1) && decide (o.f1 = a2)) ∧ Below w.heap.size w w' := by
  have hgl : g < w.heap.size := blk_lt hg
  go_enter Tryd.func73, Tryd.ntmps73
  go_wp2
  go_loopw [8] (fun i wr => ∃ k : Nat, k ≤ l0.length ∧ i = .int .i64 k ∧ ((l0.take k).any fun o => decide (o.f0 = a1) && decide (o.f1 = a2)) = false ∧ Below w.heap.size w wr) (fun i _ => l0.length - (intOf i).toNat)
  case atStart => exact ⟨0, Nat.zero_le _, rfl, by simp, Below.refl _ _⟩
  case round =>
    obtain ⟨k, hk, rfl, ha, hB⟩ := hrel
    by_cases ck : k < l0.length
    · have q1 : decide ((k : Int) < (l0.length : Int)) = true := decide_eq_true (by omega)
      have p1 : (0 : Int) ≤ (k : Int) := by omega
      have p2 : (k : Int) < (l0.length : Int) := by omega
      have hkb : k ≤ 9223372036854775806 := by have := hr0.2.1; omega
      have hk1 : k + 1 ≤ l0.length := ck
      have hk2 : l0.length - (k + 1) < l0.length - k := by omega
      have hrr := Kd.C_below hr0 hB
      obtain ⟨ad, rfl, hx0, hx1, hx2⟩ := at_T34 hrr (k : Int) p1 p2
      simp only [Int.toNat_natCast] at hx0 hx1 hx2
      have hgr : wr.heap[g]? = some (.cells #[.int .i64 a1, .int .i64 a2, .string d] 34 (0, 0)) := (hB.block g hgl).trans hg
      have hrd : rd_T34 l0 (k : Int) = l0[k] := by unfold rd_T34; rw [Int.toNat_natCast, List.getD_eq_getElem?_getD, List.getElem?_eq_getElem ck]; rfl
      have htake : ((l0.take (k + 1)).any fun o => decide (o.f0 = a1) && decide (o.f1 = a2)) = (decide ((rd_T34 l0 (k : Int)).f0 = a1) && decide ((rd_T34 l0 (k : Int)).f1 = a2)) := by
        rw [List.take_add_one, List.any_append, ha, List.getElem?_eq_getElem ck, hrd]
        simp
      cases hz : (decide ((rd_T34 l0 (k : Int)).f0 = a1) && decide ((rd_T34 l0 (k : Int)).f1 = a2)) with
      | true =>
        rw [hz] at htake
        rw [hrd] at hz
        go_wp2_with fail
        refine (same_mistake _ _ _ g a1 a2 d wr hgr).mono ?_
        rintro e w5 ⟨rfl, hb⟩
        rw [hz]
        have hB2 := below_step hB hb
        go_wp2
        go_ret
        refine ⟨k, rfl, ?_, hB2⟩
        have hm : (l0.any fun o => decide (o.f0 = a1) && decide (o.f1 = a2)) = true := by
          rw [List.any_eq_true] at htake ⊢
          obtain ⟨x, hx, hy⟩ := htake
          exact ⟨x, List.mem_of_mem_take hx, hy⟩
        rw [hm]
        simp
      | false =>
        rw [hz] at htake
        rw [hrd] at hz
        go_wp2_with fail
        refine (same_mistake _ _ _ g a1 a2 d wr hgr).mono ?_
        rintro e w5 ⟨rfl, hb⟩
        rw [hz]
        have hB2 := below_step hB hb
        go_wp2
        exact ⟨⟨k + 1, hk1, rfl, htake, hB2⟩, by first | exact hk2 | (simp [intOf]; exact hk2) | (simp [intOf]; omega)⟩
    · obtain rfl : k = l0.length := by omega
      rw [List.take_length] at ha
      have q1 : decide ((l0.length : Int) < (l0.length : Int)) = false := decide_eq_false (by omega)
      go_wp2
      go_ret
      exact ⟨-1, rfl, by rw [ha]; decide, hB⟩
def slices_ContainsFunc_impl_Mistake_impl_Mistake.f (l0 : List S34) (a1 a2 : Int) : Option Bool := some (l0.any fun o => decide (o.f0 = a1) && decide (o.f1 = a2))
theorem slices_ContainsFunc_impl_Mistake_impl_Mistake.calls (A0 : Option Addr) (c0 : Nat) (l0 : List S34) (a1 a2 : Int) (r : Bool) (w : World) (hr0 : Kd.C k34 w A0 l0.length l0) (hc0 : l0.length ≤ c0) {g : Nat} (h : slices_ContainsFunc_impl_Mistake_impl_Mistake.f l0 a1 a2 = some r) (hg : ∃ d : ByteArray, w.heap[g]? = some (.cells #[.int .i64 a1, .int .i64 a2, .string d] 34 (0, 0))) :
    Calls Tryd.prog 56 #[.slice A0 l0.length c0, .func (.func 57) #[] #[.pointer (some ⟨g, 0, none⟩)]] w fun e w' => e = .returned (.bool r) ∧ Below w.heap.size w w' := by
  obtain ⟨d, hg⟩ := hg
  obtain rfl := Option.some.inj h
  go_enter Tryd.func56, Tryd.ntmps56
  go_wp2_with fail
  refine (index_mistake A0 c0 l0 a1 a2 w hr0 hg).mono ?_
  rintro e w5 ⟨n, rfl, hn, hb⟩
  go_wp2
  go_ret
  exact ⟨rfl, hb⟩

-- NOT PRINTED: function 57 (impl_areMistakes_1)

end Go.Proofs.YtgdmbhldabeelaaRDoor.PFnDrillsMistaken
