-- Written by a program of this session's (pg.py) over the kit's print.
import Derived.Test.YtioabkhjinnghaaPFnExactNeverTogetherx0
import Derived.Test.YtioabkhjinnghaaPFnExactNeverTogetherx1
import Derived.Test.YtioabkhjinnghaaPFnExactNeverTogetherx2
import Derived.Test.YtioabkhjinnghaaPFnExactNeverTogetherx3
namespace Go.Proofs.Ytioabkhjinnghaa.PFnExactNeverTogether
open Go.RowKit Go.Proofs.YtioabkhjinnghaaW.PrintWords Go.Proofs.YtioabkhjinnghaaW.PrintLast Go.Proofs.YtioabkhjinnghaaW.PrintMore
attribute [local go_sem] max2_int min2_int max_two min_two max_three min_three max_four min_four   -- for this text's walks alone
set_option linter.unusedVariables false
set_option linter.unusedSimpArgs false

/-! ### laws_markIntSS: function 47 -/
def laws_markIntSS.l0 : Nat → List (List Int) → Int → Int → Option (Int × List (List Int))
  | 0, _, _, _ => none
  | k + 1, x0, x1, x5 => if x5 < (x0.length : Int) then (if 0 ≤ x5 then ((laws_markIntS.f k (x0.getD x5.toNat []) x1).bind fun b => laws_markIntSS.l0 k (x0.set x5.toNat b.2) b.1 (wrap64 (x5 + 1))) else none) else some (x1, x0)
def laws_markIntSS.f (k : Nat) (l0 : List (List Int)) (a1 : Int) : Option (Int × List (List Int)) := laws_markIntSS.l0 k l0 a1 0
theorem laws_markIntSS.mono_l : ∀ k, (∀ y0 y1 y2, LeO (laws_markIntSS.l0 k y0 y1 y2) (laws_markIntSS.l0 (k + 1) y0 y1 y2))
  | 0 => fun _ _ _ r h => by simp [laws_markIntSS.l0] at h
  | k + 1 => by
    have ih0 := laws_markIntSS.mono_l k
    intro y0 y1 y2
    unfold laws_markIntSS.l0
    refine LeO.ite (LeO.ite (LeO.bind (laws_markIntS.mono _ _ _) (fun _ => ih0 _ _ _)) (LeO.none _)) (LeO.refl _)
theorem laws_markIntSS.mono : ∀ a0 a1 k, LeO (laws_markIntSS.f k a0 a1) (laws_markIntSS.f (k + 1) a0 a1) := fun a0 a1 k => laws_markIntSS.mono_l k a0 a1 0
set_option maxHeartbeats 8000000 in
set_option maxRecDepth 100000 in
theorem laws_markIntSS.calls (k : Nat) (ok : Nat → Prop) (v : Value) (l0 : List (List Int)) (a1 r1 : Int) (r2 : List (List Int)) (w0 w : World) (hB : Below w0.heap.size w0 w) (ho : Kd.S (Kd.slice 3 (Kd.int .i64)) 46 w w0.heap.size ok v l0) (h : laws_markIntSS.f k l0 a1 = some (r1, r2)) :
    Calls Try.prog 47 #[v, .int .i64 a1] w fun e w' => e = .returned (.int .i64 r1) ∧ Kd.S (Kd.slice 3 (Kd.int .i64)) 46 w' w0.heap.size ok v r2 ∧ Below w0.heap.size w0 w' ∧ Below w0.heap.size w w' := by
  obtain ⟨A, c, rfl⟩ := Kd.S_slice ho
  have HO := Aside0.mk ho
  have HB := Aside0.mk hB
  have HC := Aside0.mk (Below.refl w0.heap.size w)
  have HB0 := Aside0.mk hB
  have H' : Aside0 (laws_markIntSS.l0 k l0 a1 0 = some (r1, r2)) := Aside0.mk h
  clear h hB ho
  go_enter Try.func47, Try.ntmps47
  go_wp2
  go_loopg [1, 5] k (fun kq v1 v5 w' => ∃ (x0 : List (List Int)) (x1 : Int) (x5 : Int), v1 = .int .i64 x1 ∧ v5 = .int .i64 x5 ∧ Aside0 (laws_markIntSS.l0 kq x0 x1 x5 = some (r1, r2)) ∧ Aside0 (kq ≤ k) ∧ Aside0 (Kd.S (Kd.slice 3 (Kd.int .i64)) 46 w' w0.heap.size ok (.slice A l0.length c) x0) ∧ Aside0 (Below w0.heap.size w0 w') ∧ Aside0 (Below w0.heap.size w w'))
  case atStart => exact ⟨l0, a1, 0, rfl, rfl, H', ⟨Nat.le_refl _⟩, HO, HB, HC⟩
  case round =>
    clear H' HO HB HC
    obtain ⟨x0, x1, x5, rfl, rfl, HA, HK1, HO, HB, HC⟩ := hrel
    cases gk with
    | zero => exact absurd HA.out (by simp [laws_markIntSS.l0])
    | succ k1 =>
      have H := HA.out
      clear HA
      have hN := (Kd.S_reads' HO.out).1
      rw [laws_markIntSS.l0] at H
      by_cases c3 : x5 < (x0.length : Int)
      · rw [if_pos c3] at H
        have c3b0 : decide (x5 < (l0.length : Int)) = true := decide_eq_true (by omega)
        by_cases c4 : 0 ≤ x5
        · rw [if_pos c4] at H
          obtain ⟨⟨m1, row⟩, hm, H⟩ := Option.bind_eq_some_iff.mp H
          have H' := Aside0.mk H
          have HM := Aside0.mk hm
          clear H hm
          have hpos : 0 < x0.length := by omega
          have c3n : x5 < (l0.length : Int) := by omega
          obtain ⟨g, cap, he, hg1, hg2, _⟩ := Kd.S_form HO.out hpos
          injection he with hA hn hc
          subst hA
          subst hc
          obtain ⟨oki, cs, hcl, hM, hcell, hoki, hH⟩ := Kd.S_lend HO.out [] x5 c4 c3n
          obtain ⟨u, rfl, hR⟩ := hM
          have hx0 : wr.cell? ⟨g, x5.toNat, none⟩ = some u := by
            have := hcell 0 u rfl
            simpa [Kd.slice] using this
          have HHole := Aside0.mk hH
          have HRow := Aside0.mk hR
          have HN := Aside0.mk hN
          have HX0 := Aside0.mk c3
          clear hH hR hN hcell hoki hcl hg1 hg2 hpos hn c3
          go_wp2_with fail
          refine (laws_markIntS.calls k1 oki u _ x1 m1 row w0 wr HB.out HRow.out HM.out).mono ?_
          rintro e w2 ⟨rfl, hR2, hB2, hK2⟩
          have hS2 : Kd.S (Kd.slice 3 (Kd.int .i64)) 46 w2 w0.heap.size ok (.slice (some ⟨g, 0, none⟩) l0.length c) (x0.set x5.toNat row) := by
            have hH2 := Kd.H_kept HHole.out hK2 (fun _ _ hn => hn)
            exact Kd.H_back hH2 ⟨u, rfl, Kd.R_mono (Kd.R_tight rfl hR2) (fun q hq => HRow.out.1 q hq.symm)⟩ (fun _ hq => hq)
          have hC2 : Below w0.heap.size w w2 := ⟨hB2.os.trans HB0.out.os.symm, hB2.tape.trans HB0.out.tape.symm, hB2.output.trans HB0.out.output.symm, Nat.le_trans HC.out.size hK2.1, fun q hq => (hB2.block q hq).trans (HB0.out.block q hq).symm⟩
          have HS2 := Aside0.mk hS2
          have HB2 := Aside0.mk hB2
          have HC2 := Aside0.mk hC2
          clear hR2 hB2 hK2 hS2 hC2 HHole HRow HM HX0 HN HO HB HC
          go_wp2_with fail
          go_roundg k1
          case measure => have := HK1.out; omega
          case rel => exact ⟨x0.set x5.toNat row, m1, wrap64 (x5 + 1), rfl, rfl, H', ⟨by have := HK1.out; omega⟩, HS2, HB2, HC2⟩
        · rw [if_neg c4] at H
          exact absurd H (by simp)
      · rw [if_neg c3] at H
        have c3b0 : decide (x5 < (l0.length : Int)) = false := decide_eq_false (by omega)
        simp only [Option.some.injEq, Prod.mk.injEq] at H
        obtain ⟨rfl, rfl⟩ := H
        clear c3 hN
        go_wp2
        go_ret
        exact ⟨rfl, HO.out, HB.out, HC.out⟩

/-! ### laws_heldIntS: function 43 -/
def laws_heldIntS.l0 : Nat → List Int → Int → Int → Option (Int)
  | 0, _, _, _ => none
  | k + 1, x0, x1, x5 => if x5 < (x0.length : Int) then (if 0 ≤ x5 then (if (rd x0 x5) = x1 then (laws_heldIntS.l0 k x0 (wrap64 (x1 + 1)) (wrap64 (x5 + 1))) else (some (-1))) else (none)) else (some x1)
def laws_heldIntS.f (k : Nat) (l0 : List Int) (a1 : Int) : Option (Int) := laws_heldIntS.l0 k l0 a1 0
theorem laws_heldIntS.mono_l : ∀ k, (∀ y0 y1 y2, LeO (laws_heldIntS.l0 k y0 y1 y2) (laws_heldIntS.l0 (k + 1) y0 y1 y2))
  | 0 => fun _ _ _ r h => by simp [laws_heldIntS.l0] at h
  | k + 1 => by
    have ih0 := laws_heldIntS.mono_l k
    · intro y0 y1 y2
      unfold laws_heldIntS.l0
      repeat' first
      | (with_reducible exact ih0 _ _ _)
      | (with_reducible exact LeO.refl _)
      | (with_reducible exact LeO.none _)
      | (with_reducible refine LeO.ite ?_ ?_)
      | (with_reducible refine LeO.bind ?_ (fun _ => ?_))
      | exact ih0 _ _ _
      | exact LeO.none _
      | refine LeO.ite ?_ ?_
      | refine LeO.bind ?_ (fun _ => ?_)
theorem laws_heldIntS.mono : ∀ a0 a1 k, LeO (laws_heldIntS.f k a0 a1) (laws_heldIntS.f (k + 1) a0 a1) := by
  intro a0 a1 k
  have ih0 := laws_heldIntS.mono_l k
  unfold laws_heldIntS.f
  repeat' first
      | (with_reducible exact ih0 _ _ _)
      | (with_reducible exact LeO.refl _)
      | (with_reducible exact LeO.none _)
      | (with_reducible refine LeO.ite ?_ ?_)
      | (with_reducible refine LeO.bind ?_ (fun _ => ?_))
      | exact ih0 _ _ _
      | exact LeO.none _
      | refine LeO.ite ?_ ?_
      | refine LeO.bind ?_ (fun _ => ?_)
set_option maxHeartbeats 8000000 in
set_option maxRecDepth 100000 in
theorem laws_heldIntS.calls (k : Nat) (A0 : Option Addr) (c0 : Nat) (l0 : List Int) (a1 : Int) (r : Int) (w : World) (hr0 : Kd.C (Kd.int .i64) w A0 l0.length l0) (hc0 : l0.length ≤ c0) (h : laws_heldIntS.f k l0 a1 = some r) :
    Calls Try.prog 43 #[.slice A0 l0.length c0, .int .i64 a1] w fun e w' => e = .returned (.int .i64 r) ∧ Drawn0 w w' := by
  have HR0 := Aside0.mk hr0
  have HC0 := Aside0.mk hc0
  clear hr0 hc0
  have H : (laws_heldIntS.l0 k l0 a1 0) = some r := h
  clear h
  have H' := Aside0.mk H
  clear H
  go_enter Try.func43, Try.ntmps43
  go_wp2
  go_loopg [1, 5] k (fun kq v1 v5 w' => ∃ (x1_1 : Int) (x5_1 : Int), v1 = .int .i64 x1_1 ∧ v5 = .int .i64 x5_1 ∧ Aside0 (laws_heldIntS.l0 kq l0 x1_1 x5_1 = some r) ∧ Aside0 (kq ≤ k) ∧ Drawn0 w w')
  case atStart => exact ⟨(a1), (0), (by first | rfl | (simp; done) | (simp [*]; done)), (by first | rfl | (simp; done) | (simp [*]; done)), H', ⟨Nat.le_refl _⟩, by repeat (first | exact Drawn0.refl _ | apply Drawn0.step)⟩
  case round =>
    clear H'
    try clear p2
    obtain ⟨x1_1, x5_1, rfl, rfl, HA, HK1, ⟨m1, rfl⟩⟩ := hrel
    cases gk with
    | zero => exact absurd HA.out (by simp [laws_heldIntS.l0])
    | succ k1 =>
      have H := HA.out
      clear HA
      simp only [laws_heldIntS.l0] at H
      by_cases c3 : x5_1 < (l0.length : Int)
      · rw [if_pos c3] at H
        have c3b0 : decide (x5_1 < (l0.length : Int)) = true := decide_eq_true c3
        clear c3
        by_cases c4 : 0 ≤ x5_1
        · rw [if_pos c4] at H
          have c4b0 : decide (0 ≤ x5_1) = true := decide_eq_true c4
          clear c4
          by_cases c5 : (rd l0 x5_1) = x1_1
          · rw [if_pos c5] at H
            have c5b0 : ((rd l0 x5_1) == x1_1) = true := beq_iff_eq.mpr c5
            have c5b1 : ((rd l0 x5_1) != x1_1) = false := bne_eq_false_iff_eq.mpr c5
            clear c5
            have H' := Aside0.mk H
            clear H
            have p168 : 0 ≤ (x5_1 : Int) := of_decide_eq_true (by first | (with_reducible assumption) | assumption)
            have q168 : x5_1 < (l0.length : Int) := of_decide_eq_true (by first | (with_reducible assumption) | assumption)
            obtain ⟨ad168, e168, hx168_0⟩ := Kd.at_int HR0.out x5_1 p168 q168
            cases e168
            replace p168 := eq_true p168
            replace q168 := eq_true q168
            go_wp2
            go_roundg k1
            case measure => have := HK1.out; omega
            case rel => exact ⟨(wrap64 (x1_1 + 1)), (wrap64 (x5_1 + 1)), (by first | rfl | (simp; done) | (simp [*]; done)), (by first | rfl | (simp; done) | (simp [*]; done)), H', ⟨by have := HK1.out; omega⟩, by repeat (first | exact Drawn0.refl _ | apply Drawn0.step)⟩
          · rw [if_neg c5] at H
            have c5b0 : ((rd l0 x5_1) == x1_1) = false := beq_eq_false_iff_ne.mpr c5
            have c5b1 : ((rd l0 x5_1) != x1_1) = true := bne_iff_ne.mpr c5
            obtain rfl := Option.some.inj H
            have p168 : 0 ≤ (x5_1 : Int) := of_decide_eq_true (by first | (with_reducible assumption) | assumption)
            have q168 : x5_1 < (l0.length : Int) := of_decide_eq_true (by first | (with_reducible assumption) | assumption)
            obtain ⟨ad168, e168, hx168_0⟩ := Kd.at_int HR0.out x5_1 p168 q168
            cases e168
            replace p168 := eq_true p168
            replace q168 := eq_true q168
            go_wp2
            go_ret
            exact ⟨by first | rfl | (simp; done) | (simp [*]; done), by repeat (first | exact Drawn0.refl _ | apply Drawn0.step)⟩
        · rw [if_neg c4] at H
          exact absurd H (by simp)
      · rw [if_neg c3] at H
        have c3b0 : decide (x5_1 < (l0.length : Int)) = false := decide_eq_false c3
        clear c3
        obtain rfl := Option.some.inj H
        go_wp2
        go_ret
        exact ⟨by first | rfl | (simp; done) | (simp [*]; done), by repeat (first | exact Drawn0.refl _ | apply Drawn0.step)⟩

/-! ### laws_heldIntSS: function 48 -/
def laws_heldIntSS.l0 : Nat → List (List Int) → Int → Int → Option (Int)
  | 0, _, _, _ => none
  | k + 1, x0, x1, x5 => if x5 < (x0.length : Int) then (if 0 ≤ x5 then ((laws_heldIntS.f k (rd_L3 x0 x5) x1).bind fun t170 => (if t170 < 0 then (some (-1)) else (laws_heldIntSS.l0 k x0 t170 (wrap64 (x5 + 1))))) else (none)) else (some x1)
def laws_heldIntSS.f (k : Nat) (l0 : List (List Int)) (a1 : Int) : Option (Int) := laws_heldIntSS.l0 k l0 a1 0
theorem laws_heldIntSS.mono_l : ∀ k, (∀ y0 y1 y2, LeO (laws_heldIntSS.l0 k y0 y1 y2) (laws_heldIntSS.l0 (k + 1) y0 y1 y2))
  | 0 => fun _ _ _ r h => by simp [laws_heldIntSS.l0] at h
  | k + 1 => by
    have ih0 := laws_heldIntSS.mono_l k
    · intro y0 y1 y2
      unfold laws_heldIntSS.l0
      repeat' first
      | (with_reducible exact ih0 _ _ _)
      | (with_reducible exact laws_heldIntS.mono _ _ _)
      | (with_reducible exact LeO.refl _)
      | (with_reducible exact LeO.none _)
      | (with_reducible refine LeO.ite ?_ ?_)
      | (with_reducible refine LeO.bind ?_ (fun _ => ?_))
      | exact ih0 _ _ _
      | exact laws_heldIntS.mono _ _ _
      | exact LeO.none _
      | refine LeO.ite ?_ ?_
      | refine LeO.bind ?_ (fun _ => ?_)
theorem laws_heldIntSS.mono : ∀ a0 a1 k, LeO (laws_heldIntSS.f k a0 a1) (laws_heldIntSS.f (k + 1) a0 a1) := by
  intro a0 a1 k
  have ih0 := laws_heldIntSS.mono_l k
  unfold laws_heldIntSS.f
  repeat' first
      | (with_reducible exact ih0 _ _ _)
      | (with_reducible exact laws_heldIntS.mono _ _ _)
      | (with_reducible exact LeO.refl _)
      | (with_reducible exact LeO.none _)
      | (with_reducible refine LeO.ite ?_ ?_)
      | (with_reducible refine LeO.bind ?_ (fun _ => ?_))
      | exact ih0 _ _ _
      | exact laws_heldIntS.mono _ _ _
      | exact LeO.none _
      | refine LeO.ite ?_ ?_
      | refine LeO.bind ?_ (fun _ => ?_)
set_option maxHeartbeats 8000000 in
set_option maxRecDepth 100000 in
theorem laws_heldIntSS.calls (k : Nat) (A0 : Option Addr) (c0 : Nat) (l0 : List (List Int)) (a1 : Int) (r : Int) (w : World) (hr0 : Kd.C (Kd.slice 3 (Kd.int .i64)) w A0 l0.length l0) (hc0 : l0.length ≤ c0) (h : laws_heldIntSS.f k l0 a1 = some r) :
    Calls Try.prog 48 #[.slice A0 l0.length c0, .int .i64 a1] w fun e w' => e = .returned (.int .i64 r) ∧ Drawn0 w w' := by
  have HR0 := Aside0.mk hr0
  have HC0 := Aside0.mk hc0
  clear hr0 hc0
  have H : (laws_heldIntSS.l0 k l0 a1 0) = some r := h
  clear h
  have H' := Aside0.mk H
  clear H
  go_enter Try.func48, Try.ntmps48
  go_wp2
  go_loopg [1, 5] k (fun kq v1 v5 w' => ∃ (x1_1 : Int) (x5_1 : Int), v1 = .int .i64 x1_1 ∧ v5 = .int .i64 x5_1 ∧ Aside0 (laws_heldIntSS.l0 kq l0 x1_1 x5_1 = some r) ∧ Aside0 (kq ≤ k) ∧ Drawn0 w w')
  case atStart => exact ⟨(a1), (0), (by first | rfl | (simp; done) | (simp [*]; done)), (by first | rfl | (simp; done) | (simp [*]; done)), H', ⟨Nat.le_refl _⟩, by repeat (first | exact Drawn0.refl _ | apply Drawn0.step)⟩
  case round =>
    clear H'
    try clear p2
    obtain ⟨x1_1, x5_1, rfl, rfl, HA, HK1, ⟨m1, rfl⟩⟩ := hrel
    cases gk with
    | zero => exact absurd HA.out (by simp [laws_heldIntSS.l0])
    | succ k1 =>
      have H := HA.out
      clear HA
      simp only [laws_heldIntSS.l0] at H
      by_cases c3 : x5_1 < (l0.length : Int)
      · rw [if_pos c3] at H
        have c3b0 : decide (x5_1 < (l0.length : Int)) = true := decide_eq_true c3
        clear c3
        by_cases c4 : 0 ≤ x5_1
        · rw [if_pos c4] at H
          have c4b0 : decide (0 ≤ x5_1) = true := decide_eq_true c4
          clear c4
          replace H := Option.bind_eq_some_iff.mp H
          obtain ⟨t170, A50, H⟩ := H
          replace H : (if t170 < 0 then (some (-1)) else (laws_heldIntSS.l0 k1 l0 t170 (wrap64 (x5_1 + 1)))) = some r := H
          have A5 := Aside0.mk A50
          clear A50
          by_cases c6 : t170 < 0
          · rw [if_pos c6] at H
            have c6b0 : decide (t170 < 0) = true := decide_eq_true c6
            clear c6
            obtain rfl := Option.some.inj H
            have p169 : 0 ≤ (x5_1 : Int) := of_decide_eq_true (by first | (with_reducible assumption) | assumption)
            have q169 : x5_1 < (l0.length : Int) := of_decide_eq_true (by first | (with_reducible assumption) | assumption)
            obtain ⟨ad169, A169_0, c169_0, e169, hx169_0, hl169_0, hi169_0⟩ := at_L3 HR0.out x5_1 p169 q169
            cases e169
            have HR169_0 := Aside0.mk hi169_0
            have HC169_0 := Aside0.mk hl169_0
            clear hi169_0 hl169_0
            replace p169 := eq_true p169
            replace q169 := eq_true q169
            go_wp2_with (first | ((with_reducible refine gate_callee (f := 43) rfl ?_); refine goesL_ (some 17) rfl rfl Try.func43 (by kernel_rfl) rfl #[.slice A169_0 (rd_L3 l0 x5_1).length c169_0, .int .i64 x1_1] rfl (by (try simp only [List.map_toArray, List.map_cons, List.map_nil]); first | done | rfl | (simp only [List.length_drop, List.length_take]; rfl)) ?_; (with_reducible refine (laws_heldIntS.calls k1 _ _ (rd_L3 l0 x5_1) x1_1 t170 _ ?side1 ?side2 A5.out).mono ?_); (case side1 => repeat (first | exact HR169_0.out | (with_reducible refine Kd.C_alloc ?_ _) | (with_reducible refine Kd.C_drewN ?_ _) | (with_reducible refine Kd.C_drew ?_))); (case side2 => exact HC169_0.out); rintro e w' ⟨rfl, ⟨nd, rfl⟩⟩; refine ⟨_, rfl, ?_⟩))
            go_ret
            exact ⟨by first | rfl | (simp; done) | (simp [*]; done), by repeat (first | exact Drawn0.refl _ | apply Drawn0.step)⟩
          · rw [if_neg c6] at H
            have c6b0 : decide (t170 < 0) = false := decide_eq_false c6
            clear c6
            have H' := Aside0.mk H
            clear H
            have p169 : 0 ≤ (x5_1 : Int) := of_decide_eq_true (by first | (with_reducible assumption) | assumption)
            have q169 : x5_1 < (l0.length : Int) := of_decide_eq_true (by first | (with_reducible assumption) | assumption)
            obtain ⟨ad169, A169_0, c169_0, e169, hx169_0, hl169_0, hi169_0⟩ := at_L3 HR0.out x5_1 p169 q169
            cases e169
            have HR169_0 := Aside0.mk hi169_0
            have HC169_0 := Aside0.mk hl169_0
            clear hi169_0 hl169_0
            replace p169 := eq_true p169
            replace q169 := eq_true q169
            go_wp2_with (first | ((with_reducible refine gate_callee (f := 43) rfl ?_); refine goesL_ (some 17) rfl rfl Try.func43 (by kernel_rfl) rfl #[.slice A169_0 (rd_L3 l0 x5_1).length c169_0, .int .i64 x1_1] rfl (by (try simp only [List.map_toArray, List.map_cons, List.map_nil]); first | done | rfl | (simp only [List.length_drop, List.length_take]; rfl)) ?_; (with_reducible refine (laws_heldIntS.calls k1 _ _ (rd_L3 l0 x5_1) x1_1 t170 _ ?side1 ?side2 A5.out).mono ?_); (case side1 => repeat (first | exact HR169_0.out | (with_reducible refine Kd.C_alloc ?_ _) | (with_reducible refine Kd.C_drewN ?_ _) | (with_reducible refine Kd.C_drew ?_))); (case side2 => exact HC169_0.out); rintro e w' ⟨rfl, ⟨nd, rfl⟩⟩; refine ⟨_, rfl, ?_⟩))
            go_roundg k1
            case measure => have := HK1.out; omega
            case rel => exact ⟨(t170), (wrap64 (x5_1 + 1)), (by first | rfl | (simp; done) | (simp [*]; done)), (by first | rfl | (simp; done) | (simp [*]; done)), H', ⟨by have := HK1.out; omega⟩, by repeat (first | exact Drawn0.refl _ | apply Drawn0.step)⟩
        · rw [if_neg c4] at H
          exact absurd H (by simp)
      · rw [if_neg c3] at H
        have c3b0 : decide (x5_1 < (l0.length : Int)) = false := decide_eq_false c3
        clear c3
        obtain rfl := Option.some.inj H
        go_wp2
        go_ret
        exact ⟨by first | rfl | (simp; done) | (simp [*]; done), by repeat (first | exact Drawn0.refl _ | apply Drawn0.step)⟩

/-! ### laws_FnExactNeverTogether: function 13 -/
def laws_FnExactNeverTogether.f (k : Nat) (l0 : List S34) : Option Bool :=
  (laws_szPaceS.f l0 1048576).bind fun z => if z < 0 then some true else (laws_toPaceS.f k l0).bind fun p => (spec_NeverTogether.f k p).bind fun b1 => (impl_NeverTogether.f k p).bind fun b2 => (laws_eqPaceS.f k p p).bind fun e => (laws_markPaceS.f k p 1).bind fun m => (laws_markIntSS.f k b2.1 1).bind fun b3 => (laws_eqIntSS.f k b2.1 b1.1).bind fun t => (laws_heldIntSS.f k b3.2 1).bind fun q =>
    if t = true then (if e = true then (if 0 ≤ m.1 then (if b2 = b1 then (if 0 ≤ q then (if q = b3.1 then some true else none) else none) else none) else none) else none) else none
set_option maxHeartbeats 8000000 in
set_option maxRecDepth 100000 in
theorem laws_FnExactNeverTogether.calls (k : Nat) (A0 : Option Addr) (c0 : Nat) (l0 : List (S34)) (r : Bool) (w : World) (hr0 : Kd.C k34 w A0 l0.length l0) (hc0 : l0.length ≤ c0) (h : laws_FnExactNeverTogether.f k l0 = some r) :
    Calls Try.prog 13 #[.slice A0 l0.length c0] w fun e w' => e = .returned (.bool r) ∧ Below w.heap.size w w' := by
  obtain ⟨z, hz, h⟩ := Option.bind_eq_some_iff.mp h
  have HR0 := Aside0.mk hr0
  have HC0 := Aside0.mk hc0
  have HZ := Aside0.mk hz
  clear hr0 hc0 hz
  by_cases cz : z < 0
  · rw [if_pos cz] at h
    obtain rfl := Option.some.inj h
    have qz : decide (z < 0) = true := decide_eq_true cz
    clear h cz
    go_enter Try.func13, Try.ntmps13
    go_wp2_with fail
    refine (laws_szPaceS.calls A0 c0 l0 1048576 z _ HR0.out HC0.out HZ.out).mono ?_
    rintro e w1 ⟨rfl, ⟨n, rfl⟩⟩
    go_wp2
    go_ret
    exact ⟨rfl, pw_below_drewN (Below.refl _ _) _⟩
  rw [if_neg cz] at h
  have qz : decide (z < 0) = false := decide_eq_false cz
  clear cz
  obtain ⟨p, hp, h⟩ := Option.bind_eq_some_iff.mp h
  obtain ⟨⟨l1, b1⟩, h1, h⟩ := Option.bind_eq_some_iff.mp h
  obtain ⟨⟨l2, b2⟩, h2, h⟩ := Option.bind_eq_some_iff.mp h
  obtain ⟨e0, he, h⟩ := Option.bind_eq_some_iff.mp h
  obtain ⟨⟨mm, pm⟩, hm, h⟩ := Option.bind_eq_some_iff.mp h
  obtain ⟨⟨m3, l3⟩, h3, h⟩ := Option.bind_eq_some_iff.mp h
  obtain ⟨t, h4, h⟩ := Option.bind_eq_some_iff.mp h
  obtain ⟨q, h5, h⟩ := Option.bind_eq_some_iff.mp h
  by_cases c1 : t = true
  · rw [if_pos c1] at h
    by_cases ce : e0 = true
    · rw [if_pos ce] at h
      by_cases cm : 0 ≤ mm
      · rw [if_pos cm] at h
        by_cases c2 : ((l2, b2) : List (List Int) × Bool) = (l1, b1)
        · rw [if_pos c2] at h
          by_cases c3 : 0 ≤ q
          · rw [if_pos c3] at h
            by_cases c4 : q = m3
            · rw [if_pos c4] at h
              obtain rfl := Option.some.inj h
              injection c2 with e1 e2
              subst e1 e2 c4 c1 ce
              have HP := Aside0.mk hp
              have H1 := Aside0.mk h1
              have H2 := Aside0.mk h2
              have HE := Aside0.mk he
              have HM := Aside0.mk hm
              have H3 := Aside0.mk h3
              have H4 := Aside0.mk h4
              have H5 := Aside0.mk h5
              clear hp h1 h2 he hm h3 h4 h5 h
              have q1 : decide (q < 0) = false := decide_eq_false (by omega)
              have q2 : decide (mm < 0) = false := decide_eq_false (by omega)
              clear c3 cm
              go_enter Try.func13, Try.ntmps13
              cases b2
              all_goals
                go_wp2_with fail
                refine (laws_szPaceS.calls A0 c0 l0 1048576 z _ HR0.out HC0.out HZ.out).mono ?_
                rintro e w1 ⟨rfl, ⟨n0, rfl⟩⟩
                have HB0 := Aside0.mk (pw_below_drewN (Below.refl w.heap.size w) n0)
                go_wp2_with fail
                refine (laws_toPaceS.calls k A0 c0 l0 p _ (Kd.C_below HR0.out HB0.out) HC0.out HP.out).mono ?_
                rintro e wa ⟨v0, rfl, hX0, hBa⟩
                have HX0 := Aside0.mk hX0
                have HBA := Aside0.mk (below_step HB0.out hBa)
                clear hX0 hBa
                obtain ⟨A1, c1, rfl⟩ := Kd.R_slice HX0.out
                go_wp2_with fail
                refine (spec_NeverTogether.calls k A1 c1 p l2 _ wa (Kd.R_reads' HX0.out).2.2 (Kd.R_reads' HX0.out).2.1 H1.out).mono ?_
                rintro e wb ⟨v1, rfl, hS0, hBb⟩
                have HS0 := Aside0.mk hS0
                have HBB := Aside0.mk (below_step HBA.out hBb)
                clear hS0 hBb
                obtain ⟨AS, cS, rfl⟩ := Kd.S_slice HS0.out
                go_wp2_with fail
                refine (laws_toPaceS.calls k A0 c0 l0 p wb (Kd.C_below HR0.out HBB.out) HC0.out HP.out).mono ?_
                rintro e wc ⟨v2, rfl, hX1, hBc⟩
                have HX1 := Aside0.mk (Kd.R_mono (ok' := fun k_ => k_ < wc.heap.size) (Kd.R_bound hX1) (fun k_ hk => hk.2.2.1))
                have HW := Aside0.mk hBc
                clear hX1 hBc
                obtain ⟨A2, c2, rfl⟩ := Kd.R_slice HX1.out
                go_wp2_with fail
                refine (impl_NeverTogether.calls k A2 c2 p l2 _ wc (Kd.R_reads' HX1.out).2.2 (Kd.R_reads' HX1.out).2.1 H2.out).mono ?_
                rintro e wd ⟨v3, rfl, hS1, hBd⟩
                have HS1 := Aside0.mk hS1
                have HX2 := Aside0.mk (Kd.R_below HX1.out hBd)
                have HWd := Aside0.mk (below_step HW.out hBd)
                clear hS1 hBd
                obtain ⟨A3, c3, rfl⟩ := Kd.S_slice HS1.out
                go_wp2_with fail
                refine (laws_eqIntSS.calls k A3 c3 l2 AS cS l2 true wd (Kd.S_reads' HS1.out).2.2 (Kd.S_reads' HS1.out).2.1 (Kd.C_below (Kd.S_reads' HS0.out).2.2 HWd.out) (Kd.S_reads' HS0.out).2.1 H4.out).mono ?_
                rintro e w3 ⟨rfl, ⟨n1, rfl⟩⟩
                go_wp2_with fail
                refine (laws_toPaceS.calls k A0 c0 l0 p _ (Kd.C_below HR0.out (below_step HBB.out (pw_below_drewN HWd.out n1))) HC0.out HP.out).mono ?_
                rintro e we ⟨v4, rfl, hX4, hBe⟩
                have HX4 := Aside0.mk hX4
                have HDE := Aside0.mk (below_step (pw_below_drewN (Below.refl wd.heap.size wd) n1) hBe)
                have HWe := Aside0.mk (below_step HWd.out HDE.out)
                have HX5 := Aside0.mk (Kd.R_below HX2.out HDE.out)
                clear hX4 hBe
                obtain ⟨A4, c4, rfl⟩ := Kd.R_slice HX4.out
                go_wp2_with fail
                refine (laws_eqPaceS.calls k A2 c2 p A4 c4 p true we (Kd.R_reads' HX5.out).2.2 (Kd.R_reads' HX5.out).2.1 (Kd.R_reads' HX4.out).2.2 (Kd.R_reads' HX4.out).2.1 HE.out).mono ?_
                rintro e wf ⟨rfl, hBf⟩
                have HX6 := Aside0.mk (Kd.R_below HX5.out hBf)
                have HWf := Aside0.mk (below_step HWe.out hBf)
                have HS2 := Aside0.mk (Kd.S_below HS1.out (below_step HDE.out hBf))
                clear hBf
                go_wp2_with fail
                refine (laws_markPaceS.calls k _ _ p 1 mm pm wb wf HWf.out HX6.out HM.out).mono ?_
                rintro e wg ⟨rfl, _, hBg, hK⟩
                have HWg := Aside0.mk hBg
                have HS3 := Aside0.mk (Kd.S_mono (ok' := fun _ => True) (Kd.S_step (w1 := wg) (Kd.S_bound HS2.out) (fun k_ hk hlt => hK.2 k_ hlt (by have := hk.2.1; omega))) (fun _ _ => trivial))
                clear hBg hK
                have HS4 := Aside0.mk (Kd.S_lower HS3.out HW.out.size)
                go_wp2_with fail
                refine (laws_eqIntSS.calls k A3 c3 l2 AS cS l2 true wg (Kd.S_reads' HS4.out).2.2 (Kd.S_reads' HS4.out).2.1 (Kd.C_below (Kd.S_reads' HS0.out).2.2 HWg.out) (Kd.S_reads' HS0.out).2.1 H4.out).mono ?_
                rintro e w5 ⟨rfl, ⟨n2, rfl⟩⟩
                go_wp2_with fail
                refine (laws_markIntSS.calls k _ _ l2 1 q l3 wb _ (pw_below_drewN HWg.out n2) (Kd.S_drewN HS4.out n2) H3.out).mono ?_
                rintro e wh ⟨rfl, hS5, hBh, _⟩
                have HS5 := Aside0.mk hS5
                have HWh := Aside0.mk hBh
                clear hS5 hBh
                have HN := Aside0.mk (Kd.S_reads' HS5.out).1
                go_wp2_with fail
                refine calls_of_args (args' := #[.slice A3 l3.length c3, .int .i64 1]) (by rw [HN.out]) ?_
                refine (laws_heldIntSS.calls k A3 c3 l3 1 q wh (Kd.S_reads' HS5.out).2.2 (by rw [← HN.out]; exact (Kd.S_reads' HS5.out).2.1) H5.out).mono ?_
                rintro e w6 ⟨rfl, ⟨n3, rfl⟩⟩
                go_wp2_with fail
                refine (laws_toPaceS.calls k A0 c0 l0 p _ (Kd.C_below HR0.out (below_step HBB.out (pw_below_drewN HWh.out n3))) HC0.out HP.out).mono ?_
                rintro e wi ⟨v5, rfl, hX7, hBi⟩
                have HX7 := Aside0.mk hX7
                have HDI := Aside0.mk (below_step (pw_below_drewN (Below.refl wh.heap.size wh) n3) hBi)
                clear hX7 hBi
                obtain ⟨A5, c5, rfl⟩ := Kd.R_slice HX7.out
                go_wp2_with fail
                refine (impl_NeverTogether.calls k A5 c5 p l2 _ wi (Kd.R_reads' HX7.out).2.2 (Kd.R_reads' HX7.out).2.1 H2.out).mono ?_
                rintro e wj ⟨v6, rfl, hS6, hBj⟩
                have HS6 := Aside0.mk hS6
                have HDJ := Aside0.mk (below_step HDI.out hBj)
                have HWj := Aside0.mk (below_step HWh.out HDJ.out)
                clear hS6 hBj
                obtain ⟨A6, c6, rfl⟩ := Kd.S_slice HS6.out
                go_wp2_with fail
                refine (laws_eqIntSS.calls k A6 c6 l2 AS cS l2 true wj (Kd.S_reads' HS6.out).2.2 (Kd.S_reads' HS6.out).2.1 (Kd.C_below (Kd.S_reads' HS0.out).2.2 HWj.out) (Kd.S_reads' HS0.out).2.1 H4.out).mono ?_
                rintro e w7 ⟨rfl, ⟨n4, rfl⟩⟩
                have HS7 := Aside0.mk (Kd.S_drewN (Kd.S_below HS5.out HDJ.out) n4)
                go_wp2_with fail
                refine calls_of_args (args' := #[.slice A3 l3.length c3, .int .i64 1]) (by rw [HN.out]) ?_
                refine (laws_heldIntSS.calls k A3 c3 l3 1 q _ (Kd.S_reads' HS7.out).2.2 (by rw [← HN.out]; exact (Kd.S_reads' HS7.out).2.1) H5.out).mono ?_
                rintro e w8 ⟨rfl, ⟨n5, rfl⟩⟩
                go_wp2
                go_ret
                exact ⟨rfl, pw_below_drewN (below_step HBB.out HWj.out) _⟩
            · rw [if_neg c4] at h; cases h
          · rw [if_neg c3] at h; cases h
        · rw [if_neg c2] at h; cases h
      · rw [if_neg cm] at h; cases h
    · rw [if_neg ce] at h; cases h
  · rw [if_neg c1] at h; cases h

end Go.Proofs.Ytioabkhjinnghaa.PFnExactNeverTogether
