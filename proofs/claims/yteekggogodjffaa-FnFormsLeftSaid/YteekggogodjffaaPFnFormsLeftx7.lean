-- Written by a program of this session's (pg.py) over the kit's print.
import Derived.Test.YteekggogodjffaaPFnFormsLeftx0
import Derived.Test.YteekggogodjffaaPFnFormsLeftx5
import Derived.Test.YteekggogodjffaaPFnFormsLeftx6
namespace Go.Proofs.Yteekggogodjffaa.PFnFormsLeft
open Go.RowKit Go.Proofs.YteekggogodjffaaW.PrintWords Go.Proofs.YteekggogodjffaaW.PrintLast Go.Proofs.YteekggogodjffaaW.PrintMore
attribute [local go_sem] max2_int min2_int max_two min_two max_three min_three max_four min_four   -- for this text's walks alone
set_option linter.unusedVariables false
set_option linter.unusedSimpArgs false

/-! ### spec_DrawTurnFormation: function 30 -/
theorem tf_reps (w : World) (b : Nat) (ok : Nat → Prop) (xs : List Int) : Reps (Kd.M (Kd.int .i64) w b ok) 1 xs (xs.map (Value.int .i64)) := by
  induction xs with
  | nil => exact Reps.none _ _
  | cons x xs ih => exact Reps.one (show Kd.M (Kd.int .i64) w b ok x [.int .i64 x] from rfl) ih
theorem tf_far {w W w1 : World} {g : Nat} {f0 : List Int} {f1 f2 : Int} {ok : Nat → Prop} {A : Option Addr} {n c : Nat} {xs : List Int} (hi : IsS65 w W g f0 f1 f2) (h : Kd.R (Kd.int .i64) 3 w1 W.heap.size ok (.slice A n c) xs) : ∀ ad, A = some ad → 0 < xs.length → ad.block ≠ g := by
  intro ad e _
  subst e
  have h1 := Kd.R_base h ad.block rfl
  have h2 := hi.lt
  omega
def spec_DrawTurnFormation.f (l0 : List Int) : Option (Int × Int) := (spec_l1Cur_one.f l0 0 0 10).bind fun b => if b.1 = true then ((spec_l1Cur_among.f l0 b.2.1 b.2.2 ([0, 1, 14, 200, 201, (-1)] : List Int)).bind fun c => (spec_l1Cur_among.f l0 c.2.1 c.2.2 ([0, 1, 14, 15, 200, 4611686018427387904] : List Int)).bind fun d => some (c.1, d.1)) else ((spec_l1Cur_pick.f l0 b.2.1 b.2.2 6).bind fun c => (spec_l1Cur_pick.f l0 c.2.1 c.2.2 8).bind fun d => some (wrap64 (1 + c.1), wrap64 (1 + d.1)))
set_option maxHeartbeats 8000000 in
set_option maxRecDepth 100000 in
theorem spec_DrawTurnFormation.calls (A0 : Option Addr) (c0 : Nat) (l0 : List Int) (r1 r2 : Int) (w : World) (hr0 : Kd.C (Kd.int .u8) w A0 l0.length l0) (hc0 : l0.length ≤ c0) (h : spec_DrawTurnFormation.f l0 = some (r1, r2)) :
    Calls Try.prog 30 #[.slice A0 l0.length c0] w fun e w' => e = .returned (.tuple #[.int .i64 r1, .int .i64 r2]) ∧ Below w.heap.size w w' := by
  obtain ⟨⟨b1, b2, b3⟩, h1, h⟩ := Option.bind_eq_some_iff.mp h
  have H1 := Aside0.mk h1
  have HI := Aside0.mk (IsS65.new w w A0 c0 l0 0 0 (Below.refl _ _) hr0)
  have HB := Aside0.mk (below_alloc (Below.refl w.heap.size w) (.cells #[.slice A0 l0.length c0, .int .i64 0, .int .u64 0] 65))
  clear h1 hr0 hc0
  have hu65 := Try.underlying65
  cases b1 with
  | true =>
    replace h : ((spec_l1Cur_among.f l0 b2 b3 ([0, 1, 14, 200, 201, (-1)] : List Int)).bind fun c => (spec_l1Cur_among.f l0 c.2.1 c.2.2 ([0, 1, 14, 15, 200, 4611686018427387904] : List Int)).bind fun d => some (c.1, d.1)) = some (r1, r2) := h
    obtain ⟨⟨d1, d2, d3⟩, h2, h⟩ := Option.bind_eq_some_iff.mp h
    obtain ⟨⟨e1, e2, e3⟩, h3, h⟩ := Option.bind_eq_some_iff.mp h
    simp only [Option.some.injEq, Prod.mk.injEq] at h
    obtain ⟨rfl, rfl⟩ := h
    obtain ⟨xs, hxs⟩ : ∃ xs : List Int, xs = [0, 1, 14, 200, 201, (-1)] := ⟨_, rfl⟩
    obtain ⟨ys, hys⟩ : ∃ ys : List Int, ys = [0, 1, 14, 15, 200, 4611686018427387904] := ⟨_, rfl⟩
    rw [← hxs] at h2
    replace h3 : spec_l1Cur_among.f l0 d2 d3 ys = some (e1, e2, e3) := by rw [hys]; exact h3
    have HX := Aside0.mk hxs
    have HY := Aside0.mk hys
    have H2 := Aside0.mk h2
    have H3 := Aside0.mk h3
    clear h2 h3 hxs hys
    go_enter Try.func30, Try.ntmps30
    go_wp2_with (first
      | ((with_reducible refine gate_callee (f := 55) rfl ?_); refine goesL_ (some 9) rfl rfl Try.func55 (by kernel_rfl) rfl #[.pointer (some ⟨w.heap.size, 0, none⟩), .int .i64 10] rfl (by (try simp only [List.map_toArray, List.map_cons, List.map_nil]); first | done | rfl) ?_
         refine (spec_l1Cur_one.calls w.heap.size l0 0 0 10 true b2 b3 w _ HI.out HB.out H1.out).mono ?_
         rintro e w1 ⟨rfl, hi, hb, hk⟩
         refine ⟨_, rfl, ?_⟩
         have n0_ := Aside0.mk hi
         have n1_ := Aside0.mk hb
         clear HI HB hi hb hk
         have HI := n0_
         have HB := n1_
         clear n0_ n1_)
      | ((with_reducible refine gate_dst (N := 11) rfl ?_); refine Kd.R_lit (Kd.int .i64) _ 3 ?hg (N := 11) ?hd (xs := ([0, 1, 14, 200, 201, (-1)] : List Int)) (inner := ([0, 1, 14, 200, 201, (-1)] : List Int).map (Value.int .i64)) (ok := fun _ => True) (okp := fun _ => True) ?hr ?hp (fun _ hk => hk) trivial (Below.refl _ _) (Nat.le_refl _) (by simp) ?_
         (case hd => rfl)
         (case hg => rfl)
         (case hr => first | (go_simp; done) | (go_simp; rfl))
         (case hp => exact tf_reps _ _ _ _)
         intro v2 w2 ho hb hg_ hnew_
         clear hg_ hnew_
         rw [← HX.out] at ho
         obtain ⟨Ao, co, eo⟩ := Kd.R_slice ho
         subst eo
         have HO := Aside0.mk ho
         have HF := Aside0.mk (tf_far HI.out ho)
         have n0_ := Aside0.mk (IsS65.below HI.out hb)
         have n1_ := Aside0.mk (below_step HB.out hb)
         clear HI HB hb ho
         have HI := n0_
         have HB := n1_
         clear n0_ n1_)
      | ((with_reducible refine gate_callee (f := 54) rfl ?_); refine goesL_ (some 12) rfl rfl Try.func54 (by kernel_rfl) rfl #[.pointer (some ⟨w.heap.size, 0, none⟩), .slice Ao xs.length co] rfl (by (try simp only [List.map_toArray, List.map_cons, List.map_nil]); first | done | rfl) ?_
         refine (spec_l1Cur_among.calls w.heap.size l0 b2 b3 _ _ xs d1 d2 d3 w _ HI.out HB.out (Kd.R_reads' HO.out).2.2 (Kd.R_reads' HO.out).2.1 HF.out H2.out).mono ?_
         rintro e w3 ⟨rfl, hi, hb, hk⟩
         refine ⟨_, rfl, ?_⟩
         have n0_ := Aside0.mk hi
         have n1_ := Aside0.mk hb
         clear HI HB HO HF hi hb hk
         have HI := n0_
         have HB := n1_
         clear n0_ n1_)
      | ((with_reducible refine gate_dst (N := 14) rfl ?_); refine Kd.R_lit (Kd.int .i64) _ 3 ?hg (N := 14) ?hd (xs := ([0, 1, 14, 15, 200, 4611686018427387904] : List Int)) (inner := ([0, 1, 14, 15, 200, 4611686018427387904] : List Int).map (Value.int .i64)) (ok := fun _ => True) (okp := fun _ => True) ?hr ?hp (fun _ hk => hk) trivial (Below.refl _ _) (Nat.le_refl _) (by simp) ?_
         (case hd => rfl)
         (case hg => rfl)
         (case hr => first | (go_simp; done) | (go_simp; rfl))
         (case hp => exact tf_reps _ _ _ _)
         intro v4 w4 ho hb hg_ hnew_
         clear hg_ hnew_
         rw [← HY.out] at ho
         obtain ⟨Ap, cp, ep⟩ := Kd.R_slice ho
         subst ep
         have HO := Aside0.mk ho
         have HF := Aside0.mk (tf_far HI.out ho)
         have n0_ := Aside0.mk (IsS65.below HI.out hb)
         have n1_ := Aside0.mk (below_step HB.out hb)
         clear HI HB hb ho
         have HI := n0_
         have HB := n1_
         clear n0_ n1_)
      | ((with_reducible refine gate_callee (f := 54) rfl ?_); refine goesL_ (some 15) rfl rfl Try.func54 (by kernel_rfl) rfl #[.pointer (some ⟨w.heap.size, 0, none⟩), .slice Ap ys.length cp] rfl (by (try simp only [List.map_toArray, List.map_cons, List.map_nil]); first | done | rfl) ?_
         refine (spec_l1Cur_among.calls w.heap.size l0 d2 d3 _ _ ys e1 e2 e3 w _ HI.out HB.out (Kd.R_reads' HO.out).2.2 (Kd.R_reads' HO.out).2.1 HF.out H3.out).mono ?_
         rintro e w5 ⟨rfl, hi, hb, hk⟩
         refine ⟨_, rfl, ?_⟩
         have n1_ := Aside0.mk hb
         clear HI HB HO HF hi hb hk
         have HB := n1_
         clear n1_))
    go_ret2
    exact ⟨rfl, HB.out⟩
  | false =>
    replace h : ((spec_l1Cur_pick.f l0 b2 b3 6).bind fun c => (spec_l1Cur_pick.f l0 c.2.1 c.2.2 8).bind fun d => some (wrap64 (1 + c.1), wrap64 (1 + d.1))) = some (r1, r2) := h
    obtain ⟨⟨d1, d2, d3⟩, h2, h⟩ := Option.bind_eq_some_iff.mp h
    obtain ⟨⟨e1, e2, e3⟩, h3, h⟩ := Option.bind_eq_some_iff.mp h
    simp only [Option.some.injEq, Prod.mk.injEq] at h
    obtain ⟨rfl, rfl⟩ := h
    have H2 := Aside0.mk h2
    have H3 := Aside0.mk h3
    clear h2 h3
    go_enter Try.func30, Try.ntmps30
    go_wp2_with fail
    refine (spec_l1Cur_one.calls w.heap.size l0 0 0 10 false b2 b3 w _ HI.out HB.out H1.out).mono ?_
    rintro e w1 ⟨rfl, hi, hb, hk⟩
    have HI1 := Aside0.mk hi
    have HB1 := Aside0.mk hb
    clear hi hb hk HI HB
    go_wp2_with fail
    refine (spec_l1Cur_pick.calls w.heap.size l0 b2 b3 6 d1 d2 d3 w _ HI1.out HB1.out H2.out).mono ?_
    rintro e w2 ⟨rfl, hi, hb, hk⟩
    have HI2 := Aside0.mk hi
    have HB2 := Aside0.mk hb
    clear hi hb hk HI1 HB1
    go_wp2_with fail
    refine (spec_l1Cur_pick.calls w.heap.size l0 d2 d3 8 e1 e2 e3 w _ HI2.out HB2.out H3.out).mono ?_
    rintro e w3 ⟨rfl, hi, hb, hk⟩
    have HB3 := Aside0.mk hb
    clear hi hb hk HI2 HB2
    go_wp2_with fail
    go_ret2
    exact ⟨rfl, HB3.out⟩

end Go.Proofs.Yteekggogodjffaa.PFnFormsLeft
