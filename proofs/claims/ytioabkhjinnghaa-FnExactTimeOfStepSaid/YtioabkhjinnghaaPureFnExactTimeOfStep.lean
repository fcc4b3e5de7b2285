/- For every list of paces and every number, the program's TimeOfStep answers what the reference's does, and leaves its argument alone. -/
import Derived.Test.YtioabkhjinnghaaPFnExactTimeOfStepx3
namespace Go.Proofs.Ytioabkhjinnghaa.Pure
open Go.RowKit Go.Proofs.Ytioabkhjinnghaa.PFnExactTimeOfStep Go.Proofs.YtioabkhjinnghaaW.PrintWords Go.Proofs.YtioabkhjinnghaaW.PrintLast
set_option linter.unusedVariables false
set_option linter.unusedSimpArgs false

theorem w64 {x : Int} (h1 : -9223372036854775808 ≤ x) (h2 : x ≤ 9223372036854775807) : wrap64 x = x := by
  unfold wrap64
  omega
theorem wf_lo {a : Int} (h : (Lit.int .i64 a).wf = true) : -9223372036854775808 ≤ a := by
  have h' : IntKind.i64.min ≤ a ∧ a ≤ IntKind.i64.max := by simpa [Lit.wf] using h
  have e : IntKind.i64.min = -9223372036854775808 := by decide
  omega
theorem wf_hi {a : Int} (h : (Lit.int .i64 a).wf = true) : a ≤ 9223372036854775807 := by
  have h' : IntKind.i64.min ≤ a ∧ a ≤ IntKind.i64.max := by simpa [Lit.wf] using h
  have e : IntKind.i64.max = 9223372036854775807 := by decide
  omega
theorem ev_congr_fun {α : Type} {g f : Nat → Option α} {r : α} (h : g = f) (k : Ev f r) : Ev g r := h ▸ k
theorem rd_mid (pre : List Int) (x : Int) (rest : List Int) : rd (pre ++ x :: rest) (pre.length : Int) = x := by
  simp [rd]
theorem l1In_eq (a b c : Int) : spec_l1In.f a b c = some (decide (b ≤ a) && decide (a ≤ c)) := by
  unfold spec_l1In.f
  by_cases h : b ≤ a
  · rw [if_pos h]; simp [h]
  · rw [if_neg (show ¬ a ≥ b from h)]; simp [h]
theorem in_eq (a b c : Int) : impl_in.f a b c = some (decide (b ≤ a) && decide (a ≤ c)) := by
  unfold impl_in.f
  by_cases h : b ≤ a
  · rw [if_pos h]; simp [h]
  · rw [if_neg h]; simp [h]
theorem cast_len {α : Type} (l : List α) : (decide ((1 : Int) ≤ (l.length : Int)) && decide ((l.length : Int) ≤ 6)) = (decide (1 ≤ l.length) && decide (l.length ≤ 6)) := by
  congr 1 <;> exact decide_eq_decide.2 (by omega)
def okP (p : S37) : Bool := (decide (1 ≤ p.f0) && decide (p.f0 ≤ 60)) && (decide (0 ≤ p.f1) && decide (p.f1 ≤ p.f0 - 1))
def pacesB (l : List S37) : Bool := (decide (1 ≤ l.length) && decide (l.length ≤ 6)) && l.all okP
def convP (z : S34) : S37 := ⟨z.f0, z.f1⟩
theorem okP_iff {p : S37} (h : okP p = true) : 1 ≤ p.f0 ∧ p.f0 ≤ 60 ∧ 0 ≤ p.f1 ∧ p.f1 < p.f0 := by
  unfold okP at h
  simp only [Bool.and_eq_true, decide_eq_true_eq] at h
  omega
theorem pacesB_mem {l : List S37} (h : pacesB l = true) : 1 ≤ l.length ∧ l.length ≤ 6 ∧ ∀ p ∈ l, 1 ≤ p.f0 ∧ p.f0 ≤ 60 ∧ 0 ≤ p.f1 ∧ p.f1 < p.f0 := by
  unfold pacesB at h
  simp only [Bool.and_eq_true, decide_eq_true_eq, List.all_eq_true] at h
  exact ⟨h.1.1, h.1.2, fun p hp => okP_iff (h.2 p hp)⟩
theorem rdP_mid (pre : List S37) (x : S37) (rest : List S37) : rd_T37 (pre ++ x :: rest) (pre.length : Int) = x := by
  simp [rd_T37]
theorem rdL_mid (pre : List S34) (x : S34) (rest : List S34) : rd_T34 (pre ++ x :: rest) (pre.length : Int) = x := by
  simp [rd_T34]
theorem spPace_eq (p : S37) : spec_spPace.f p.f0 p.f1 = some (okP p) := by
  unfold spec_spPace.f okP
  rw [l1In_eq]
  simp only [Option.bind_some]
  by_cases h : (decide (1 ≤ p.f0) && decide (p.f0 ≤ 60)) = true
  · have h' : 1 ≤ p.f0 ∧ p.f0 ≤ 60 := by simpa using h
    rw [h, w64 (by omega) (by omega), l1In_eq]
    simp
  · have h' : (decide (1 ≤ p.f0) && decide (p.f0 ≤ 60)) = false := by simpa using h
    rw [h']
    simp
theorem isPace_eq (p : S37) : impl_isPace.f p.f0 p.f1 = some (okP p) := by
  unfold impl_isPace.f okP
  rw [in_eq]
  simp only [Option.bind_some]
  by_cases h : (decide (1 ≤ p.f0) && decide (p.f0 ≤ 60)) = true
  · have h' : 1 ≤ p.f0 ∧ p.f0 ≤ 60 := by simpa using h
    rw [h, w64 (by omega) (by omega), in_eq]
    simp
  · have h' : (decide (1 ≤ p.f0) && decide (p.f0 ≤ 60)) = false := by simpa using h
    rw [h']
    simp
theorem spGood_l0 (rest : List S37) : ∀ pre : List S37, pre.length + rest.length ≤ 100000000 →
    Ev (fun k => spec_spGood.l0 k (pre ++ rest) ((pre ++ rest).length : Int) pre.length) (rest.all okP) := by
  induction rest with
  | nil =>
    intro pre hl
    exact Ev.step (f := fun _ => some true) (fun k => by rw [spec_spGood.l0, if_neg (by simp)]) (by simpa using Ev.now true)
  | cons x rest ih =>
    intro pre hl
    simp only [List.length_cons] at hl
    have hlen : ((pre ++ x :: rest).length : Int) = pre.length + (rest.length + 1) := by simp
    by_cases hx : okP x = true
    · refine Ev.step (f := fun k => spec_spGood.l0 k ((pre ++ [x]) ++ rest) (((pre ++ [x]) ++ rest).length : Int) ((pre ++ [x]).length : Nat)) (fun k => ?_) ?_
      · rw [spec_spGood.l0, if_pos (by omega), if_pos (by omega), if_pos (by omega), rdP_mid, spPace_eq, hx]
        simp only [Option.bind_some, if_true]
        rw [w64 (by omega) (by omega)]
        simp
      · have := ih (pre ++ [x]) (by simp; omega)
        simpa [hx] using this
    · have hx' : okP x = false := by simpa using hx
      refine Ev.step (f := fun _ => some false) (fun k => ?_) (by simpa [hx'] using Ev.now false)
      rw [spec_spGood.l0, if_pos (by omega), if_pos (by omega), if_pos (by omega), rdP_mid, spPace_eq, hx']
      simp
theorem indexP_l0 (rest : List S37) : ∀ pre : List S37, pre.length + rest.length ≤ 100000000 →
    ∃ r : Int, Ev (fun k => slices_IndexFunc_impl_Pace_impl_Pace.l0 k (pre ++ rest) ((pre ++ rest).length : Int) pre.length) r ∧ (decide (r ≥ 0) = !(rest.all okP)) := by
  induction rest with
  | nil =>
    intro pre hl
    exact ⟨-1, Ev.step (f := fun _ => some (-1)) (fun k => by rw [slices_IndexFunc_impl_Pace_impl_Pace.l0, if_neg (by simp)]) (Ev.now _), by simp⟩
  | cons x rest ih =>
    intro pre hl
    simp only [List.length_cons] at hl
    have hlen : ((pre ++ x :: rest).length : Int) = pre.length + (rest.length + 1) := by simp
    by_cases hx : okP x = true
    · have hin : impl_arePaces_1.f x.f0 x.f1 = some false := by
        unfold impl_arePaces_1.f
        rw [isPace_eq, hx]
        rfl
      obtain ⟨r, hr, hd⟩ := ih (pre ++ [x]) (by simp; omega)
      refine ⟨r, Ev.step (f := fun k => slices_IndexFunc_impl_Pace_impl_Pace.l0 k ((pre ++ [x]) ++ rest) (((pre ++ [x]) ++ rest).length : Int) ((pre ++ [x]).length : Nat)) (fun k => ?_) hr, by rw [hd]; simp [hx]⟩
      rw [slices_IndexFunc_impl_Pace_impl_Pace.l0, if_pos (by omega), if_pos (by omega), if_pos (by omega), rdP_mid, hin]
      simp only [Option.bind_some]
      rw [if_neg (by decide), w64 (by omega) (by omega)]
      simp
    · have hx' : okP x = false := by simpa using hx
      have hin : impl_arePaces_1.f x.f0 x.f1 = some true := by
        unfold impl_arePaces_1.f
        rw [isPace_eq, hx']
        rfl
      refine ⟨pre.length, Ev.step (f := fun _ => some (pre.length : Int)) (fun k => ?_) (Ev.now _), by simp [hx']⟩
      rw [slices_IndexFunc_impl_Pace_impl_Pace.l0, if_pos (by omega), if_pos (by omega), if_pos (by omega), rdP_mid, hin]
      simp
theorem spec_good (l : List S37) (hl : l.length ≤ 10000000) : Ev (fun k => spec_spGood.f k l) (pacesB l) := by
  have h1 := spGood_l0 l [] (by simp; omega)
  simp only [List.nil_append, List.length_nil] at h1
  unfold spec_spGood.f pacesB
  rw [l1In_eq, cast_len]
  simp only [Option.bind_some]
  by_cases h : (decide (1 ≤ l.length) && decide (l.length ≤ 6)) = true
  · rw [h]
    simp only [if_true, Bool.true_and]
    exact h1
  · have h' : (decide (1 ≤ l.length) && decide (l.length ≤ 6)) = false := by simpa using h
    rw [h']
    simpa using Ev.now false
theorem impl_good (l : List S37) (hl : l.length ≤ 10000000) : Ev (fun k => impl_arePaces.f k l) (pacesB l) := by
  obtain ⟨r, h1, hd⟩ := indexP_l0 l [] (by simp; omega)
  simp only [List.nil_append, List.length_nil] at h1
  unfold impl_arePaces.f pacesB
  rw [in_eq, cast_len]
  simp only [Option.bind_some]
  by_cases h : (decide (1 ≤ l.length) && decide (l.length ≤ 6)) = true
  · rw [h]
    simp only [if_true, Bool.true_and]
    have h2 : Ev (fun k => slices_ContainsFunc_impl_Pace_impl_Pace.f k l) (!(l.all okP)) := by
      unfold slices_ContainsFunc_impl_Pace_impl_Pace.f
      rw [← hd]
      exact Ev.bind (g := fun k => slices_IndexFunc_impl_Pace_impl_Pace.f k l) (f := fun _ t => some (decide (t ≥ 0))) h1 (Ev.now _)
    have h3 := Ev.bind (f := fun _ t => some (!t)) h2 (Ev.now _)
    simpa using h3
  · have h' : (decide (1 ≤ l.length) && decide (l.length ≤ 6)) = false := by simpa using h
    rw [h']
    simpa using Ev.now false
theorem toPace_l0 (rest : List S34) : ∀ (pre : List S34), pre.length + rest.length ≤ 100000000 →
    Ev (fun k => laws_toPaceS.l0 k (pre ++ rest) (pre.map convP ++ List.replicate rest.length z37) pre.length) ((pre ++ rest).map convP) := by
  induction rest with
  | nil =>
    intro pre hl
    exact Ev.step (f := fun _ => some (pre.map convP)) (fun k => by rw [laws_toPaceS.l0]; rw [if_neg (by simp)]; simp) (by simpa using Ev.now (pre.map convP))
  | cons x rest ih =>
    intro pre hl
    simp only [List.length_cons] at hl
    refine Ev.step (f := fun k => laws_toPaceS.l0 k ((pre ++ [x]) ++ rest) ((pre ++ [x]).map convP ++ List.replicate rest.length z37) ((pre ++ [x]).length : Nat)) (fun k => ?_) ?_
    · rw [laws_toPaceS.l0]
      rw [if_pos (by simp; omega), if_pos (by omega), rdL_mid]
      unfold laws_toPace.f
      simp only [Option.bind_some]
      rw [if_pos (by simp; omega), w64 (by omega) (by omega)]
      simp [List.replicate_succ, convP]
    · have := ih (pre ++ [x]) (by simp; omega)
      simpa using this
theorem toPace_ok (l : List S34) (hl : l.length ≤ 100000000) : Ev (fun k => laws_toPaceS.f k l) (l.map convP) := by
  have := toPace_l0 l [] (by simpa using hl)
  refine Ev.congr (fun k => ?_) (by simpa using this)
  unfold laws_toPaceS.f
  rw [if_pos (by omega), if_pos (by simp; omega)]
  simp
theorem eqPace_l0 (l : List S37) (hl : l.length ≤ 1000000000000000000) (d : Nat) : ∀ i : Int, 0 ≤ i → (l.length : Int) - i = d → Ev (fun k => laws_eqPaceS.l0 k l l i) true := by
  induction d with
  | zero =>
    intro i h0 hd
    exact Ev.step (f := fun _ => some true) (fun k => by rw [laws_eqPaceS.l0]; rw [if_neg (by omega)]) (Ev.now _)
  | succ d ih =>
    intro i h0 hd
    refine Ev.step (f := fun k => laws_eqPaceS.l0 k l l (i + 1)) (fun k => ?_) (ih (i + 1) (by omega) (by omega))
    have he : ∀ a b : Int, laws_eqPace.f a b a b = some true := fun a b => by unfold laws_eqPace.f; rw [if_pos rfl, if_pos rfl]
    rw [laws_eqPaceS.l0, if_pos (by omega), if_pos h0, if_pos (by omega), he]
    simp only [Option.bind_some, if_true]
    rw [w64 (by omega) (by omega)]
theorem eqPace_self (l : List S37) (hl : l.length ≤ 1000000000000000000) : Ev (fun k => laws_eqPaceS.f k l l) true :=
  Ev.congr (fun k => by unfold laws_eqPaceS.f; rw [if_pos rfl]) (eqPace_l0 l hl l.length 0 (by omega) (by omega))
theorem szPace_eq (l : List S34) (hl : l.length ≤ 9223372036854775807) : laws_szPaceS.f l 1048576 = some (if (1048576 - (l.length : Int)) < 0 then -1 else 1048576 - (l.length : Int)) := by
  unfold laws_szPaceS.f
  rw [w64 (by omega) (by omega)]
  by_cases h : (1048576 - (l.length : Int)) < 0
  · rw [if_pos h, if_pos h]
  · rw [if_neg h, if_neg h]
def stepsB (t : Int) (p : S37) : Int := if t > p.f1 then (t - p.f1 - 1) / p.f0 + 1 else 0
def beforeT (t : Int) : List S37 → Int
  | [] => 0
  | p :: rest => stepsB t p + beforeT t rest
theorem stepsB_bd {t : Int} {p : S37} (h0 : 0 ≤ t) (h1 : t ≤ 2000000000) (hp : 1 ≤ p.f0 ∧ p.f0 ≤ 60 ∧ 0 ≤ p.f1 ∧ p.f1 < p.f0) : 0 ≤ stepsB t p ∧ stepsB t p ≤ 2000000000 := by
  unfold stepsB
  by_cases h : t > p.f1
  · rw [if_pos h]
    have a1 : 0 ≤ (t - p.f1 - 1) / p.f0 := Int.ediv_nonneg (by omega) (by omega)
    have a2 : (t - p.f1 - 1) / p.f0 ≤ t - p.f1 - 1 := Int.ediv_le_self _ (by omega)
    omega
  · rw [if_neg h]; omega
theorem beforeT_bd {t : Int} (h0 : 0 ≤ t) (h1 : t ≤ 2000000000) (l : List S37) (hp : ∀ p ∈ l, 1 ≤ p.f0 ∧ p.f0 ≤ 60 ∧ 0 ≤ p.f1 ∧ p.f1 < p.f0) : 0 ≤ beforeT t l ∧ beforeT t l ≤ 2000000000 * l.length := by
  induction l with
  | nil => simp [beforeT]
  | cons p rest ih =>
    have h2 := stepsB_bd h0 h1 (hp p (List.mem_cons_self ..))
    have h3 := ih (fun q hq => hp q (List.mem_cons_of_mem _ hq))
    simp only [beforeT, List.length_cons]
    omega
theorem spec_before_l0 {t : Int} (h0 : 0 ≤ t) (h1 : t ≤ 2000000000) (rest : List S37) : ∀ (pre : List S37) (acc : Int), (∀ p ∈ rest, 1 ≤ p.f0 ∧ p.f0 ≤ 60 ∧ 0 ≤ p.f1 ∧ p.f1 < p.f0) → pre.length + rest.length ≤ 6 → 0 ≤ acc → acc + 2000000000 * rest.length ≤ 12000000000 →
    Ev (fun k => spec_spBefore.l0 k t acc (pre ++ rest) ((pre ++ rest).length : Int) pre.length) (acc + beforeT t rest) := by
  induction rest with
  | nil =>
    intro pre acc hp hl ha hb
    exact Ev.step (f := fun _ => some acc) (fun k => by rw [spec_spBefore.l0, if_neg (by simp)]) (by simpa [beforeT] using Ev.now acc)
  | cons p rest ih =>
    intro pre acc hp hl ha hb
    simp only [List.length_cons] at hl hb
    have hlen : ((pre ++ p :: rest).length : Int) = pre.length + (rest.length + 1) := by simp
    have hpp := hp p (List.mem_cons_self ..)
    have hs := stepsB_bd h0 h1 hpp
    have hrec := ih (pre ++ [p]) (acc + stepsB t p) (fun q hq => hp q (List.mem_cons_of_mem _ hq)) (by simp; omega) (by omega) (by omega)
    refine Ev.step (f := fun k => spec_spBefore.l0 k t (acc + stepsB t p) ((pre ++ [p]) ++ rest) (((pre ++ [p]) ++ rest).length : Int) ((pre ++ [p]).length : Nat)) (fun k => ?_) (by rw [beforeT, ← Int.add_assoc]; exact hrec)
    rw [spec_spBefore.l0, if_pos (by omega), if_pos (by omega), if_pos (by omega), rdP_mid]
    by_cases h : t > p.f1
    · have e : stepsB t p = (t - p.f1 - 1) / p.f0 + 1 := by unfold stepsB; rw [if_pos h]
      have a1 : 0 ≤ (t - p.f1 - 1) / p.f0 := Int.ediv_nonneg (by omega) (by omega)
      rw [if_pos h, if_neg (by omega), w64 (x := t - p.f1) (by omega) (by omega), w64 (x := t - p.f1 - 1) (by omega) (by omega), Int.tdiv_eq_ediv_of_nonneg (by omega), w64 (x := (t - p.f1 - 1) / p.f0) (by omega) (by omega), w64 (x := (t - p.f1 - 1) / p.f0 + 1) (by omega) (by omega), ← e, w64 (x := acc + stepsB t p) (by omega) (by omega), w64 (by omega) (by omega)]
      simp
    · have e : stepsB t p = 0 := by unfold stepsB; rw [if_neg h]
      rw [if_neg h, e, w64 (by omega) (by omega)]
      simp
theorem impl_before_l0 {t : Int} (h0 : 0 ≤ t) (h1 : t ≤ 2000000000) (rest : List S37) : ∀ (pre : List S37) (acc : Int), (∀ p ∈ rest, 1 ≤ p.f0 ∧ p.f0 ≤ 60 ∧ 0 ≤ p.f1 ∧ p.f1 < p.f0) → pre.length + rest.length ≤ 6 → 0 ≤ acc → acc + 2000000000 * rest.length ≤ 12000000000 →
    Ev (fun k => impl_until.l0 k t acc (pre ++ rest) ((pre ++ rest).length : Int) pre.length) (acc + beforeT t rest) := by
  induction rest with
  | nil =>
    intro pre acc hp hl ha hb
    exact Ev.step (f := fun _ => some acc) (fun k => by rw [impl_until.l0, if_neg (by simp)]) (by simpa [beforeT] using Ev.now acc)
  | cons p rest ih =>
    intro pre acc hp hl ha hb
    simp only [List.length_cons] at hl hb
    have hlen : ((pre ++ p :: rest).length : Int) = pre.length + (rest.length + 1) := by simp
    have hpp := hp p (List.mem_cons_self ..)
    have hs := stepsB_bd h0 h1 hpp
    have hrec := ih (pre ++ [p]) (acc + stepsB t p) (fun q hq => hp q (List.mem_cons_of_mem _ hq)) (by simp; omega) (by omega) (by omega)
    refine Ev.step (f := fun k => impl_until.l0 k t (acc + stepsB t p) ((pre ++ [p]) ++ rest) (((pre ++ [p]) ++ rest).length : Int) ((pre ++ [p]).length : Nat)) (fun k => ?_) (by rw [beforeT, ← Int.add_assoc]; exact hrec)
    rw [impl_until.l0, if_pos (by omega), if_pos (by omega), if_pos (by omega), rdP_mid]
    by_cases h : t > p.f1
    · have e : stepsB t p = (t - p.f1 - 1) / p.f0 + 1 := by unfold stepsB; rw [if_pos h]
      have a1 : 0 ≤ (t - p.f1 - 1) / p.f0 := Int.ediv_nonneg (by omega) (by omega)
      rw [if_pos h, if_neg (by omega), w64 (x := t - p.f1) (by omega) (by omega), w64 (x := t - p.f1 - 1) (by omega) (by omega), Int.tdiv_eq_ediv_of_nonneg (by omega), w64 (x := (t - p.f1 - 1) / p.f0) (by omega) (by omega), w64 (x := (t - p.f1 - 1) / p.f0 + 1) (by omega) (by omega), ← e, w64 (x := acc + stepsB t p) (by omega) (by omega), w64 (by omega) (by omega)]
      simp
    · have e : stepsB t p = 0 := by unfold stepsB; rw [if_neg h]
      rw [if_neg h, e, w64 (by omega) (by omega)]
      simp
theorem spec_before {t : Int} (h0 : 0 ≤ t) (h1 : t ≤ 2000000000) {l : List S37} (hl : l.length ≤ 6) (hp : ∀ p ∈ l, 1 ≤ p.f0 ∧ p.f0 ≤ 60 ∧ 0 ≤ p.f1 ∧ p.f1 < p.f0) : Ev (fun k => spec_spBefore.f k l t) (beforeT t l) := by
  have := spec_before_l0 h0 h1 l [] 0 hp (by simpa using hl) (by omega) (by omega)
  simpa [spec_spBefore.f] using this
theorem impl_before {t : Int} (h0 : 0 ≤ t) (h1 : t ≤ 2000000000) {l : List S37} (hl : l.length ≤ 6) (hp : ∀ p ∈ l, 1 ≤ p.f0 ∧ p.f0 ≤ 60 ∧ 0 ≤ p.f1 ∧ p.f1 < p.f0) : Ev (fun k => impl_until.f k l t) (beforeT t l) := by
  have := impl_before_l0 h0 h1 l [] 0 hp (by simpa using hl) (by omega) (by omega)
  simpa [impl_until.f] using this
theorem stepsB_mono {t : Int} {p : S37} (hp : 1 ≤ p.f0 ∧ p.f0 ≤ 60 ∧ 0 ≤ p.f1 ∧ p.f1 < p.f0) : stepsB t p ≤ stepsB (t + 1) p := by
  unfold stepsB
  by_cases h : t > p.f1
  · rw [if_pos h, if_pos (by omega)]
    have : (t - p.f1 - 1) / p.f0 ≤ (t + 1 - p.f1 - 1) / p.f0 := Int.ediv_le_ediv (by omega) (by omega)
    omega
  · rw [if_neg h]
    by_cases h2 : t + 1 > p.f1
    · rw [if_pos h2]
      have : 0 ≤ (t + 1 - p.f1 - 1) / p.f0 := Int.ediv_nonneg (by omega) (by omega)
      omega
    · rw [if_neg h2]; omega
theorem before_mono1 {t : Int} (l : List S37) (hp : ∀ p ∈ l, 1 ≤ p.f0 ∧ p.f0 ≤ 60 ∧ 0 ≤ p.f1 ∧ p.f1 < p.f0) : beforeT t l ≤ beforeT (t + 1) l := by
  induction l with
  | nil => simp [beforeT]
  | cons p rest ih =>
    have h1 := stepsB_mono (t := t) (hp p (List.mem_cons_self ..))
    have h2 := ih (fun q hq => hp q (List.mem_cons_of_mem _ hq))
    simp only [beforeT]
    omega
theorem before_mono (l : List S37) (hp : ∀ p ∈ l, 1 ≤ p.f0 ∧ p.f0 ≤ 60 ∧ 0 ≤ p.f1 ∧ p.f1 < p.f0) (d : Nat) : ∀ t : Int, beforeT t l ≤ beforeT (t + d) l := by
  induction d with
  | zero => intro t; simp
  | succ d ih =>
    intro t
    have h1 := ih t
    have h2 := before_mono1 (t := t + d) l hp
    have e : t + ((d + 1 : Nat) : Int) = t + d + 1 := by omega
    rw [e]
    omega
theorem before_le (l : List S37) (hp : ∀ p ∈ l, 1 ≤ p.f0 ∧ p.f0 ≤ 60 ∧ 0 ≤ p.f1 ∧ p.f1 < p.f0) {a b : Int} (h : a ≤ b) : beforeT a l ≤ beforeT b l := by
  have := before_mono l hp (b - a).toNat a
  have e : a + ((b - a).toNat : Int) = b := by omega
  rw [e] at this
  exact this
theorem before_zero (l : List S37) (hp : ∀ p ∈ l, 1 ≤ p.f0 ∧ p.f0 ≤ 60 ∧ 0 ≤ p.f1 ∧ p.f1 < p.f0) : beforeT 0 l = 0 := by
  induction l with
  | nil => rfl
  | cons p rest ih =>
    have hpp := hp p (List.mem_cons_self ..)
    have : stepsB 0 p = 0 := by unfold stepsB; rw [if_neg (by omega)]
    simp only [beforeT, this, ih (fun q hq => hp q (List.mem_cons_of_mem _ hq))]
    rfl
theorem before_end {l : List S37} (h1 : 1 ≤ l.length) (h6 : l.length ≤ 6) (hp : ∀ p ∈ l, 1 ≤ p.f0 ∧ p.f0 ≤ 60 ∧ 0 ≤ p.f1 ∧ p.f1 < p.f0) : 1000000 < beforeT 60000060 l := by
  cases l with
  | nil => simp at h1
  | cons p rest =>
    obtain ⟨p1, p2, p3, p4⟩ := hp p (List.mem_cons_self ..)
    have hr := (beforeT_bd (t := 60000060) (by omega) (by omega) rest (fun q hq => hp q (List.mem_cons_of_mem _ hq))).1
    have e : stepsB 60000060 p = (60000060 - p.f1 - 1) / p.f0 + 1 := by unfold stepsB; rw [if_pos (by omega)]
    have h : 1000000 ≤ (60000060 - p.f1 - 1) / p.f0 := by
      refine (Int.le_ediv_iff_mul_le (by omega)).2 ?_
      omega
    simp only [beforeT]
    omega
theorem turn_ex {l : List S37} {k : Int} (n : Nat) : beforeT 0 l ≤ k → k < beforeT n l → ∃ T : Nat, T < n ∧ beforeT T l ≤ k ∧ k < beforeT (T + 1) l := by
  induction n with
  | zero => intro h0 h; exact absurd h (by simpa using Int.not_lt.2 h0)
  | succ n ih =>
    intro h0 h
    by_cases hn : k < beforeT n l
    · obtain ⟨T, a, b, c⟩ := ih h0 hn
      exact ⟨T, by omega, b, c⟩
    · exact ⟨n, by omega, by omega, by simpa using h⟩
section
variable {l : List S37} (h6 : l.length ≤ 6) (hp : ∀ p ∈ l, 1 ≤ p.f0 ∧ p.f0 ≤ 60 ∧ 0 ≤ p.f1 ∧ p.f1 < p.f0) {q : Int} {T : Nat} (hT1 : beforeT T l ≤ q) (hT2 : q < beforeT (T + 1) l)
include h6 hp hT1 hT2
theorem spec_find (d : Nat) : ∀ lo hi : Int, hi - lo = d → 0 ≤ lo → lo ≤ T → T ≤ hi → hi ≤ 1000000000 → Ev (fun k => spec_TimeOfStep.l0 k l q lo hi) ((T : Int), true) := by
  induction d using Nat.strongRecOn with
  | _ d ih =>
    intro lo hi hd h0 h1 h2 h3
    by_cases h : lo < hi
    · have hm1 : lo < (lo + hi + 1) / 2 := by omega
      have hm2 : (lo + hi + 1) / 2 ≤ hi := by omega
      have em : Int.tdiv (lo + hi + 1) 2 = (lo + hi + 1) / 2 := Int.tdiv_eq_ediv_of_nonneg (by omega)
      have ew : wrap64 (Int.tdiv (wrap64 ((wrap64 (lo + hi)) + 1)) 2) = (lo + hi + 1) / 2 := by
        rw [w64 (x := lo + hi) (by omega) (by omega), w64 (x := lo + hi + 1) (by omega) (by omega), em, w64 (by omega) (by omega)]
      refine Ev.step (f := fun k => (spec_spBefore.f k l ((lo + hi + 1) / 2)).bind fun t127 => (if t127 ≤ q then (spec_TimeOfStep.l0 k l q ((lo + hi + 1) / 2) hi) else (spec_TimeOfStep.l0 k l q lo ((lo + hi + 1) / 2 - 1)))) (fun k => ?_) ?_
      · rw [spec_TimeOfStep.l0, if_pos h, ew, w64 (x := (lo + hi + 1) / 2 - 1) (by omega) (by omega)]
      · refine Ev.bind (spec_before (by omega) (by omega) h6 hp) ?_
        by_cases hc : beforeT ((lo + hi + 1) / 2) l ≤ q
        · have hle : (lo + hi + 1) / 2 ≤ T := by
            refine Int.not_lt.1 fun hlt => ?_
            have := before_le l hp (a := (T : Int) + 1) (b := (lo + hi + 1) / 2) (by omega)
            omega
          exact Ev.congr (fun k => if_pos hc) (ih (hi - (lo + hi + 1) / 2).toNat (by omega) _ _ (by omega) (by omega) hle h2 h3)
        · have hle : T ≤ (lo + hi + 1) / 2 - 1 := by
            refine Int.not_lt.1 fun hlt => ?_
            have := before_le l hp (a := (lo + hi + 1) / 2) (b := (T : Int)) (by omega)
            omega
          exact Ev.congr (fun k => if_neg hc) (ih ((lo + hi + 1) / 2 - 1 - lo).toNat (by omega) _ _ (by omega) h0 h1 hle (by omega))
    · have e : lo = T := by omega
      exact Ev.step (f := fun _ => some (lo, true)) (fun k => by rw [spec_TimeOfStep.l0, if_neg h]) (by rw [e]; exact Ev.now _)
theorem impl_find (d : Nat) : ∀ lo hi : Int, hi - lo = d → 0 ≤ lo → lo ≤ T → T ≤ hi → hi ≤ 1000000000 → Ev (fun k => impl_TimeOfStep.l0 k l q lo hi) ((T : Int), true) := by
  induction d using Nat.strongRecOn with
  | _ d ih =>
    intro lo hi hd h0 h1 h2 h3
    by_cases h : lo < hi
    · have hm1 : lo ≤ (lo + hi) / 2 := by omega
      have hm2 : (lo + hi) / 2 < hi := by omega
      have em : Int.tdiv (lo + hi) 2 = (lo + hi) / 2 := Int.tdiv_eq_ediv_of_nonneg (by omega)
      have ew : wrap64 (Int.tdiv (wrap64 (lo + hi)) 2) = (lo + hi) / 2 := by
        rw [w64 (x := lo + hi) (by omega) (by omega), em, w64 (by omega) (by omega)]
      refine Ev.step (f := fun k => (impl_until.f k l ((lo + hi) / 2 + 1)).bind fun t142 => (if t142 > q then (impl_TimeOfStep.l0 k l q lo ((lo + hi) / 2)) else (impl_TimeOfStep.l0 k l q ((lo + hi) / 2 + 1) hi))) (fun k => ?_) ?_
      · rw [impl_TimeOfStep.l0, if_pos h, ew, w64 (x := (lo + hi) / 2 + 1) (by omega) (by omega)]
      · refine Ev.bind (impl_before (by omega) (by omega) h6 hp) ?_
        by_cases hc : beforeT ((lo + hi) / 2 + 1) l > q
        · have hle : T ≤ (lo + hi) / 2 := by
            refine Int.not_lt.1 fun hlt => ?_
            have := before_le l hp (a := (lo + hi) / 2 + 1) (b := (T : Int)) (by omega)
            omega
          exact Ev.congr (fun k => if_pos hc) (ih ((lo + hi) / 2 - lo).toNat (by omega) _ _ (by omega) h0 h1 hle (by omega))
        · have hle : (lo + hi) / 2 + 1 ≤ T := by
            refine Int.not_lt.1 fun hlt => ?_
            have := before_le l hp (a := (T : Int) + 1) (b := (lo + hi) / 2 + 1) (by omega)
            omega
          exact Ev.congr (fun k => if_neg hc) (ih (hi - ((lo + hi) / 2 + 1)).toNat (by omega) _ _ (by omega) (by omega) hle h2 h3)
    · have e : lo = T := by omega
      exact Ev.step (f := fun _ => some (lo, true)) (fun k => by rw [impl_TimeOfStep.l0, if_neg h]) (by rw [e]; exact Ev.now _)
end
theorem both (l : List S37) (a : Int) (hl : l.length ≤ 10000000) : ∃ r, Ev (fun k => spec_TimeOfStep.f k l a) r ∧ Ev (fun k => impl_TimeOfStep.f k l a) r := by
  have hs := spec_good l hl
  have hi := impl_good l hl
  have no : ∀ x : Bool, x = true → Ev (fun k => spec_TimeOfStep.j0 k l a x) (0, false) ∧ Ev (fun k => impl_TimeOfStep.j0 k l a x) (0, false) := fun x hx =>
    ⟨Ev.step (f := fun _ => some ((0 : Int), false)) (fun k => by rw [spec_TimeOfStep.j0, if_pos hx]) (Ev.now _), Ev.step (f := fun _ => some ((0 : Int), false)) (fun k => by rw [impl_TimeOfStep.j0, if_pos hx]) (Ev.now _)⟩
  unfold spec_TimeOfStep.f impl_TimeOfStep.f
  by_cases hb : pacesB l = true
  · rw [hb] at hs hi
    obtain ⟨h1, h6, hp⟩ := pacesB_mem hb
    by_cases ha : (decide (0 ≤ a) && decide (a ≤ 1000000)) = true
    · have ha' : 0 ≤ a ∧ a ≤ 1000000 := by simpa using ha
      obtain ⟨T, hT, hT1, hT2⟩ := turn_ex (l := l) (k := a) 60000060 (by rw [before_zero l hp]; exact ha'.1) (by have := before_end h1 h6 hp; simpa using (by omega : a < beforeT 60000060 l))
      refine ⟨((T : Int), true), Ev.bind hs ?_, Ev.bind hi ?_⟩
      · simp only [if_true, l1In_eq, ha, Option.bind_some]
        refine Ev.step (fun k => by rw [spec_TimeOfStep.j0, if_neg (by decide)]) ?_
        exact spec_find h6 hp hT1 hT2 60000060 0 60000060 (by omega) (by omega) (by omega) (by omega) (by omega)
      · simp only [if_true, in_eq, ha, Option.bind_some]
        refine Ev.step (fun k => by rw [impl_TimeOfStep.j0, if_neg (by decide)]) ?_
        exact impl_find h6 hp hT1 hT2 1000000000 0 1000000000 (by omega) (by omega) (by omega) (by omega) (by omega)
    · have ha' : (decide (0 ≤ a) && decide (a ≤ 1000000)) = false := by simpa using ha
      refine ⟨(0, false), Ev.bind hs ?_, Ev.bind hi ?_⟩
      · simp only [if_true, l1In_eq, ha', Option.bind_some]; exact (no _ rfl).1
      · simp only [if_true, in_eq, ha', Option.bind_some]; exact (no _ rfl).2
  · have hb' : pacesB l = false := by simpa using hb
    rw [hb'] at hs hi
    refine ⟨(0, false), Ev.bind hs ?_, Ev.bind hi ?_⟩
    · simp only [Bool.false_eq_true, if_false]; exact (no _ rfl).1
    · simp only [Bool.false_eq_true, if_false]; exact (no _ rfl).2
theorem FnExactTimeOfStep : ∀ (l0 : List S34) (a1 : Int), l0.length ≤ maxLen → (∀ z ∈ l0, (Lit.int .i64 z.f0).wf = true ∧ (Lit.int .i64 z.f1).wf = true) → (Lit.int .i64 a1).wf = true → ∃ k, laws_FnExactTimeOfStep.f k l0 a1 = some true := by
  intro l0 a1 m0 w0 w1
  unfold maxLen at m0
  refine Ev.rounds (r := true) ?_
  unfold laws_FnExactTimeOfStep.f
  rw [szPace_eq l0 m0]
  simp only [Option.bind_some]
  by_cases h : (1048576 - (l0.length : Int)) < 0
  · rw [if_pos h]; exact Ev.now _
  rw [if_neg h]
  refine Ev.congr (fun k => if_neg h) ?_
  have t0 := toPace_ok l0 (by omega)
  have hl : (l0.map convP).length ≤ 10000000 := by rw [List.length_map]; omega
  obtain ⟨r, hs, hi⟩ := both _ a1 hl
  refine Ev.bind t0 (Ev.bind hs (Ev.bind t0 (Ev.bind hi ?_)))
  simp only [if_true, bne_self_eq_false]
  refine Ev.step (fun k => by rw [laws_FnExactTimeOfStep.j0, if_neg (by decide)]) ?_
  refine Ev.bind t0 (Ev.bind (eqPace_self _ (by omega)) ?_)
  simp only [if_true]
  exact Ev.now _

end Go.Proofs.Ytioabkhjinnghaa.Pure
