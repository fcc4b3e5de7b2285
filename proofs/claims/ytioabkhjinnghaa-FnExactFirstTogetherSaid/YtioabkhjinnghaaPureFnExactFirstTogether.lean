/- For every list of paces, the program's FirstTogether answers what the reference's does, and leaves its argument alone. -/
import Derived.Test.YtioabkhjinnghaaPFnExactFirstTogetherx4
namespace Go.Proofs.Ytioabkhjinnghaa.Pure
open Go.RowKit Go.Proofs.Ytioabkhjinnghaa.PFnExactFirstTogether Go.Proofs.YtioabkhjinnghaaW.PrintWords Go.Proofs.YtioabkhjinnghaaW.PrintLast
set_option linter.unusedVariables false
set_option linter.unusedSimpArgs false

theorem w64 {x : Int} (h1 : -9223372036854775808 ≤ x) (h2 : x ≤ 9223372036854775807) : wrap64 x = x := by
  unfold wrap64
  omega
theorem wf_lo {a : Int} (h : (Lit.int .i64 a).wf = true) : -9223372036854775808 ≤ a := by
  have h' : IntKind.i64.min ≤ a ∧ a ≤ IntKind.i64.max := by simpa [Lit.wf] using h
  have e : IntKind.i64.min = -9223372036854775808 := by decide
  omega
theorem wf_hi {a : Int} (h : (Lit.int .i64 a).wf = true) : a ≤ 9223372036854775807 := by
  have h' : IntKind.i64.min ≤ a ∧ a ≤ IntKind.i64.max := by simpa [Lit.wf] using h
  have e : IntKind.i64.max = 9223372036854775807 := by decide
  omega
theorem ev_congr_fun {α : Type} {g f : Nat → Option α} {r : α} (h : g = f) (k : Ev f r) : Ev g r := h ▸ k
theorem rd_mid (pre : List Int) (x : Int) (rest : List Int) : rd (pre ++ x :: rest) (pre.length : Int) = x := by
  simp [rd]
theorem l1In_eq (a b c : Int) : spec_l1In.f a b c = some (decide (b ≤ a) && decide (a ≤ c)) := by
  unfold spec_l1In.f
  by_cases h : b ≤ a
  · rw [if_pos h]; simp [h]
  · rw [if_neg (show ¬ a ≥ b from h)]; simp [h]
theorem in_eq (a b c : Int) : impl_in.f a b c = some (decide (b ≤ a) && decide (a ≤ c)) := by
  unfold impl_in.f
  by_cases h : b ≤ a
  · rw [if_pos h]; simp [h]
  · rw [if_neg h]; simp [h]
theorem cast_len {α : Type} (l : List α) : (decide ((1 : Int) ≤ (l.length : Int)) && decide ((l.length : Int) ≤ 6)) = (decide (1 ≤ l.length) && decide (l.length ≤ 6)) := by
  congr 1 <;> exact decide_eq_decide.2 (by omega)
def okP (p : S37) : Bool := (decide (1 ≤ p.f0) && decide (p.f0 ≤ 60)) && (decide (0 ≤ p.f1) && decide (p.f1 ≤ p.f0 - 1))
def pacesB (l : List S37) : Bool := (decide (1 ≤ l.length) && decide (l.length ≤ 6)) && l.all okP
def convP (z : S34) : S37 := ⟨z.f0, z.f1⟩
theorem okP_iff {p : S37} (h : okP p = true) : 1 ≤ p.f0 ∧ p.f0 ≤ 60 ∧ 0 ≤ p.f1 ∧ p.f1 < p.f0 := by
  unfold okP at h
  simp only [Bool.and_eq_true, decide_eq_true_eq] at h
  omega
theorem pacesB_mem {l : List S37} (h : pacesB l = true) : 1 ≤ l.length ∧ l.length ≤ 6 ∧ ∀ p ∈ l, 1 ≤ p.f0 ∧ p.f0 ≤ 60 ∧ 0 ≤ p.f1 ∧ p.f1 < p.f0 := by
  unfold pacesB at h
  simp only [Bool.and_eq_true, decide_eq_true_eq, List.all_eq_true] at h
  exact ⟨h.1.1, h.1.2, fun p hp => okP_iff (h.2 p hp)⟩
theorem rdP_mid (pre : List S37) (x : S37) (rest : List S37) : rd_T37 (pre ++ x :: rest) (pre.length : Int) = x := by
  simp [rd_T37]
theorem rdL_mid (pre : List S34) (x : S34) (rest : List S34) : rd_T34 (pre ++ x :: rest) (pre.length : Int) = x := by
  simp [rd_T34]
theorem spPace_eq (p : S37) : spec_spPace.f p.f0 p.f1 = some (okP p) := by
  unfold spec_spPace.f okP
  rw [l1In_eq]
  simp only [Option.bind_some]
  by_cases h : (decide (1 ≤ p.f0) && decide (p.f0 ≤ 60)) = true
  · have h' : 1 ≤ p.f0 ∧ p.f0 ≤ 60 := by simpa using h
    rw [h, w64 (by omega) (by omega), l1In_eq]
    simp
  · have h' : (decide (1 ≤ p.f0) && decide (p.f0 ≤ 60)) = false := by simpa using h
    rw [h']
    simp
theorem isPace_eq (p : S37) : impl_isPace.f p.f0 p.f1 = some (okP p) := by
  unfold impl_isPace.f okP
  rw [in_eq]
  simp only [Option.bind_some]
  by_cases h : (decide (1 ≤ p.f0) && decide (p.f0 ≤ 60)) = true
  · have h' : 1 ≤ p.f0 ∧ p.f0 ≤ 60 := by simpa using h
    rw [h, w64 (by omega) (by omega), in_eq]
    simp
  · have h' : (decide (1 ≤ p.f0) && decide (p.f0 ≤ 60)) = false := by simpa using h
    rw [h']
    simp
theorem spGood_l0 (rest : List S37) : ∀ pre : List S37, pre.length + rest.length ≤ 100000000 →
    Ev (fun k => spec_spGood.l0 k (pre ++ rest) ((pre ++ rest).length : Int) pre.length) (rest.all okP) := by
  induction rest with
  | nil =>
    intro pre hl
    exact Ev.step (f := fun _ => some true) (fun k => by rw [spec_spGood.l0, if_neg (by simp)]) (by simpa using Ev.now true)
  | cons x rest ih =>
    intro pre hl
    simp only [List.length_cons] at hl
    have hlen : ((pre ++ x :: rest).length : Int) = pre.length + (rest.length + 1) := by simp
    by_cases hx : okP x = true
    · refine Ev.step (f := fun k => spec_spGood.l0 k ((pre ++ [x]) ++ rest) (((pre ++ [x]) ++ rest).length : Int) ((pre ++ [x]).length : Nat)) (fun k => ?_) ?_
      · rw [spec_spGood.l0, if_pos (by omega), if_pos (by omega), if_pos (by omega), rdP_mid, spPace_eq, hx]
        simp only [Option.bind_some, if_true]
        rw [w64 (by omega) (by omega)]
        simp
      · have := ih (pre ++ [x]) (by simp; omega)
        simpa [hx] using this
    · have hx' : okP x = false := by simpa using hx
      refine Ev.step (f := fun _ => some false) (fun k => ?_) (by simpa [hx'] using Ev.now false)
      rw [spec_spGood.l0, if_pos (by omega), if_pos (by omega), if_pos (by omega), rdP_mid, spPace_eq, hx']
      simp
theorem indexP_l0 (rest : List S37) : ∀ pre : List S37, pre.length + rest.length ≤ 100000000 →
    ∃ r : Int, Ev (fun k => slices_IndexFunc_impl_Pace_impl_Pace.l0 k (pre ++ rest) ((pre ++ rest).length : Int) pre.length) r ∧ (decide (r ≥ 0) = !(rest.all okP)) := by
  induction rest with
  | nil =>
    intro pre hl
    exact ⟨-1, Ev.step (f := fun _ => some (-1)) (fun k => by rw [slices_IndexFunc_impl_Pace_impl_Pace.l0, if_neg (by simp)]) (Ev.now _), by simp⟩
  | cons x rest ih =>
    intro pre hl
    simp only [List.length_cons] at hl
    have hlen : ((pre ++ x :: rest).length : Int) = pre.length + (rest.length + 1) := by simp
    by_cases hx : okP x = true
    · have hin : impl_arePaces_1.f x.f0 x.f1 = some false := by
        unfold impl_arePaces_1.f
        rw [isPace_eq, hx]
        rfl
      obtain ⟨r, hr, hd⟩ := ih (pre ++ [x]) (by simp; omega)
      refine ⟨r, Ev.step (f := fun k => slices_IndexFunc_impl_Pace_impl_Pace.l0 k ((pre ++ [x]) ++ rest) (((pre ++ [x]) ++ rest).length : Int) ((pre ++ [x]).length : Nat)) (fun k => ?_) hr, by rw [hd]; simp [hx]⟩
      rw [slices_IndexFunc_impl_Pace_impl_Pace.l0, if_pos (by omega), if_pos (by omega), if_pos (by omega), rdP_mid, hin]
      simp only [Option.bind_some]
      rw [if_neg (by decide), w64 (by omega) (by omega)]
      simp
    · have hx' : okP x = false := by simpa using hx
      have hin : impl_arePaces_1.f x.f0 x.f1 = some true := by
        unfold impl_arePaces_1.f
        rw [isPace_eq, hx']
        rfl
      refine ⟨pre.length, Ev.step (f := fun _ => some (pre.length : Int)) (fun k => ?_) (Ev.now _), by simp [hx']⟩
      rw [slices_IndexFunc_impl_Pace_impl_Pace.l0, if_pos (by omega), if_pos (by omega), if_pos (by omega), rdP_mid, hin]
      simp
theorem spec_good (l : List S37) (hl : l.length ≤ 10000000) : Ev (fun k => spec_spGood.f k l) (pacesB l) := by
  have h1 := spGood_l0 l [] (by simp; omega)
  simp only [List.nil_append, List.length_nil] at h1
  unfold spec_spGood.f pacesB
  rw [l1In_eq, cast_len]
  simp only [Option.bind_some]
  by_cases h : (decide (1 ≤ l.length) && decide (l.length ≤ 6)) = true
  · rw [h]
    simp only [if_true, Bool.true_and]
    exact h1
  · have h' : (decide (1 ≤ l.length) && decide (l.length ≤ 6)) = false := by simpa using h
    rw [h']
    simpa using Ev.now false
theorem impl_good (l : List S37) (hl : l.length ≤ 10000000) : Ev (fun k => impl_arePaces.f k l) (pacesB l) := by
  obtain ⟨r, h1, hd⟩ := indexP_l0 l [] (by simp; omega)
  simp only [List.nil_append, List.length_nil] at h1
  unfold impl_arePaces.f pacesB
  rw [in_eq, cast_len]
  simp only [Option.bind_some]
  by_cases h : (decide (1 ≤ l.length) && decide (l.length ≤ 6)) = true
  · rw [h]
    simp only [if_true, Bool.true_and]
    have h2 : Ev (fun k => slices_ContainsFunc_impl_Pace_impl_Pace.f k l) (!(l.all okP)) := by
      unfold slices_ContainsFunc_impl_Pace_impl_Pace.f
      rw [← hd]
      exact Ev.bind (g := fun k => slices_IndexFunc_impl_Pace_impl_Pace.f k l) (f := fun _ t => some (decide (t ≥ 0))) h1 (Ev.now _)
    have h3 := Ev.bind (f := fun _ t => some (!t)) h2 (Ev.now _)
    simpa using h3
  · have h' : (decide (1 ≤ l.length) && decide (l.length ≤ 6)) = false := by simpa using h
    rw [h']
    simpa using Ev.now false
theorem toPace_l0 (rest : List S34) : ∀ (pre : List S34), pre.length + rest.length ≤ 100000000 →
    Ev (fun k => laws_toPaceS.l0 k (pre ++ rest) (pre.map convP ++ List.replicate rest.length z37) pre.length) ((pre ++ rest).map convP) := by
  induction rest with
  | nil =>
    intro pre hl
    exact Ev.step (f := fun _ => some (pre.map convP)) (fun k => by rw [laws_toPaceS.l0]; rw [if_neg (by simp)]; simp) (by simpa using Ev.now (pre.map convP))
  | cons x rest ih =>
    intro pre hl
    simp only [List.length_cons] at hl
    refine Ev.step (f := fun k => laws_toPaceS.l0 k ((pre ++ [x]) ++ rest) ((pre ++ [x]).map convP ++ List.replicate rest.length z37) ((pre ++ [x]).length : Nat)) (fun k => ?_) ?_
    · rw [laws_toPaceS.l0]
      rw [if_pos (by simp; omega), if_pos (by omega), rdL_mid]
      unfold laws_toPace.f
      simp only [Option.bind_some]
      rw [if_pos (by simp; omega), w64 (by omega) (by omega)]
      simp [List.replicate_succ, convP]
    · have := ih (pre ++ [x]) (by simp; omega)
      simpa using this
theorem toPace_ok (l : List S34) (hl : l.length ≤ 100000000) : Ev (fun k => laws_toPaceS.f k l) (l.map convP) := by
  have := toPace_l0 l [] (by simpa using hl)
  refine Ev.congr (fun k => ?_) (by simpa using this)
  unfold laws_toPaceS.f
  rw [if_pos (by omega), if_pos (by simp; omega)]
  simp
theorem eqPace_l0 (l : List S37) (hl : l.length ≤ 1000000000000000000) (d : Nat) : ∀ i : Int, 0 ≤ i → (l.length : Int) - i = d → Ev (fun k => laws_eqPaceS.l0 k l l i) true := by
  induction d with
  | zero =>
    intro i h0 hd
    exact Ev.step (f := fun _ => some true) (fun k => by rw [laws_eqPaceS.l0]; rw [if_neg (by omega)]) (Ev.now _)
  | succ d ih =>
    intro i h0 hd
    refine Ev.step (f := fun k => laws_eqPaceS.l0 k l l (i + 1)) (fun k => ?_) (ih (i + 1) (by omega) (by omega))
    have he : ∀ a b : Int, laws_eqPace.f a b a b = some true := fun a b => by unfold laws_eqPace.f; rw [if_pos rfl, if_pos rfl]
    rw [laws_eqPaceS.l0, if_pos (by omega), if_pos h0, if_pos (by omega), he]
    simp only [Option.bind_some, if_true]
    rw [w64 (by omega) (by omega)]
theorem eqPace_self (l : List S37) (hl : l.length ≤ 1000000000000000000) : Ev (fun k => laws_eqPaceS.f k l l) true :=
  Ev.congr (fun k => by unfold laws_eqPaceS.f; rw [if_pos rfl]) (eqPace_l0 l hl l.length 0 (by omega) (by omega))
theorem szPace_eq (l : List S34) (hl : l.length ≤ 9223372036854775807) : laws_szPaceS.f l 1048576 = some (if (1048576 - (l.length : Int)) < 0 then -1 else 1048576 - (l.length : Int)) := by
  unfold laws_szPaceS.f
  rw [w64 (by omega) (by omega)]
  by_cases h : (1048576 - (l.length : Int)) < 0
  · rw [if_pos h, if_pos h]
  · rw [if_neg h, if_neg h]
def firstK (p : Nat → Bool) : Nat → Nat → Option Nat
  | 0, _ => none
  | f + 1, j => if p j then some j else firstK p f (j + 1)
theorem firstK_some {p : Nat → Bool} {r : Nat} (f : Nat) : ∀ j, firstK p f j = some r → j ≤ r ∧ r < j + f ∧ p r = true ∧ ∀ e, j ≤ e → e < r → p e = false := by
  induction f with
  | zero => intro j h; cases h
  | succ f ih =>
    intro j h
    rw [firstK] at h
    by_cases hp : p j = true
    · rw [if_pos hp] at h
      injection h with h
      subst h
      exact ⟨Nat.le_refl _, by omega, hp, fun e h1 h2 => by omega⟩
    · rw [if_neg hp] at h
      obtain ⟨h1, h2, h3, h4⟩ := ih _ h
      refine ⟨by omega, by omega, h3, fun e he1 he2 => ?_⟩
      by_cases hej : e = j
      · subst hej; simpa using hp
      · exact h4 e (by omega) he2
theorem firstK_none {p : Nat → Bool} (f : Nat) : ∀ j, firstK p f j = none → ∀ e, j ≤ e → e < j + f → p e = false := by
  induction f with
  | zero => intro j h e h1 h2; omega
  | succ f ih =>
    intro j h e h1 h2
    rw [firstK] at h
    by_cases hp : p j = true
    · rw [if_pos hp] at h; cases h
    · rw [if_neg hp] at h
      by_cases hej : e = j
      · subst hej; simpa using hp
      · exact ih _ h e (by omega) (by omega)
def fits (left : List Int) (i c n step : Nat) (j : Nat) : Bool := decide ((((n + j * step) % c : Nat) : Int) = rd left i)
def goL (left : List Int) : Nat → List Int → Nat → Nat → Option (Nat × Nat)
  | _, [], n, step => some (n, step)
  | i, c :: rest, n, step =>
    match firstK (fits left i c.toNat n step) c.toNat 0 with
    | none => none
    | some j => goL left (i + 1) rest (n + j * step) (Nat.lcm step c.toNat)
def trip : Option (Nat × Nat) → Int × Int × Bool
  | none => (0, 0, false)
  | some (n, step) => ((n : Int), (step : Int), true)
def W : Nat → Nat
  | 0 => 0
  | d + 1 => 1000 * (1 + W d)
theorem lcm_a (t d : Nat) : t / Nat.gcd t d * d = Nat.lcm t d := by
  rw [Nat.lcm, Nat.mul_comm, ← Nat.mul_div_assoc _ (Nat.gcd_dvd_left t d), Nat.mul_comm d t]
theorem lcm_b (t d : Nat) : t * (d / Nat.gcd t d) = Nat.lcm t d := by
  rw [Nat.lcm, Nat.mul_div_assoc _ (Nat.gcd_dvd_right t d)]
theorem lcm_le (t d : Nat) : Nat.lcm t d ≤ t * d := Nat.div_le_self _ _
theorem W_le (d : Nat) (h : d ≤ 6) : W d ≤ 1001001001001001000 := by
  have : d = 0 ∨ d = 1 ∨ d = 2 ∨ d = 3 ∨ d = 4 ∨ d = 5 ∨ d = 6 := by omega
  rcases this with rfl | rfl | rfl | rfl | rfl | rfl | rfl <;> decide
theorem goL_bound (left : List Int) (rest : List Int) : ∀ (i n step : Nat), (∀ c ∈ rest, 1 ≤ c ∧ c ≤ 1000) → rest.length ≤ 6 → 1 ≤ step → step * 1000 ^ rest.length ≤ 1000000000000000000 → n + W rest.length * step ≤ 1001001001001001000 → ∀ m s, goL left i rest n step = some (m, s) → 1 ≤ s ∧ s ≤ 1000000000000000000 ∧ m ≤ 1001001001001001000 := by
  induction rest with
  | nil =>
    intro i n step hc hl hs hp hb m s h
    simp only [goL, Option.some.injEq, Prod.mk.injEq] at h
    obtain ⟨rfl, rfl⟩ := h
    simp at hp
    exact ⟨hs, hp, by omega⟩
  | cons x rest ih =>
    intro i n step hc hl hs hp hb m s h
    obtain ⟨hx1, hx2⟩ := hc x (List.mem_cons_self ..)
    obtain ⟨c, rfl⟩ := Int.eq_ofNat_of_zero_le (show 0 ≤ x by omega)
    simp only [List.length_cons] at hl hb hp
    rw [W, Nat.mul_assoc, Nat.add_mul, Nat.one_mul, Nat.mul_add] at hb
    simp only [goL, Int.toNat_natCast] at h
    cases hf : firstK (fits left i c n step) c 0 with
    | none => simp only [hf] at h; cases h
    | some j =>
      simp only [hf] at h
      obtain ⟨_, hj, _, _⟩ := firstK_some c 0 hf
      have hjs : j * step ≤ 1000 * step := Nat.mul_le_mul_right _ (by omega)
      have hlc : Nat.lcm step c ≤ 1000 * step := Nat.le_trans (lcm_le step c) (by rw [Nat.mul_comm]; exact Nat.mul_le_mul_right _ (by omega))
      have hlp : 1 ≤ Nat.lcm step c := Nat.lcm_pos (by omega) (by omega)
      have hwl : W rest.length * Nat.lcm step c ≤ W rest.length * (1000 * step) := Nat.mul_le_mul_left _ hlc
      have hcm : W rest.length * (1000 * step) = 1000 * (W rest.length * step) := Nat.mul_left_comm _ _ _
      have hpw : Nat.lcm step c * 1000 ^ rest.length ≤ 1000 * step * 1000 ^ rest.length := Nat.mul_le_mul_right _ hlc
      have hpe : 1000 * step * 1000 ^ rest.length = step * 1000 ^ (rest.length + 1) := by rw [Nat.pow_succ, Nat.mul_comm 1000 step, Nat.mul_assoc, Nat.mul_comm 1000]
      exact ih _ _ _ (fun y hy => hc y (List.mem_cons_of_mem _ hy)) (by omega) hlp (by omega) (by omega) m s h
def leastV (cols left : List Int) : Option (Nat × Nat) := goL left 0 cols 0 1
theorem W_one (d : Nat) (h : d ≤ 6) : 0 + W d * 1 ≤ 1001001001001001000 := by
  have := W_le d h
  omega
theorem pow_le6 (d : Nat) (h : d ≤ 6) : 1 * 1000 ^ d ≤ 1000000000000000000 := by
  have : d = 0 ∨ d = 1 ∨ d = 2 ∨ d = 3 ∨ d = 4 ∨ d = 5 ∨ d = 6 := by omega
  rcases this with rfl | rfl | rfl | rfl | rfl | rfl | rfl <;> decide
theorem least_bound {cols left : List Int} (hc : ∀ c ∈ cols, 1 ≤ c ∧ c ≤ 1000) (h6 : cols.length ≤ 6) {m s : Nat} (h : leastV cols left = some (m, s)) : 1 ≤ s ∧ s ≤ 1000000000000000000 ∧ m ≤ 1001001001001001000 :=
  goL_bound left cols 0 0 1 hc h6 (by omega) (pow_le6 _ h6) (W_one _ h6) m s h
theorem spec_foCommon_l0 (n : Nat) : ∀ (m b : Nat), b = n → Ev (fun k => spec_foCommon.l0 k (m : Int) (b : Int)) ((Nat.gcd m b : Nat) : Int) := by
  induction n using Nat.strongRecOn with
  | _ n ih =>
    intro m b hb
    by_cases h : b = 0
    · subst h
      refine Ev.step (f := fun _ => some (m : Int)) (fun k => by rw [spec_foCommon.l0, if_neg (by omega)]) ?_
      rw [Nat.gcd_zero_right]
      exact Ev.now _
    · have hlt : m % b < n := by rw [← hb]; exact Nat.mod_lt _ (by omega)
      have := ih (m % b) hlt b (m % b) rfl
      refine Ev.step (f := fun k => spec_foCommon.l0 k (b : Int) ((m % b : Nat) : Int)) (fun k => ?_) ?_
      · rw [spec_foCommon.l0, if_pos (by omega), if_neg (by omega)]
        rfl
      · have e : Nat.gcd b (m % b) = Nat.gcd m b := by rw [Nat.gcd_comm b (m % b), ← Nat.gcd_rec, Nat.gcd_comm]
        rw [e] at this
        exact this
theorem spec_foCommon_ok (m b : Nat) : Ev (fun k => spec_foCommon.f k (m : Int) (b : Int)) ((Nat.gcd m b : Nat) : Int) := spec_foCommon_l0 b m b rfl
section
variable {left cols : List Int} {i c : Nat} {n step : Nat}
theorem spec_skip (hi : i < left.length) (hc1 : 1 ≤ c) (hc2 : c ≤ 1000) (hb : n + 1000 * step ≤ 2000000000000000000) (len x15 : Int) (res : Int × Int × Bool) (d : Nat) : ∀ j, j + d ≤ c → (∀ e, j ≤ e → e < j + d → fits left i c n step e = false) →
    Ev (fun k => spec_foLeast.l1 k left ((n + (j + d) * step : Nat) : Int) step i c false ((j + d : Nat) : Int) cols len x15) res → Ev (fun k => spec_foLeast.l1 k left ((n + j * step : Nat) : Int) step i c false j cols len x15) res := by
  induction d with
  | zero => intro j _ _ h; exact h
  | succ d ih =>
    intro j hj hne h
    have h0 := hne j (by omega) (by omega)
    have hq : ¬ (((n + j * step) % c : Nat) : Int) = rd left i := of_decide_eq_false h0
    have hjs : (j + 1) * step ≤ 1000 * step := Nat.mul_le_mul_right _ (by omega)
    have hs : (j + 1) * step = j * step + step := Nat.succ_mul _ _
    have e1 : Int.tmod ((n + j * step : Nat) : Int) (c : Int) = (((n + j * step) % c : Nat) : Int) := rfl
    have e2 : (((n + j * step : Nat) : Int) + (step : Int)) = ((n + (j + 1) * step : Nat) : Int) := by rw [hs]; omega
    refine Ev.step (f := fun k => spec_foLeast.j2 k left ((n + j * step : Nat) : Int) step i c false j cols len x15 true) (fun k => by rw [spec_foLeast.l1, if_pos (by omega)]; rfl) ?_
    refine Ev.step (f := fun k => spec_foLeast.l1 k left ((n + (j + 1) * step : Nat) : Int) step i c false ((j + 1 : Nat) : Int) cols len x15) (fun k => ?_) (ih (j + 1) (by omega) (fun e h1 h2 => hne e (by omega) (by omega)) (by rw [show j + 1 + d = j + (d + 1) by omega]; exact h))
    rw [spec_foLeast.j2, if_pos rfl, if_neg (by omega), if_pos (by omega), if_pos (by omega), e1, if_neg hq, e2, w64 (by omega) (by omega), w64 (by omega) (by omega)]
    rfl
end
theorem spec_least_l0 (left : List Int) (rest : List Int) : ∀ (pre : List Int) (n step : Nat), (∀ c ∈ rest, 1 ≤ c ∧ c ≤ 1000) → pre.length + rest.length ≤ left.length → pre.length + rest.length ≤ 6 → 1 ≤ step → n + W rest.length * step ≤ 1001001001001001000 →
    Ev (fun k => spec_foLeast.l0 k left n step (pre ++ rest) ((pre ++ rest).length : Int) pre.length) (trip (goL left pre.length rest n step)) := by
  induction rest with
  | nil =>
    intro pre n step hc hl h6 hs hb
    exact Ev.step (f := fun _ => some ((n : Int), (step : Int), true)) (fun k => by rw [spec_foLeast.l0, if_neg (by simp)]) (Ev.now _)
  | cons x rest ih =>
    intro pre n step hc hl h6 hs hb
    simp only [List.length_cons] at hl h6 hb
    obtain ⟨hx1, hx2⟩ := hc x (List.mem_cons_self ..)
    obtain ⟨c, rfl⟩ := Int.eq_ofNat_of_zero_le (show 0 ≤ x by omega)
    have hlen : ((pre ++ (c : Int) :: rest).length : Int) = pre.length + (rest.length + 1) := by simp
    rw [W, Nat.mul_assoc, Nat.add_mul, Nat.one_mul, Nat.mul_add] at hb
    have hi : pre.length < left.length := by omega
    have hb' : n + 1000 * step ≤ 2000000000000000000 := by omega
    have spec0 : ∀ res, Ev (fun k => spec_foLeast.l1 k left ((n + 0 * step : Nat) : Int) step (pre.length : Nat) c false ((0 : Nat) : Int) (pre ++ (c : Int) :: rest) ((pre ++ (c : Int) :: rest).length : Int) pre.length) res →
        Ev (fun k => spec_foLeast.l0 k left n step (pre ++ (c : Int) :: rest) ((pre ++ (c : Int) :: rest).length : Int) pre.length) res := fun res h => by
      refine Ev.step (fun k => ?_) h
      rw [spec_foLeast.l0, if_pos (by omega), if_pos (by omega), if_pos (by omega), rd_mid]
      simp
    cases hf : firstK (fits left pre.length c n step) c 0 with
    | none =>
      have hg : goL left pre.length ((c : Int) :: rest) n step = none := by
        simp only [goL, Int.toNat_natCast, hf]
      rw [hg]
      have hno := firstK_none c 0 hf
      have hcs : c * step ≤ 1000 * step := Nat.mul_le_mul_right _ (by omega)
      refine spec0 _ (spec_skip hi (by omega) (by omega) hb' _ _ _ c 0 (by omega) hno ?_)
      · refine Ev.step (f := fun k => spec_foLeast.j2 k left ((n + (0 + c) * step : Nat) : Int) step (pre.length : Nat) c false ((0 + c : Nat) : Int) (pre ++ (c : Int) :: rest) ((pre ++ (c : Int) :: rest).length : Int) pre.length false) (fun k => by rw [spec_foLeast.l1, if_neg (by omega)]) ?_
        exact Ev.step (f := fun _ => some (0, 0, false)) (fun k => by rw [spec_foLeast.j2, if_neg (by decide), if_neg (by decide)]) (Ev.now _)
    | some j =>
      obtain ⟨_, hj, hp, hno⟩ := firstK_some c 0 hf
      have hg : goL left pre.length ((c : Int) :: rest) n step = goL left (pre.length + 1) rest (n + j * step) (Nat.lcm step c) := by
        simp only [goL, Int.toNat_natCast, hf]
      rw [hg]
      have hjs : j * step ≤ 1000 * step := Nat.mul_le_mul_right _ (by omega)
      have hlc : Nat.lcm step c ≤ 1000 * step := Nat.le_trans (lcm_le step c) (by rw [Nat.mul_comm]; exact Nat.mul_le_mul_right _ (by omega))
      have hlp : 1 ≤ Nat.lcm step c := Nat.lcm_pos (by omega) (by omega)
      have hwl : W rest.length * Nat.lcm step c ≤ W rest.length * (1000 * step) := Nat.mul_le_mul_left _ hlc
      have hcm : W rest.length * (1000 * step) = 1000 * (W rest.length * step) := Nat.mul_left_comm _ _ _
      have hrec := ih (pre ++ [(c : Int)]) (n + j * step) (Nat.lcm step c) (fun y hy => hc y (List.mem_cons_of_mem _ hy)) (by simp; omega) (by simp; omega) hlp (by omega)
      have hq : (((n + (0 + j) * step) % c : Nat) : Int) = rd left pre.length := by rw [Nat.zero_add]; exact of_decide_eq_true hp
      have e1 : Int.tmod ((n + (0 + j) * step : Nat) : Int) (c : Int) = (((n + (0 + j) * step) % c : Nat) : Int) := rfl
      have hg1 : 1 ≤ Nat.gcd step c := Nat.gcd_pos_of_pos_left _ (by omega)
      have e0 : n + (0 + j) * step = n + j * step := by rw [Nat.zero_add]
      have ea : (pre ++ [(c : Int)]) ++ rest = pre ++ (c : Int) :: rest := by simp
      have el : (((pre ++ [(c : Int)]).length : Nat) : Int) = (pre.length : Int) + 1 := by simp
      have el' : (pre ++ [(c : Int)]).length = pre.length + 1 := by simp
      rw [ea, el, el'] at hrec
      have hd1 : step / Nat.gcd step c ≤ step := Nat.div_le_self _ _
      have hd2 : c / Nat.gcd step c ≤ c := Nat.div_le_self _ _
      have hz1 : (0 : Int) ≤ ((step / Nat.gcd step c : Nat) : Int) := Int.natCast_nonneg _
      have hz2 : (0 : Int) ≤ ((c / Nat.gcd step c : Nat) : Int) := Int.natCast_nonneg _
      refine spec0 _ (spec_skip hi (by omega) (by omega) hb' _ _ _ j 0 (by omega) (fun e h1 h2 => hno e h1 (by omega)) ?_)
      · refine Ev.step (f := fun k => spec_foLeast.j2 k left ((n + (0 + j) * step : Nat) : Int) step (pre.length : Nat) c false ((0 + j : Nat) : Int) (pre ++ (c : Int) :: rest) ((pre ++ (c : Int) :: rest).length : Int) pre.length true) (fun k => by rw [spec_foLeast.l1, if_pos (by omega)]; rfl) ?_
        have e1' := e1.trans hq
        refine Ev.step (f := fun k => spec_foLeast.l1 k left ((n + (0 + j) * step : Nat) : Int) step (pre.length : Nat) c true ((0 + j + 1 : Nat) : Int) (pre ++ (c : Int) :: rest) ((pre ++ (c : Int) :: rest).length : Int) pre.length) (fun k => by rw [spec_foLeast.j2, if_pos rfl, if_neg (by omega), if_pos (by omega), if_pos (by omega), if_pos e1', w64 (by omega) (by omega)]; rfl) ?_
        refine Ev.step (f := fun k => spec_foLeast.j2 k left ((n + (0 + j) * step : Nat) : Int) step (pre.length : Nat) c true ((0 + j + 1 : Nat) : Int) (pre ++ (c : Int) :: rest) ((pre ++ (c : Int) :: rest).length : Int) pre.length false) (fun k => by
          rw [spec_foLeast.l1]
          by_cases hz : ((0 + j + 1 : Nat) : Int) < (c : Int)
          · rw [if_pos hz]; rfl
          · rw [if_neg hz]) ?_
        refine Ev.step (fun k => by rw [spec_foLeast.j2, if_neg (by decide), if_pos rfl]) ?_
        refine Ev.bind (spec_foCommon_ok step c) (Ev.congr (fun k => ?_) hrec)
        have e2 : Int.tdiv (step : Int) ((Nat.gcd step c : Nat) : Int) = ((step / Nat.gcd step c : Nat) : Int) := rfl
        have e3 : ((step / Nat.gcd step c : Nat) : Int) * (c : Int) = ((Nat.lcm step c : Nat) : Int) := by rw [← Int.natCast_mul, lcm_a]
        rw [if_neg (by omega), e2, w64 (x := ((step / Nat.gcd step c : Nat) : Int)) (by omega) (by omega), e3, w64 (x := ((Nat.lcm step c : Nat) : Int)) (by omega) (by omega), w64 (by omega) (by omega), e0]
theorem spec_least {cols left : List Int} (hc : ∀ c ∈ cols, 1 ≤ c ∧ c ≤ 1000) (h6 : cols.length ≤ 6) (hl : cols.length ≤ left.length) : Ev (fun k => spec_foLeast.f k cols left) (trip (leastV cols left)) := by
  have := (spec_least_l0 left cols [] 0 1 hc (by simpa using hl) (by simpa using h6) (by omega) (W_one _ h6))
  simpa [spec_foLeast.f, leastV] using this
theorem impl_gcd_l0 (n : Nat) : ∀ (m b : Nat), b = n → Ev (fun k => impl_gcd.l0 k (m : Int) (b : Int)) ((Nat.gcd m b : Nat) : Int) := by
  induction n using Nat.strongRecOn with
  | _ n ih =>
    intro m b hb
    by_cases h : b = 0
    · subst h
      refine Ev.step (f := fun _ => some (m : Int)) (fun k => by rw [impl_gcd.l0, if_pos (by omega)]) ?_
      rw [Nat.gcd_zero_right]
      exact Ev.now _
    · have hlt : m % b < n := by rw [← hb]; exact Nat.mod_lt _ (by omega)
      have := ih (m % b) hlt b (m % b) rfl
      refine Ev.step (f := fun k => impl_gcd.l0 k (b : Int) ((m % b : Nat) : Int)) (fun k => ?_) ?_
      · rw [impl_gcd.l0, if_neg (by omega)]
        rfl
      · have e : Nat.gcd b (m % b) = Nat.gcd m b := by rw [Nat.gcd_comm b (m % b), ← Nat.gcd_rec, Nat.gcd_comm]
        rw [e] at this
        exact this
theorem impl_gcd_ok (m b : Nat) : Ev (fun k => impl_gcd.f k (m : Int) (b : Int)) ((Nat.gcd m b : Nat) : Int) := impl_gcd_l0 b m b rfl
section
variable {left cols : List Int} {i c : Nat} {n step : Nat}
theorem impl_skip (hi : i < left.length) (hc1 : 1 ≤ c) (hc2 : c ≤ 1000) (hb : n + 1000 * step ≤ 2000000000000000000) (len x14 : Int) (res : Int × Int × Bool) (d : Nat) : ∀ j, j + d ≤ c → (∀ e, j ≤ e → e < j + d → fits left i c n step e = false) →
    Ev (fun k => impl_leastWith.l1 k left ((n + (j + d) * step : Nat) : Int) step i c ((j + d : Nat) : Int) cols len x14) res → Ev (fun k => impl_leastWith.l1 k left ((n + j * step : Nat) : Int) step i c j cols len x14) res := by
  induction d with
  | zero => intro j _ _ h; exact h
  | succ d ih =>
    intro j hj hne h
    have h0 := hne j (by omega) (by omega)
    have hq : ¬ (((n + j * step) % c : Nat) : Int) = rd left i := of_decide_eq_false h0
    have hjs : (j + 1) * step ≤ 1000 * step := Nat.mul_le_mul_right _ (by omega)
    have hs : (j + 1) * step = j * step + step := Nat.succ_mul _ _
    refine Ev.step (f := fun k => impl_leastWith.l1 k left ((n + (j + 1) * step : Nat) : Int) step i c ((j + 1 : Nat) : Int) cols len x14) (fun k => ?_) (ih (j + 1) (by omega) (fun e h1 h2 => hne e (by omega) (by omega)) (by rw [show j + 1 + d = j + (d + 1) by omega]; exact h))
    have e1 : Int.tmod ((n + j * step : Nat) : Int) (c : Int) = (((n + j * step) % c : Nat) : Int) := rfl
    have e2 : (((n + j * step : Nat) : Int) + (step : Int)) = ((n + (j + 1) * step : Nat) : Int) := by rw [hs]; omega
    rw [impl_leastWith.l1, if_neg (by omega), if_pos (by omega), if_pos (by omega), e1, if_neg hq, if_neg (by omega), e2, w64 (by omega) (by omega), w64 (by omega) (by omega)]
    rfl
end
theorem impl_least_l0 (left : List Int) (rest : List Int) : ∀ (pre : List Int) (n step : Nat), (∀ c ∈ rest, 1 ≤ c ∧ c ≤ 1000) → pre.length + rest.length ≤ left.length → pre.length + rest.length ≤ 6 → 1 ≤ step → n + W rest.length * step ≤ 1001001001001001000 →
   Ev (fun k => impl_leastWith.l0 k left n step (pre ++ rest) ((pre ++ rest).length : Int) pre.length) (trip (goL left pre.length rest n step)) := by
  induction rest with
  | nil =>
    intro pre n step hc hl h6 hs hb
    exact Ev.step (f := fun _ => some ((n : Int), (step : Int), true)) (fun k => by rw [impl_leastWith.l0, if_neg (by simp)]) (Ev.now _)
  | cons x rest ih =>
    intro pre n step hc hl h6 hs hb
    simp only [List.length_cons] at hl h6 hb
    obtain ⟨hx1, hx2⟩ := hc x (List.mem_cons_self ..)
    obtain ⟨c, rfl⟩ := Int.eq_ofNat_of_zero_le (show 0 ≤ x by omega)
    have hlen : ((pre ++ (c : Int) :: rest).length : Int) = pre.length + (rest.length + 1) := by simp
    rw [W, Nat.mul_assoc, Nat.add_mul, Nat.one_mul, Nat.mul_add] at hb
    have hi : pre.length < left.length := by omega
    have hb' : n + 1000 * step ≤ 2000000000000000000 := by omega
    have impl0 : ∀ res, Ev (fun k => impl_leastWith.l1 k left ((n + 0 * step : Nat) : Int) step (pre.length : Nat) c ((0 : Nat) : Int) (pre ++ (c : Int) :: rest) ((pre ++ (c : Int) :: rest).length : Int) pre.length) res →
        Ev (fun k => impl_leastWith.l0 k left n step (pre ++ (c : Int) :: rest) ((pre ++ (c : Int) :: rest).length : Int) pre.length) res := fun res h => by
      refine Ev.step (fun k => ?_) h
      rw [impl_leastWith.l0, if_pos (by omega), if_pos (by omega), if_pos (by omega), rd_mid]
      simp
    cases hf : firstK (fits left pre.length c n step) c 0 with
    | none =>
      have hg : goL left pre.length ((c : Int) :: rest) n step = none := by
        simp only [goL, Int.toNat_natCast, hf]
      rw [hg]
      have hno := firstK_none c 0 hf
      have hcs : c * step ≤ 1000 * step := Nat.mul_le_mul_right _ (by omega)
      refine impl0 _ (impl_skip hi (by omega) (by omega) hb' _ _ _ c 0 (by omega) hno ?_)
      · refine Ev.step (f := fun _ => some (0, 0, false)) (fun k => ?_) (Ev.now _)
        have h0 := hno 0 (by omega) (by omega)
        have hq : ¬ (((n + 0 * step) % c : Nat) : Int) = rd left pre.length := of_decide_eq_false h0
        have e1 : Int.tmod ((n + (0 + c) * step : Nat) : Int) (c : Int) = (((n + 0 * step) % c : Nat) : Int) := by
          have : (n + (0 + c) * step) % c = (n + 0 * step) % c := by rw [Nat.zero_add, Nat.zero_mul, Nat.add_zero, Nat.add_mul_mod_self_left]
          show (((n + (0 + c) * step) % c : Nat) : Int) = _
          rw [this]
        rw [impl_leastWith.l1, if_neg (by omega), if_pos (by omega), if_pos (by omega), e1, if_neg hq, if_pos (by omega)]
    | some j =>
      obtain ⟨_, hj, hp, hno⟩ := firstK_some c 0 hf
      have hg : goL left pre.length ((c : Int) :: rest) n step = goL left (pre.length + 1) rest (n + j * step) (Nat.lcm step c) := by
        simp only [goL, Int.toNat_natCast, hf]
      rw [hg]
      have hjs : j * step ≤ 1000 * step := Nat.mul_le_mul_right _ (by omega)
      have hlc : Nat.lcm step c ≤ 1000 * step := Nat.le_trans (lcm_le step c) (by rw [Nat.mul_comm]; exact Nat.mul_le_mul_right _ (by omega))
      have hlp : 1 ≤ Nat.lcm step c := Nat.lcm_pos (by omega) (by omega)
      have hwl : W rest.length * Nat.lcm step c ≤ W rest.length * (1000 * step) := Nat.mul_le_mul_left _ hlc
      have hcm : W rest.length * (1000 * step) = 1000 * (W rest.length * step) := Nat.mul_left_comm _ _ _
      have hrec := ih (pre ++ [(c : Int)]) (n + j * step) (Nat.lcm step c) (fun y hy => hc y (List.mem_cons_of_mem _ hy)) (by simp; omega) (by simp; omega) hlp (by omega)
      have hq : (((n + (0 + j) * step) % c : Nat) : Int) = rd left pre.length := by rw [Nat.zero_add]; exact of_decide_eq_true hp
      have e1 : Int.tmod ((n + (0 + j) * step : Nat) : Int) (c : Int) = (((n + (0 + j) * step) % c : Nat) : Int) := rfl
      have hg1 : 1 ≤ Nat.gcd step c := Nat.gcd_pos_of_pos_left _ (by omega)
      have e0 : n + (0 + j) * step = n + j * step := by rw [Nat.zero_add]
      have ea : (pre ++ [(c : Int)]) ++ rest = pre ++ (c : Int) :: rest := by simp
      have el : (((pre ++ [(c : Int)]).length : Nat) : Int) = (pre.length : Int) + 1 := by simp
      have el' : (pre ++ [(c : Int)]).length = pre.length + 1 := by simp
      rw [ea, el, el'] at hrec
      have hd1 : step / Nat.gcd step c ≤ step := Nat.div_le_self _ _
      have hd2 : c / Nat.gcd step c ≤ c := Nat.div_le_self _ _
      have hz1 : (0 : Int) ≤ ((step / Nat.gcd step c : Nat) : Int) := Int.natCast_nonneg _
      have hz2 : (0 : Int) ≤ ((c / Nat.gcd step c : Nat) : Int) := Int.natCast_nonneg _
      refine impl0 _ (impl_skip hi (by omega) (by omega) hb' _ _ _ j 0 (by omega) (fun e h1 h2 => hno e h1 (by omega)) ?_)
      · refine Ev.step (fun k => by rw [impl_leastWith.l1, if_neg (by omega), if_pos (by omega), if_pos (by omega), if_pos (e1.trans hq)]) ?_
        refine Ev.bind (impl_gcd_ok step c) (Ev.congr (fun k => ?_) hrec)
        have e2 : Int.tdiv (c : Int) ((Nat.gcd step c : Nat) : Int) = ((c / Nat.gcd step c : Nat) : Int) := rfl
        have e3 : (step : Int) * ((c / Nat.gcd step c : Nat) : Int) = ((Nat.lcm step c : Nat) : Int) := by rw [← Int.natCast_mul, lcm_b]
        rw [if_neg (by omega), e2, w64 (x := ((c / Nat.gcd step c : Nat) : Int)) (by omega) (by omega), e3, w64 (x := ((Nat.lcm step c : Nat) : Int)) (by omega) (by omega), w64 (by omega) (by omega), e0]
theorem impl_least {cols left : List Int} (hc : ∀ c ∈ cols, 1 ≤ c ∧ c ≤ 1000) (h6 : cols.length ≤ 6) (hl : cols.length ≤ left.length) : Ev (fun k => impl_leastWith.f k cols left) (trip (leastV cols left)) := by
  have := (impl_least_l0 left cols [] 0 1 hc (by simpa using hl) (by simpa using h6) (by omega) (W_one _ h6))
  simpa [impl_leastWith.f, leastV] using this
def everyOf (l : List S37) : List Int := l.map fun p => p.f0
def fromOf (l : List S37) : List Int := l.map fun p => p.f1
def told : Option (Nat × Nat) → Int × Bool
  | none => (0, false)
  | some (n, _) => ((n : Int), true)
theorem spec_ft_l0 (rest : List S37) : ∀ (pre : List S37), pre.length + rest.length ≤ 6 → (∀ p ∈ pre ++ rest, 1 ≤ p.f0 ∧ p.f0 ≤ 60 ∧ 0 ≤ p.f1 ∧ p.f1 < p.f0) →
    Ev (fun k => spec_FirstTogether.l0 k (everyOf pre) (fromOf pre) (pre ++ rest) ((pre ++ rest).length : Int) pre.length) (told (leastV (everyOf (pre ++ rest)) (fromOf (pre ++ rest)))) := by
  induction rest with
  | nil =>
    intro pre hl hp
    rw [List.append_nil] at hp ⊢
    refine Ev.step (fun k => by rw [spec_FirstTogether.l0, if_neg (by omega)]) ?_
    have hl6 : pre.length ≤ 6 := by simpa using hl
    have hspec := spec_least (cols := everyOf pre) (left := fromOf pre) (fun c hc => by
      obtain ⟨p, hp1, rfl⟩ := List.mem_map.1 hc
      have := hp p hp1
      omega) (by simpa [everyOf] using hl6) (by simp [everyOf, fromOf])
    cases hv : leastV (everyOf pre) (fromOf pre) with
    | none => rw [hv] at hspec; exact Ev.bind hspec (Ev.now _)
    | some q => obtain ⟨m, s⟩ := q; rw [hv] at hspec; exact Ev.bind hspec (Ev.now _)
  | cons p rest ih =>
    intro pre hl hp
    simp only [List.length_cons] at hl
    have hlen : ((pre ++ p :: rest).length : Int) = pre.length + (rest.length + 1) := by simp
    have hrec := ih (pre ++ [p]) (by simp; omega) (by simpa using hp)
    have e1 : (everyOf pre).length = pre.length := by simp [everyOf]
    have e2 : (fromOf pre).length = pre.length := by simp [fromOf]
    refine Ev.step (f := fun k => spec_FirstTogether.l0 k (everyOf (pre ++ [p])) (fromOf (pre ++ [p])) ((pre ++ [p]) ++ rest) (((pre ++ [p]) ++ rest).length : Int) ((pre ++ [p]).length : Nat)) (fun k => ?_) (by simpa using hrec)
    rw [spec_FirstTogether.l0, if_pos (by omega), if_pos (by omega), if_pos (by omega), rdP_mid, if_pos (by omega), if_pos (by omega), w64 (by omega) (by omega)]
    simp [everyOf, fromOf]
theorem impl_ft_l0 (rest : List S37) : ∀ (pre : List S37), pre.length + rest.length ≤ 6 → (∀ p ∈ pre ++ rest, 1 ≤ p.f0 ∧ p.f0 ≤ 60 ∧ 0 ≤ p.f1 ∧ p.f1 < p.f0) →
    Ev (fun k => impl_together.l0 k (everyOf pre) (fromOf pre) (pre ++ rest) ((pre ++ rest).length : Int) pre.length) (trip (leastV (everyOf (pre ++ rest)) (fromOf (pre ++ rest)))) := by
  induction rest with
  | nil =>
    intro pre hl hp
    rw [List.append_nil] at hp ⊢
    refine Ev.step (fun k => by rw [impl_together.l0, if_neg (by omega)]) ?_
    have hl6 : pre.length ≤ 6 := by simpa using hl
    have himpl := impl_least (cols := everyOf pre) (left := fromOf pre) (fun c hc => by
      obtain ⟨p, hp1, rfl⟩ := List.mem_map.1 hc
      have := hp p hp1
      omega) (by simpa [everyOf] using hl6) (by simp [everyOf, fromOf])
    exact Ev.bind himpl (Ev.now _)
  | cons p rest ih =>
    intro pre hl hp
    simp only [List.length_cons] at hl
    have hlen : ((pre ++ p :: rest).length : Int) = pre.length + (rest.length + 1) := by simp
    have hrec := ih (pre ++ [p]) (by simp; omega) (by simpa using hp)
    have e1 : (everyOf pre).length = pre.length := by simp [everyOf]
    have e2 : (fromOf pre).length = pre.length := by simp [fromOf]
    refine Ev.step (f := fun k => impl_together.l0 k (everyOf (pre ++ [p])) (fromOf (pre ++ [p])) ((pre ++ [p]) ++ rest) (((pre ++ [p]) ++ rest).length : Int) ((pre ++ [p]).length : Nat)) (fun k => ?_) (by simpa using hrec)
    rw [impl_together.l0, if_pos (by omega), if_pos (by omega), if_pos (by omega), rdP_mid]
    simp only [Option.bind_some, List.length_singleton]
    rw [if_pos (by omega), if_pos (by omega), w64 (by omega) (by omega)]
    simp [everyOf, fromOf]
theorem both (l : List S37) (hl : l.length ≤ 10000000) : ∃ r, Ev (fun k => spec_FirstTogether.f k l) r ∧ Ev (fun k => impl_FirstTogether.f k l) r := by
  have hs := spec_good l hl
  have hi := impl_good l hl
  unfold spec_FirstTogether.f impl_FirstTogether.f
  by_cases hb : pacesB l = true
  · rw [hb] at hs hi
    obtain ⟨_, h6, hp⟩ := pacesB_mem hb
    have a1 := spec_ft_l0 l [] (by simpa using h6) (by simpa using hp)
    have a2 := impl_ft_l0 l [] (by simpa using h6) (by simpa using hp)
    simp only [List.nil_append] at a1 a2
    have a3 : Ev (fun k => impl_together.f k l) (trip (leastV (everyOf l) (fromOf l))) := a2
    refine ⟨told (leastV (everyOf l) (fromOf l)), Ev.bind hs ?_, Ev.bind hi ?_⟩
    · simp only [if_true]; exact a1
    · simp only [if_true]
      cases hv : leastV (everyOf l) (fromOf l) with
      | none => rw [hv] at a3; exact Ev.bind a3 (Ev.now _)
      | some q => obtain ⟨m, s⟩ := q; rw [hv] at a3; exact Ev.bind a3 (Ev.now _)
  · have hb' : pacesB l = false := by simpa using hb
    rw [hb'] at hs hi
    exact ⟨(0, false), Ev.bind hs (Ev.now _), Ev.bind hi (Ev.now _)⟩
theorem FnExactFirstTogether : ∀ (l0 : List S34), l0.length ≤ maxLen → (∀ z ∈ l0, (Lit.int .i64 z.f0).wf = true ∧ (Lit.int .i64 z.f1).wf = true) → ∃ k, laws_FnExactFirstTogether.f k l0 = some true := by
  intro l0 m0 w0
  unfold maxLen at m0
  refine Ev.rounds (r := true) ?_
  unfold laws_FnExactFirstTogether.f
  rw [szPace_eq l0 m0]
  simp only [Option.bind_some]
  by_cases h : (1048576 - (l0.length : Int)) < 0
  · rw [if_pos h]; exact Ev.now _
  rw [if_neg h]
  refine Ev.congr (fun k => if_neg h) ?_
  have t0 := toPace_ok l0 (by omega)
  have hl : (l0.map convP).length ≤ 10000000 := by rw [List.length_map]; omega
  obtain ⟨r, hs, hi⟩ := both _ hl
  refine Ev.bind t0 (Ev.bind hs (Ev.bind t0 (Ev.bind hi ?_)))
  simp only [if_true, bne_self_eq_false]
  refine Ev.step (fun k => by rw [laws_FnExactFirstTogether.j0, if_neg (by decide)]) ?_
  refine Ev.bind t0 (Ev.bind (eqPace_self _ (by omega)) ?_)
  simp only [if_true]
  exact Ev.now _

end Go.Proofs.Ytioabkhjinnghaa.Pure
