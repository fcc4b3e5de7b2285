/- For every list of paces, the program's LongestSilence answers what the reference's does, and leaves its argument alone. -/
import Derived.Test.YtpnmmjhhnfacfaaPFnExactLongestSilencex4
namespace Go.Proofs.Ytpnmmjhhnfacfaa.Pure
open Go.RowKit Go.Proofs.Ytpnmmjhhnfacfaa.PFnExactLongestSilence Go.Proofs.YtpnmmjhhnfacfaaW.PrintWords Go.Proofs.YtpnmmjhhnfacfaaW.PrintLast
set_option linter.unusedVariables false
set_option linter.unusedSimpArgs false

theorem w64 {x : Int} (h1 : -9223372036854775808 ≤ x) (h2 : x ≤ 9223372036854775807) : wrap64 x = x := by
  unfold wrap64
  omega
theorem wf_lo {a : Int} (h : (Lit.int .i64 a).wf = true) : -9223372036854775808 ≤ a := by
  have h' : IntKind.i64.min ≤ a ∧ a ≤ IntKind.i64.max := by simpa [Lit.wf] using h
  have e : IntKind.i64.min = -9223372036854775808 := by decide
  omega
theorem wf_hi {a : Int} (h : (Lit.int .i64 a).wf = true) : a ≤ 9223372036854775807 := by
  have h' : IntKind.i64.min ≤ a ∧ a ≤ IntKind.i64.max := by simpa [Lit.wf] using h
  have e : IntKind.i64.max = 9223372036854775807 := by decide
  omega
theorem ev_congr_fun {α : Type} {g f : Nat → Option α} {r : α} (h : g = f) (k : Ev f r) : Ev g r := h ▸ k
theorem rd_mid (pre : List Int) (x : Int) (rest : List Int) : rd (pre ++ x :: rest) (pre.length : Int) = x := by
  simp [rd]
theorem l1In_eq (a b c : Int) : spec_l1In.f a b c = some (decide (b ≤ a) && decide (a ≤ c)) := by
  unfold spec_l1In.f
  by_cases h : b ≤ a
  · rw [if_pos h]; simp [h]
  · rw [if_neg (show ¬ a ≥ b from h)]; simp [h]
theorem in_eq (a b c : Int) : impl_in.f a b c = some (decide (b ≤ a) && decide (a ≤ c)) := by
  unfold impl_in.f
  by_cases h : b ≤ a
  · rw [if_pos h]; simp [h]
  · rw [if_neg h]; simp [h]
theorem cast_len {α : Type} (l : List α) : (decide ((1 : Int) ≤ (l.length : Int)) && decide ((l.length : Int) ≤ 6)) = (decide (1 ≤ l.length) && decide (l.length ≤ 6)) := by
  congr 1 <;> exact decide_eq_decide.2 (by omega)
theorem rdP_mid (pre : List S37) (x : S37) (rest : List S37) : rd_T37 (pre ++ x :: rest) (pre.length : Int) = x := by
  simp [rd_T37]
def okP (p : S37) : Bool := (decide (1 ≤ p.f0) && decide (p.f0 ≤ 60)) && (decide (0 ≤ p.f1) && decide (p.f1 ≤ p.f0 - 1))
def pacesB (l : List S37) : Bool := (decide (1 ≤ l.length) && decide (l.length ≤ 6)) && l.all okP
def convP (z : S39) : S37 := ⟨z.f0, z.f1⟩
theorem okP_iff {p : S37} (h : okP p = true) : 1 ≤ p.f0 ∧ p.f0 ≤ 60 ∧ 0 ≤ p.f1 ∧ p.f1 < p.f0 := by
  unfold okP at h
  simp only [Bool.and_eq_true, decide_eq_true_eq] at h
  omega
theorem pacesB_mem {l : List S37} (h : pacesB l = true) : 1 ≤ l.length ∧ l.length ≤ 6 ∧ ∀ p ∈ l, 1 ≤ p.f0 ∧ p.f0 ≤ 60 ∧ 0 ≤ p.f1 ∧ p.f1 < p.f0 := by
  unfold pacesB at h
  simp only [Bool.and_eq_true, decide_eq_true_eq, List.all_eq_true] at h
  exact ⟨h.1.1, h.1.2, fun p hp => okP_iff (h.2 p hp)⟩
theorem rdL_mid (pre : List S39) (x : S39) (rest : List S39) : rd_T39 (pre ++ x :: rest) (pre.length : Int) = x := by
  simp [rd_T39]
theorem spPace_eq (p : S37) : spec_spPace.f p.f0 p.f1 = some (okP p) := by
  unfold spec_spPace.f okP
  rw [l1In_eq]
  simp only [Option.bind_some]
  by_cases h : (decide (1 ≤ p.f0) && decide (p.f0 ≤ 60)) = true
  · have h' : 1 ≤ p.f0 ∧ p.f0 ≤ 60 := by simpa using h
    rw [h, w64 (by omega) (by omega), l1In_eq]
    simp
  · have h' : (decide (1 ≤ p.f0) && decide (p.f0 ≤ 60)) = false := by simpa using h
    rw [h']
    simp
theorem isPace_eq (p : S37) : impl_isPace.f p.f0 p.f1 = some (okP p) := by
  unfold impl_isPace.f okP
  rw [in_eq]
  simp only [Option.bind_some]
  by_cases h : (decide (1 ≤ p.f0) && decide (p.f0 ≤ 60)) = true
  · have h' : 1 ≤ p.f0 ∧ p.f0 ≤ 60 := by simpa using h
    rw [h, w64 (by omega) (by omega), in_eq]
    simp
  · have h' : (decide (1 ≤ p.f0) && decide (p.f0 ≤ 60)) = false := by simpa using h
    rw [h']
    simp
theorem spGood_l0 (rest : List S37) : ∀ pre : List S37, pre.length + rest.length ≤ 100000000 →
    Ev (fun k => spec_spGood.l0 k (pre ++ rest) ((pre ++ rest).length : Int) pre.length) (rest.all okP) := by
  induction rest with
  | nil =>
    intro pre hl
    exact Ev.step (f := fun _ => some true) (fun k => by rw [spec_spGood.l0, if_neg (by simp)]) (by simpa using Ev.now true)
  | cons x rest ih =>
    intro pre hl
    simp only [List.length_cons] at hl
    have hlen : ((pre ++ x :: rest).length : Int) = pre.length + (rest.length + 1) := by simp
    by_cases hx : okP x = true
    · refine Ev.step (f := fun k => spec_spGood.l0 k ((pre ++ [x]) ++ rest) (((pre ++ [x]) ++ rest).length : Int) ((pre ++ [x]).length : Nat)) (fun k => ?_) ?_
      · rw [spec_spGood.l0, if_pos (by omega), if_pos (by omega), if_pos (by omega), rdP_mid, spPace_eq, hx]
        simp only [Option.bind_some, if_true]
        rw [w64 (by omega) (by omega)]
        simp
      · have := ih (pre ++ [x]) (by simp; omega)
        simpa [hx] using this
    · have hx' : okP x = false := by simpa using hx
      refine Ev.step (f := fun _ => some false) (fun k => ?_) (by simpa [hx'] using Ev.now false)
      rw [spec_spGood.l0, if_pos (by omega), if_pos (by omega), if_pos (by omega), rdP_mid, spPace_eq, hx']
      simp
theorem indexP_l0 (rest : List S37) : ∀ pre : List S37, pre.length + rest.length ≤ 100000000 →
    ∃ r : Int, Ev (fun k => slices_IndexFunc_impl_Pace_impl_Pace.l0 k (pre ++ rest) ((pre ++ rest).length : Int) pre.length) r ∧ (decide (r ≥ 0) = !(rest.all okP)) := by
  induction rest with
  | nil =>
    intro pre hl
    exact ⟨-1, Ev.step (f := fun _ => some (-1)) (fun k => by rw [slices_IndexFunc_impl_Pace_impl_Pace.l0, if_neg (by simp)]) (Ev.now _), by simp⟩
  | cons x rest ih =>
    intro pre hl
    simp only [List.length_cons] at hl
    have hlen : ((pre ++ x :: rest).length : Int) = pre.length + (rest.length + 1) := by simp
    by_cases hx : okP x = true
    · have hin : impl_arePaces_1.f x.f0 x.f1 = some false := by
        unfold impl_arePaces_1.f
        rw [isPace_eq, hx]
        rfl
      obtain ⟨r, hr, hd⟩ := ih (pre ++ [x]) (by simp; omega)
      refine ⟨r, Ev.step (f := fun k => slices_IndexFunc_impl_Pace_impl_Pace.l0 k ((pre ++ [x]) ++ rest) (((pre ++ [x]) ++ rest).length : Int) ((pre ++ [x]).length : Nat)) (fun k => ?_) hr, by rw [hd]; simp [hx]⟩
      rw [slices_IndexFunc_impl_Pace_impl_Pace.l0, if_pos (by omega), if_pos (by omega), if_pos (by omega), rdP_mid, hin]
      simp only [Option.bind_some]
      rw [if_neg (by decide), w64 (by omega) (by omega)]
      simp
    · have hx' : okP x = false := by simpa using hx
      have hin : impl_arePaces_1.f x.f0 x.f1 = some true := by
        unfold impl_arePaces_1.f
        rw [isPace_eq, hx']
        rfl
      refine ⟨pre.length, Ev.step (f := fun _ => some (pre.length : Int)) (fun k => ?_) (Ev.now _), by simp [hx']⟩
      rw [slices_IndexFunc_impl_Pace_impl_Pace.l0, if_pos (by omega), if_pos (by omega), if_pos (by omega), rdP_mid, hin]
      simp
theorem spec_good (l : List S37) (hl : l.length ≤ 10000000) : Ev (fun k => spec_spGood.f k l) (pacesB l) := by
  have h1 := spGood_l0 l [] (by simp; omega)
  simp only [List.nil_append, List.length_nil] at h1
  unfold spec_spGood.f pacesB
  rw [l1In_eq, cast_len]
  simp only [Option.bind_some]
  by_cases h : (decide (1 ≤ l.length) && decide (l.length ≤ 6)) = true
  · rw [h]
    simp only [if_true, Bool.true_and]
    exact h1
  · have h' : (decide (1 ≤ l.length) && decide (l.length ≤ 6)) = false := by simpa using h
    rw [h']
    simpa using Ev.now false
theorem impl_good (l : List S37) (hl : l.length ≤ 10000000) : Ev (fun k => impl_arePaces.f k l) (pacesB l) := by
  obtain ⟨r, h1, hd⟩ := indexP_l0 l [] (by simp; omega)
  simp only [List.nil_append, List.length_nil] at h1
  unfold impl_arePaces.f pacesB
  rw [in_eq, cast_len]
  simp only [Option.bind_some]
  by_cases h : (decide (1 ≤ l.length) && decide (l.length ≤ 6)) = true
  · rw [h]
    simp only [if_true, Bool.true_and]
    have h2 : Ev (fun k => slices_ContainsFunc_impl_Pace_impl_Pace.f k l) (!(l.all okP)) := by
      unfold slices_ContainsFunc_impl_Pace_impl_Pace.f
      rw [← hd]
      exact Ev.bind (g := fun k => slices_IndexFunc_impl_Pace_impl_Pace.f k l) (f := fun _ t => some (decide (t ≥ 0))) h1 (Ev.now _)
    have h3 := Ev.bind (f := fun _ t => some (!t)) h2 (Ev.now _)
    simpa using h3
  · have h' : (decide (1 ≤ l.length) && decide (l.length ≤ 6)) = false := by simpa using h
    rw [h']
    simpa using Ev.now false
theorem toPace_l0 (rest : List S39) : ∀ (pre : List S39), pre.length + rest.length ≤ 100000000 →
    Ev (fun k => laws_toPaceS.l0 k (pre ++ rest) (pre.map convP ++ List.replicate rest.length z37) pre.length) ((pre ++ rest).map convP) := by
  induction rest with
  | nil =>
    intro pre hl
    exact Ev.step (f := fun _ => some (pre.map convP)) (fun k => by rw [laws_toPaceS.l0]; rw [if_neg (by simp)]; simp) (by simpa using Ev.now (pre.map convP))
  | cons x rest ih =>
    intro pre hl
    simp only [List.length_cons] at hl
    refine Ev.step (f := fun k => laws_toPaceS.l0 k ((pre ++ [x]) ++ rest) ((pre ++ [x]).map convP ++ List.replicate rest.length z37) ((pre ++ [x]).length : Nat)) (fun k => ?_) ?_
    · rw [laws_toPaceS.l0]
      rw [if_pos (by simp; omega), if_pos (by omega), rdL_mid]
      unfold laws_toPace.f
      simp only [Option.bind_some]
      rw [if_pos (by simp; omega), w64 (by omega) (by omega)]
      simp [List.replicate_succ, convP]
    · have := ih (pre ++ [x]) (by simp; omega)
      simpa using this
theorem toPace_ok (l : List S39) (hl : l.length ≤ 100000000) : Ev (fun k => laws_toPaceS.f k l) (l.map convP) := by
  have := toPace_l0 l [] (by simpa using hl)
  refine Ev.congr (fun k => ?_) (by simpa using this)
  unfold laws_toPaceS.f
  rw [if_pos (by omega), if_pos (by simp; omega)]
  simp
theorem eqPace_l0 (l : List S37) (hl : l.length ≤ 1000000000000000000) (d : Nat) : ∀ i : Int, 0 ≤ i → (l.length : Int) - i = d → Ev (fun k => laws_eqPaceS.l0 k l l i) true := by
  induction d with
  | zero =>
    intro i h0 hd
    exact Ev.step (f := fun _ => some true) (fun k => by rw [laws_eqPaceS.l0]; rw [if_neg (by omega)]) (Ev.now _)
  | succ d ih =>
    intro i h0 hd
    refine Ev.step (f := fun k => laws_eqPaceS.l0 k l l (i + 1)) (fun k => ?_) (ih (i + 1) (by omega) (by omega))
    have he : ∀ a b : Int, laws_eqPace.f a b a b = some true := fun a b => by unfold laws_eqPace.f; rw [if_pos rfl, if_pos rfl]
    rw [laws_eqPaceS.l0, if_pos (by omega), if_pos h0, if_pos (by omega), he]
    simp only [Option.bind_some, if_true]
    rw [w64 (by omega) (by omega)]
theorem eqPace_self (l : List S37) (hl : l.length ≤ 1000000000000000000) : Ev (fun k => laws_eqPaceS.f k l l) true :=
  Ev.congr (fun k => by unfold laws_eqPaceS.f; rw [if_pos rfl]) (eqPace_l0 l hl l.length 0 (by omega) (by omega))
theorem szPace_eq (l : List S39) (hl : l.length ≤ 9223372036854775807) : laws_szPaceS.f l 1048576 = some (if (1048576 - (l.length : Int)) < 0 then -1 else 1048576 - (l.length : Int)) := by
  unfold laws_szPaceS.f
  rw [w64 (by omega) (by omega)]
  by_cases h : (1048576 - (l.length : Int)) < 0
  · rw [if_pos h, if_pos h]
  · rw [if_neg h, if_neg h]
def firstK (p : Nat → Bool) : Nat → Nat → Option Nat
  | 0, _ => none
  | f + 1, j => if p j then some j else firstK p f (j + 1)
theorem firstK_some {p : Nat → Bool} {r : Nat} (f : Nat) : ∀ j, firstK p f j = some r → j ≤ r ∧ r < j + f ∧ p r = true ∧ ∀ e, j ≤ e → e < r → p e = false := by
  induction f with
  | zero => intro j h; cases h
  | succ f ih =>
    intro j h
    rw [firstK] at h
    by_cases hp : p j = true
    · rw [if_pos hp] at h
      injection h with h
      subst h
      exact ⟨Nat.le_refl _, by omega, hp, fun e h1 h2 => by omega⟩
    · rw [if_neg hp] at h
      obtain ⟨h1, h2, h3, h4⟩ := ih _ h
      refine ⟨by omega, by omega, h3, fun e he1 he2 => ?_⟩
      by_cases hej : e = j
      · subst hej; simpa using hp
      · exact h4 e (by omega) he2
theorem firstK_none {p : Nat → Bool} (f : Nat) : ∀ j, firstK p f j = none → ∀ e, j ≤ e → e < j + f → p e = false := by
  induction f with
  | zero => intro j h e h1 h2; omega
  | succ f ih =>
    intro j h e h1 h2
    rw [firstK] at h
    by_cases hp : p j = true
    · rw [if_pos hp] at h; cases h
    · rw [if_neg hp] at h
      by_cases hej : e = j
      · subst hej; simpa using hp
      · exact ih _ h e (by omega) (by omega)
def fits (left : List Int) (i c n step : Nat) (j : Nat) : Bool := decide ((((n + j * step) % c : Nat) : Int) = rd left i)
def goL (left : List Int) : Nat → List Int → Nat → Nat → Option (Nat × Nat)
  | _, [], n, step => some (n, step)
  | i, c :: rest, n, step =>
    match firstK (fits left i c.toNat n step) c.toNat 0 with
    | none => none
    | some j => goL left (i + 1) rest (n + j * step) (Nat.lcm step c.toNat)
def trip : Option (Nat × Nat) → Int × Int × Bool
  | none => (0, 0, false)
  | some (n, step) => ((n : Int), (step : Int), true)
def W : Nat → Nat
  | 0 => 0
  | d + 1 => 1000 * (1 + W d)
theorem lcm_a (t d : Nat) : t / Nat.gcd t d * d = Nat.lcm t d := by
  rw [Nat.lcm, Nat.mul_comm, ← Nat.mul_div_assoc _ (Nat.gcd_dvd_left t d), Nat.mul_comm d t]
theorem lcm_b (t d : Nat) : t * (d / Nat.gcd t d) = Nat.lcm t d := by
  rw [Nat.lcm, Nat.mul_div_assoc _ (Nat.gcd_dvd_right t d)]
theorem lcm_le (t d : Nat) : Nat.lcm t d ≤ t * d := Nat.div_le_self _ _
theorem W_le (d : Nat) (h : d ≤ 6) : W d ≤ 1001001001001001000 := by
  have : d = 0 ∨ d = 1 ∨ d = 2 ∨ d = 3 ∨ d = 4 ∨ d = 5 ∨ d = 6 := by omega
  rcases this with rfl | rfl | rfl | rfl | rfl | rfl | rfl <;> decide
theorem goL_bound (left : List Int) (rest : List Int) : ∀ (i n step : Nat), (∀ c ∈ rest, 1 ≤ c ∧ c ≤ 1000) → rest.length ≤ 6 → 1 ≤ step → step * 1000 ^ rest.length ≤ 1000000000000000000 → n + W rest.length * step ≤ 1001001001001001000 → ∀ m s, goL left i rest n step = some (m, s) → 1 ≤ s ∧ s ≤ 1000000000000000000 ∧ m ≤ 1001001001001001000 := by
  induction rest with
  | nil =>
    intro i n step hc hl hs hp hb m s h
    simp only [goL, Option.some.injEq, Prod.mk.injEq] at h
    obtain ⟨rfl, rfl⟩ := h
    simp at hp
    exact ⟨hs, hp, by omega⟩
  | cons x rest ih =>
    intro i n step hc hl hs hp hb m s h
    obtain ⟨hx1, hx2⟩ := hc x (List.mem_cons_self ..)
    obtain ⟨c, rfl⟩ := Int.eq_ofNat_of_zero_le (show 0 ≤ x by omega)
    simp only [List.length_cons] at hl hb hp
    rw [W, Nat.mul_assoc, Nat.add_mul, Nat.one_mul, Nat.mul_add] at hb
    simp only [goL, Int.toNat_natCast] at h
    cases hf : firstK (fits left i c n step) c 0 with
    | none => simp only [hf] at h; cases h
    | some j =>
      simp only [hf] at h
      obtain ⟨_, hj, _, _⟩ := firstK_some c 0 hf
      have hjs : j * step ≤ 1000 * step := Nat.mul_le_mul_right _ (by omega)
      have hlc : Nat.lcm step c ≤ 1000 * step := Nat.le_trans (lcm_le step c) (by rw [Nat.mul_comm]; exact Nat.mul_le_mul_right _ (by omega))
      have hlp : 1 ≤ Nat.lcm step c := Nat.lcm_pos (by omega) (by omega)
      have hwl : W rest.length * Nat.lcm step c ≤ W rest.length * (1000 * step) := Nat.mul_le_mul_left _ hlc
      have hcm : W rest.length * (1000 * step) = 1000 * (W rest.length * step) := Nat.mul_left_comm _ _ _
      have hpw : Nat.lcm step c * 1000 ^ rest.length ≤ 1000 * step * 1000 ^ rest.length := Nat.mul_le_mul_right _ hlc
      have hpe : 1000 * step * 1000 ^ rest.length = step * 1000 ^ (rest.length + 1) := by rw [Nat.pow_succ, Nat.mul_comm 1000 step, Nat.mul_assoc, Nat.mul_comm 1000]
      exact ih _ _ _ (fun y hy => hc y (List.mem_cons_of_mem _ hy)) (by omega) hlp (by omega) (by omega) m s h
def leastV (cols left : List Int) : Option (Nat × Nat) := goL left 0 cols 0 1
theorem W_one (d : Nat) (h : d ≤ 6) : 0 + W d * 1 ≤ 1001001001001001000 := by
  have := W_le d h
  omega
theorem pow_le6 (d : Nat) (h : d ≤ 6) : 1 * 1000 ^ d ≤ 1000000000000000000 := by
  have : d = 0 ∨ d = 1 ∨ d = 2 ∨ d = 3 ∨ d = 4 ∨ d = 5 ∨ d = 6 := by omega
  rcases this with rfl | rfl | rfl | rfl | rfl | rfl | rfl <;> decide
theorem least_bound {cols left : List Int} (hc : ∀ c ∈ cols, 1 ≤ c ∧ c ≤ 1000) (h6 : cols.length ≤ 6) {m s : Nat} (h : leastV cols left = some (m, s)) : 1 ≤ s ∧ s ≤ 1000000000000000000 ∧ m ≤ 1001001001001001000 :=
  goL_bound left cols 0 0 1 hc h6 (by omega) (pow_le6 _ h6) (W_one _ h6) m s h
theorem impl_gcd_l0 (n : Nat) : ∀ (m b : Nat), b = n → Ev (fun k => impl_gcd.l0 k (m : Int) (b : Int)) ((Nat.gcd m b : Nat) : Int) := by
  induction n using Nat.strongRecOn with
  | _ n ih =>
    intro m b hb
    by_cases h : b = 0
    · subst h
      refine Ev.step (f := fun _ => some (m : Int)) (fun k => by rw [impl_gcd.l0, if_pos (by omega)]) ?_
      rw [Nat.gcd_zero_right]
      exact Ev.now _
    · have hlt : m % b < n := by rw [← hb]; exact Nat.mod_lt _ (by omega)
      have := ih (m % b) hlt b (m % b) rfl
      refine Ev.step (f := fun k => impl_gcd.l0 k (b : Int) ((m % b : Nat) : Int)) (fun k => ?_) ?_
      · rw [impl_gcd.l0, if_neg (by omega)]
        rfl
      · have e : Nat.gcd b (m % b) = Nat.gcd m b := by rw [Nat.gcd_comm b (m % b), ← Nat.gcd_rec, Nat.gcd_comm]
        rw [e] at this
        exact this
theorem impl_gcd_ok (m b : Nat) : Ev (fun k => impl_gcd.f k (m : Int) (b : Int)) ((Nat.gcd m b : Nat) : Int) := impl_gcd_l0 b m b rfl
theorem spec_foCommon_l0 (n : Nat) : ∀ (m b : Nat), b = n → Ev (fun k => spec_foCommon.l0 k (m : Int) (b : Int)) ((Nat.gcd m b : Nat) : Int) := by
  induction n using Nat.strongRecOn with
  | _ n ih =>
    intro m b hb
    by_cases h : b = 0
    · subst h
      refine Ev.step (f := fun _ => some (m : Int)) (fun k => by rw [spec_foCommon.l0, if_neg (by omega)]) ?_
      rw [Nat.gcd_zero_right]
      exact Ev.now _
    · have hlt : m % b < n := by rw [← hb]; exact Nat.mod_lt _ (by omega)
      have := ih (m % b) hlt b (m % b) rfl
      refine Ev.step (f := fun k => spec_foCommon.l0 k (b : Int) ((m % b : Nat) : Int)) (fun k => ?_) ?_
      · rw [spec_foCommon.l0, if_pos (by omega), if_neg (by omega)]
        rfl
      · have e : Nat.gcd b (m % b) = Nat.gcd m b := by rw [Nat.gcd_comm b (m % b), ← Nat.gcd_rec, Nat.gcd_comm]
        rw [e] at this
        exact this
theorem spec_foCommon_ok (m b : Nat) : Ev (fun k => spec_foCommon.f k (m : Int) (b : Int)) ((Nat.gcd m b : Nat) : Int) := spec_foCommon_l0 b m b rfl
def periodN : List S37 → Nat → Nat
  | [], s => s
  | p :: rest, s => periodN rest (Nat.lcm s p.f0.toNat)
theorem period_bd (rest : List S37) : ∀ s : Nat, (∀ p ∈ rest, 1 ≤ p.f0 ∧ p.f0 ≤ 60 ∧ 0 ≤ p.f1 ∧ p.f1 < p.f0) → 1 ≤ s → 1 ≤ periodN rest s ∧ periodN rest s ≤ s * 60 ^ rest.length := by
  induction rest with
  | nil => intro s hp hs; simp [periodN]; exact hs
  | cons p rest ih =>
    intro s hp hs
    have hpp := hp p (List.mem_cons_self ..)
    have hlp : 1 ≤ Nat.lcm s p.f0.toNat := Nat.lcm_pos (by omega) (by omega)
    obtain ⟨h1, h2⟩ := ih (Nat.lcm s p.f0.toNat) (fun q hq => hp q (List.mem_cons_of_mem _ hq)) hlp
    refine ⟨h1, ?_⟩
    simp only [periodN, List.length_cons]
    have h3 : Nat.lcm s p.f0.toNat ≤ s * 60 := Nat.le_trans (lcm_le _ _) (Nat.mul_le_mul_left _ (by omega))
    calc periodN rest (Nat.lcm s p.f0.toNat) ≤ Nat.lcm s p.f0.toNat * 60 ^ rest.length := h2
      _ ≤ s * 60 * 60 ^ rest.length := Nat.mul_le_mul_right _ h3
      _ = s * 60 ^ (rest.length + 1) := by rw [Nat.pow_succ, Nat.mul_assoc, Nat.mul_comm 60]
theorem pow60 (d : Nat) (h : d ≤ 6) : 60 ^ d ≤ 46656000000 := by
  have : d = 0 ∨ d = 1 ∨ d = 2 ∨ d = 3 ∨ d = 4 ∨ d = 5 ∨ d = 6 := by omega
  rcases this with rfl | rfl | rfl | rfl | rfl | rfl | rfl <;> decide
theorem spec_period_l0 (rest : List S37) : ∀ (pre : List S37) (s : Nat), (∀ p ∈ rest, 1 ≤ p.f0 ∧ p.f0 ≤ 60 ∧ 0 ≤ p.f1 ∧ p.f1 < p.f0) → pre.length + rest.length ≤ 6 → 1 ≤ s → s * 60 ^ rest.length ≤ 46656000000 →
    Ev (fun k => spec_spPeriod.l0 k s (pre ++ rest) ((pre ++ rest).length : Int) pre.length) ((periodN rest s : Nat) : Int) := by
  induction rest with
  | nil =>
    intro pre s hp hl hs hb
    exact Ev.step (f := fun _ => some (s : Int)) (fun k => by rw [spec_spPeriod.l0, if_neg (by simp)]) (Ev.now _)
  | cons p rest ih =>
    intro pre s hp hl hs hb
    simp only [List.length_cons] at hl hb
    obtain ⟨hp1, hp2, _, _⟩ := hp p (List.mem_cons_self ..)
    obtain ⟨c, hc⟩ := Int.eq_ofNat_of_zero_le (show 0 ≤ p.f0 by omega)
    have hct : p.f0.toNat = c := by rw [hc]; rfl
    have hlen : ((pre ++ p :: rest).length : Int) = pre.length + (rest.length + 1) := by simp
    have hlc : Nat.lcm s c ≤ s * 60 := Nat.le_trans (lcm_le s c) (Nat.mul_le_mul_left _ (by omega))
    have hlp : 1 ≤ Nat.lcm s c := Nat.lcm_pos (by omega) (by omega)
    have hpw : Nat.lcm s c * 60 ^ rest.length ≤ s * 60 * 60 ^ rest.length := Nat.mul_le_mul_right _ hlc
    have hpe : s * 60 * 60 ^ rest.length = s * 60 ^ (rest.length + 1) := by rw [Nat.pow_succ, Nat.mul_assoc, Nat.mul_comm 60]
    have hb2 : Nat.lcm s c ≤ Nat.lcm s c * 60 ^ rest.length := Nat.le_mul_of_pos_right _ (Nat.pow_pos (by omega))
    have hs2 : s ≤ s * 60 ^ (rest.length + 1) := Nat.le_mul_of_pos_right _ (Nat.pow_pos (by omega))
    have hg1 : 1 ≤ Nat.gcd s c := Nat.gcd_pos_of_pos_left _ (by omega)
    have hd1 : s / Nat.gcd s c ≤ s := Nat.div_le_self _ _
    have hz1 : (0 : Int) ≤ ((s / Nat.gcd s c : Nat) : Int) := Int.natCast_nonneg _
    refine Ev.step (f := fun k => (spec_foCommon.f k (s : Int) (c : Int)).bind fun t125 => (if t125 = 0 then (none) else (spec_spPeriod.l0 k (wrap64 ((wrap64 (Int.tdiv (s : Int) t125)) * (c : Int))) (pre ++ p :: rest) ((pre ++ p :: rest).length : Int) (wrap64 ((pre.length : Int) + 1))))) (fun k => by rw [spec_spPeriod.l0, if_pos (by omega), if_pos (by omega), if_pos (by omega), rdP_mid, hc]) ?_
    have e2 : Int.tdiv (s : Int) ((Nat.gcd s c : Nat) : Int) = ((s / Nat.gcd s c : Nat) : Int) := rfl
    have e3 : ((s / Nat.gcd s c : Nat) : Int) * (c : Int) = ((Nat.lcm s c : Nat) : Int) := by rw [← Int.natCast_mul, lcm_a]
    have hrec := ih (pre ++ [p]) (Nat.lcm s c) (fun q hq => hp q (List.mem_cons_of_mem _ hq)) (by simp; omega) hlp (by omega)
    refine Ev.bind (spec_foCommon_ok s c) (Ev.congr (fun k => ?_) (by rw [periodN, hct]; exact hrec))
    rw [if_neg (by omega), e2, w64 (x := ((s / Nat.gcd s c : Nat) : Int)) (by omega) (by omega), e3, w64 (x := ((Nat.lcm s c : Nat) : Int)) (by omega) (by omega), w64 (by omega) (by omega)]
    simp
theorem impl_period_l0 (rest : List S37) : ∀ (pre : List S37) (s : Nat), (∀ p ∈ rest, 1 ≤ p.f0 ∧ p.f0 ≤ 60 ∧ 0 ≤ p.f1 ∧ p.f1 < p.f0) → pre.length + rest.length ≤ 6 → 1 ≤ s → s * 60 ^ rest.length ≤ 46656000000 →
    Ev (fun k => impl_periodOf.l0 k s (pre ++ rest) ((pre ++ rest).length : Int) pre.length) ((periodN rest s : Nat) : Int) := by
  induction rest with
  | nil =>
    intro pre s hp hl hs hb
    exact Ev.step (f := fun _ => some (s : Int)) (fun k => by rw [impl_periodOf.l0, if_neg (by simp)]) (Ev.now _)
  | cons p rest ih =>
    intro pre s hp hl hs hb
    simp only [List.length_cons] at hl hb
    obtain ⟨hp1, hp2, _, _⟩ := hp p (List.mem_cons_self ..)
    obtain ⟨c, hc⟩ := Int.eq_ofNat_of_zero_le (show 0 ≤ p.f0 by omega)
    have hct : p.f0.toNat = c := by rw [hc]; rfl
    have hlen : ((pre ++ p :: rest).length : Int) = pre.length + (rest.length + 1) := by simp
    have hlc : Nat.lcm s c ≤ s * 60 := Nat.le_trans (lcm_le s c) (Nat.mul_le_mul_left _ (by omega))
    have hlp : 1 ≤ Nat.lcm s c := Nat.lcm_pos (by omega) (by omega)
    have hpw : Nat.lcm s c * 60 ^ rest.length ≤ s * 60 * 60 ^ rest.length := Nat.mul_le_mul_right _ hlc
    have hpe : s * 60 * 60 ^ rest.length = s * 60 ^ (rest.length + 1) := by rw [Nat.pow_succ, Nat.mul_assoc, Nat.mul_comm 60]
    have hb2 : Nat.lcm s c ≤ Nat.lcm s c * 60 ^ rest.length := Nat.le_mul_of_pos_right _ (Nat.pow_pos (by omega))
    have hg1 : 1 ≤ Nat.gcd s c := Nat.gcd_pos_of_pos_left _ (by omega)
    have hd1 : c / Nat.gcd s c ≤ c := Nat.div_le_self _ _
    have hz1 : (0 : Int) ≤ ((c / Nat.gcd s c : Nat) : Int) := Int.natCast_nonneg _
    refine Ev.step (f := fun k => (impl_gcd.f k (s : Int) (c : Int)).bind fun t140 => (if t140 = 0 then (none) else (impl_periodOf.l0 k (wrap64 ((s : Int) * (wrap64 (Int.tdiv (c : Int) t140)))) (pre ++ p :: rest) ((pre ++ p :: rest).length : Int) (wrap64 ((pre.length : Int) + 1))))) (fun k => by rw [impl_periodOf.l0, if_pos (by omega), if_pos (by omega), if_pos (by omega), rdP_mid, hc]) ?_
    have e2 : Int.tdiv (c : Int) ((Nat.gcd s c : Nat) : Int) = ((c / Nat.gcd s c : Nat) : Int) := rfl
    have e3 : (s : Int) * ((c / Nat.gcd s c : Nat) : Int) = ((Nat.lcm s c : Nat) : Int) := by rw [← Int.natCast_mul, lcm_b]
    have hrec := ih (pre ++ [p]) (Nat.lcm s c) (fun q hq => hp q (List.mem_cons_of_mem _ hq)) (by simp; omega) hlp (by omega)
    refine Ev.bind (impl_gcd_ok s c) (Ev.congr (fun k => ?_) (by rw [periodN, hct]; exact hrec))
    rw [if_neg (by omega), e2, w64 (x := ((c / Nat.gcd s c : Nat) : Int)) (by omega) (by omega), e3, w64 (x := ((Nat.lcm s c : Nat) : Int)) (by omega) (by omega), w64 (by omega) (by omega)]
    simp
theorem spec_period {l : List S37} (hl : l.length ≤ 6) (hp : ∀ p ∈ l, 1 ≤ p.f0 ∧ p.f0 ≤ 60 ∧ 0 ≤ p.f1 ∧ p.f1 < p.f0) : Ev (fun k => spec_spPeriod.f k l) ((periodN l 1 : Nat) : Int) := by
  have := spec_period_l0 l [] 1 hp (by simpa using hl) (by omega) (by rw [Nat.one_mul]; exact pow60 _ hl)
  simpa [spec_spPeriod.f] using this
theorem impl_period {l : List S37} (hl : l.length ≤ 6) (hp : ∀ p ∈ l, 1 ≤ p.f0 ∧ p.f0 ≤ 60 ∧ 0 ≤ p.f1 ∧ p.f1 < p.f0) : Ev (fun k => impl_periodOf.f k l) ((periodN l 1 : Nat) : Int) := by
  have := impl_period_l0 l [] 1 hp (by simpa using hl) (by omega) (by rw [Nat.one_mul]; exact pow60 _ hl)
  simpa [impl_periodOf.f] using this
def atFrom (t : Int) : Nat → List S37 → List Int
  | _, [] => []
  | i, p :: rest => if Int.tmod t p.f0 = p.f1 then (i : Int) :: atFrom t (i + 1) rest else atFrom t (i + 1) rest
theorem atFrom_len (t : Int) (l : List S37) : ∀ i, (atFrom t i l).length ≤ l.length := by
  induction l with
  | nil => intro i; simp [atFrom]
  | cons p rest ih =>
    intro i
    have := ih (i + 1)
    rw [atFrom]
    by_cases h : Int.tmod t p.f0 = p.f1
    · rw [if_pos h]; simp only [List.length_cons]; omega
    · rw [if_neg h]; simp only [List.length_cons]; omega
theorem spec_at_l0 (t : Int) (rest : List S37) : ∀ (pre : List S37) (out : List Int), (∀ p ∈ rest, 1 ≤ p.f0 ∧ p.f0 ≤ 60 ∧ 0 ≤ p.f1 ∧ p.f1 < p.f0) → pre.length + rest.length ≤ 6 → out.length + rest.length ≤ 6 →
    Ev (fun k => spec_spAt.l0 k t out (pre ++ rest) ((pre ++ rest).length : Int) pre.length) (out ++ atFrom t pre.length rest) := by
  induction rest with
  | nil =>
    intro pre out hp hl ho
    exact Ev.step (f := fun _ => some out) (fun k => by rw [spec_spAt.l0, if_neg (by simp)]) (by simpa [atFrom] using Ev.now out)
  | cons p rest ih =>
    intro pre out hp hl ho
    simp only [List.length_cons] at hl ho
    have hlen : ((pre ++ p :: rest).length : Int) = pre.length + (rest.length + 1) := by simp
    have hpp := hp p (List.mem_cons_self ..)
    have e : (pre ++ [p]).length = pre.length + 1 := by simp
    by_cases h : Int.tmod t p.f0 = p.f1
    · have hrec := ih (pre ++ [p]) (out ++ [(pre.length : Int)]) (fun q hq => hp q (List.mem_cons_of_mem _ hq)) (by simp; omega) (by simp; omega)
      rw [e] at hrec
      refine Ev.step (f := fun k => spec_spAt.l0 k t (out ++ [(pre.length : Int)]) ((pre ++ [p]) ++ rest) (((pre ++ [p]) ++ rest).length : Int) ((pre.length + 1 : Nat) : Int)) (fun k => ?_) (by rw [atFrom, if_pos h]; simpa using hrec)
      rw [spec_spAt.l0, if_pos (by omega), if_pos (by omega), if_pos (by omega), rdP_mid, if_neg (by omega), if_pos h, if_pos (by omega), w64 (by omega) (by omega)]
      simp
    · have hrec := ih (pre ++ [p]) out (fun q hq => hp q (List.mem_cons_of_mem _ hq)) (by simp; omega) (by omega)
      rw [e] at hrec
      refine Ev.step (f := fun k => spec_spAt.l0 k t out ((pre ++ [p]) ++ rest) (((pre ++ [p]) ++ rest).length : Int) ((pre.length + 1 : Nat) : Int)) (fun k => ?_) (by rw [atFrom, if_neg h]; simpa using hrec)
      rw [spec_spAt.l0, if_pos (by omega), if_pos (by omega), if_pos (by omega), rdP_mid, if_neg (by omega), if_neg h, w64 (by omega) (by omega)]
      simp
theorem spec_at (t : Int) {l : List S37} (hl : l.length ≤ 6) (hp : ∀ p ∈ l, 1 ≤ p.f0 ∧ p.f0 ≤ 60 ∧ 0 ≤ p.f1 ∧ p.f1 < p.f0) : Ev (fun k => spec_spAt.f k l t) (atFrom t 0 l) := by
  have := spec_at_l0 t l [] [] hp (by simpa using hl) (by simpa using hl)
  simpa [spec_spAt.f] using this
def cntP (t : Int) : List S37 → Nat
  | [] => 0
  | p :: rest => (if Int.tmod t p.f0 = p.f1 then 1 else 0) + cntP t rest
theorem cntP_at (t : Int) (l : List S37) : ∀ i, (atFrom t i l).length = cntP t l := by
  induction l with
  | nil => intro i; rfl
  | cons p rest ih =>
    intro i
    rw [atFrom, cntP]
    by_cases h : Int.tmod t p.f0 = p.f1
    · rw [if_pos h, if_pos h, List.length_cons, ih]; omega
    · rw [if_neg h, if_neg h, ih]; omega
theorem cntP_snoc (t : Int) (p : S37) (l : List S37) : cntP t (l ++ [p]) = cntP t l + (if Int.tmod t p.f0 = p.f1 then 1 else 0) := by
  induction l with
  | nil => simp [cntP]
  | cons q rest ih => simp only [List.cons_append, cntP, ih]; omega
theorem cntP_le (t : Int) (l : List S37) : cntP t l ≤ l.length := by
  have := atFrom_len t l 0
  rw [cntP_at] at this
  exact this
def tab (P : Nat) (c : Nat → Int) : List Int := (List.range P).map c
theorem tab_length (P : Nat) (c : Nat → Int) : (tab P c).length = P := by simp [tab]
theorem tab_congr {P : Nat} {c c' : Nat → Int} (h : ∀ t, t < P → c t = c' t) : tab P c = tab P c' := by
  unfold tab
  exact List.map_congr_left fun t ht => h t (by simpa using ht)
theorem rd_tab {P : Nat} (c : Nat → Int) {i : Nat} (h : i < P) : rd (tab P c) (i : Int) = c i := by
  simp [rd, tab, h]
theorem set_tab {P : Nat} (c : Nat → Int) (i : Nat) (v : Int) : (tab P c).set i v = tab P (fun t => if t = i then v else c t) := by
  apply List.ext_getElem
  · simp [tab]
  · intro n h1 h2
    simp only [tab, List.length_map, List.length_range] at h2
    rw [List.getElem_set]
    by_cases h : i = n
    · subst h; simp [tab]
    · rw [if_neg h]
      have h' : ¬ n = i := fun e => h e.symm
      simp [tab, h']
theorem same_mod {E x t : Nat} (hE : 1 ≤ E) (h : t % E = x % E) (h1 : x ≤ t) (h2 : t < x + E) : t = x := by
  have a := Nat.div_add_mod t E
  have b := Nat.div_add_mod x E
  have hq : x / E = t / E := by
    refine Nat.le_antisymm (Nat.div_le_div_right h1) ?_
    refine Nat.le_of_not_lt fun hlt => ?_
    have : E * (x / E + 1) ≤ E * (t / E) := Nat.mul_le_mul_left _ hlt
    rw [Nat.mul_add, Nat.mul_one] at this
    omega
  rw [hq] at b
  omega
theorem replicate_tab (P : Nat) : List.replicate P (0 : Int) = tab P (fun t => (cntP (t : Int) [] : Nat)) := by
  apply List.ext_getElem
  · simp [tab]
  · intro n h1 h2
    simp [tab, cntP]
section
variable {P : Nat} (hP : P ≤ 100000)
include hP
theorem traced_l1 {p : S37} {E F : Nat} (hE : p.f0 = E) (hF : p.f1 = F) (hE1 : 1 ≤ E) (hE2 : E ≤ 60) (hFE : F < E) (pre : List S37) (h6 : pre.length ≤ 6) (whole : List S37) (x20 x21 : Int) (res : List Int × Bool) (d : Nat) : ∀ x : Nat, P + 100 - x = d → x % E = F →
    Ev (fun k => impl_traced.l0 k (tab P (fun t => (cntP (t : Int) (pre ++ [p]) : Nat))) whole x20 (wrap64 (x21 + 1))) res →
    Ev (fun k => impl_traced.l1 k (tab P (fun t => ((cntP (t : Int) pre + (if t < x ∧ t % E = F then 1 else 0) : Nat) : Int))) x whole x20 x21 p.f0 p.f1) res := by
  induction d using Nat.strongRecOn with
  | _ d ih =>
    intro x hd hx h
    have hlen := tab_length P (fun t => ((cntP (t : Int) pre + (if t < x ∧ t % E = F then 1 else 0) : Nat) : Int))
    have hmod : ∀ t : Nat, (Int.tmod (t : Int) p.f0 = p.f1) ↔ t % E = F := fun t => by
      rw [hE, hF]
      have e : Int.tmod (t : Int) (E : Int) = ((t % E : Nat) : Int) := rfl
      rw [e]
      exact ⟨fun h => by omega, fun h => by omega⟩
    by_cases hlt : x < P
    · have hrec := ih (P + 100 - (x + E)) (by omega) (x + E) rfl (by rw [Nat.add_mod_right]; exact hx) h
      refine Ev.step (f := fun k => impl_traced.l1 k (tab P (fun t => ((cntP (t : Int) pre + (if t < x + E ∧ t % E = F then 1 else 0) : Nat) : Int))) ((x + E : Nat) : Int) whole x20 x21 p.f0 p.f1) (fun k => ?_) hrec
      have hc := cntP_le (x : Int) pre
      have hrd : rd (tab P (fun t => ((cntP (t : Int) pre + (if t < x ∧ t % E = F then 1 else 0) : Nat) : Int))) (x : Int) = (cntP (x : Int) pre : Nat) := by
        rw [rd_tab _ hlt, if_neg (by omega)]
        rfl
      have hw : wrap64 (((cntP (x : Int) pre : Nat) : Int) + 1) = ((cntP (x : Int) pre + 1 : Nat) : Int) := by rw [w64 (by omega) (by omega)]; rfl
      have hx2 : wrap64 ((x : Int) + p.f0) = ((x + E : Nat) : Int) := by rw [hE, w64 (by omega) (by omega)]; rfl
      rw [impl_traced.l1, if_pos (by omega), if_pos (by omega), hrd, hw, Int.toNat_natCast, set_tab, hx2]
      have e : tab P (fun t => if t = x then ((cntP (x : Int) pre + 1 : Nat) : Int) else ((cntP (t : Int) pre + (if t < x ∧ t % E = F then 1 else 0) : Nat) : Int)) = tab P (fun t => ((cntP (t : Int) pre + (if t < x + E ∧ t % E = F then 1 else 0) : Nat) : Int)) := by
        refine tab_congr fun t ht => ?_
        by_cases htx : t = x
        · subst htx
          rw [if_pos rfl, if_pos ⟨by omega, hx⟩]
        · rw [if_neg htx]
          by_cases hm : t % E = F
          · by_cases hl : t < x
            · rw [if_pos ⟨hl, hm⟩, if_pos ⟨by omega, hm⟩]
            · have : ¬ t < x + E := fun hl2 => htx (same_mod hE1 (hm.trans hx.symm) (by omega) hl2)
              rw [if_neg (fun h => hl h.1), if_neg (fun h => this h.1)]
          · rw [if_neg (fun h => hm h.2), if_neg (fun h => hm h.2)]
      rw [e]
    · refine Ev.step (fun k => ?_) h
      rw [impl_traced.l1, if_neg (by omega)]
      have e : tab P (fun t => ((cntP (t : Int) pre + (if t < x ∧ t % E = F then 1 else 0) : Nat) : Int)) = tab P (fun t => ((cntP (t : Int) (pre ++ [p]) : Nat) : Int)) := by
        refine tab_congr fun t ht => ?_
        rw [cntP_snoc]
        by_cases hm : t % E = F
        · rw [if_pos ⟨by omega, hm⟩, if_pos ((hmod t).2 hm)]
        · rw [if_neg (fun h => hm h.2), if_neg (fun h => hm ((hmod t).1 h))]
      rw [e]
theorem traced_l0 (rest : List S37) : ∀ pre : List S37, (∀ p ∈ rest, 1 ≤ p.f0 ∧ p.f0 ≤ 60 ∧ 0 ≤ p.f1 ∧ p.f1 < p.f0) → pre.length + rest.length ≤ 6 →
    Ev (fun k => impl_traced.l0 k (tab P (fun t => (cntP (t : Int) pre : Nat))) (pre ++ rest) ((pre ++ rest).length : Int) pre.length) (tab P (fun t => (cntP (t : Int) (pre ++ rest) : Nat)), true) := by
  induction rest with
  | nil =>
    intro pre hp hl
    refine Ev.step (f := fun _ => some (tab P (fun t => ((cntP (t : Int) pre : Nat) : Int)), true)) (fun k => by rw [impl_traced.l0, if_neg (by simp)]) ?_
    rw [List.append_nil]
    exact Ev.now _
  | cons p rest ih =>
    intro pre hp hl
    simp only [List.length_cons] at hl
    have hlen : ((pre ++ p :: rest).length : Int) = pre.length + (rest.length + 1) := by simp
    obtain ⟨p1, p2, p3, p4⟩ := hp p (List.mem_cons_self ..)
    obtain ⟨E, hE⟩ := Int.eq_ofNat_of_zero_le (show 0 ≤ p.f0 by omega)
    obtain ⟨F, hF⟩ := Int.eq_ofNat_of_zero_le p3
    have hFE : F < E := by omega
    have hrec := ih (pre ++ [p]) (fun q hq => hp q (List.mem_cons_of_mem _ hq)) (by simp; omega)
    have ea : (pre ++ [p]) ++ rest = pre ++ p :: rest := by simp
    have el : (((pre ++ [p]).length : Nat) : Int) = (pre.length : Int) + 1 := by simp
    rw [ea, el] at hrec
    refine Ev.step (f := fun k => impl_traced.l1 k (tab P (fun t => ((cntP (t : Int) pre + (if t < F ∧ t % E = F then 1 else 0) : Nat) : Int))) (F : Int) (pre ++ p :: rest) ((pre ++ p :: rest).length : Int) pre.length p.f0 p.f1) (fun k => ?_) ?_
    · rw [impl_traced.l0, if_pos (by omega), if_pos (by omega), if_pos (by omega), rdP_mid]
      have e : tab P (fun t => ((cntP (t : Int) pre : Nat) : Int)) = tab P (fun t => ((cntP (t : Int) pre + (if t < F ∧ t % E = F then 1 else 0) : Nat) : Int)) := by
        refine tab_congr fun t ht => ?_
        rw [if_neg (fun h => by
          have := Nat.mod_eq_of_lt (show t < E by omega)
          omega)]
        rfl
      rw [e, hF]
    · refine traced_l1 hP hE hF (by omega) (by omega) hFE pre (by omega) _ _ _ _ (P + 100 - F) F rfl (Nat.mod_eq_of_lt hFE) ?_
      rw [w64 (by omega) (by omega)]
      exact hrec
end
def periodP (l : List S37) : Nat := periodN l 1
def tracedL (l : List S37) : List Int := tab (periodP l) (fun t => (cntP (t : Int) l : Nat))
def shortB (l : List S37) : Bool := pacesB l && decide (periodP l ≤ 100000)
theorem period_pos {l : List S37} (hp : ∀ p ∈ l, 1 ≤ p.f0 ∧ p.f0 ≤ 60 ∧ 0 ≤ p.f1 ∧ p.f1 < p.f0) : 1 ≤ periodP l := (period_bd l 1 hp (by omega)).1
theorem impl_traced_ok (l : List S37) (hl : l.length ≤ 10000000) : Ev (fun k => impl_traced.f k l) (if shortB l = true then (tracedL l, true) else ([], false)) := by
  have hi := impl_good l hl
  have no : ∀ x : Bool, x = true → Ev (fun k => impl_traced.j0 k l x) ([], false) := fun x hx =>
    Ev.step (f := fun _ => some (([] : List Int), false)) (fun k => by rw [impl_traced.j0, if_pos hx]) (Ev.now _)
  unfold impl_traced.f shortB
  by_cases hb : pacesB l = true
  · rw [hb] at hi ⊢
    obtain ⟨_, h6, hp⟩ := pacesB_mem hb
    refine Ev.bind hi ?_
    simp only [if_true, Bool.true_and]
    refine Ev.bind (impl_period h6 hp) ?_
    by_cases hs : periodP l ≤ 100000
    · rw [if_pos (decide_eq_true hs)]
      have hgt : ¬ (((periodN l 1 : Nat) : Int) > 100000) := by unfold periodP at hs; omega
      refine Ev.step (f := fun k => (impl_periodOf.f k l).bind fun t154 => (if 0 ≤ t154 then (if (t154 : Int).toNat ≤ 35184372088832 then (impl_traced.l0 k (List.replicate (t154 : Int).toNat 0) l (l.length : Int) 0) else (none)) else (none))) (fun k => by rw [impl_traced.j0, if_neg (by simpa using hgt)]) ?_
      refine Ev.bind (impl_period h6 hp) ?_
      have a1 : (0 : Int) ≤ ((periodN l 1 : Nat) : Int) := by omega
      have a2 : (((periodN l 1 : Nat) : Int)).toNat ≤ 35184372088832 := by unfold periodP at hs; simp; omega
      refine Ev.congr (fun k => (if_pos a1).trans (if_pos a2)) ?_
      have := traced_l0 hs l [] hp (by simpa using h6)
      rw [Int.toNat_natCast, replicate_tab]
      simpa [tracedL, periodP] using this
    · rw [if_neg (by simpa using hs)]
      exact no _ (decide_eq_true (by unfold periodP at hs; omega))
  · have hb' : pacesB l = false := by simpa using hb
    rw [hb'] at hi ⊢
    refine Ev.bind hi ?_
    simp only [Bool.false_eq_true, if_false, Bool.false_and]
    exact no _ rfl
theorem spec_short (l : List S37) (hl : l.length ≤ 10000000) : Ev (fun k => spec_spShort.f k l) (shortB l) := by
  have hs := spec_good l hl
  unfold spec_spShort.f shortB
  by_cases hb : pacesB l = true
  · rw [hb] at hs ⊢
    obtain ⟨_, h6, hp⟩ := pacesB_mem hb
    refine Ev.bind hs ?_
    simp only [if_true, Bool.true_and]
    refine Ev.bind (spec_period h6 hp) ?_
    have e : decide (((periodN l 1 : Nat) : Int) ≤ 100000) = decide (periodP l ≤ 100000) := decide_eq_decide.2 (by unfold periodP; omega)
    rw [e]
    exact Ev.now _
  · have hb' : pacesB l = false := by simpa using hb
    rw [hb'] at hs ⊢
    exact Ev.bind hs (Ev.now _)
theorem shortB_mem {l : List S37} (h : shortB l = true) : pacesB l = true ∧ periodP l ≤ 100000 := by
  unfold shortB at h
  simp only [Bool.and_eq_true, decide_eq_true_eq] at h
  exact h
theorem rd_traced {l : List S37} {i : Nat} (h : i < periodP l) : rd (tracedL l) i = (cntP (i : Int) l : Nat) := rd_tab _ h
theorem traced_len (l : List S37) : (tracedL l).length = periodP l := tab_length _ _
theorem periodN_dvd (rest : List S37) : ∀ s : Nat, s ∣ periodN rest s ∧ ∀ p ∈ rest, p.f0.toNat ∣ periodN rest s := by
  induction rest with
  | nil => intro s; exact ⟨Nat.dvd_refl _, fun p hp => by cases hp⟩
  | cons q rest ih =>
    intro s
    obtain ⟨i1, i2⟩ := ih (Nat.lcm s q.f0.toNat)
    rw [periodN]
    refine ⟨Nat.dvd_trans (Nat.dvd_lcm_left _ _) i1, fun p hp => ?_⟩
    rcases List.mem_cons.1 hp with rfl | hp
    · exact Nat.dvd_trans (Nat.dvd_lcm_right _ _) i1
    · exact i2 p hp
theorem cntP_shift (P t : Nat) : ∀ l : List S37, (∀ p ∈ l, 1 ≤ p.f0 ∧ p.f0 ≤ 60 ∧ 0 ≤ p.f1 ∧ p.f1 < p.f0) → (∀ p ∈ l, p.f0.toNat ∣ P) → cntP ((t + P : Nat) : Int) l = cntP (t : Int) l := by
  intro l
  induction l with
  | nil => intro _ _; rfl
  | cons p l ih =>
    intro h hd
    have hp := h p (by simp)
    obtain ⟨E, hE⟩ : ∃ E : Nat, p.f0 = E := ⟨p.f0.toNat, by omega⟩
    have hdv := hd p (by simp)
    rw [hE, Int.toNat_natCast] at hdv
    obtain ⟨q, hq⟩ := hdv
    rw [cntP, cntP, ih (fun x hx => h x (by simp [hx])) (fun x hx => hd x (by simp [hx])), hE]
    have e1 : Int.tmod ((t + P : Nat) : Int) (E : Int) = (((t + P) % E : Nat) : Int) := rfl
    have e2 : Int.tmod ((t : Nat) : Int) (E : Int) = ((t % E : Nat) : Int) := rfl
    rw [e1, e2, hq, Nat.add_mul_mod_self_left]
theorem most_eq (a b : Int) : spec_l1Most.f a b = some (mx a b) := by
  unfold spec_l1Most.f mx
  by_cases h : a < b
  · rw [if_neg (by omega), if_pos h]
  · by_cases h2 : a > b
    · rw [if_pos h2, if_neg h]
    · rw [if_neg h2, if_neg h]
      congr 1
      omega
theorem mx_range (a b : Int) (c : Int) (h0 : 0 ≤ a) (h1 : a ≤ c) (h2 : b ≤ c) : 0 ≤ mx a b ∧ mx a b ≤ c := by
  unfold mx
  split <;> omega
theorem mx_zero (a : Int) (h0 : 0 ≤ a) : mx a 0 = a := by
  unfold mx
  rw [if_neg (by omega)]
theorem rd_two {l : List S37} (hp : ∀ p ∈ l, 1 ≤ p.f0 ∧ p.f0 ≤ 60 ∧ 0 ≤ p.f1 ∧ p.f1 < p.f0) (i : Nat) (h : i < 2 * periodP l) : rd (tracedL l ++ tracedL l) (i : Int) = ((cntP (i : Int) l : Nat) : Int) := by
  have htl := traced_len l
  have hr : ∀ j : Nat, rd (tracedL l) (j : Int) = (tracedL l).getD j 0 := fun j => by simp [rd]
  have e0 : rd (tracedL l ++ tracedL l) (i : Int) = (tracedL l ++ tracedL l).getD i 0 := by simp [rd]
  rw [e0, List.getD_eq_getElem?_getD]
  by_cases c : i < periodP l
  · rw [List.getElem?_append_left (by omega), ← List.getD_eq_getElem?_getD, ← hr, rd_traced c]
  · rw [List.getElem?_append_right (by omega), ← List.getD_eq_getElem?_getD, ← hr, htl, rd_traced (by omega)]
    obtain ⟨j, rfl⟩ : ∃ j, i = j + periodP l := ⟨i - periodP l, by omega⟩
    rw [Nat.add_sub_cancel, cntP_shift (periodP l) j l hp (periodN_dvd l 1).2]
theorem w64s (i : Nat) (h : i ≤ 1000000000) : wrap64 ((i : Int) + 1) = ((i + 1 : Nat) : Int) := by rw [w64 (by omega) (by omega)]; rfl
theorem silence_l0 {l : List S37} (h6 : l.length ≤ 6) (hp : ∀ p ∈ l, 1 ≤ p.f0 ∧ p.f0 ≤ 60 ∧ 0 ≤ p.f1 ∧ p.f1 < p.f0) (hP : periodP l ≤ 100000) (d : Nat) : ∀ (i : Nat) (m n : Int), i + d = 2 * periodP l → 0 ≤ m → m ≤ i → 0 ≤ n → n ≤ i →
    ∃ r : Int × Bool, Ev (fun k => spec_LongestSilence.l0 k l m n i) r ∧ Ev (fun k => impl_LongestSilence.l0 k m n (tracedL l ++ tracedL l) ((tracedL l ++ tracedL l).length : Int) i) r := by
  have hper := spec_period h6 hp
  have htl := traced_len l
  have hlen : (tracedL l ++ tracedL l).length = 2 * periodP l := by rw [List.length_append, htl]; omega
  have hw2 : wrap64 (2 * ((periodN l 1 : Nat) : Int)) = 2 * ((periodP l : Nat) : Int) := by
    have : ((periodN l 1 : Nat) : Int) = ((periodP l : Nat) : Int) := rfl
    rw [this, w64 (by omega) (by omega)]
  have H2 : (fun _ : Unit => wrap64 (2 * ((periodN l 1 : Nat) : Int))) () = 2 * ((periodP l : Nat) : Int) := hw2
  clear hw2
  induction d with
  | zero =>
    intro i m n hi m0 m1 n0 n1
    refine ⟨(m, true), ?_, Ev.step (f := fun _ => some (m, true)) (fun k => by rw [impl_LongestSilence.l0, if_neg (by omega)]) (Ev.now _)⟩
    refine Ev.step (fun k => by rw [spec_LongestSilence.l0]) (Ev.bind hper (Ev.congr (f := fun _ => some (m, true)) (fun k => ?_) (Ev.now _)))
    have H2' : wrap64 (2 * ((periodN l 1 : Nat) : Int)) = 2 * ((periodP l : Nat) : Int) := H2
    rw [H2']
    clear H2'
    exact if_neg (by omega)
  | succ d ih =>
    intro i m n hi m0 m1 n0 n1
    have hil : i < 2 * periodP l := by omega
    have hrd := rd_two hp i hil
    have hcn := cntP_at (i : Int) l 0
    have es : ∀ r, Ev (fun k => if ((cntP (i : Int) l : Nat) : Int) > 0 then spec_LongestSilence.l0 k l m 0 ((i + 1 : Nat) : Int) else spec_LongestSilence.l0 k l (mx m (n + 1)) (n + 1) ((i + 1 : Nat) : Int)) r → Ev (fun k => spec_LongestSilence.l0 k l m n i) r := fun r h => by
      refine Ev.step (fun k => by rw [spec_LongestSilence.l0]) (Ev.bind hper (Ev.congr (f := fun k => (spec_spAt.f k l i).bind fun t135 => (if (t135.length : Int) > 0 then (spec_LongestSilence.l0 k l m 0 (wrap64 ((i : Int) + 1))) else ((spec_l1Most.f m (wrap64 (n + 1))).bind fun t138 => (spec_LongestSilence.l0 k l t138 (wrap64 (n + 1)) (wrap64 ((i : Int) + 1)))))) (fun k => ?_) ?_))
      · have H2' : wrap64 (2 * ((periodN l 1 : Nat) : Int)) = 2 * ((periodP l : Nat) : Int) := H2
        rw [H2']
        clear H2'
        exact if_pos (by omega)
      · refine Ev.bind (spec_at (i : Int) h6 hp) ?_
        rw [hcn, w64s i (by omega), w64 (x := n + 1) (by omega) (by omega), most_eq]
        exact h
    have ei : ∀ r, Ev (fun k => if ((cntP (i : Int) l : Nat) : Int) > 0 then impl_LongestSilence.l0 k m 0 (tracedL l ++ tracedL l) ((tracedL l ++ tracedL l).length : Int) ((i + 1 : Nat) : Int) else impl_LongestSilence.l0 k (mx m (n + 1)) (n + 1) (tracedL l ++ tracedL l) ((tracedL l ++ tracedL l).length : Int) ((i + 1 : Nat) : Int)) r → Ev (fun k => impl_LongestSilence.l0 k m n (tracedL l ++ tracedL l) ((tracedL l ++ tracedL l).length : Int) i) r := fun r h => by
      refine Ev.step (fun k => ?_) h
      rw [impl_LongestSilence.l0, if_pos (by omega), if_pos (by omega), if_pos (by omega), hrd, w64s i (by omega), w64 (x := n + 1) (by omega) (by omega), mx_zero m m0]
    by_cases c : ((cntP (i : Int) l : Nat) : Int) > 0
    · obtain ⟨r, a, b⟩ := ih (i + 1) m 0 (by omega) m0 (by omega) (by omega) (by omega)
      exact ⟨r, es r (Ev.congr (fun k => if_pos c) a), ei r (Ev.congr (fun k => if_pos c) b)⟩
    · have hm := mx_range m (n + 1) ((i + 1 : Nat) : Int) m0 (by omega) (by omega)
      obtain ⟨r, a, b⟩ := ih (i + 1) (mx m (n + 1)) (n + 1) (by omega) hm.1 hm.2 (by omega) (by omega)
      exact ⟨r, es r (Ev.congr (fun k => if_neg c) a), ei r (Ev.congr (fun k => if_neg c) b)⟩
theorem concat_ok (L : List Int) (hL : L.length ≤ 1000000) : Ev (fun k => slices_Concat_int_int.f k [L, L]) (L ++ L) := by
  have r0 : rd_L3 [L, L] ((0 : Nat) : Int) = L := rfl
  have r1 : rd_L3 [L, L] ((1 : Nat) : Int) = L := rfl
  unfold slices_Concat_int_int.f
  have hlen : (([L, L] : List (List Int)).length : Int) = 2 := rfl
  have w1 : wrap64 (0 + (L.length : Int)) = L.length := by rw [w64 (by omega) (by omega)]; omega
  have w2 : wrap64 ((L.length : Int) + (L.length : Int)) = ((L.length + L.length : Nat) : Int) := by rw [w64 (by omega) (by omega)]; rfl
  refine Ev.step (f := fun k => slices_Concat_int_int.l0 k [L, L] (L.length : Int) [L, L] 2 ((1 : Nat) : Int)) (fun k => ?_) ?_
  · rw [hlen, show (0 : Int) = ((0 : Nat) : Int) from rfl, slices_Concat_int_int.l0, if_pos (by omega), if_pos (by omega), if_pos (by rw [hlen]; omega), r0, show ((0 : Nat) : Int) = 0 from rfl, w1, if_neg (by omega), show wrap64 (0 + 1) = ((1 : Nat) : Int) from w64s 0 (by omega)]
  refine Ev.step (f := fun k => slices_Concat_int_int.l0 k [L, L] ((L.length + L.length : Nat) : Int) [L, L] 2 ((2 : Nat) : Int)) (fun k => ?_) ?_
  · rw [slices_Concat_int_int.l0, if_pos (by omega), if_pos (by omega), if_pos (by rw [hlen]; omega), r1, w2, if_neg (by omega), show wrap64 (((1 : Nat) : Int) + 1) = ((2 : Nat) : Int) from w64s 1 (by omega)]
  have hg : slices_Grow_int_int.f ((L.length + L.length : Nat) : Int) = some [] := by
    unfold slices_Grow_int_int.f
    rw [if_pos (by omega)]
  refine Ev.step (f := fun k => slices_Concat_int_int.l1 k [] [L, L] 2 ((0 : Nat) : Int)) (fun k => ?_) ?_
  · rw [slices_Concat_int_int.l0, if_neg (by omega), hg]
    rfl
  refine Ev.step (f := fun k => slices_Concat_int_int.l1 k L [L, L] 2 ((1 : Nat) : Int)) (fun k => ?_) ?_
  · rw [slices_Concat_int_int.l1, if_pos (by omega), if_pos (by omega), if_pos (by rw [hlen]; omega), r0, if_pos (by simp only [List.length_nil]; omega), List.nil_append, show wrap64 (((0 : Nat) : Int) + 1) = ((1 : Nat) : Int) from w64s 0 (by omega)]
  refine Ev.step (f := fun k => slices_Concat_int_int.l1 k (L ++ L) [L, L] 2 ((2 : Nat) : Int)) (fun k => ?_) ?_
  · rw [slices_Concat_int_int.l1, if_pos (by omega), if_pos (by omega), if_pos (by rw [hlen]; omega), r1, if_pos (by omega), show wrap64 (((1 : Nat) : Int) + 1) = ((2 : Nat) : Int) from w64s 1 (by omega)]
  exact Ev.step (f := fun _ => some (L ++ L)) (fun k => by rw [slices_Concat_int_int.l1, if_neg (by omega)]) (Ev.now _)
theorem both (l : List S37) (hl : l.length ≤ 10000000) : ∃ r, Ev (fun k => spec_LongestSilence.f k l) r ∧ Ev (fun k => impl_LongestSilence.f k l) r := by
  have hs := spec_short l hl
  have hi := impl_traced_ok l hl
  unfold spec_LongestSilence.f impl_LongestSilence.f
  by_cases hb : shortB l = true
  · rw [hb] at hs
    rw [if_pos hb] at hi
    obtain ⟨hg, hP⟩ := shortB_mem hb
    obtain ⟨_, h6, hp⟩ := pacesB_mem hg
    obtain ⟨r, a, b⟩ := silence_l0 h6 hp hP (2 * periodP l) 0 0 0 (by omega) (by omega) (by omega) (by omega) (by omega)
    have htl := traced_len l
    refine ⟨r, Ev.bind hs ?_, Ev.bind hi ?_⟩
    · exact Ev.congr (fun k => if_pos rfl) a
    · exact Ev.congr (fun k => if_pos rfl) (Ev.bind (concat_ok (tracedL l) (by omega)) b)
  · have hb' : shortB l = false := by simpa using hb
    rw [hb'] at hs
    rw [if_neg hb] at hi
    exact ⟨(0, false), Ev.bind hs (Ev.now _), Ev.bind hi (Ev.now _)⟩
theorem FnExactLongestSilence : ∀ (l0 : List S39), l0.length ≤ maxLen → (∀ z ∈ l0, (Lit.int .i64 z.f0).wf = true ∧ (Lit.int .i64 z.f1).wf = true) → ∃ k, laws_FnExactLongestSilence.f k l0 = some true := by
  intro l0 m0 w0
  unfold maxLen at m0
  refine Ev.rounds (r := true) ?_
  unfold laws_FnExactLongestSilence.f
  rw [szPace_eq l0 m0]
  simp only [Option.bind_some]
  by_cases h : (1048576 - (l0.length : Int)) < 0
  · rw [if_pos h]; exact Ev.now _
  rw [if_neg h]
  refine Ev.congr (fun k => if_neg h) ?_
  have t0 := toPace_ok l0 (by omega)
  have hl : (l0.map convP).length ≤ 10000000 := by rw [List.length_map]; omega
  obtain ⟨r, hs, hi⟩ := both _ hl
  refine Ev.bind t0 (Ev.bind hs (Ev.bind t0 (Ev.bind hi ?_)))
  simp only [if_true, bne_self_eq_false]
  refine Ev.step (fun k => by rw [laws_FnExactLongestSilence.j0, if_neg (by decide)]) ?_
  refine Ev.bind t0 (Ev.bind (eqPace_self _ (by omega)) ?_)
  simp only [if_true]
  exact Ev.now _

end Go.Proofs.Ytpnmmjhhnfacfaa.Pure
