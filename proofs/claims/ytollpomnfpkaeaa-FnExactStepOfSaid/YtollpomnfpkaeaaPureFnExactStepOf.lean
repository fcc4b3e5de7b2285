/- For every list of numbers, the program's StepOf answers what the reference's does, and leaves its argument alone. -/
import Derived.Test.YtollpomnfpkaeaaPFnExactStepOfx2
namespace Go.Proofs.Ytollpomnfpkaeaa.Pure
open Go.RowKit Go.Proofs.Ytollpomnfpkaeaa.PFnExactStepOf Go.Proofs.YtollpomnfpkaeaaW.PrintWords Go.Proofs.YtollpomnfpkaeaaW.PrintLast
set_option linter.unusedVariables false
set_option linter.unusedSimpArgs false

theorem w64 {x : Int} (h1 : -9223372036854775808 ≤ x) (h2 : x ≤ 9223372036854775807) : wrap64 x = x := by
  unfold wrap64
  omega
theorem wf_lo {a : Int} (h : (Lit.int .i64 a).wf = true) : -9223372036854775808 ≤ a := by
  have h' : IntKind.i64.min ≤ a ∧ a ≤ IntKind.i64.max := by simpa [Lit.wf] using h
  have e : IntKind.i64.min = -9223372036854775808 := by decide
  omega
theorem wf_hi {a : Int} (h : (Lit.int .i64 a).wf = true) : a ≤ 9223372036854775807 := by
  have h' : IntKind.i64.min ≤ a ∧ a ≤ IntKind.i64.max := by simpa [Lit.wf] using h
  have e : IntKind.i64.max = 9223372036854775807 := by decide
  omega
theorem ev_congr_fun {α : Type} {g f : Nat → Option α} {r : α} (h : g = f) (k : Ev f r) : Ev g r := h ▸ k
theorem rd_mid (pre : List Int) (x : Int) (rest : List Int) : rd (pre ++ x :: rest) (pre.length : Int) = x := by
  simp [rd]
theorem eqIntS_l0 (l : List Int) (hl : l.length ≤ 1000000000000000000) (d : Nat) : ∀ i : Int, 0 ≤ i → (l.length : Int) - i = d → Ev (fun k => laws_eqIntS.l0 k l l i) true := by
  induction d with
  | zero =>
    intro i h0 hd
    exact Ev.step (f := fun _ => some true) (fun k => by rw [laws_eqIntS.l0]; rw [if_neg (by omega)]) (Ev.now _)
  | succ d ih =>
    intro i h0 hd
    refine Ev.step (f := fun k => laws_eqIntS.l0 k l l (i + 1)) (fun k => ?_) (ih (i + 1) (by omega) (by omega))
    rw [laws_eqIntS.l0]
    rw [if_pos (by omega), if_pos h0, if_pos (by omega), if_pos rfl, w64 (by omega) (by omega)]
theorem eqIntS_self (l : List Int) (hl : l.length ≤ 1000000000000000000) : Ev (fun k => laws_eqIntS.f k l l) true :=
  Ev.congr (fun k => by unfold laws_eqIntS.f; rw [if_pos rfl]) (eqIntS_l0 l hl l.length 0 (by omega) (by omega))
theorem toInt_l0 (rest : List Int) : ∀ (pre : List Int), pre.length + rest.length ≤ 100000000 →
    Ev (fun k => laws_toIntS.l0 k (pre ++ rest) (pre ++ List.replicate rest.length 0) pre.length) (pre ++ rest) := by
  induction rest with
  | nil =>
    intro pre hl
    exact Ev.step (f := fun _ => some pre) (fun k => by rw [laws_toIntS.l0]; rw [if_neg (by simp)]; simp) (by simpa using Ev.now pre)
  | cons x rest ih =>
    intro pre hl
    simp only [List.length_cons] at hl
    refine Ev.step (f := fun k => laws_toIntS.l0 k ((pre ++ [x]) ++ rest) ((pre ++ [x]) ++ List.replicate rest.length 0) ((pre ++ [x]).length : Nat)) (fun k => ?_) ?_
    · rw [laws_toIntS.l0]
      rw [if_pos (by simp; omega), if_pos (by omega), if_pos (by simp; omega), rd_mid, w64 (by omega) (by omega)]
      simp [List.replicate_succ]
    · have := ih (pre ++ [x]) (by simp; omega)
      simpa using this
theorem toInt_ok (l : List Int) (hl : l.length ≤ 100000000) : Ev (fun k => laws_toIntS.f k l) l := by
  have := toInt_l0 l [] (by simpa using hl)
  refine Ev.congr (fun k => ?_) (by simpa using this)
  unfold laws_toIntS.f
  rw [if_pos (by omega), if_pos (by simp; omega)]
  simp
def okc (c : Int) : Bool := decide (1 ≤ c) && decide (c ≤ 1000)
theorem l1In_eq (a b c : Int) : spec_l1In.f a b c = some (decide (b ≤ a) && decide (a ≤ c)) := by
  unfold spec_l1In.f
  by_cases h : b ≤ a
  · rw [if_pos h]; simp [h]
  · rw [if_neg (show ¬ a ≥ b from h)]; simp [h]
theorem in_eq (a b c : Int) : impl_in.f a b c = some (decide (b ≤ a) && decide (a ≤ c)) := by
  unfold impl_in.f
  by_cases h : b ≤ a
  · rw [if_pos h]; simp [h]
  · rw [if_neg h]; simp [h]
theorem l1All_l0 (rest : List Int) : ∀ pre : List Int, pre.length + rest.length ≤ 100000000 →
    Ev (fun k => spec_l1All.l0 k 1 1000 (pre ++ rest) ((pre ++ rest).length : Int) pre.length) (rest.all okc) := by
  induction rest with
  | nil =>
    intro pre hl
    exact Ev.step (f := fun _ => some true) (fun k => by rw [spec_l1All.l0, if_neg (by simp)]) (by simpa using Ev.now true)
  | cons x rest ih =>
    intro pre hl
    simp only [List.length_cons] at hl
    have hlen : ((pre ++ x :: rest).length : Int) = pre.length + (rest.length + 1) := by simp
    by_cases hx : okc x = true
    · have hin : spec_l1In.f x 1 1000 = some true := by rw [l1In_eq]; exact congrArg some hx
      refine Ev.step (f := fun k => spec_l1All.l0 k 1 1000 ((pre ++ [x]) ++ rest) (((pre ++ [x]) ++ rest).length : Int) ((pre ++ [x]).length : Nat)) (fun k => ?_) ?_
      · rw [spec_l1All.l0, if_pos (by omega), if_pos (by omega), if_pos (by omega), rd_mid, hin]
        simp only [Option.bind_some, if_true]
        rw [w64 (by omega) (by omega)]
        simp
      · have := ih (pre ++ [x]) (by simp; omega)
        simpa [hx] using this
    · have hx' : okc x = false := by simpa using hx
      have hin : spec_l1In.f x 1 1000 = some false := by rw [l1In_eq]; exact congrArg some hx'
      refine Ev.step (f := fun _ => some false) (fun k => ?_) (by simpa [hx'] using Ev.now false)
      rw [spec_l1All.l0, if_pos (by omega), if_pos (by omega), if_pos (by omega), rd_mid, hin]
      simp
theorem index_l0 (rest : List Int) : ∀ pre : List Int, pre.length + rest.length ≤ 100000000 →
    ∃ r : Int, Ev (fun k => slices_IndexFunc_int_int.l0 k (pre ++ rest) ((pre ++ rest).length : Int) pre.length) r ∧ (decide (r ≥ 0) = !(rest.all okc)) := by
  induction rest with
  | nil =>
    intro pre hl
    exact ⟨-1, Ev.step (f := fun _ => some (-1)) (fun k => by rw [slices_IndexFunc_int_int.l0, if_neg (by simp)]) (Ev.now _), by simp⟩
  | cons x rest ih =>
    intro pre hl
    simp only [List.length_cons] at hl
    have hlen : ((pre ++ x :: rest).length : Int) = pre.length + (rest.length + 1) := by simp
    by_cases hx : okc x = true
    · have hin : impl_areColumns_1.f x = some false := by
        unfold impl_areColumns_1.f
        rw [in_eq]
        unfold okc at hx
        simp only [Option.bind_some, hx, Bool.not_true]
      obtain ⟨r, hr, hd⟩ := ih (pre ++ [x]) (by simp; omega)
      refine ⟨r, Ev.step (f := fun k => slices_IndexFunc_int_int.l0 k ((pre ++ [x]) ++ rest) (((pre ++ [x]) ++ rest).length : Int) ((pre ++ [x]).length : Nat)) (fun k => ?_) hr, by rw [hd]; simp [hx]⟩
      rw [slices_IndexFunc_int_int.l0, if_pos (by omega), if_pos (by omega), if_pos (by omega), rd_mid, hin]
      simp only [Option.bind_some]
      rw [if_neg (by decide), w64 (by omega) (by omega)]
      simp
    · have hx' : okc x = false := by simpa using hx
      have hin : impl_areColumns_1.f x = some true := by
        unfold impl_areColumns_1.f
        rw [in_eq]
        unfold okc at hx'
        simp only [Option.bind_some, hx', Bool.not_false]
      refine ⟨pre.length, Ev.step (f := fun _ => some (pre.length : Int)) (fun k => ?_) (Ev.now _), by simp [hx']⟩
      rw [slices_IndexFunc_int_int.l0, if_pos (by omega), if_pos (by omega), if_pos (by omega), rd_mid, hin]
      simp
def colsB (l : List Int) : Bool := (decide (1 ≤ l.length) && decide (l.length ≤ 6)) && l.all okc
theorem cast_len (l : List Int) : (decide ((1 : Int) ≤ (l.length : Int)) && decide ((l.length : Int) ≤ 6)) = (decide (1 ≤ l.length) && decide (l.length ≤ 6)) := by
  congr 1 <;> exact decide_eq_decide.2 (by omega)
theorem spec_cols (l : List Int) (hl : l.length ≤ 10000000) : Ev (fun k => spec_foColumns.f k l) (colsB l) := by
  have h1 := l1All_l0 l [] (by simp; omega)
  simp only [List.nil_append, List.length_nil] at h1
  unfold spec_foColumns.f colsB
  rw [l1In_eq, cast_len]
  simp only [Option.bind_some]
  by_cases h : (decide (1 ≤ l.length) && decide (l.length ≤ 6)) = true
  · rw [h]
    simp only [if_true, Bool.true_and]
    exact Ev.bind (g := fun k => spec_l1All.f k l 1 1000) (f := fun _ t => some t) h1 (Ev.now _)
  · have h' : (decide (1 ≤ l.length) && decide (l.length ≤ 6)) = false := by simpa using h
    rw [h']
    simpa using Ev.now false
theorem impl_cols (l : List Int) (hl : l.length ≤ 10000000) : Ev (fun k => impl_areColumns.f k l) (colsB l) := by
  obtain ⟨r, h1, hd⟩ := index_l0 l [] (by simp; omega)
  simp only [List.nil_append, List.length_nil] at h1
  unfold impl_areColumns.f colsB
  rw [in_eq, cast_len]
  simp only [Option.bind_some]
  by_cases h : (decide (1 ≤ l.length) && decide (l.length ≤ 6)) = true
  · rw [h]
    simp only [if_true, Bool.true_and]
    have h2 : Ev (fun k => slices_ContainsFunc_int_int.f k l) (!(l.all okc)) := by
      unfold slices_ContainsFunc_int_int.f
      rw [← hd]
      exact Ev.bind (g := fun k => slices_IndexFunc_int_int.f k l) (f := fun _ t => some (decide (t ≥ 0))) h1 (Ev.now _)
    have h3 := Ev.bind (f := fun _ t => some (!t)) h2 (Ev.now _)
    simpa using h3
  · have h' : (decide (1 ≤ l.length) && decide (l.length ≤ 6)) = false := by simpa using h
    rw [h']
    simpa using Ev.now false
theorem colsB_mem {l : List Int} (h : colsB l = true) : 1 ≤ l.length ∧ l.length ≤ 6 ∧ ∀ c ∈ l, 1 ≤ c ∧ c ≤ 1000 := by
  unfold colsB at h
  simp only [Bool.and_eq_true, decide_eq_true_eq, List.all_eq_true] at h
  refine ⟨h.1.1, h.1.2, fun c hc => ?_⟩
  have := h.2 c hc
  unfold okc at this
  simpa using this
def firstK (p : Nat → Bool) : Nat → Nat → Option Nat
  | 0, _ => none
  | f + 1, j => if p j then some j else firstK p f (j + 1)
theorem firstK_some {p : Nat → Bool} {r : Nat} (f : Nat) : ∀ j, firstK p f j = some r → j ≤ r ∧ r < j + f ∧ p r = true ∧ ∀ e, j ≤ e → e < r → p e = false := by
  induction f with
  | zero => intro j h; cases h
  | succ f ih =>
    intro j h
    rw [firstK] at h
    by_cases hp : p j = true
    · rw [if_pos hp] at h
      injection h with h
      subst h
      exact ⟨Nat.le_refl _, by omega, hp, fun e h1 h2 => by omega⟩
    · rw [if_neg hp] at h
      obtain ⟨h1, h2, h3, h4⟩ := ih _ h
      refine ⟨by omega, by omega, h3, fun e he1 he2 => ?_⟩
      by_cases hej : e = j
      · subst hej; simpa using hp
      · exact h4 e (by omega) he2
theorem firstK_none {p : Nat → Bool} (f : Nat) : ∀ j, firstK p f j = none → ∀ e, j ≤ e → e < j + f → p e = false := by
  induction f with
  | zero => intro j h e h1 h2; omega
  | succ f ih =>
    intro j h e h1 h2
    rw [firstK] at h
    by_cases hp : p j = true
    · rw [if_pos hp] at h; cases h
    · rw [if_neg hp] at h
      by_cases hej : e = j
      · subst hej; simpa using hp
      · exact ih _ h e (by omega) (by omega)
def fits (left : List Int) (i c n step : Nat) (j : Nat) : Bool := decide ((((n + j * step) % c : Nat) : Int) = rd left i)
def goL (left : List Int) : Nat → List Int → Nat → Nat → Option (Nat × Nat)
  | _, [], n, step => some (n, step)
  | i, c :: rest, n, step =>
    match firstK (fits left i c.toNat n step) c.toNat 0 with
    | none => none
    | some j => goL left (i + 1) rest (n + j * step) (Nat.lcm step c.toNat)
def trip : Option (Nat × Nat) → Int × Int × Bool
  | none => (0, 0, false)
  | some (n, step) => ((n : Int), (step : Int), true)
def W : Nat → Nat
  | 0 => 0
  | d + 1 => 1000 * (1 + W d)
theorem lcm_a (t d : Nat) : t / Nat.gcd t d * d = Nat.lcm t d := by
  rw [Nat.lcm, Nat.mul_comm, ← Nat.mul_div_assoc _ (Nat.gcd_dvd_left t d), Nat.mul_comm d t]
theorem lcm_b (t d : Nat) : t * (d / Nat.gcd t d) = Nat.lcm t d := by
  rw [Nat.lcm, Nat.mul_div_assoc _ (Nat.gcd_dvd_right t d)]
theorem lcm_le (t d : Nat) : Nat.lcm t d ≤ t * d := Nat.div_le_self _ _
theorem W_le (d : Nat) (h : d ≤ 6) : W d ≤ 1001001001001001000 := by
  have : d = 0 ∨ d = 1 ∨ d = 2 ∨ d = 3 ∨ d = 4 ∨ d = 5 ∨ d = 6 := by omega
  rcases this with rfl | rfl | rfl | rfl | rfl | rfl | rfl <;> decide
theorem goL_bound (left : List Int) (rest : List Int) : ∀ (i n step : Nat), (∀ c ∈ rest, 1 ≤ c ∧ c ≤ 1000) → rest.length ≤ 6 → 1 ≤ step → step * 1000 ^ rest.length ≤ 1000000000000000000 → n + W rest.length * step ≤ 1001001001001001000 → ∀ m s, goL left i rest n step = some (m, s) → 1 ≤ s ∧ s ≤ 1000000000000000000 ∧ m ≤ 1001001001001001000 := by
  induction rest with
  | nil =>
    intro i n step hc hl hs hp hb m s h
    simp only [goL, Option.some.injEq, Prod.mk.injEq] at h
    obtain ⟨rfl, rfl⟩ := h
    simp at hp
    exact ⟨hs, hp, by omega⟩
  | cons x rest ih =>
    intro i n step hc hl hs hp hb m s h
    obtain ⟨hx1, hx2⟩ := hc x (List.mem_cons_self ..)
    obtain ⟨c, rfl⟩ := Int.eq_ofNat_of_zero_le (show 0 ≤ x by omega)
    simp only [List.length_cons] at hl hb hp
    rw [W, Nat.mul_assoc, Nat.add_mul, Nat.one_mul, Nat.mul_add] at hb
    simp only [goL, Int.toNat_natCast] at h
    cases hf : firstK (fits left i c n step) c 0 with
    | none => simp only [hf] at h; cases h
    | some j =>
      simp only [hf] at h
      obtain ⟨_, hj, _, _⟩ := firstK_some c 0 hf
      have hjs : j * step ≤ 1000 * step := Nat.mul_le_mul_right _ (by omega)
      have hlc : Nat.lcm step c ≤ 1000 * step := Nat.le_trans (lcm_le step c) (by rw [Nat.mul_comm]; exact Nat.mul_le_mul_right _ (by omega))
      have hlp : 1 ≤ Nat.lcm step c := Nat.lcm_pos (by omega) (by omega)
      have hwl : W rest.length * Nat.lcm step c ≤ W rest.length * (1000 * step) := Nat.mul_le_mul_left _ hlc
      have hcm : W rest.length * (1000 * step) = 1000 * (W rest.length * step) := Nat.mul_left_comm _ _ _
      have hpw : Nat.lcm step c * 1000 ^ rest.length ≤ 1000 * step * 1000 ^ rest.length := Nat.mul_le_mul_right _ hlc
      have hpe : 1000 * step * 1000 ^ rest.length = step * 1000 ^ (rest.length + 1) := by rw [Nat.pow_succ, Nat.mul_comm 1000 step, Nat.mul_assoc, Nat.mul_comm 1000]
      exact ih _ _ _ (fun y hy => hc y (List.mem_cons_of_mem _ hy)) (by omega) hlp (by omega) (by omega) m s h
def leastV (cols left : List Int) : Option (Nat × Nat) := goL left 0 cols 0 1
theorem W_one (d : Nat) (h : d ≤ 6) : 0 + W d * 1 ≤ 1001001001001001000 := by
  have := W_le d h
  omega
theorem pow_le6 (d : Nat) (h : d ≤ 6) : 1 * 1000 ^ d ≤ 1000000000000000000 := by
  have : d = 0 ∨ d = 1 ∨ d = 2 ∨ d = 3 ∨ d = 4 ∨ d = 5 ∨ d = 6 := by omega
  rcases this with rfl | rfl | rfl | rfl | rfl | rfl | rfl <;> decide
theorem least_bound {cols left : List Int} (hc : ∀ c ∈ cols, 1 ≤ c ∧ c ≤ 1000) (h6 : cols.length ≤ 6) {m s : Nat} (h : leastV cols left = some (m, s)) : 1 ≤ s ∧ s ≤ 1000000000000000000 ∧ m ≤ 1001001001001001000 :=
  goL_bound left cols 0 0 1 hc h6 (by omega) (pow_le6 _ h6) (W_one _ h6) m s h
theorem impl_gcd_l0 (n : Nat) : ∀ (m b : Nat), b = n → Ev (fun k => impl_gcd.l0 k (m : Int) (b : Int)) ((Nat.gcd m b : Nat) : Int) := by
  induction n using Nat.strongRecOn with
  | _ n ih =>
    intro m b hb
    by_cases h : b = 0
    · subst h
      refine Ev.step (f := fun _ => some (m : Int)) (fun k => by rw [impl_gcd.l0, if_pos (by omega)]) ?_
      rw [Nat.gcd_zero_right]
      exact Ev.now _
    · have hlt : m % b < n := by rw [← hb]; exact Nat.mod_lt _ (by omega)
      have := ih (m % b) hlt b (m % b) rfl
      refine Ev.step (f := fun k => impl_gcd.l0 k (b : Int) ((m % b : Nat) : Int)) (fun k => ?_) ?_
      · rw [impl_gcd.l0, if_neg (by omega)]
        rfl
      · have e : Nat.gcd b (m % b) = Nat.gcd m b := by rw [Nat.gcd_comm b (m % b), ← Nat.gcd_rec, Nat.gcd_comm]
        rw [e] at this
        exact this
theorem impl_gcd_ok (m b : Nat) : Ev (fun k => impl_gcd.f k (m : Int) (b : Int)) ((Nat.gcd m b : Nat) : Int) := impl_gcd_l0 b m b rfl
section
variable {left cols : List Int} {i c : Nat} {n step : Nat}
theorem impl_skip (hi : i < left.length) (hc1 : 1 ≤ c) (hc2 : c ≤ 1000) (hb : n + 1000 * step ≤ 2000000000000000000) (len x14 : Int) (res : Int × Int × Bool) (d : Nat) : ∀ j, j + d ≤ c → (∀ e, j ≤ e → e < j + d → fits left i c n step e = false) →
    Ev (fun k => impl_leastWith.l1 k left ((n + (j + d) * step : Nat) : Int) step i c ((j + d : Nat) : Int) cols len x14) res → Ev (fun k => impl_leastWith.l1 k left ((n + j * step : Nat) : Int) step i c j cols len x14) res := by
  induction d with
  | zero => intro j _ _ h; exact h
  | succ d ih =>
    intro j hj hne h
    have h0 := hne j (by omega) (by omega)
    have hq : ¬ (((n + j * step) % c : Nat) : Int) = rd left i := of_decide_eq_false h0
    have hjs : (j + 1) * step ≤ 1000 * step := Nat.mul_le_mul_right _ (by omega)
    have hs : (j + 1) * step = j * step + step := Nat.succ_mul _ _
    refine Ev.step (f := fun k => impl_leastWith.l1 k left ((n + (j + 1) * step : Nat) : Int) step i c ((j + 1 : Nat) : Int) cols len x14) (fun k => ?_) (ih (j + 1) (by omega) (fun e h1 h2 => hne e (by omega) (by omega)) (by rw [show j + 1 + d = j + (d + 1) by omega]; exact h))
    have e1 : Int.tmod ((n + j * step : Nat) : Int) (c : Int) = (((n + j * step) % c : Nat) : Int) := rfl
    have e2 : (((n + j * step : Nat) : Int) + (step : Int)) = ((n + (j + 1) * step : Nat) : Int) := by rw [hs]; omega
    rw [impl_leastWith.l1, if_neg (by omega), if_pos (by omega), if_pos (by omega), e1, if_neg hq, if_neg (by omega), e2, w64 (by omega) (by omega), w64 (by omega) (by omega)]
    rfl
end
theorem impl_least_l0 (left : List Int) (rest : List Int) : ∀ (pre : List Int) (n step : Nat), (∀ c ∈ rest, 1 ≤ c ∧ c ≤ 1000) → pre.length + rest.length ≤ left.length → pre.length + rest.length ≤ 6 → 1 ≤ step → n + W rest.length * step ≤ 1001001001001001000 →
   Ev (fun k => impl_leastWith.l0 k left n step (pre ++ rest) ((pre ++ rest).length : Int) pre.length) (trip (goL left pre.length rest n step)) := by
  induction rest with
  | nil =>
    intro pre n step hc hl h6 hs hb
    exact Ev.step (f := fun _ => some ((n : Int), (step : Int), true)) (fun k => by rw [impl_leastWith.l0, if_neg (by simp)]) (Ev.now _)
  | cons x rest ih =>
    intro pre n step hc hl h6 hs hb
    simp only [List.length_cons] at hl h6 hb
    obtain ⟨hx1, hx2⟩ := hc x (List.mem_cons_self ..)
    obtain ⟨c, rfl⟩ := Int.eq_ofNat_of_zero_le (show 0 ≤ x by omega)
    have hlen : ((pre ++ (c : Int) :: rest).length : Int) = pre.length + (rest.length + 1) := by simp
    rw [W, Nat.mul_assoc, Nat.add_mul, Nat.one_mul, Nat.mul_add] at hb
    have hi : pre.length < left.length := by omega
    have hb' : n + 1000 * step ≤ 2000000000000000000 := by omega
    have impl0 : ∀ res, Ev (fun k => impl_leastWith.l1 k left ((n + 0 * step : Nat) : Int) step (pre.length : Nat) c ((0 : Nat) : Int) (pre ++ (c : Int) :: rest) ((pre ++ (c : Int) :: rest).length : Int) pre.length) res →
        Ev (fun k => impl_leastWith.l0 k left n step (pre ++ (c : Int) :: rest) ((pre ++ (c : Int) :: rest).length : Int) pre.length) res := fun res h => by
      refine Ev.step (fun k => ?_) h
      rw [impl_leastWith.l0, if_pos (by omega), if_pos (by omega), if_pos (by omega), rd_mid]
      simp
    cases hf : firstK (fits left pre.length c n step) c 0 with
    | none =>
      have hg : goL left pre.length ((c : Int) :: rest) n step = none := by
        simp only [goL, Int.toNat_natCast, hf]
      rw [hg]
      have hno := firstK_none c 0 hf
      have hcs : c * step ≤ 1000 * step := Nat.mul_le_mul_right _ (by omega)
      refine impl0 _ (impl_skip hi (by omega) (by omega) hb' _ _ _ c 0 (by omega) hno ?_)
      · refine Ev.step (f := fun _ => some (0, 0, false)) (fun k => ?_) (Ev.now _)
        have h0 := hno 0 (by omega) (by omega)
        have hq : ¬ (((n + 0 * step) % c : Nat) : Int) = rd left pre.length := of_decide_eq_false h0
        have e1 : Int.tmod ((n + (0 + c) * step : Nat) : Int) (c : Int) = (((n + 0 * step) % c : Nat) : Int) := by
          have : (n + (0 + c) * step) % c = (n + 0 * step) % c := by rw [Nat.zero_add, Nat.zero_mul, Nat.add_zero, Nat.add_mul_mod_self_left]
          show (((n + (0 + c) * step) % c : Nat) : Int) = _
          rw [this]
        rw [impl_leastWith.l1, if_neg (by omega), if_pos (by omega), if_pos (by omega), e1, if_neg hq, if_pos (by omega)]
    | some j =>
      obtain ⟨_, hj, hp, hno⟩ := firstK_some c 0 hf
      have hg : goL left pre.length ((c : Int) :: rest) n step = goL left (pre.length + 1) rest (n + j * step) (Nat.lcm step c) := by
        simp only [goL, Int.toNat_natCast, hf]
      rw [hg]
      have hjs : j * step ≤ 1000 * step := Nat.mul_le_mul_right _ (by omega)
      have hlc : Nat.lcm step c ≤ 1000 * step := Nat.le_trans (lcm_le step c) (by rw [Nat.mul_comm]; exact Nat.mul_le_mul_right _ (by omega))
      have hlp : 1 ≤ Nat.lcm step c := Nat.lcm_pos (by omega) (by omega)
      have hwl : W rest.length * Nat.lcm step c ≤ W rest.length * (1000 * step) := Nat.mul_le_mul_left _ hlc
      have hcm : W rest.length * (1000 * step) = 1000 * (W rest.length * step) := Nat.mul_left_comm _ _ _
      have hrec := ih (pre ++ [(c : Int)]) (n + j * step) (Nat.lcm step c) (fun y hy => hc y (List.mem_cons_of_mem _ hy)) (by simp; omega) (by simp; omega) hlp (by omega)
      have hq : (((n + (0 + j) * step) % c : Nat) : Int) = rd left pre.length := by rw [Nat.zero_add]; exact of_decide_eq_true hp
      have e1 : Int.tmod ((n + (0 + j) * step : Nat) : Int) (c : Int) = (((n + (0 + j) * step) % c : Nat) : Int) := rfl
      have hg1 : 1 ≤ Nat.gcd step c := Nat.gcd_pos_of_pos_left _ (by omega)
      have e0 : n + (0 + j) * step = n + j * step := by rw [Nat.zero_add]
      have ea : (pre ++ [(c : Int)]) ++ rest = pre ++ (c : Int) :: rest := by simp
      have el : (((pre ++ [(c : Int)]).length : Nat) : Int) = (pre.length : Int) + 1 := by simp
      have el' : (pre ++ [(c : Int)]).length = pre.length + 1 := by simp
      rw [ea, el, el'] at hrec
      have hd1 : step / Nat.gcd step c ≤ step := Nat.div_le_self _ _
      have hd2 : c / Nat.gcd step c ≤ c := Nat.div_le_self _ _
      have hz1 : (0 : Int) ≤ ((step / Nat.gcd step c : Nat) : Int) := Int.natCast_nonneg _
      have hz2 : (0 : Int) ≤ ((c / Nat.gcd step c : Nat) : Int) := Int.natCast_nonneg _
      refine impl0 _ (impl_skip hi (by omega) (by omega) hb' _ _ _ j 0 (by omega) (fun e h1 h2 => hno e h1 (by omega)) ?_)
      · refine Ev.step (fun k => by rw [impl_leastWith.l1, if_neg (by omega), if_pos (by omega), if_pos (by omega), if_pos (e1.trans hq)]) ?_
        refine Ev.bind (impl_gcd_ok step c) (Ev.congr (fun k => ?_) hrec)
        have e2 : Int.tdiv (c : Int) ((Nat.gcd step c : Nat) : Int) = ((c / Nat.gcd step c : Nat) : Int) := rfl
        have e3 : (step : Int) * ((c / Nat.gcd step c : Nat) : Int) = ((Nat.lcm step c : Nat) : Int) := by rw [← Int.natCast_mul, lcm_b]
        rw [if_neg (by omega), e2, w64 (x := ((c / Nat.gcd step c : Nat) : Int)) (by omega) (by omega), e3, w64 (x := ((Nat.lcm step c : Nat) : Int)) (by omega) (by omega), w64 (by omega) (by omega), e0]
theorem impl_least {cols left : List Int} (hc : ∀ c ∈ cols, 1 ≤ c ∧ c ≤ 1000) (h6 : cols.length ≤ 6) (hl : cols.length ≤ left.length) : Ev (fun k => impl_leastWith.f k cols left) (trip (leastV cols left)) := by
  have := (impl_least_l0 left cols [] 0 1 hc (by simpa using hl) (by simpa using h6) (by omega) (W_one _ h6))
  simpa [impl_leastWith.f, leastV] using this
theorem spec_foCommon_l0 (n : Nat) : ∀ (m b : Nat), b = n → Ev (fun k => spec_foCommon.l0 k (m : Int) (b : Int)) ((Nat.gcd m b : Nat) : Int) := by
  induction n using Nat.strongRecOn with
  | _ n ih =>
    intro m b hb
    by_cases h : b = 0
    · subst h
      refine Ev.step (f := fun _ => some (m : Int)) (fun k => by rw [spec_foCommon.l0, if_neg (by omega)]) ?_
      rw [Nat.gcd_zero_right]
      exact Ev.now _
    · have hlt : m % b < n := by rw [← hb]; exact Nat.mod_lt _ (by omega)
      have := ih (m % b) hlt b (m % b) rfl
      refine Ev.step (f := fun k => spec_foCommon.l0 k (b : Int) ((m % b : Nat) : Int)) (fun k => ?_) ?_
      · rw [spec_foCommon.l0, if_pos (by omega), if_neg (by omega)]
        rfl
      · have e : Nat.gcd b (m % b) = Nat.gcd m b := by rw [Nat.gcd_comm b (m % b), ← Nat.gcd_rec, Nat.gcd_comm]
        rw [e] at this
        exact this
theorem spec_foCommon_ok (m b : Nat) : Ev (fun k => spec_foCommon.f k (m : Int) (b : Int)) ((Nat.gcd m b : Nat) : Int) := spec_foCommon_l0 b m b rfl
def lcmFrom : List Int → Nat → Nat
  | [], s => s
  | c :: rest, s => lcmFrom rest (Nat.lcm s c.toNat)
theorem goL_zeros (rest : List Int) (N : Nat) : ∀ (i s : Nat), (∀ c ∈ rest, 1 ≤ c ∧ c ≤ 1000) → goL (List.replicate N 0) i rest 0 s = some (0, lcmFrom rest s) := by
  induction rest with
  | nil => intro i s hc; rfl
  | cons x rest ih =>
    intro i s hc
    obtain ⟨hx1, hx2⟩ := hc x (List.mem_cons_self ..)
    have hz : rd (List.replicate N 0) i = 0 := by
      simp only [rd, Int.toNat_natCast, List.getD_eq_getElem?_getD, List.getElem?_replicate]
      split <;> rfl
    have hf : fits (List.replicate N 0) i x.toNat 0 s 0 = true := by simp [fits, hz]
    obtain ⟨f, hxf⟩ : ∃ f, x.toNat = f + 1 := ⟨x.toNat - 1, by omega⟩
    have hk : firstK (fits (List.replicate N 0) i x.toNat 0 s) x.toNat 0 = some 0 := by
      rw [show firstK (fits (List.replicate N 0) i x.toNat 0 s) x.toNat 0 = firstK (fits (List.replicate N 0) i x.toNat 0 s) (f + 1) 0 by rw [← hxf], firstK, if_pos hf]
    simp only [goL, hk, lcmFrom, Nat.zero_mul, Nat.add_zero]
    exact ih _ _ (fun y hy => hc y (List.mem_cons_of_mem _ hy))
def answer (s : Nat) : Int × Bool := if (s : Int) > 1000000000000 then (0, false) else ((s : Int), true)
theorem spec_step_l0 (rest : List Int) : ∀ (pre : List Int) (s : Nat), (∀ c ∈ rest, 1 ≤ c ∧ c ≤ 1000) → pre.length + rest.length ≤ 6 → 1 ≤ s → s * 1000 ^ rest.length ≤ 1000000000000000000 →
    Ev (fun k => spec_StepOf.l0 k s (pre ++ rest) ((pre ++ rest).length : Int) pre.length) (answer (lcmFrom rest s)) := by
  induction rest with
  | nil =>
    intro pre s hc hl hs hb
    refine Ev.step (f := fun _ => if (s : Int) > 1000000000000 then some ((0 : Int), false) else some ((s : Int), true)) (fun k => by rw [spec_StepOf.l0, if_neg (by simp)]) ?_
    unfold answer lcmFrom
    by_cases h : (s : Int) > 1000000000000
    · simp only [if_pos h]; exact Ev.now _
    · simp only [if_neg h]; exact Ev.now _
  | cons x rest ih =>
    intro pre s hc hl hs hb
    simp only [List.length_cons] at hl hb
    obtain ⟨hx1, hx2⟩ := hc x (List.mem_cons_self ..)
    obtain ⟨c, rfl⟩ := Int.eq_ofNat_of_zero_le (show 0 ≤ x by omega)
    have hlen : ((pre ++ (c : Int) :: rest).length : Int) = pre.length + (rest.length + 1) := by simp
    have hlc : Nat.lcm s c ≤ 1000 * s := Nat.le_trans (lcm_le s c) (by rw [Nat.mul_comm]; exact Nat.mul_le_mul_right _ (by omega))
    have hlp : 1 ≤ Nat.lcm s c := Nat.lcm_pos (by omega) (by omega)
    have hpw : Nat.lcm s c * 1000 ^ rest.length ≤ 1000 * s * 1000 ^ rest.length := Nat.mul_le_mul_right _ hlc
    have hpe : 1000 * s * 1000 ^ rest.length = s * 1000 ^ (rest.length + 1) := by rw [Nat.pow_succ, Nat.mul_comm 1000 s, Nat.mul_assoc, Nat.mul_comm 1000]
    have hb2 : Nat.lcm s c ≤ Nat.lcm s c * 1000 ^ rest.length := Nat.le_mul_of_pos_right _ (Nat.pow_pos (by omega))
    have hg1 : 1 ≤ Nat.gcd s c := Nat.gcd_pos_of_pos_left _ (by omega)
    have hd1 : s / Nat.gcd s c ≤ s := Nat.div_le_self _ _
    have hs2 : s ≤ s * 1000 ^ (rest.length + 1) := Nat.le_mul_of_pos_right _ (Nat.pow_pos (by omega))
    have hz1 : (0 : Int) ≤ ((s / Nat.gcd s c : Nat) : Int) := Int.natCast_nonneg _
    refine Ev.step (f := fun k => (spec_foCommon.f k (s : Int) (c : Int)).bind fun t114 => (if t114 = 0 then (none) else (spec_StepOf.l0 k (wrap64 ((wrap64 (Int.tdiv (s : Int) t114)) * (c : Int))) (pre ++ (c : Int) :: rest) ((pre ++ (c : Int) :: rest).length : Int) (wrap64 ((pre.length : Int) + 1))))) (fun k => by rw [spec_StepOf.l0, if_pos (by omega), if_pos (by omega), if_pos (by omega), rd_mid]) ?_
    refine Ev.bind (spec_foCommon_ok s c) (Ev.congr (fun k => ?_) (ih (pre ++ [(c : Int)]) (Nat.lcm s c) (fun y hy => hc y (List.mem_cons_of_mem _ hy)) (by simp; omega) hlp (by omega)))
    have e2 : Int.tdiv (s : Int) ((Nat.gcd s c : Nat) : Int) = ((s / Nat.gcd s c : Nat) : Int) := rfl
    have e3 : ((s / Nat.gcd s c : Nat) : Int) * (c : Int) = ((Nat.lcm s c : Nat) : Int) := by rw [← Int.natCast_mul, lcm_a]
    rw [if_neg (by omega), e2, w64 (x := ((s / Nat.gcd s c : Nat) : Int)) (by omega) (by omega), e3, w64 (x := ((Nat.lcm s c : Nat) : Int)) (by omega) (by omega), w64 (by omega) (by omega)]
    simp
theorem both (cols : List Int) (h1 : cols.length ≤ 10000000) : ∃ r, Ev (fun k => spec_StepOf.f k cols) r ∧ Ev (fun k => impl_StepOf.f k cols) r := by
  unfold spec_StepOf.f impl_StepOf.f
  have hs := spec_cols cols h1
  have hi := impl_cols cols h1
  by_cases hb : colsB cols = true
  · obtain ⟨c1, c2, c3⟩ := colsB_mem hb
    rw [hb] at hs hi
    have himpl := impl_least (left := List.replicate cols.length 0) c3 c2 (by simp)
    have hv : leastV cols (List.replicate cols.length 0) = some (0, lcmFrom cols 1) := goL_zeros cols _ 0 1 c3
    rw [hv] at himpl
    have hspec := spec_step_l0 cols [] 1 c3 (by simpa using c2) (by omega) (pow_le6 _ c2)
    refine ⟨answer (lcmFrom cols 1), Ev.bind hs ?_, Ev.bind hi ?_⟩
    · simp only [if_true]; simpa using hspec
    · simp only [if_true]
      have hz : 0 ≤ (cols.length : Int) := by omega
      have hz2 : ((cols.length : Int)).toNat ≤ 35184372088832 := by simp; omega
      refine Ev.congr (fun k => (if_pos hz).trans (if_pos hz2)) ?_
      refine Ev.bind himpl ?_
      unfold answer
      by_cases h : ((lcmFrom cols 1 : Nat) : Int) > 1000000000000
      · rw [if_pos h]; exact Ev.congr (fun k => if_pos h) (Ev.now _)
      · rw [if_neg h]; exact Ev.congr (fun k => if_neg h) (Ev.now _)
  · have hb' : colsB cols = false := by simpa using hb
    rw [hb'] at hs hi
    exact ⟨(0, false), Ev.bind hs (Ev.now _), Ev.bind hi (Ev.now _)⟩
theorem FnExactStepOf : laws_FnExactStepOf.Pure := by
  intro l0 m0 n0 w0
  refine Ev.rounds (r := true) ?_
  unfold laws_FnExactStepOf.f
  by_cases c0 : (l0.length : Int) > 1048576
  · simp only [if_pos c0]; exact Ev.now _
  simp only [if_neg c0]
  obtain ⟨r, hs, hi⟩ := both l0 (by omega)
  have t0 := toInt_ok l0 (by omega)
  refine Ev.bind t0 (Ev.bind hs (Ev.bind t0 (Ev.bind hi ?_)))
  simp only [if_true, bne_self_eq_false]
  refine Ev.step (fun k => by rw [laws_FnExactStepOf.j0, if_neg (by decide)]) ?_
  refine Ev.bind t0 (Ev.bind (eqIntS_self l0 (by omega)) ?_)
  simp only [if_true]
  exact Ev.now _

end Go.Proofs.Ytollpomnfpkaeaa.Pure
