/- For every two numbers of 64 bits, the program's TimesTurned answers what the reference's does. -/
import Derived.Test.YtollpomnfpkaeaaPFnExactTimesTurnedx2
namespace Go.Proofs.Ytollpomnfpkaeaa.Pure
open Go.RowKit Go.Proofs.Ytollpomnfpkaeaa.PFnExactTimesTurned Go.Proofs.YtollpomnfpkaeaaW.PrintWords Go.Proofs.YtollpomnfpkaeaaW.PrintLast
set_option linter.unusedVariables false
set_option linter.unusedSimpArgs false

theorem w64 {x : Int} (h1 : -9223372036854775808 ≤ x) (h2 : x ≤ 9223372036854775807) : wrap64 x = x := by
  unfold wrap64
  omega
theorem wf_lo {a : Int} (h : (Lit.int .i64 a).wf = true) : -9223372036854775808 ≤ a := by
  have h' : IntKind.i64.min ≤ a ∧ a ≤ IntKind.i64.max := by simpa [Lit.wf] using h
  have e : IntKind.i64.min = -9223372036854775808 := by decide
  omega
theorem wf_hi {a : Int} (h : (Lit.int .i64 a).wf = true) : a ≤ 9223372036854775807 := by
  have h' : IntKind.i64.min ≤ a ∧ a ≤ IntKind.i64.max := by simpa [Lit.wf] using h
  have e : IntKind.i64.max = 9223372036854775807 := by decide
  omega
theorem ev_congr_fun {α : Type} {g f : Nat → Option α} {r : α} (h : g = f) (k : Ev f r) : Ev g r := h ▸ k
theorem rd_mid (pre : List Int) (x : Int) (rest : List Int) : rd (pre ++ x :: rest) (pre.length : Int) = x := by
  simp [rd]
def colList (C c : Int) : Nat → List Int
  | 0 => []
  | n + 1 => ((n : Int) * C + c) :: colList C c n
def formFrom (R : Nat) (C c : Int) : Nat → List Int
  | 0 => []
  | m + 1 => colList C c R ++ formFrom R C (c + 1) m
theorem colList_length (C c : Int) (n : Nat) : (colList C c n).length = n := by
  induction n with
  | zero => rfl
  | succ n ih => simp [colList, ih]
theorem formFrom_length (R : Nat) (C : Int) (m : Nat) : ∀ c, (formFrom R C c m).length = m * R := by
  induction m with
  | zero => intro c; simp [formFrom]
  | succ m ih => intro c; simp [formFrom, ih, colList_length, Nat.succ_mul]; omega
theorem sides_eq (a0 a1 : Int) : spec_foSides.f a0 a1 = impl_isTurned.f a0 a1 := by
  unfold spec_foSides.f impl_isTurned.f spec_l1In.f impl_in.f
  rfl
theorem isTurned_some (a0 a1 : Int) : ∃ b, impl_isTurned.f a0 a1 = some b ∧ (b = true → ∃ R C : Nat, a0 = R ∧ a1 = C ∧ 1 ≤ R ∧ 1 ≤ C ∧ R ≤ 200 ∧ C ≤ 200 ∧ R * C ≤ 200) := by
  unfold impl_isTurned.f impl_in.f
  by_cases h1 : 1 ≤ a0
  · by_cases h2 : a0 ≤ 200
    · by_cases h3 : 1 ≤ a1
      · by_cases h4 : a1 ≤ 200
        · simp only [h1, h2, h3, h4, if_true, decide_true, Option.bind_some, true_and]
          refine ⟨_, rfl, fun h => ?_⟩
          have h := of_decide_eq_true h
          obtain ⟨R, rfl⟩ := Int.eq_ofNat_of_zero_le (show 0 ≤ a0 by omega)
          obtain ⟨C, rfl⟩ := Int.eq_ofNat_of_zero_le (show 0 ≤ a1 by omega)
          have hb : R * C ≤ 200 * 200 := Nat.mul_le_mul (by omega) (by omega)
          have hc : ((R : Int) * (C : Int)) = ((R * C : Nat) : Int) := by simp
          rw [hc, w64 (by omega) (by omega)] at h
          exact ⟨R, C, rfl, rfl, by omega, by omega, by omega, by omega, by omega⟩
        · simp [h1, h2, h3, h4]
      · simp [h1, h2, h3]
    · simp [h1, h2]
  · simp [h1]
theorem spec_l1 {R C : Nat} {c : Int} (h0 : 0 ≤ c) (hc : c < C) (hR : 1 ≤ R) (hRC : R * C ≤ 200) (res : List Int) (n : Nat) : ∀ xs : List Int, n ≤ R → xs.length + n ≤ 1000 →
    Ev (fun k => spec_foTurn.l0 k R C (xs ++ colList C c n) (c + 1)) res → Ev (fun k => spec_foTurn.l1 k R C xs c ((n : Int) - 1)) res := by
  have hC : C ≤ 200 := Nat.le_trans (Nat.le_mul_of_pos_left C hR) hRC
  induction n with
  | zero =>
    intro xs hn hl h
    refine Ev.step (fun k => ?_) h
    rw [spec_foTurn.l1]
    rw [if_neg (by omega), w64 (by omega) (by omega)]
    simp [colList]
  | succ n ih =>
    intro xs hn hl h
    have hm : n * C ≤ R * C := Nat.mul_le_mul_right C (by omega)
    have e : ((n : Int) * (C : Int)) = ((n * C : Nat) : Int) := by simp
    refine Ev.step (f := fun k => spec_foTurn.l1 k R C (xs ++ [(n : Int) * C + c]) c ((n : Int) - 1)) (fun k => ?_) ?_
    · rw [spec_foTurn.l1]
      have e1 : ((n + 1 : Nat) : Int) - 1 = n := by omega
      rw [e1, if_pos (by omega), if_pos (by omega), e, w64 (x := ((n * C : Nat) : Int)) (by omega) (by omega), w64 (by omega) (by omega), w64 (by omega) (by omega)]
    · refine ih _ (by omega) (by simp; omega) ?_
      simpa [colList] using h
theorem impl_l1 {R C : Nat} {c : Int} (x9 : Int) (h0 : 0 ≤ c) (hc : c < C) (hR : 1 ≤ R) (hRC : R * C ≤ 200) (res : List Int) (n : Nat) : ∀ xs : List Int, n ≤ R → xs.length + n ≤ 1000 →
    Ev (fun k => impl_turnedForm.l0 k R C (xs ++ colList C c n) x9 (c + 1)) res → Ev (fun k => impl_turnedForm.l1 k R C xs c ((n : Int) - 1) x9 c) res := by
  have hC : C ≤ 200 := Nat.le_trans (Nat.le_mul_of_pos_left C hR) hRC
  induction n with
  | zero =>
    intro xs hn hl h
    refine Ev.step (fun k => ?_) h
    rw [impl_turnedForm.l1]
    rw [if_neg (by omega), w64 (by omega) (by omega)]
    simp [colList]
  | succ n ih =>
    intro xs hn hl h
    have hm : n * C ≤ R * C := Nat.mul_le_mul_right C (by omega)
    have e : ((n : Int) * (C : Int)) = ((n * C : Nat) : Int) := by simp
    refine Ev.step (f := fun k => impl_turnedForm.l1 k R C (xs ++ [(n : Int) * C + c]) c ((n : Int) - 1) x9 c) (fun k => ?_) ?_
    · rw [impl_turnedForm.l1]
      have e1 : ((n + 1 : Nat) : Int) - 1 = n := by omega
      rw [e1, if_pos (by omega), if_pos (by omega), e, w64 (x := ((n * C : Nat) : Int)) (by omega) (by omega), w64 (by omega) (by omega), w64 (by omega) (by omega)]
    · refine ih _ (by omega) (by simp; omega) ?_
      simpa [colList] using h
theorem spec_l0 {R C : Nat} (hR : 1 ≤ R) (hRC : R * C ≤ 200) (m : Nat) : ∀ (c : Int) (xs : List Int), 0 ≤ c → c + m = C → xs.length + m * R ≤ 200 →
    Ev (fun k => spec_foTurn.l0 k R C xs c) (xs ++ formFrom R C c m) := by
  have hR2 : m = 0 ∨ 1 ≤ m := by omega
  induction m with
  | zero =>
    intro c xs h0 hc hl
    refine Ev.step (f := fun _ => some xs) (fun k => by rw [spec_foTurn.l0]; rw [if_neg (by omega)]) ?_
    simpa [formFrom] using Ev.now xs
  | succ m ih =>
    intro c xs h0 hc hl
    rw [Nat.succ_mul] at hl
    have hC : 1 ≤ C := by omega
    have hR200 : R ≤ 200 := by omega
    refine Ev.step (f := fun k => spec_foTurn.l1 k R C xs c ((R : Int) - 1)) (fun k => ?_) ?_
    · rw [spec_foTurn.l0]
      rw [if_pos (by omega), w64 (by omega) (by omega)]
    · refine spec_l1 h0 (by omega) hR hRC _ R xs (by omega) (by omega) ?_
      have := ih (by omega) (c + 1) (xs ++ colList C c R) (by omega) (by omega) (by simp [colList_length]; omega)
      simpa [formFrom] using this
theorem impl_l0 {R C : Nat} (hR : 1 ≤ R) (hRC : R * C ≤ 200) (m : Nat) : ∀ (c : Int) (xs : List Int), 0 ≤ c → c + m = C → xs.length + m * R ≤ 200 →
    Ev (fun k => impl_turnedForm.l0 k R C xs C c) (xs ++ formFrom R C c m) := by
  have hR2 : m = 0 ∨ 1 ≤ m := by omega
  induction m with
  | zero =>
    intro c xs h0 hc hl
    refine Ev.step (f := fun _ => some xs) (fun k => by rw [impl_turnedForm.l0]; rw [if_neg (by omega)]) ?_
    simpa [formFrom] using Ev.now xs
  | succ m ih =>
    intro c xs h0 hc hl
    rw [Nat.succ_mul] at hl
    have hC : 1 ≤ C := by omega
    have hR200 : R ≤ 200 := by omega
    refine Ev.step (f := fun k => impl_turnedForm.l1 k R C xs c ((R : Int) - 1) C c) (fun k => ?_) ?_
    · rw [impl_turnedForm.l0]
      rw [if_pos (by omega), w64 (by omega) (by omega)]
    · refine impl_l1 _ h0 (by omega) hR hRC _ R xs (by omega) (by omega) ?_
      have := ih (by omega) (c + 1) (xs ++ colList C c R) (by omega) (by omega) (by simp [colList_length]; omega)
      simpa [formFrom] using this
theorem spec_form {R C : Nat} (hR : 1 ≤ R) (hRC : R * C ≤ 200) : Ev (fun k => spec_foTurn.f k R C) (formFrom R C 0 C) := by
  have := spec_l0 hR hRC C 0 [] (by omega) (by omega) (by rw [Nat.mul_comm]; simpa using hRC)
  simpa [spec_foTurn.f] using this
theorem impl_form {R C : Nat} (hR : 1 ≤ R) (hRC : R * C ≤ 200) : Ev (fun k => impl_turnedForm.f k R C) (formFrom R C 0 C) := by
  have := impl_l0 hR hRC C 0 [] (by omega) (by omega) (by rw [Nat.mul_comm]; simpa using hRC)
  simpa [impl_turnedForm.f] using this
theorem impl_gcd_l0 (n : Nat) : ∀ (m b : Nat), b = n → Ev (fun k => impl_gcd.l0 k (m : Int) (b : Int)) ((Nat.gcd m b : Nat) : Int) := by
  induction n using Nat.strongRecOn with
  | _ n ih =>
    intro m b hb
    by_cases h : b = 0
    · subst h
      refine Ev.step (f := fun _ => some (m : Int)) (fun k => by rw [impl_gcd.l0, if_pos (by omega)]) ?_
      rw [Nat.gcd_zero_right]
      exact Ev.now _
    · have hlt : m % b < n := by rw [← hb]; exact Nat.mod_lt _ (by omega)
      have := ih (m % b) hlt b (m % b) rfl
      refine Ev.step (f := fun k => impl_gcd.l0 k (b : Int) ((m % b : Nat) : Int)) (fun k => ?_) ?_
      · rw [impl_gcd.l0, if_neg (by omega)]
        rfl
      · have e : Nat.gcd b (m % b) = Nat.gcd m b := by rw [Nat.gcd_comm b (m % b), ← Nat.gcd_rec, Nat.gcd_comm]
        rw [e] at this
        exact this
theorem impl_gcd_ok (m b : Nat) : Ev (fun k => impl_gcd.f k (m : Int) (b : Int)) ((Nat.gcd m b : Nat) : Int) := impl_gcd_l0 b m b rfl
theorem spec_foCommon_l0 (n : Nat) : ∀ (m b : Nat), b = n → Ev (fun k => spec_foCommon.l0 k (m : Int) (b : Int)) ((Nat.gcd m b : Nat) : Int) := by
  induction n using Nat.strongRecOn with
  | _ n ih =>
    intro m b hb
    by_cases h : b = 0
    · subst h
      refine Ev.step (f := fun _ => some (m : Int)) (fun k => by rw [spec_foCommon.l0, if_neg (by omega)]) ?_
      rw [Nat.gcd_zero_right]
      exact Ev.now _
    · have hlt : m % b < n := by rw [← hb]; exact Nat.mod_lt _ (by omega)
      have := ih (m % b) hlt b (m % b) rfl
      refine Ev.step (f := fun k => spec_foCommon.l0 k (b : Int) ((m % b : Nat) : Int)) (fun k => ?_) ?_
      · rw [spec_foCommon.l0, if_pos (by omega), if_neg (by omega)]
        rfl
      · have e : Nat.gcd b (m % b) = Nat.gcd m b := by rw [Nat.gcd_comm b (m % b), ← Nat.gcd_rec, Nat.gcd_comm]
        rw [e] at this
        exact this
theorem spec_foCommon_ok (m b : Nat) : Ev (fun k => spec_foCommon.f k (m : Int) (b : Int)) ((Nat.gcd m b : Nat) : Int) := spec_foCommon_l0 b m b rfl
def it (f : Nat → Nat) : Nat → Nat → Nat
  | 0, x => x
  | n + 1, x => it f n (f x)
theorem it_add (f : Nat → Nat) (a : Nat) : ∀ b x, it f (a + b) x = it f b (it f a x) := by
  induction a with
  | zero => intro b x; simp [it]
  | succ a ih => intro b x; rw [show a + 1 + b = (a + b) + 1 by omega]; simp [it, ih]
theorem it_mul (f : Nat → Nat) (d x : Nat) (h : it f d x = x) (q : Nat) : it f (d * q) x = x := by
  induction q with
  | zero => rfl
  | succ q ih => rw [Nat.mul_succ, it_add, ih, h]
theorem least_period (f : Nat → Nat) (L x : Nat) (hL : 1 ≤ L) (h : it f L x = x) : ∃ d, 1 ≤ d ∧ d ≤ L ∧ d ∣ L ∧ it f d x = x ∧ ∀ e, 1 ≤ e → e < d → it f e x ≠ x := by
  have hex : ∀ n, ∀ m, m + n = L + 1 → 1 ≤ m → (∀ e, 1 ≤ e → e < m → it f e x ≠ x) → ∃ d, 1 ≤ d ∧ d ≤ L ∧ it f d x = x ∧ ∀ e, 1 ≤ e → e < d → it f e x ≠ x := by
    intro n
    induction n with
    | zero => intro m hm h1 hlt; exact absurd h (hlt L hL (by omega))
    | succ n ih =>
      intro m hm h1 hlt
      by_cases hmx : it f m x = x
      · exact ⟨m, h1, by omega, hmx, hlt⟩
      · refine ih (m + 1) (by omega) (by omega) (fun e he hlt' => ?_)
        by_cases hem : e = m
        · subst hem; exact hmx
        · exact hlt e he (by omega)
  obtain ⟨d, h1, h2, h3, h4⟩ := hex L 1 (by omega) (by omega) (fun e h1 h2 => by omega)
  refine ⟨d, h1, h2, ?_, h3, h4⟩
  have hr : it f (L % d) x = x := by
    have e : L = d * (L / d) + L % d := (Nat.div_add_mod L d).symm
    rw [e, it_add, it_mul f d x h3] at h
    exact h
  by_cases hz : L % d = 0
  · exact Nat.dvd_of_mod_eq_zero hz
  · exact absurd hr (h4 _ (by omega) (Nat.mod_lt _ (by omega)))
/-- The places, from 1 on, go by a factor. -/
theorem it_pow (m N : Nat) (k : Nat) : ∀ x, x < N → it (fun x => m * x % N) k x = m ^ k * x % N := by
  induction k with
  | zero => intro x hx; simp [it, Nat.mod_eq_of_lt hx]
  | succ k ih =>
    intro x hx
    have hN : 0 < N := by omega
    show it _ k (m * x % N) = _
    rw [ih _ (Nat.mod_lt _ hN), Nat.mul_mod_mod, Nat.pow_succ, Nat.mul_assoc]
def ordOk (R C : Nat) : Bool := (List.range 200).any fun k => (R * C + 1 - C) ^ (k + 1) % (R * C + 1) == 1
def ordAll : Bool := (List.range 201).all fun R => R == 0 || (List.range (200 / R + 1)).all fun C => C == 0 || ordOk R C
theorem ordAll_ok : ordAll = true := by decide +kernel
theorem ord_ex {R C : Nat} (hR : 1 ≤ R) (hC : 1 ≤ C) (hRC : R * C ≤ 200) : ∃ L, 1 ≤ L ∧ L ≤ 200 ∧ (R * C + 1 - C) ^ L % (R * C + 1) = 1 := by
  have h := ordAll_ok
  unfold ordAll at h
  have hR200 : R ≤ 200 := Nat.le_trans (Nat.le_mul_of_pos_right R hC) hRC
  have h1 := List.all_eq_true.1 h R (by simp; omega)
  have hr0 : (R == 0) = false := by simp; omega
  rw [hr0, Bool.false_or] at h1
  have hCR : C ≤ 200 / R := (Nat.le_div_iff_mul_le (by omega)).2 (by rw [Nat.mul_comm]; exact hRC)
  have h2 := List.all_eq_true.1 h1 C (by simp; omega)
  have hc0 : (C == 0) = false := by simp; omega
  rw [hc0, Bool.false_or] at h2
  unfold ordOk at h2
  obtain ⟨k, hk, he⟩ := List.any_eq_true.1 h2
  simp at hk
  exact ⟨k + 1, by omega, by omega, by simpa using he⟩
theorem rd_append_left (xs ys : List Int) (i : Nat) (h : i < xs.length) : rd (xs ++ ys) (i : Int) = rd xs (i : Int) := by
  simp [rd, List.getD_eq_getElem?_getD, List.getElem?_append_left h]
theorem rd_append_right (xs ys : List Int) (i : Nat) : rd (xs ++ ys) ((xs.length + i : Nat) : Int) = rd ys (i : Int) := by
  simp only [rd, Int.toNat_natCast, List.getD_eq_getElem?_getD]
  rw [List.getElem?_append_right (by omega), Nat.add_sub_cancel_left]
theorem rd_col (C c : Int) (n : Nat) : ∀ q, q < n → rd (colList C c n) (q : Int) = ((n - 1 - q : Nat) : Int) * C + c := by
  induction n with
  | zero => intro q h; omega
  | succ n ih =>
    intro q h
    cases q with
    | zero => simp [colList, rd]
    | succ q =>
      have := ih q (by omega)
      have e : n + 1 - 1 - (q + 1) = n - 1 - q := by omega
      rw [e, ← this]
      simp [colList, rd]
theorem rd_form (R : Nat) (C : Int) (m : Nat) : ∀ (c0 : Int) (c q : Nat), c < m → q < R → rd (formFrom R C c0 m) ((c * R + q : Nat) : Int) = ((R - 1 - q : Nat) : Int) * C + (c0 + c) := by
  induction m with
  | zero => intro c0 c q h; omega
  | succ m ih =>
    intro c0 c q hc hq
    cases c with
    | zero =>
      rw [formFrom, Nat.zero_mul, Nat.zero_add, rd_append_left _ _ _ (by rw [colList_length]; exact hq), rd_col _ _ _ _ hq]
      simp
    | succ c =>
      have e : (c + 1) * R + q = (colList C c0 R).length + (c * R + q) := by rw [colList_length, Nat.succ_mul]; omega
      rw [formFrom, e, rd_append_right, ih _ _ _ (by omega) hq]
      congr 1
      omega
theorem mul_place {R C c q : Nat} (hR : 1 ≤ R) (hc : c < C) (hq : q < R) : (R * C + 1 - C) * (c * R + q + 1) % (R * C + 1) = (R - 1 - q) * C + c + 1 := by
  have hCR : C ≤ R * C := Nat.le_mul_of_pos_left C hR
  obtain ⟨p, rfl⟩ : ∃ p, R = q + 1 + p := ⟨R - 1 - q, by omega⟩
  have e0 : q + 1 + p - 1 - q = p := by omega
  rw [e0]
  have hcR : c ≤ c * (q + 1 + p) := Nat.le_mul_of_pos_right c hR
  have key : ((q + 1 + p) * C + 1 - C) * (c * (q + 1 + p) + q + 1) = (p * C + c + 1) + ((q + 1 + p) * C + 1) * (c * (q + 1 + p) + q - c) := by
    have e1 : (q + 1 + p) * C + 1 - C = (q + p) * C + 1 := by
      have : (q + 1 + p) * C = (q + p) * C + C := by rw [show q + 1 + p = (q + p) + 1 by omega, Nat.succ_mul]
      omega
    have e2 : c * (q + 1 + p) + q - c = c * (q + p) + q := by
      have : c * (q + 1 + p) = c * (q + p) + c := by rw [show q + 1 + p = (q + p) + 1 by omega, Nat.mul_succ]
      omega
    rw [e1, e2]
    grind
  rw [key, Nat.add_mul_mod_self_left, Nat.mod_eq_of_lt]
  have h1 : (q + 1 + p) * C = q * C + C + p * C := by grind
  omega
/-- What stands at a place: by the factor. -/
theorem rd_place {R C i : Nat} (hR : 1 ≤ R) (hC : 1 ≤ C) (hi : i < R * C) : rd (formFrom R C 0 C) (i : Int) = (((R * C + 1 - C) * (i + 1) % (R * C + 1) - 1 : Nat) : Int) ∧ 1 ≤ (R * C + 1 - C) * (i + 1) % (R * C + 1) := by
  have hc : i / R < C := Nat.div_lt_of_lt_mul (by exact hi)
  have hq : i % R < R := Nat.mod_lt _ (by omega)
  have e : i = i / R * R + i % R := by rw [Nat.mul_comm]; exact (Nat.div_add_mod i R).symm
  have h1 := rd_form R C C 0 (i / R) (i % R) hc hq
  rw [← e] at h1
  have h2 := mul_place hR hc hq
  rw [← e] at h2
  rw [h1, h2]
  refine ⟨?_, Nat.le_add_left 1 _⟩
  simp
/-- The places from 0 on, as they go. -/
def nx (R C : Nat) (i : Nat) : Nat := (R * C + 1 - C) * (i + 1) % (R * C + 1) - 1
theorem nx_lt {R C i : Nat} (hR : 1 ≤ R) (hC : 1 ≤ C) (hi : i < R * C) : nx R C i < R * C := by
  have := (rd_place hR hC hi).2
  have h2 : (R * C + 1 - C) * (i + 1) % (R * C + 1) < R * C + 1 := Nat.mod_lt _ (by omega)
  unfold nx
  omega
theorem it_nx {R C : Nat} (hR : 1 ≤ R) (hC : 1 ≤ C) (k : Nat) : ∀ i, i < R * C → it (nx R C) k i + 1 = it (fun x => (R * C + 1 - C) * x % (R * C + 1)) k (i + 1) := by
  induction k with
  | zero => intro i hi; rfl
  | succ k ih =>
    intro i hi
    show it _ k (nx R C i) + 1 = it _ k ((R * C + 1 - C) * (i + 1) % (R * C + 1))
    rw [ih _ (nx_lt hR hC hi)]
    have := (rd_place hR hC hi).2
    congr 1
    unfold nx
    omega
theorem period_ex {R C : Nat} (hR : 1 ≤ R) (hC : 1 ≤ C) (hRC : R * C ≤ 200) : ∃ L, 1 ≤ L ∧ L ≤ 200 ∧ ∀ i, i < R * C → it (nx R C) L i = i := by
  obtain ⟨L, h1, h2, h3⟩ := ord_ex hR hC hRC
  refine ⟨L, h1, h2, fun i hi => ?_⟩
  have h := it_nx hR hC L i hi
  rw [it_pow _ _ _ _ (by omega), ← Nat.mod_mul_mod, h3, Nat.one_mul, Nat.mod_eq_of_lt (by omega)] at h
  omega
theorem lcm_left (t d : Nat) (ht : 1 ≤ t) : t / Nat.gcd t d * d = Nat.lcm t d := by
  rw [Nat.lcm, Nat.mul_comm, ← Nat.mul_div_assoc _ (Nat.gcd_dvd_left t d), Nat.mul_comm d t]
theorem lcm_right (t d : Nat) (ht : 1 ≤ t) : t * (d / Nat.gcd t d) = Nat.lcm t d := by
  rw [Nat.lcm, Nat.mul_div_assoc _ (Nat.gcd_dvd_right t d)]
section
variable {R C : Nat} (hR : 1 ≤ R) (hC : 1 ≤ C) (hRC : R * C ≤ 200)
include hR hC
theorem spec_cyc {i : Nat} (hi : i < R * C) (t x19 x20 : Int) (res : Int × Bool) (j : Nat) : ∀ (at_ long : Nat), at_ < R * C → long + j ≤ 400 → it (nx R C) j at_ = i → (∀ e, e < j → it (nx R C) e at_ ≠ i) →
    Ev (fun k => (spec_foCommon.f k t ((long + j : Nat) : Int)).bind fun t111 => (if t111 = 0 then (none) else (spec_TimesTurned.l0 k (formFrom R C 0 C) (wrap64 ((wrap64 (Int.tdiv t t111)) * ((long + j : Nat) : Int))) x19 (wrap64 (x20 + 1))))) res →
    Ev (fun k => spec_TimesTurned.l1 k (formFrom R C 0 C) t i long at_ x19 x20) res := by
  induction j with
  | zero =>
    intro at_ long hat hl hit hne h
    refine Ev.step (fun k => ?_) h
    have : at_ = i := hit
    rw [spec_TimesTurned.l1, if_pos (by omega)]
    rfl
  | succ j ih =>
    intro at_ long hat hl hit hne h
    have h0 : at_ ≠ i := hne 0 (by omega)
    have hlen : (formFrom R C 0 C).length = R * C := by rw [formFrom_length, Nat.mul_comm]
    refine Ev.step (f := fun k => spec_TimesTurned.l1 k (formFrom R C 0 C) t i ((long + 1 : Nat) : Int) ((nx R C at_ : Nat) : Int) x19 x20) (fun k => ?_) ?_
    · have hne' : ¬ ((at_ : Int) = (i : Int)) := by omega
      rw [spec_TimesTurned.l1, if_neg hne', if_pos (by omega), if_pos (by omega), w64 (by omega) (by omega), (rd_place hR hC hat).1]
      rfl
    · refine ih _ _ (nx_lt hR hC hat) (by omega) hit (fun e he => hne (e + 1) (by omega)) ?_
      have e : long + 1 + j = long + (j + 1) := by omega
      rw [e]
      exact h
theorem impl_cyc {i : Nat} (hi : i < R * C) (t x19 x20 : Int) (res : Int × Bool) (j : Nat) : ∀ (at_ long : Nat), at_ < R * C → long + j ≤ 400 → it (nx R C) j at_ = i → (∀ e, e < j → it (nx R C) e at_ ≠ i) →
    Ev (fun k => (impl_gcd.f k t ((long + j : Nat) : Int)).bind fun t126 => (if t126 = 0 then (none) else (impl_TimesTurned.l0 k (formFrom R C 0 C) (wrap64 (t * (wrap64 (Int.tdiv ((long + j : Nat) : Int) t126)))) x19 (wrap64 (x20 + 1))))) res →
    Ev (fun k => impl_TimesTurned.l1 k (formFrom R C 0 C) t i long at_ x19 x20) res := by
  induction j with
  | zero =>
    intro at_ long hat hl hit hne h
    refine Ev.step (fun k => ?_) h
    have : at_ = i := hit
    rw [impl_TimesTurned.l1, if_pos (by omega)]
    rfl
  | succ j ih =>
    intro at_ long hat hl hit hne h
    have h0 : at_ ≠ i := hne 0 (by omega)
    have hlen : (formFrom R C 0 C).length = R * C := by rw [formFrom_length, Nat.mul_comm]
    refine Ev.step (f := fun k => impl_TimesTurned.l1 k (formFrom R C 0 C) t i ((long + 1 : Nat) : Int) ((nx R C at_ : Nat) : Int) x19 x20) (fun k => ?_) ?_
    · have hne' : ¬ ((at_ : Int) = (i : Int)) := by omega
      rw [impl_TimesTurned.l1, if_neg hne', if_pos (by omega), if_pos (by omega), w64 (by omega) (by omega), (rd_place hR hC hat).1]
      rfl
    · refine ih _ _ (nx_lt hR hC hat) (by omega) hit (fun e he => hne (e + 1) (by omega)) ?_
      have e : long + 1 + j = long + (j + 1) := by omega
      rw [e]
      exact h
include hRC
theorem times_l0 {L : Nat} (hL1 : 1 ≤ L) (hL2 : L ≤ 200) (hL : ∀ i, i < R * C → it (nx R C) L i = i) (n : Nat) : ∀ (i t : Nat), i + n = R * C → 1 ≤ t → t ∣ L →
    ∃ T, Ev (fun k => spec_TimesTurned.l0 k (formFrom R C 0 C) t ((R * C : Nat) : Int) i) (T, true) ∧ Ev (fun k => impl_TimesTurned.l0 k (formFrom R C 0 C) t ((R * C : Nat) : Int) i) (T, true) := by
  have hlen : (formFrom R C 0 C).length = R * C := by rw [formFrom_length, Nat.mul_comm]
  induction n with
  | zero =>
    intro i t hi h1 ht
    exact ⟨t, Ev.step (f := fun _ => some ((t : Int), true)) (fun k => by rw [spec_TimesTurned.l0, if_neg (by omega)]) (Ev.now _), Ev.step (f := fun _ => some ((t : Int), true)) (fun k => by rw [impl_TimesTurned.l0, if_neg (by omega)]) (Ev.now _)⟩
  | succ n ih =>
    intro i t hi h1 ht
    have hlt : i < R * C := by omega
    obtain ⟨d, hd1, hd2, hd3, hd4, hd5⟩ := least_period (nx R C) L i hL1 (hL i hlt)
    obtain ⟨j, rfl⟩ : ∃ j, d = 1 + j := ⟨d - 1, by omega⟩
    have htL : t ≤ 200 := Nat.le_trans (Nat.le_of_dvd (by omega) ht) hL2
    have hlcm : Nat.lcm t (1 + j) ∣ L := Nat.lcm_dvd ht hd3
    have hlcm1 : 1 ≤ Nat.lcm t (1 + j) := Nat.lcm_pos (by omega) (by omega)
    have hlcm2 : Nat.lcm t (1 + j) ≤ 200 := Nat.le_trans (Nat.le_of_dvd (by omega) hlcm) hL2
    have hg1 : 1 ≤ Nat.gcd t (1 + j) := Nat.gcd_pos_of_pos_left _ (by omega)
    obtain ⟨T, hs, hi'⟩ := ih (i + 1) (Nat.lcm t (1 + j)) (by omega) hlcm1 hlcm
    have hq1 : t / Nat.gcd t (1 + j) ≤ t := Nat.div_le_self _ _
    have hq2 : (1 + j) / Nat.gcd t (1 + j) ≤ 1 + j := Nat.div_le_self _ _
    have hz1 : (0 : Int) ≤ ((t / Nat.gcd t (1 + j) : Nat) : Int) := Int.natCast_nonneg _
    have hz2 : (0 : Int) ≤ (((1 + j) / Nat.gcd t (1 + j) : Nat) : Int) := Int.natCast_nonneg _
    have hit0 : it (nx R C) j (nx R C i) = i := by rw [Nat.add_comm] at hd4; exact hd4
    have hne0 : ∀ e, e < j → it (nx R C) e (nx R C i) ≠ i := fun e he => hd5 (e + 1) (by omega) (by omega)
    refine ⟨T, ?_, ?_⟩
    · refine Ev.step (f := fun k => spec_TimesTurned.l1 k (formFrom R C 0 C) t i ((1 : Nat) : Int) ((nx R C i : Nat) : Int) ((R * C : Nat) : Int) i) (fun k => ?_) ?_
      · rw [spec_TimesTurned.l0, if_pos (by omega), if_pos (by omega), if_pos (by omega), (rd_place hR hC hlt).1]
        rfl
      · refine spec_cyc hR hC hlt _ _ _ _ j _ 1 (nx_lt hR hC hlt) (by omega) hit0 hne0 ?_
        refine Ev.bind (spec_foCommon_ok t (1 + j)) ?_
        refine Ev.congr (fun k => ?_) hs
        have e1 : Int.tdiv (t : Int) ((Nat.gcd t (1 + j) : Nat) : Int) = ((t / Nat.gcd t (1 + j) : Nat) : Int) := rfl
        have e2 : ((t / Nat.gcd t (1 + j) : Nat) : Int) * ((1 + j : Nat) : Int) = ((Nat.lcm t (1 + j) : Nat) : Int) := by rw [← Int.natCast_mul, lcm_left t (1 + j) h1]
        rw [if_neg (by omega), e1, w64 (x := ((t / Nat.gcd t (1 + j) : Nat) : Int)) (by omega) (by omega), e2, w64 (by omega) (by omega), w64 (by omega) (by omega)]
        rfl
    · refine Ev.step (f := fun k => impl_TimesTurned.l1 k (formFrom R C 0 C) t i ((1 : Nat) : Int) ((nx R C i : Nat) : Int) ((R * C : Nat) : Int) i) (fun k => ?_) ?_
      · rw [impl_TimesTurned.l0, if_pos (by omega), if_pos (by omega), if_pos (by omega), (rd_place hR hC hlt).1]
        rfl
      · refine impl_cyc hR hC hlt _ _ _ _ j _ 1 (nx_lt hR hC hlt) (by omega) hit0 hne0 ?_
        refine Ev.bind (impl_gcd_ok t (1 + j)) ?_
        refine Ev.congr (fun k => ?_) hi'
        have e1 : Int.tdiv ((1 + j : Nat) : Int) ((Nat.gcd t (1 + j) : Nat) : Int) = (((1 + j) / Nat.gcd t (1 + j) : Nat) : Int) := rfl
        have e2 : (t : Int) * (((1 + j) / Nat.gcd t (1 + j) : Nat) : Int) = ((Nat.lcm t (1 + j) : Nat) : Int) := by rw [← Int.natCast_mul, lcm_right t (1 + j) h1]
        rw [if_neg (by omega), e1, w64 (x := (((1 + j) / Nat.gcd t (1 + j) : Nat) : Int)) (by omega) (by omega), e2, w64 (by omega) (by omega), w64 (by omega) (by omega)]
        rfl
theorem times_both : ∃ T, Ev (fun k => (spec_foTurn.f k R C).bind fun t107 => (spec_TimesTurned.l0 k t107 1 (t107.length : Int) 0)) (T, true) ∧ Ev (fun k => (impl_turnedForm.f k R C).bind fun t122 => (impl_TimesTurned.l0 k t122 1 (t122.length : Int) 0)) (T, true) := by
  obtain ⟨L, h1, h2, h3⟩ := period_ex hR hC hRC
  obtain ⟨T, hs, hi⟩ := times_l0 hR hC hRC h1 h2 h3 (R * C) 0 1 (by omega) (by omega) (Nat.one_dvd L)
  have hlen : (formFrom R C 0 C).length = R * C := by rw [formFrom_length, Nat.mul_comm]
  refine ⟨T, Ev.bind (spec_form hR hRC) ?_, Ev.bind (impl_form hR hRC) ?_⟩
  · rw [hlen]; exact hs
  · rw [hlen]; exact hi
end
theorem both (a0 a1 : Int) : ∃ r b, Ev (fun k => spec_TimesTurned.f k a0 a1) (r, b) ∧ Ev (fun k => impl_TimesTurned.f k a0 a1) (r, b) := by
  obtain ⟨b, hb, h⟩ := isTurned_some a0 a1
  unfold spec_TimesTurned.f impl_TimesTurned.f
  simp only [sides_eq, hb, Option.bind_some]
  cases b with
  | false => exact ⟨0, false, by simpa using Ev.now _, by simpa using Ev.now _⟩
  | true =>
    obtain ⟨R, C, rfl, rfl, hR, hC, _, _, hRC⟩ := h rfl
    simp only [if_true]
    obtain ⟨T, h1, h2⟩ := times_both hR hC hRC
    exact ⟨T, true, h1, h2⟩
theorem FnExactTimesTurned : laws_FnExactTimesTurned.Pure := by
  intro a0 a1 w0 w1
  obtain ⟨r, b, hs, hi⟩ := both a0 a1
  refine Ev.rounds (r := true) ?_
  unfold laws_FnExactTimesTurned.f
  refine Ev.bind hs (Ev.bind hi ?_)
  simpa using Ev.now true

end Go.Proofs.Ytollpomnfpkaeaa.Pure
