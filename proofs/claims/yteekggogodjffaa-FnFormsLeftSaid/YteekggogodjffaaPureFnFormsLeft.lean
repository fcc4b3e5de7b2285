/- For every two texts of bytes, of the inputs that are drawn from them least numbers leave just so many over, others come a step later, and turned formations come back as often as told. -/
import Derived.Test.YteekggogodjffaaPFnFormsLeftx9
namespace Go.Proofs.Yteekggogodjffaa.Pure
open Go.RowKit Go.Proofs.Yteekggogodjffaa.PFnFormsLeft Go.Proofs.YteekggogodjffaaW.PrintWords Go.Proofs.YteekggogodjffaaW.PrintLast
set_option linter.unusedVariables false
set_option linter.unusedSimpArgs false

theorem w64 {x : Int} (h1 : -9223372036854775808 ≤ x) (h2 : x ≤ 9223372036854775807) : wrap64 x = x := by
  unfold wrap64
  omega
theorem wf_lo {a : Int} (h : (Lit.int .i64 a).wf = true) : -9223372036854775808 ≤ a := by
  have h' : IntKind.i64.min ≤ a ∧ a ≤ IntKind.i64.max := by simpa [Lit.wf] using h
  have e : IntKind.i64.min = -9223372036854775808 := by decide
  omega
theorem wf_hi {a : Int} (h : (Lit.int .i64 a).wf = true) : a ≤ 9223372036854775807 := by
  have h' : IntKind.i64.min ≤ a ∧ a ≤ IntKind.i64.max := by simpa [Lit.wf] using h
  have e : IntKind.i64.max = 9223372036854775807 := by decide
  omega
theorem ev_congr_fun {α : Type} {g f : Nat → Option α} {r : α} (h : g = f) (k : Ev f r) : Ev g r := h ▸ k
theorem rd_mid (pre : List Int) (x : Int) (rest : List Int) : rd (pre ++ x :: rest) (pre.length : Int) = x := by
  simp [rd]
def mapTo (g : Nat → Int) (n : Nat) : List Int := (List.range n).map g
theorem mapTo_length (g : Nat → Int) (n : Nat) : (mapTo g n).length = n := by simp [mapTo]
theorem rd_mapTo {g : Nat → Int} {n i : Nat} (h : i < n) : rd (mapTo g n) (i : Int) = g i := by
  simp [rd, mapTo, List.getD_eq_getElem?_getD, List.getElem?_map, List.getElem?_range h]
def fillTo (g : Nat → Int) (i n : Nat) : List Int := mapTo g i ++ List.replicate (n - i) 0
theorem fillTo_zero (g : Nat → Int) (n : Nat) : fillTo g 0 n = List.replicate n 0 := by simp [fillTo, mapTo]
theorem fillTo_full (g : Nat → Int) (n : Nat) : fillTo g n n = mapTo g n := by simp [fillTo]
theorem fillTo_length (g : Nat → Int) {i n : Nat} (h : i ≤ n) : (fillTo g i n).length = n := by
  simp [fillTo, mapTo_length]
  omega
theorem fillTo_set (g : Nat → Int) {i n : Nat} (h : i < n) : (fillTo g i n).set i (g i) = fillTo g (i + 1) n := by
  unfold fillTo
  have e : n - i = (n - (i + 1)) + 1 := by omega
  rw [e, List.replicate_succ, List.set_append_right _ _ (by rw [mapTo_length]; exact Nat.le_refl _), mapTo_length, Nat.sub_self, List.set_cons_zero]
  have e2 : mapTo g (i + 1) = mapTo g i ++ [g i] := by simp [mapTo, List.range_succ]
  rw [e2, List.append_assoc]
  rfl
def allUp (q : Nat → Bool) : Nat → Nat → Bool
  | _, 0 => true
  | i, d + 1 => q i && allUp q (i + 1) d
theorem allUp_iff (q : Nat → Bool) (d : Nat) : ∀ i, allUp q i d = true ↔ ∀ j, i ≤ j → j < i + d → q j = true := by
  induction d with
  | zero => intro i; exact ⟨fun _ j h1 h2 => by omega, fun _ => rfl⟩
  | succ d ih =>
    intro i
    simp only [allUp, Bool.and_eq_true, ih (i + 1)]
    constructor
    · rintro ⟨h1, h2⟩ j a b
      by_cases e : j = i
      · subst e; exact h1
      · exact h2 j (by omega) (by omega)
    · intro h
      exact ⟨h i (by omega) (by omega), fun j a b => h j (by omega) (by omega)⟩
def colList (C c : Int) : Nat → List Int
  | 0 => []
  | n + 1 => ((n : Int) * C + c) :: colList C c n
def formFrom (R : Nat) (C c : Int) : Nat → List Int
  | 0 => []
  | m + 1 => colList C c R ++ formFrom R C (c + 1) m
theorem colList_length (C c : Int) (n : Nat) : (colList C c n).length = n := by
  induction n with
  | zero => rfl
  | succ n ih => simp [colList, ih]
theorem formFrom_length (R : Nat) (C : Int) (m : Nat) : ∀ c, (formFrom R C c m).length = m * R := by
  induction m with
  | zero => intro c; simp [formFrom]
  | succ m ih => intro c; simp [formFrom, ih, colList_length, Nat.succ_mul]; omega
theorem sides_eq (a0 a1 : Int) : spec_foSides.f a0 a1 = impl_isTurned.f a0 a1 := by
  unfold spec_foSides.f impl_isTurned.f spec_l1In.f impl_in.f
  rfl
theorem isTurned_some (a0 a1 : Int) : ∃ b, impl_isTurned.f a0 a1 = some b ∧ (b = true → ∃ R C : Nat, a0 = R ∧ a1 = C ∧ 1 ≤ R ∧ 1 ≤ C ∧ R ≤ 200 ∧ C ≤ 200 ∧ R * C ≤ 200) := by
  unfold impl_isTurned.f impl_in.f
  by_cases h1 : 1 ≤ a0
  · by_cases h2 : a0 ≤ 200
    · by_cases h3 : 1 ≤ a1
      · by_cases h4 : a1 ≤ 200
        · simp only [h1, h2, h3, h4, if_true, decide_true, Option.bind_some, true_and]
          refine ⟨_, rfl, fun h => ?_⟩
          have h := of_decide_eq_true h
          obtain ⟨R, rfl⟩ := Int.eq_ofNat_of_zero_le (show 0 ≤ a0 by omega)
          obtain ⟨C, rfl⟩ := Int.eq_ofNat_of_zero_le (show 0 ≤ a1 by omega)
          have hb : R * C ≤ 200 * 200 := Nat.mul_le_mul (by omega) (by omega)
          have hc : ((R : Int) * (C : Int)) = ((R * C : Nat) : Int) := by simp
          rw [hc, w64 (by omega) (by omega)] at h
          exact ⟨R, C, rfl, rfl, by omega, by omega, by omega, by omega, by omega⟩
        · simp [h1, h2, h3, h4]
      · simp [h1, h2, h3]
    · simp [h1, h2]
  · simp [h1]
theorem spec_l1 {R C : Nat} {c : Int} (h0 : 0 ≤ c) (hc : c < C) (hR : 1 ≤ R) (hRC : R * C ≤ 200) (res : List Int) (n : Nat) : ∀ xs : List Int, n ≤ R → xs.length + n ≤ 1000 →
    Ev (fun k => spec_foTurn.l0 k R C (xs ++ colList C c n) (c + 1)) res → Ev (fun k => spec_foTurn.l1 k R C xs c ((n : Int) - 1)) res := by
  have hC : C ≤ 200 := Nat.le_trans (Nat.le_mul_of_pos_left C hR) hRC
  induction n with
  | zero =>
    intro xs hn hl h
    refine Ev.step (fun k => ?_) h
    rw [spec_foTurn.l1]
    rw [if_neg (by omega), w64 (by omega) (by omega)]
    simp [colList]
  | succ n ih =>
    intro xs hn hl h
    have hm : n * C ≤ R * C := Nat.mul_le_mul_right C (by omega)
    have e : ((n : Int) * (C : Int)) = ((n * C : Nat) : Int) := by simp
    refine Ev.step (f := fun k => spec_foTurn.l1 k R C (xs ++ [(n : Int) * C + c]) c ((n : Int) - 1)) (fun k => ?_) ?_
    · rw [spec_foTurn.l1]
      have e1 : ((n + 1 : Nat) : Int) - 1 = n := by omega
      rw [e1, if_pos (by omega), if_pos (by omega), e, w64 (x := ((n * C : Nat) : Int)) (by omega) (by omega), w64 (by omega) (by omega), w64 (by omega) (by omega)]
    · refine ih _ (by omega) (by simp; omega) ?_
      simpa [colList] using h
theorem impl_l1 {R C : Nat} {c : Int} (x9 : Int) (h0 : 0 ≤ c) (hc : c < C) (hR : 1 ≤ R) (hRC : R * C ≤ 200) (res : List Int) (n : Nat) : ∀ xs : List Int, n ≤ R → xs.length + n ≤ 1000 →
    Ev (fun k => impl_turnedForm.l0 k R C (xs ++ colList C c n) x9 (c + 1)) res → Ev (fun k => impl_turnedForm.l1 k R C xs c ((n : Int) - 1) x9 c) res := by
  have hC : C ≤ 200 := Nat.le_trans (Nat.le_mul_of_pos_left C hR) hRC
  induction n with
  | zero =>
    intro xs hn hl h
    refine Ev.step (fun k => ?_) h
    rw [impl_turnedForm.l1]
    rw [if_neg (by omega), w64 (by omega) (by omega)]
    simp [colList]
  | succ n ih =>
    intro xs hn hl h
    have hm : n * C ≤ R * C := Nat.mul_le_mul_right C (by omega)
    have e : ((n : Int) * (C : Int)) = ((n * C : Nat) : Int) := by simp
    refine Ev.step (f := fun k => impl_turnedForm.l1 k R C (xs ++ [(n : Int) * C + c]) c ((n : Int) - 1) x9 c) (fun k => ?_) ?_
    · rw [impl_turnedForm.l1]
      have e1 : ((n + 1 : Nat) : Int) - 1 = n := by omega
      rw [e1, if_pos (by omega), if_pos (by omega), e, w64 (x := ((n * C : Nat) : Int)) (by omega) (by omega), w64 (by omega) (by omega), w64 (by omega) (by omega)]
    · refine ih _ (by omega) (by simp; omega) ?_
      simpa [colList] using h
theorem spec_l0 {R C : Nat} (hR : 1 ≤ R) (hRC : R * C ≤ 200) (m : Nat) : ∀ (c : Int) (xs : List Int), 0 ≤ c → c + m = C → xs.length + m * R ≤ 200 →
    Ev (fun k => spec_foTurn.l0 k R C xs c) (xs ++ formFrom R C c m) := by
  have hR2 : m = 0 ∨ 1 ≤ m := by omega
  induction m with
  | zero =>
    intro c xs h0 hc hl
    refine Ev.step (f := fun _ => some xs) (fun k => by rw [spec_foTurn.l0]; rw [if_neg (by omega)]) ?_
    simpa [formFrom] using Ev.now xs
  | succ m ih =>
    intro c xs h0 hc hl
    rw [Nat.succ_mul] at hl
    have hC : 1 ≤ C := by omega
    have hR200 : R ≤ 200 := by omega
    refine Ev.step (f := fun k => spec_foTurn.l1 k R C xs c ((R : Int) - 1)) (fun k => ?_) ?_
    · rw [spec_foTurn.l0]
      rw [if_pos (by omega), w64 (by omega) (by omega)]
    · refine spec_l1 h0 (by omega) hR hRC _ R xs (by omega) (by omega) ?_
      have := ih (by omega) (c + 1) (xs ++ colList C c R) (by omega) (by omega) (by simp [colList_length]; omega)
      simpa [formFrom] using this
theorem impl_l0 {R C : Nat} (hR : 1 ≤ R) (hRC : R * C ≤ 200) (m : Nat) : ∀ (c : Int) (xs : List Int), 0 ≤ c → c + m = C → xs.length + m * R ≤ 200 →
    Ev (fun k => impl_turnedForm.l0 k R C xs C c) (xs ++ formFrom R C c m) := by
  have hR2 : m = 0 ∨ 1 ≤ m := by omega
  induction m with
  | zero =>
    intro c xs h0 hc hl
    refine Ev.step (f := fun _ => some xs) (fun k => by rw [impl_turnedForm.l0]; rw [if_neg (by omega)]) ?_
    simpa [formFrom] using Ev.now xs
  | succ m ih =>
    intro c xs h0 hc hl
    rw [Nat.succ_mul] at hl
    have hC : 1 ≤ C := by omega
    have hR200 : R ≤ 200 := by omega
    refine Ev.step (f := fun k => impl_turnedForm.l1 k R C xs c ((R : Int) - 1) C c) (fun k => ?_) ?_
    · rw [impl_turnedForm.l0]
      rw [if_pos (by omega), w64 (by omega) (by omega)]
    · refine impl_l1 _ h0 (by omega) hR hRC _ R xs (by omega) (by omega) ?_
      have := ih (by omega) (c + 1) (xs ++ colList C c R) (by omega) (by omega) (by simp [colList_length]; omega)
      simpa [formFrom] using this
theorem spec_form {R C : Nat} (hR : 1 ≤ R) (hRC : R * C ≤ 200) : Ev (fun k => spec_foTurn.f k R C) (formFrom R C 0 C) := by
  have := spec_l0 hR hRC C 0 [] (by omega) (by omega) (by rw [Nat.mul_comm]; simpa using hRC)
  simpa [spec_foTurn.f] using this
theorem impl_form {R C : Nat} (hR : 1 ≤ R) (hRC : R * C ≤ 200) : Ev (fun k => impl_turnedForm.f k R C) (formFrom R C 0 C) := by
  have := impl_l0 hR hRC C 0 [] (by omega) (by omega) (by rw [Nat.mul_comm]; simpa using hRC)
  simpa [impl_turnedForm.f] using this
theorem impl_gcd_l0 (n : Nat) : ∀ (m b : Nat), b = n → Ev (fun k => impl_gcd.l0 k (m : Int) (b : Int)) ((Nat.gcd m b : Nat) : Int) := by
  induction n using Nat.strongRecOn with
  | _ n ih =>
    intro m b hb
    by_cases h : b = 0
    · subst h
      refine Ev.step (f := fun _ => some (m : Int)) (fun k => by rw [impl_gcd.l0, if_pos (by omega)]) ?_
      rw [Nat.gcd_zero_right]
      exact Ev.now _
    · have hlt : m % b < n := by rw [← hb]; exact Nat.mod_lt _ (by omega)
      have := ih (m % b) hlt b (m % b) rfl
      refine Ev.step (f := fun k => impl_gcd.l0 k (b : Int) ((m % b : Nat) : Int)) (fun k => ?_) ?_
      · rw [impl_gcd.l0, if_neg (by omega)]
        rfl
      · have e : Nat.gcd b (m % b) = Nat.gcd m b := by rw [Nat.gcd_comm b (m % b), ← Nat.gcd_rec, Nat.gcd_comm]
        rw [e] at this
        exact this
theorem impl_gcd_ok (m b : Nat) : Ev (fun k => impl_gcd.f k (m : Int) (b : Int)) ((Nat.gcd m b : Nat) : Int) := impl_gcd_l0 b m b rfl
theorem spec_foCommon_l0 (n : Nat) : ∀ (m b : Nat), b = n → Ev (fun k => spec_foCommon.l0 k (m : Int) (b : Int)) ((Nat.gcd m b : Nat) : Int) := by
  induction n using Nat.strongRecOn with
  | _ n ih =>
    intro m b hb
    by_cases h : b = 0
    · subst h
      refine Ev.step (f := fun _ => some (m : Int)) (fun k => by rw [spec_foCommon.l0, if_neg (by omega)]) ?_
      rw [Nat.gcd_zero_right]
      exact Ev.now _
    · have hlt : m % b < n := by rw [← hb]; exact Nat.mod_lt _ (by omega)
      have := ih (m % b) hlt b (m % b) rfl
      refine Ev.step (f := fun k => spec_foCommon.l0 k (b : Int) ((m % b : Nat) : Int)) (fun k => ?_) ?_
      · rw [spec_foCommon.l0, if_pos (by omega), if_neg (by omega)]
        rfl
      · have e : Nat.gcd b (m % b) = Nat.gcd m b := by rw [Nat.gcd_comm b (m % b), ← Nat.gcd_rec, Nat.gcd_comm]
        rw [e] at this
        exact this
theorem spec_foCommon_ok (m b : Nat) : Ev (fun k => spec_foCommon.f k (m : Int) (b : Int)) ((Nat.gcd m b : Nat) : Int) := spec_foCommon_l0 b m b rfl
def it (f : Nat → Nat) : Nat → Nat → Nat
  | 0, x => x
  | n + 1, x => it f n (f x)
theorem it_add (f : Nat → Nat) (a : Nat) : ∀ b x, it f (a + b) x = it f b (it f a x) := by
  induction a with
  | zero => intro b x; simp [it]
  | succ a ih => intro b x; rw [show a + 1 + b = (a + b) + 1 by omega]; simp [it, ih]
theorem it_mul (f : Nat → Nat) (d x : Nat) (h : it f d x = x) (q : Nat) : it f (d * q) x = x := by
  induction q with
  | zero => rfl
  | succ q ih => rw [Nat.mul_succ, it_add, ih, h]
theorem least_period (f : Nat → Nat) (L x : Nat) (hL : 1 ≤ L) (h : it f L x = x) : ∃ d, 1 ≤ d ∧ d ≤ L ∧ d ∣ L ∧ it f d x = x ∧ ∀ e, 1 ≤ e → e < d → it f e x ≠ x := by
  have hex : ∀ n, ∀ m, m + n = L + 1 → 1 ≤ m → (∀ e, 1 ≤ e → e < m → it f e x ≠ x) → ∃ d, 1 ≤ d ∧ d ≤ L ∧ it f d x = x ∧ ∀ e, 1 ≤ e → e < d → it f e x ≠ x := by
    intro n
    induction n with
    | zero => intro m hm h1 hlt; exact absurd h (hlt L hL (by omega))
    | succ n ih =>
      intro m hm h1 hlt
      by_cases hmx : it f m x = x
      · exact ⟨m, h1, by omega, hmx, hlt⟩
      · refine ih (m + 1) (by omega) (by omega) (fun e he hlt' => ?_)
        by_cases hem : e = m
        · subst hem; exact hmx
        · exact hlt e he (by omega)
  obtain ⟨d, h1, h2, h3, h4⟩ := hex L 1 (by omega) (by omega) (fun e h1 h2 => by omega)
  refine ⟨d, h1, h2, ?_, h3, h4⟩
  have hr : it f (L % d) x = x := by
    have e : L = d * (L / d) + L % d := (Nat.div_add_mod L d).symm
    rw [e, it_add, it_mul f d x h3] at h
    exact h
  by_cases hz : L % d = 0
  · exact Nat.dvd_of_mod_eq_zero hz
  · exact absurd hr (h4 _ (by omega) (Nat.mod_lt _ (by omega)))
theorem period_iff (f : Nat → Nat) {d x : Nat} (h1 : 1 ≤ d) (h : it f d x = x) (hl : ∀ e, 1 ≤ e → e < d → it f e x ≠ x) (e : Nat) : it f e x = x ↔ d ∣ e := by
  constructor
  · intro he
    have hr : it f (e % d) x = x := by
      have e1 : e = d * (e / d) + e % d := (Nat.div_add_mod e d).symm
      rw [e1, it_add, it_mul f d x h] at he
      exact he
    by_cases hz : e % d = 0
    · exact Nat.dvd_of_mod_eq_zero hz
    · exact absurd hr (hl _ (by omega) (Nat.mod_lt _ (by omega)))
  · rintro ⟨q, rfl⟩
    exact it_mul f d x h q
/-- The places, from 1 on, go by a factor. -/
theorem it_pow (m N : Nat) (k : Nat) : ∀ x, x < N → it (fun x => m * x % N) k x = m ^ k * x % N := by
  induction k with
  | zero => intro x hx; simp [it, Nat.mod_eq_of_lt hx]
  | succ k ih =>
    intro x hx
    have hN : 0 < N := by omega
    show it _ k (m * x % N) = _
    rw [ih _ (Nat.mod_lt _ hN), Nat.mul_mod_mod, Nat.pow_succ, Nat.mul_assoc]
def ordOk (R C : Nat) : Bool := (List.range 200).any fun k => (R * C + 1 - C) ^ (k + 1) % (R * C + 1) == 1
def ordAll : Bool := (List.range 201).all fun R => R == 0 || (List.range (200 / R + 1)).all fun C => C == 0 || ordOk R C
theorem ordAll_ok : ordAll = true := by decide +kernel
theorem ord_ex {R C : Nat} (hR : 1 ≤ R) (hC : 1 ≤ C) (hRC : R * C ≤ 200) : ∃ L, 1 ≤ L ∧ L ≤ 200 ∧ (R * C + 1 - C) ^ L % (R * C + 1) = 1 := by
  have h := ordAll_ok
  unfold ordAll at h
  have hR200 : R ≤ 200 := Nat.le_trans (Nat.le_mul_of_pos_right R hC) hRC
  have h1 := List.all_eq_true.1 h R (by simp; omega)
  have hr0 : (R == 0) = false := by simp; omega
  rw [hr0, Bool.false_or] at h1
  have hCR : C ≤ 200 / R := (Nat.le_div_iff_mul_le (by omega)).2 (by rw [Nat.mul_comm]; exact hRC)
  have h2 := List.all_eq_true.1 h1 C (by simp; omega)
  have hc0 : (C == 0) = false := by simp; omega
  rw [hc0, Bool.false_or] at h2
  unfold ordOk at h2
  obtain ⟨k, hk, he⟩ := List.any_eq_true.1 h2
  simp at hk
  exact ⟨k + 1, by omega, by omega, by simpa using he⟩
theorem rd_append_left (xs ys : List Int) (i : Nat) (h : i < xs.length) : rd (xs ++ ys) (i : Int) = rd xs (i : Int) := by
  simp [rd, List.getD_eq_getElem?_getD, List.getElem?_append_left h]
theorem rd_append_right (xs ys : List Int) (i : Nat) : rd (xs ++ ys) ((xs.length + i : Nat) : Int) = rd ys (i : Int) := by
  simp only [rd, Int.toNat_natCast, List.getD_eq_getElem?_getD]
  rw [List.getElem?_append_right (by omega), Nat.add_sub_cancel_left]
theorem rd_col (C c : Int) (n : Nat) : ∀ q, q < n → rd (colList C c n) (q : Int) = ((n - 1 - q : Nat) : Int) * C + c := by
  induction n with
  | zero => intro q h; omega
  | succ n ih =>
    intro q h
    cases q with
    | zero => simp [colList, rd]
    | succ q =>
      have := ih q (by omega)
      have e : n + 1 - 1 - (q + 1) = n - 1 - q := by omega
      rw [e, ← this]
      simp [colList, rd]
theorem rd_form (R : Nat) (C : Int) (m : Nat) : ∀ (c0 : Int) (c q : Nat), c < m → q < R → rd (formFrom R C c0 m) ((c * R + q : Nat) : Int) = ((R - 1 - q : Nat) : Int) * C + (c0 + c) := by
  induction m with
  | zero => intro c0 c q h; omega
  | succ m ih =>
    intro c0 c q hc hq
    cases c with
    | zero =>
      rw [formFrom, Nat.zero_mul, Nat.zero_add, rd_append_left _ _ _ (by rw [colList_length]; exact hq), rd_col _ _ _ _ hq]
      simp
    | succ c =>
      have e : (c + 1) * R + q = (colList C c0 R).length + (c * R + q) := by rw [colList_length, Nat.succ_mul]; omega
      rw [formFrom, e, rd_append_right, ih _ _ _ (by omega) hq]
      congr 1
      omega
theorem mul_place {R C c q : Nat} (hR : 1 ≤ R) (hc : c < C) (hq : q < R) : (R * C + 1 - C) * (c * R + q + 1) % (R * C + 1) = (R - 1 - q) * C + c + 1 := by
  have hCR : C ≤ R * C := Nat.le_mul_of_pos_left C hR
  obtain ⟨p, rfl⟩ : ∃ p, R = q + 1 + p := ⟨R - 1 - q, by omega⟩
  have e0 : q + 1 + p - 1 - q = p := by omega
  rw [e0]
  have hcR : c ≤ c * (q + 1 + p) := Nat.le_mul_of_pos_right c hR
  have key : ((q + 1 + p) * C + 1 - C) * (c * (q + 1 + p) + q + 1) = (p * C + c + 1) + ((q + 1 + p) * C + 1) * (c * (q + 1 + p) + q - c) := by
    have e1 : (q + 1 + p) * C + 1 - C = (q + p) * C + 1 := by
      have : (q + 1 + p) * C = (q + p) * C + C := by rw [show q + 1 + p = (q + p) + 1 by omega, Nat.succ_mul]
      omega
    have e2 : c * (q + 1 + p) + q - c = c * (q + p) + q := by
      have : c * (q + 1 + p) = c * (q + p) + c := by rw [show q + 1 + p = (q + p) + 1 by omega, Nat.mul_succ]
      omega
    rw [e1, e2]
    grind
  rw [key, Nat.add_mul_mod_self_left, Nat.mod_eq_of_lt]
  have h1 : (q + 1 + p) * C = q * C + C + p * C := by grind
  omega
/-- What stands at a place: by the factor. -/
theorem rd_place {R C i : Nat} (hR : 1 ≤ R) (hC : 1 ≤ C) (hi : i < R * C) : rd (formFrom R C 0 C) (i : Int) = (((R * C + 1 - C) * (i + 1) % (R * C + 1) - 1 : Nat) : Int) ∧ 1 ≤ (R * C + 1 - C) * (i + 1) % (R * C + 1) := by
  have hc : i / R < C := Nat.div_lt_of_lt_mul (by exact hi)
  have hq : i % R < R := Nat.mod_lt _ (by omega)
  have e : i = i / R * R + i % R := by rw [Nat.mul_comm]; exact (Nat.div_add_mod i R).symm
  have h1 := rd_form R C C 0 (i / R) (i % R) hc hq
  rw [← e] at h1
  have h2 := mul_place hR hc hq
  rw [← e] at h2
  rw [h1, h2]
  refine ⟨?_, Nat.le_add_left 1 _⟩
  simp
/-- The places from 0 on, as they go. -/
def nx (R C : Nat) (i : Nat) : Nat := (R * C + 1 - C) * (i + 1) % (R * C + 1) - 1
theorem nx_lt {R C i : Nat} (hR : 1 ≤ R) (hC : 1 ≤ C) (hi : i < R * C) : nx R C i < R * C := by
  have := (rd_place hR hC hi).2
  have h2 : (R * C + 1 - C) * (i + 1) % (R * C + 1) < R * C + 1 := Nat.mod_lt _ (by omega)
  unfold nx
  omega
theorem it_nx {R C : Nat} (hR : 1 ≤ R) (hC : 1 ≤ C) (k : Nat) : ∀ i, i < R * C → it (nx R C) k i + 1 = it (fun x => (R * C + 1 - C) * x % (R * C + 1)) k (i + 1) := by
  induction k with
  | zero => intro i hi; rfl
  | succ k ih =>
    intro i hi
    show it _ k (nx R C i) + 1 = it _ k ((R * C + 1 - C) * (i + 1) % (R * C + 1))
    rw [ih _ (nx_lt hR hC hi)]
    have := (rd_place hR hC hi).2
    congr 1
    unfold nx
    omega
theorem period_ex {R C : Nat} (hR : 1 ≤ R) (hC : 1 ≤ C) (hRC : R * C ≤ 200) : ∃ L, 1 ≤ L ∧ L ≤ 200 ∧ ∀ i, i < R * C → it (nx R C) L i = i := by
  obtain ⟨L, h1, h2, h3⟩ := ord_ex hR hC hRC
  refine ⟨L, h1, h2, fun i hi => ?_⟩
  have h := it_nx hR hC L i hi
  rw [it_pow _ _ _ _ (by omega), ← Nat.mod_mul_mod, h3, Nat.one_mul, Nat.mod_eq_of_lt (by omega)] at h
  omega
theorem lcm_left (t d : Nat) (ht : 1 ≤ t) : t / Nat.gcd t d * d = Nat.lcm t d := by
  rw [Nat.lcm, Nat.mul_comm, ← Nat.mul_div_assoc _ (Nat.gcd_dvd_left t d), Nat.mul_comm d t]
theorem lcm_right (t d : Nat) (ht : 1 ≤ t) : t * (d / Nat.gcd t d) = Nat.lcm t d := by
  rw [Nat.lcm, Nat.mul_div_assoc _ (Nat.gcd_dvd_right t d)]
section
variable {R C : Nat} (hR : 1 ≤ R) (hC : 1 ≤ C) (hRC : R * C ≤ 200)
include hR hC
theorem spec_cyc {i : Nat} (hi : i < R * C) (t x19 x20 : Int) (res : Int × Bool) (j : Nat) : ∀ (at_ long : Nat), at_ < R * C → long + j ≤ 400 → it (nx R C) j at_ = i → (∀ e, e < j → it (nx R C) e at_ ≠ i) →
    Ev (fun k => (spec_foCommon.f k t ((long + j : Nat) : Int)).bind fun t111 => (if t111 = 0 then (none) else (spec_TimesTurned.l0 k (formFrom R C 0 C) (wrap64 ((wrap64 (Int.tdiv t t111)) * ((long + j : Nat) : Int))) x19 (wrap64 (x20 + 1))))) res →
    Ev (fun k => spec_TimesTurned.l1 k (formFrom R C 0 C) t i long at_ x19 x20) res := by
  induction j with
  | zero =>
    intro at_ long hat hl hit hne h
    refine Ev.step (fun k => ?_) h
    have : at_ = i := hit
    rw [spec_TimesTurned.l1, if_pos (by omega)]
    rfl
  | succ j ih =>
    intro at_ long hat hl hit hne h
    have h0 : at_ ≠ i := hne 0 (by omega)
    have hlen : (formFrom R C 0 C).length = R * C := by rw [formFrom_length, Nat.mul_comm]
    refine Ev.step (f := fun k => spec_TimesTurned.l1 k (formFrom R C 0 C) t i ((long + 1 : Nat) : Int) ((nx R C at_ : Nat) : Int) x19 x20) (fun k => ?_) ?_
    · have hne' : ¬ ((at_ : Int) = (i : Int)) := by omega
      rw [spec_TimesTurned.l1, if_neg hne', if_pos (by omega), if_pos (by omega), w64 (by omega) (by omega), (rd_place hR hC hat).1]
      rfl
    · refine ih _ _ (nx_lt hR hC hat) (by omega) hit (fun e he => hne (e + 1) (by omega)) ?_
      have e : long + 1 + j = long + (j + 1) := by omega
      rw [e]
      exact h
theorem impl_cyc {i : Nat} (hi : i < R * C) (t x19 x20 : Int) (res : Int × Bool) (j : Nat) : ∀ (at_ long : Nat), at_ < R * C → long + j ≤ 400 → it (nx R C) j at_ = i → (∀ e, e < j → it (nx R C) e at_ ≠ i) →
    Ev (fun k => (impl_gcd.f k t ((long + j : Nat) : Int)).bind fun t126 => (if t126 = 0 then (none) else (impl_TimesTurned.l0 k (formFrom R C 0 C) (wrap64 (t * (wrap64 (Int.tdiv ((long + j : Nat) : Int) t126)))) x19 (wrap64 (x20 + 1))))) res →
    Ev (fun k => impl_TimesTurned.l1 k (formFrom R C 0 C) t i long at_ x19 x20) res := by
  induction j with
  | zero =>
    intro at_ long hat hl hit hne h
    refine Ev.step (fun k => ?_) h
    have : at_ = i := hit
    rw [impl_TimesTurned.l1, if_pos (by omega)]
    rfl
  | succ j ih =>
    intro at_ long hat hl hit hne h
    have h0 : at_ ≠ i := hne 0 (by omega)
    have hlen : (formFrom R C 0 C).length = R * C := by rw [formFrom_length, Nat.mul_comm]
    refine Ev.step (f := fun k => impl_TimesTurned.l1 k (formFrom R C 0 C) t i ((long + 1 : Nat) : Int) ((nx R C at_ : Nat) : Int) x19 x20) (fun k => ?_) ?_
    · have hne' : ¬ ((at_ : Int) = (i : Int)) := by omega
      rw [impl_TimesTurned.l1, if_neg hne', if_pos (by omega), if_pos (by omega), w64 (by omega) (by omega), (rd_place hR hC hat).1]
      rfl
    · refine ih _ _ (nx_lt hR hC hat) (by omega) hit (fun e he => hne (e + 1) (by omega)) ?_
      have e : long + 1 + j = long + (j + 1) := by omega
      rw [e]
      exact h
include hRC
theorem times_l0 {L : Nat} (hL1 : 1 ≤ L) (hL2 : L ≤ 200) (hL : ∀ i, i < R * C → it (nx R C) L i = i) (n : Nat) : ∀ (i t : Nat), i + n = R * C → 1 ≤ t → t ∣ L → (∀ e, (∀ j, j < i → it (nx R C) e j = j) ↔ t ∣ e) →
    ∃ T : Nat, 1 ≤ T ∧ T ≤ 200 ∧ (∀ e, (∀ j, j < R * C → it (nx R C) e j = j) ↔ T ∣ e) ∧ Ev (fun k => spec_TimesTurned.l0 k (formFrom R C 0 C) t ((R * C : Nat) : Int) i) (T, true) ∧ Ev (fun k => impl_TimesTurned.l0 k (formFrom R C 0 C) t ((R * C : Nat) : Int) i) (T, true) := by
  have hlen : (formFrom R C 0 C).length = R * C := by rw [formFrom_length, Nat.mul_comm]
  induction n with
  | zero =>
    intro i t hi h1 ht hQ
    have hiE : i = R * C := by omega
    rw [hiE] at hQ
    exact ⟨t, h1, Nat.le_trans (Nat.le_of_dvd (by omega) ht) hL2, hQ, Ev.step (f := fun _ => some ((t : Int), true)) (fun k => by rw [spec_TimesTurned.l0, if_neg (by omega)]) (Ev.now _), Ev.step (f := fun _ => some ((t : Int), true)) (fun k => by rw [impl_TimesTurned.l0, if_neg (by omega)]) (Ev.now _)⟩
  | succ n ih =>
    intro i t hi h1 ht hQ
    have hlt : i < R * C := by omega
    obtain ⟨d, hd1, hd2, hd3, hd4, hd5⟩ := least_period (nx R C) L i hL1 (hL i hlt)
    obtain ⟨j, rfl⟩ : ∃ j, d = 1 + j := ⟨d - 1, by omega⟩
    have htL : t ≤ 200 := Nat.le_trans (Nat.le_of_dvd (by omega) ht) hL2
    have hlcm : Nat.lcm t (1 + j) ∣ L := Nat.lcm_dvd ht hd3
    have hlcm1 : 1 ≤ Nat.lcm t (1 + j) := Nat.lcm_pos (by omega) (by omega)
    have hlcm2 : Nat.lcm t (1 + j) ≤ 200 := Nat.le_trans (Nat.le_of_dvd (by omega) hlcm) hL2
    have hg1 : 1 ≤ Nat.gcd t (1 + j) := Nat.gcd_pos_of_pos_left _ (by omega)
    have hQ2 : ∀ e, (∀ j', j' < i + 1 → it (nx R C) e j' = j') ↔ Nat.lcm t (1 + j) ∣ e := by
      intro e
      rw [Nat.lcm_dvd_iff, ← hQ e]
      constructor
      · intro h
        exact ⟨fun j' hj' => h j' (by omega), (period_iff (nx R C) hd1 hd4 hd5 e).1 (h i (by omega))⟩
      · rintro ⟨h, hd⟩ j' hj'
        rcases Nat.lt_or_ge j' i with h' | h'
        · exact h j' h'
        · obtain rfl : j' = i := by omega
          exact (period_iff (nx R C) hd1 hd4 hd5 e).2 hd
    obtain ⟨T, hT1, hT2, hT3, hs, hi'⟩ := ih (i + 1) (Nat.lcm t (1 + j)) (by omega) hlcm1 hlcm hQ2
    have hq1 : t / Nat.gcd t (1 + j) ≤ t := Nat.div_le_self _ _
    have hq2 : (1 + j) / Nat.gcd t (1 + j) ≤ 1 + j := Nat.div_le_self _ _
    have hz1 : (0 : Int) ≤ ((t / Nat.gcd t (1 + j) : Nat) : Int) := Int.natCast_nonneg _
    have hz2 : (0 : Int) ≤ (((1 + j) / Nat.gcd t (1 + j) : Nat) : Int) := Int.natCast_nonneg _
    have hit0 : it (nx R C) j (nx R C i) = i := by rw [Nat.add_comm] at hd4; exact hd4
    have hne0 : ∀ e, e < j → it (nx R C) e (nx R C i) ≠ i := fun e he => hd5 (e + 1) (by omega) (by omega)
    refine ⟨T, hT1, hT2, hT3, ?_, ?_⟩
    · refine Ev.step (f := fun k => spec_TimesTurned.l1 k (formFrom R C 0 C) t i ((1 : Nat) : Int) ((nx R C i : Nat) : Int) ((R * C : Nat) : Int) i) (fun k => ?_) ?_
      · rw [spec_TimesTurned.l0, if_pos (by omega), if_pos (by omega), if_pos (by omega), (rd_place hR hC hlt).1]
        rfl
      · refine spec_cyc hR hC hlt _ _ _ _ j _ 1 (nx_lt hR hC hlt) (by omega) hit0 hne0 ?_
        refine Ev.bind (spec_foCommon_ok t (1 + j)) ?_
        refine Ev.congr (fun k => ?_) hs
        have e1 : Int.tdiv (t : Int) ((Nat.gcd t (1 + j) : Nat) : Int) = ((t / Nat.gcd t (1 + j) : Nat) : Int) := rfl
        have e2 : ((t / Nat.gcd t (1 + j) : Nat) : Int) * ((1 + j : Nat) : Int) = ((Nat.lcm t (1 + j) : Nat) : Int) := by rw [← Int.natCast_mul, lcm_left t (1 + j) h1]
        rw [if_neg (by omega), e1, w64 (x := ((t / Nat.gcd t (1 + j) : Nat) : Int)) (by omega) (by omega), e2, w64 (by omega) (by omega), w64 (by omega) (by omega)]
        rfl
    · refine Ev.step (f := fun k => impl_TimesTurned.l1 k (formFrom R C 0 C) t i ((1 : Nat) : Int) ((nx R C i : Nat) : Int) ((R * C : Nat) : Int) i) (fun k => ?_) ?_
      · rw [impl_TimesTurned.l0, if_pos (by omega), if_pos (by omega), if_pos (by omega), (rd_place hR hC hlt).1]
        rfl
      · refine impl_cyc hR hC hlt _ _ _ _ j _ 1 (nx_lt hR hC hlt) (by omega) hit0 hne0 ?_
        refine Ev.bind (impl_gcd_ok t (1 + j)) ?_
        refine Ev.congr (fun k => ?_) hi'
        have e1 : Int.tdiv ((1 + j : Nat) : Int) ((Nat.gcd t (1 + j) : Nat) : Int) = (((1 + j) / Nat.gcd t (1 + j) : Nat) : Int) := rfl
        have e2 : (t : Int) * (((1 + j) / Nat.gcd t (1 + j) : Nat) : Int) = ((Nat.lcm t (1 + j) : Nat) : Int) := by rw [← Int.natCast_mul, lcm_right t (1 + j) h1]
        rw [if_neg (by omega), e1, w64 (x := (((1 + j) / Nat.gcd t (1 + j) : Nat) : Int)) (by omega) (by omega), e2, w64 (by omega) (by omega), w64 (by omega) (by omega)]
        rfl
theorem times_ord : ∃ T : Nat, 1 ≤ T ∧ T ≤ 200 ∧ (∀ e, (∀ j, j < R * C → it (nx R C) e j = j) ↔ T ∣ e) ∧ Ev (fun k => (spec_foTurn.f k R C).bind fun t107 => (spec_TimesTurned.l0 k t107 1 (t107.length : Int) 0)) (T, true) ∧ Ev (fun k => (impl_turnedForm.f k R C).bind fun t122 => (impl_TimesTurned.l0 k t122 1 (t122.length : Int) 0)) (T, true) := by
  obtain ⟨L, h1, h2, h3⟩ := period_ex hR hC hRC
  obtain ⟨T, hT1, hT2, hT3, hs, hi⟩ := times_l0 hR hC hRC h1 h2 h3 (R * C) 0 1 (by omega) (by omega) (Nat.one_dvd L) (fun e => ⟨fun _ => Nat.one_dvd e, fun _ j hj => by omega⟩)
  have hlen : (formFrom R C 0 C).length = R * C := by rw [formFrom_length, Nat.mul_comm]
  refine ⟨T, hT1, hT2, hT3, Ev.bind (spec_form hR hRC) ?_, Ev.bind (impl_form hR hRC) ?_⟩
  · rw [hlen]; exact hs
  · rw [hlen]; exact hi
end
theorem tt_both (a0 a1 : Int) (b : Bool) (hb : impl_isTurned.f a0 a1 = some b) : ∃ r, Ev (fun k => spec_TimesTurned.f k a0 a1) (r, b) ∧ Ev (fun k => impl_TimesTurned.f k a0 a1) (r, b) ∧ ∀ R C : Nat, b = true → a0 = R → a1 = C → 1 ≤ R → 1 ≤ C → R * C ≤ 200 → ∃ T : Nat, r = T ∧ 1 ≤ T ∧ T ≤ 200 ∧ ∀ e, (∀ j, j < R * C → it (nx R C) e j = j) ↔ T ∣ e := by
  unfold spec_TimesTurned.f impl_TimesTurned.f
  obtain ⟨b', hb', h⟩ := isTurned_some a0 a1
  rw [hb] at hb'
  injection hb' with hb'
  subst hb'
  simp only [sides_eq, hb, Option.bind_some]
  cases b with
  | false => exact ⟨0, by simpa using Ev.now _, by simpa using Ev.now _, fun _ _ h => by cases h⟩
  | true =>
    obtain ⟨R, C, rfl, rfl, hR, hC, _, _, hRC⟩ := h rfl
    simp only [if_true]
    obtain ⟨T, hT1, hT2, hT3, h1, h2⟩ := times_ord hR hC hRC
    refine ⟨T, h1, h2, fun R' C' _ e1 e2 _ _ _ => ?_⟩
    obtain rfl : R = R' := by omega
    obtain rfl : C = C' := by omega
    exact ⟨T, rfl, hT1, hT2, hT3⟩
theorem form_both (a0 a1 : Int) : ∃ r b, Ev (fun k => spec_TurnFormation.f k a0 a1) (r, b) ∧ Ev (fun k => impl_TurnFormation.f k a0 a1) (r, b) ∧ impl_isTurned.f a0 a1 = some b ∧ (b = true → ∃ R C : Nat, a0 = R ∧ a1 = C ∧ 1 ≤ R ∧ 1 ≤ C ∧ R * C ≤ 200 ∧ r = formFrom R C 0 C) ∧ r.length ≤ 200 := by
  obtain ⟨b, hb, h⟩ := isTurned_some a0 a1
  unfold spec_TurnFormation.f impl_TurnFormation.f
  simp only [sides_eq, hb, Option.bind_some]
  cases b with
  | false => exact ⟨[], false, by simpa using Ev.now _, by simpa using Ev.now _, rfl, (fun h => by cases h), by simp⟩
  | true =>
    obtain ⟨R, C, rfl, rfl, hR, hC, _, _, hRC⟩ := h rfl
    simp only [if_true]
    refine ⟨formFrom R C 0 C, true, Ev.bind (spec_form hR hRC) (Ev.now _), Ev.bind (impl_form hR hRC) (Ev.now _), rfl, (fun _ => ⟨R, C, rfl, rfl, hR, hC, hRC, rfl⟩), ?_⟩
    rw [formFrom_length, Nat.mul_comm]
    exact hRC
theorem nq {x : Nat} (h : x ≤ 1000000000000) : wrap64 (x : Int) = (x : Int) := w64 (by omega) (by omega)
theorem nq1 {x : Nat} (h : x ≤ 1000000000) : wrap64 ((x : Int) + 1) = ((x + 1 : Nat) : Int) := by rw [w64 (by omega) (by omega)]; omega
theorem nx_form {R C i : Nat} (hR : 1 ≤ R) (hC : 1 ≤ C) (hi : i < R * C) : nx R C i = (R - 1 - i % R) * C + i / R ∧ i / R < C ∧ i % R < R := by
  have hc : i / R < C := Nat.div_lt_of_lt_mul hi
  have hq : i % R < R := Nat.mod_lt _ (by omega)
  have e : i / R * R + i % R = i := by rw [Nat.mul_comm]; exact Nat.div_add_mod i R
  have h2 := mul_place hR hc hq
  rw [e] at h2
  refine ⟨?_, hc, hq⟩
  unfold nx
  rw [h2]
  exact Nat.add_sub_cancel _ 1
theorem nx_mod {R C i : Nat} (hR : 1 ≤ R) (hC : 1 ≤ C) (hi : i < R * C) : nx R C i % C = i / R ∧ nx R C i / C = R - 1 - i % R := by
  obtain ⟨h1, h2, h3⟩ := nx_form hR hC hi
  rw [h1]
  constructor
  · rw [Nat.mul_comm, Nat.mul_add_mod, Nat.mod_eq_of_lt h2]
  · rw [Nat.mul_comm, Nat.mul_add_div (by omega), Nat.div_eq_of_lt h2]
    rfl
theorem nx_inj {R C i j : Nat} (hR : 1 ≤ R) (hC : 1 ≤ C) (hi : i < R * C) (hj : j < R * C) (h : nx R C i = nx R C j) : i = j := by
  obtain ⟨a1, a2⟩ := nx_mod hR hC hi
  obtain ⟨b1, b2⟩ := nx_mod hR hC hj
  obtain ⟨_, _, a3⟩ := nx_form hR hC hi
  obtain ⟨_, _, b3⟩ := nx_form hR hC hj
  rw [h] at a1 a2
  have e1 : i / R = j / R := by omega
  have e2 : i % R = j % R := by omega
  rw [← Nat.div_add_mod i R, ← Nat.div_add_mod j R, e1, e2]
theorem nx_one {R C : Nat} (h1 : R = 1) (j : Nat) (hj : j < R * C) : nx R C j = j := by
  subst h1
  unfold nx
  have e : (1 * C + 1 - C) * (j + 1) = j + 1 := by
    have : 1 * C + 1 - C = 1 := by omega
    rw [this, Nat.one_mul]
  rw [e, Nat.mod_eq_of_lt (by omega)]
  rfl
section
variable {R C : Nat} (hR : 1 ≤ R) (hC : 1 ≤ C) (hRC : R * C ≤ 200)
include hRC
theorem fl_l8 {T kk : Nat} (hk : kk ≤ 1000) (x51 : List Int) (g : Nat → Int) (d : Nat) : ∀ (i : Nat) (b : Bool), i + d = R * C →
    (b && allUp (fun j => ((j : Int) == g j)) i d) = ((kk : Int) == (T : Int)) → Ev (fun k => laws_FnFormsLeft.l6 k x51 (T : Int) (mapTo g (R * C)) ((kk + 1 : Nat) : Int)) true →
    Ev (fun k => laws_FnFormsLeft.l8 k x51 (T : Int) (mapTo g (R * C)) (kk : Int) b (mapTo g (R * C)) ((R * C : Nat) : Int) (i : Int)) true := by
  have hl := mapTo_length g (R * C)
  induction d with
  | zero =>
    intro i b hi hb h
    simp only [allUp, Bool.and_true] at hb
    refine Ev.step (fun k => ?_) h
    have p : ¬ ((i : Int) < ((R * C : Nat) : Int)) := by omega
    rw [laws_FnFormsLeft.l8, if_neg p, hb, bne_self_eq_false, if_neg (by decide), nq1 (by omega)]
  | succ d ih =>
    intro i b hi hb h
    have p1 : (i : Int) < ((R * C : Nat) : Int) := by omega
    have p2 : (0 : Int) ≤ (i : Int) := by omega
    have p3 : (i : Int) < ((mapTo g (R * C)).length : Int) := by rw [hl]; exact p1
    have e := rd_mapTo (g := g) (n := R * C) (i := i) (by omega)
    have hi2 : i ≤ 1000000000 := by omega
    cases b with
    | false =>
      refine Ev.step (fun k => ?_) (ih (i + 1) false (by omega) (by simpa using hb) h)
      rw [laws_FnFormsLeft.l8, if_pos p1, if_pos p2, if_pos p3, if_neg (by decide), nq1 hi2]
    | true =>
      refine Ev.step (fun k => ?_) (ih (i + 1) ((i : Int) == g i) (by omega) (by simpa [allUp] using hb) h)
      rw [laws_FnFormsLeft.l8, if_pos p1, if_pos p2, if_pos p3, if_pos rfl, e, nq1 hi2]
theorem fl_l5 {T : Nat} (h6 : Ev (fun k => laws_FnFormsLeft.l6 k (formFrom R C 0 C) (T : Int) (mapTo (fun i => (i : Int)) (R * C)) 1) true) (d : Nat) : ∀ i, i + d = R * C →
    Ev (fun k => laws_FnFormsLeft.l5 k (formFrom R C 0 C) (T : Int) (fillTo (fun i => (i : Int)) i (R * C)) ((R * C : Nat) : Int) (i : Int)) true := by
  induction d with
  | zero =>
    intro i hi
    have e : i = R * C := by omega
    refine Ev.step (fun k => ?_) h6
    have p : ¬ ((i : Int) < ((R * C : Nat) : Int)) := by omega
    rw [laws_FnFormsLeft.l5, if_neg p, e, fillTo_full]
  | succ d ih =>
    intro i hi
    have p1 : (i : Int) < ((R * C : Nat) : Int) := by omega
    have p2 : (0 : Int) ≤ (i : Int) := by omega
    have p3 : (i : Int) < ((fillTo (fun i => (i : Int)) i (R * C)).length : Int) := by rw [fillTo_length _ (by omega)]; omega
    have e3 := fillTo_set (fun i => (i : Int)) (i := i) (n := R * C) (by omega)
    have hi2 : i ≤ 1000000000 := by omega
    refine Ev.step (fun k => ?_) (ih (i + 1) (by omega))
    rw [laws_FnFormsLeft.l5, if_pos p1, if_pos p2, if_pos p3, Int.toNat_natCast, e3, nq1 hi2]
include hR hC
theorem fl_l7 {T kk : Nat} (g : Nat → Int) (d : Nat) : ∀ (i : Nat), i + d = R * C →
    Ev (fun k => laws_FnFormsLeft.l8 k (formFrom R C 0 C) (T : Int) (mapTo (fun i => g (nx R C i)) (R * C)) (kk : Int) true (mapTo (fun i => g (nx R C i)) (R * C)) ((mapTo (fun i => g (nx R C i)) (R * C)).length : Int) 0) true →
    Ev (fun k => laws_FnFormsLeft.l7 k (formFrom R C 0 C) (T : Int) (mapTo g (R * C)) (kk : Int) (fillTo (fun i => g (nx R C i)) i (R * C)) (formFrom R C 0 C) ((formFrom R C 0 C).length : Int) (i : Int)) true := by
  have hlF : (formFrom R C 0 C).length = R * C := by rw [formFrom_length, Nat.mul_comm]
  have hl := mapTo_length g (R * C)
  induction d with
  | zero =>
    intro i hi h
    have e : i = R * C := by omega
    refine Ev.step (fun k => ?_) h
    have p : ¬ ((i : Int) < ((formFrom R C 0 C).length : Int)) := by rw [hlF]; omega
    rw [laws_FnFormsLeft.l7, if_neg p, e, fillTo_full]
  | succ d ih =>
    intro i hi h
    have hlt : i < R * C := by omega
    have hw := nx_lt hR hC hlt
    have p1 : (i : Int) < ((formFrom R C 0 C).length : Int) := by rw [hlF]; omega
    have p2 : (0 : Int) ≤ (i : Int) := by omega
    have e1 : rd (formFrom R C 0 C) (i : Int) = ((nx R C i : Nat) : Int) := (rd_place hR hC hlt).1
    have p3 : (0 : Int) ≤ ((nx R C i : Nat) : Int) := Int.natCast_nonneg _
    have p4 : ((nx R C i : Nat) : Int) < ((mapTo g (R * C)).length : Int) := by rw [hl]; omega
    have p5 : (i : Int) < ((fillTo (fun i => g (nx R C i)) i (R * C)).length : Int) := by rw [fillTo_length _ (by omega)]; omega
    have e2 := rd_mapTo (g := g) (n := R * C) (i := nx R C i) hw
    have e3 := fillTo_set (fun i => g (nx R C i)) hlt
    have hi2 : i ≤ 1000000000 := by omega
    refine Ev.step (fun k => ?_) (ih (i + 1) (by omega) h)
    rw [laws_FnFormsLeft.l7, if_pos p1, if_pos p2, if_pos p1, e1, if_pos p3, if_pos p4, if_pos p5, e2, Int.toNat_natCast, e3, nq1 hi2]
theorem fl_l6 {T : Nat} (hT1 : 1 ≤ T) (hT2 : T ≤ 200) (hT : ∀ e, (∀ j, j < R * C → it (nx R C) e j = j) ↔ T ∣ e) (d : Nat) : ∀ kk, kk + d = T →
    Ev (fun k => laws_FnFormsLeft.l6 k (formFrom R C 0 C) (T : Int) (mapTo (fun i => ((it (nx R C) kk i : Nat) : Int)) (R * C)) ((kk + 1 : Nat) : Int)) true := by
  induction d with
  | zero =>
    intro kk hk
    refine Ev.step (f := fun _ => some true) (fun k => ?_) (Ev.now true)
    have p : ¬ (((kk + 1 : Nat) : Int) ≤ (T : Int)) := by omega
    rw [laws_FnFormsLeft.l6, if_neg p]
  | succ d ih =>
    intro kk hk
    have hl := mapTo_length (fun i => ((it (nx R C) kk i : Nat) : Int)) (R * C)
    have p1 : ((kk + 1 : Nat) : Int) ≤ (T : Int) := by omega
    have p2 : (0 : Int) ≤ ((mapTo (fun i => ((it (nx R C) kk i : Nat) : Int)) (R * C)).length : Int) := by omega
    have p3 : ((mapTo (fun i => ((it (nx R C) kk i : Nat) : Int)) (R * C)).length : Int).toNat ≤ 35184372088832 := by rw [hl, Int.toNat_natCast]; omega
    have hlF : (formFrom R C 0 C).length = R * C := by rw [formFrom_length, Nat.mul_comm]
    have h8 := fl_l8 hRC (T := T) (kk := kk + 1) (by omega) (formFrom R C 0 C) (fun i => ((it (nx R C) (kk + 1) i : Nat) : Int)) (R * C) 0 true (by omega) (by
      rw [Bool.true_and]
      have hiff : allUp (fun j => ((j : Int) == ((it (nx R C) (kk + 1) j : Nat) : Int))) 0 (R * C) = true ↔ T ∣ (kk + 1) := by
        rw [allUp_iff, ← hT (kk + 1)]
        constructor
        · intro h j hj
          have := h j (by omega) (by omega)
          have := of_decide_eq_true (by simpa using this : decide ((j : Int) = ((it (nx R C) (kk + 1) j : Nat) : Int)) = true)
          omega
        · intro h j _ hj
          have := h j (by omega)
          simp [this]
      have hd : T ∣ (kk + 1) ↔ kk + 1 = T := by
        constructor
        · intro h
          have := Nat.le_of_dvd (by omega) h
          omega
        · rintro rfl; exact Nat.dvd_refl _
      rw [hd] at hiff
      by_cases e : kk + 1 = T
      · rw [hiff.2 e, e]
        simp
      · have e2 : allUp (fun j => ((j : Int) == ((it (nx R C) (kk + 1) j : Nat) : Int))) 0 (R * C) = false := by
          rw [Bool.eq_false_iff]
          exact fun h => e (hiff.1 h)
        rw [e2]
        have : ¬ (((kk + 1 : Nat) : Int) = (T : Int)) := by omega
        exact (beq_eq_false_iff_ne.mpr this).symm) (ih (kk + 1) (by omega))
    have hl2 := mapTo_length (fun i => ((it (nx R C) (kk + 1) i : Nat) : Int)) (R * C)
    have h7 := fl_l7 hR hC hRC (T := T) (kk := kk + 1) (fun i => ((it (nx R C) kk i : Nat) : Int)) (R * C) 0 (by omega) (by
      have e : (fun i => (fun i => ((it (nx R C) kk i : Nat) : Int)) (nx R C i)) = (fun i => ((it (nx R C) (kk + 1) i : Nat) : Int)) := rfl
      rw [e, hl2]
      exact h8)
    rw [fillTo_zero] at h7
    refine Ev.step (fun k => ?_) h7
    rw [laws_FnFormsLeft.l6, if_pos p1, if_pos p2, if_pos p3, hl, Int.toNat_natCast]
    rfl
theorem fl_j18 {T : Nat} (hT1 : 1 ≤ T) (hT2 : T ≤ 200) (hT : ∀ e, (∀ j, j < R * C → it (nx R C) e j = j) ↔ T ∣ e) : Ev (fun k => laws_FnFormsLeft.j17 k (formFrom R C 0 C) (T : Int) false) true := by
  have hlF : (formFrom R C 0 C).length = R * C := by rw [formFrom_length, Nat.mul_comm]
  by_cases h60 : (T : Int) ≤ 60
  · have h6 := fl_l6 hR hC hRC hT1 hT2 hT T 0 (by omega)
    have h5 := fl_l5 hRC (T := T) h6 (R * C) 0 (by omega)
    rw [fillTo_zero] at h5
    have p1 : (0 : Int) ≤ ((formFrom R C 0 C).length : Int) := by omega
    have p2 : ((formFrom R C 0 C).length : Int).toNat ≤ 35184372088832 := by rw [hlF, Int.toNat_natCast]; omega
    refine Ev.step (fun k => ?_) h5
    rw [laws_FnFormsLeft.j17, if_neg (by decide), if_pos h60, if_pos p1, if_pos p2, hlF, Int.toNat_natCast, Option.bind_some, List.length_replicate]
    rfl
  · exact Ev.step (f := fun _ => some true) (fun k => by rw [laws_FnFormsLeft.j17, if_neg (by decide), if_neg h60]) (Ev.now true)
theorem fl_l4 {T : Nat} (hT1 : 1 ≤ T) (h1T : R = 1 → T = 1) (h18 : Ev (fun k => laws_FnFormsLeft.j17 k (formFrom R C 0 C) (T : Int) false) true) (d : Nat) : ∀ (i : Nat) (seen : List Bool), i + d = R * C → seen.length = R * C → (∀ j, i ≤ j → j < R * C → rdOf false seen ((nx R C j : Nat) : Int) = false) →
    Ev (fun k => laws_FnFormsLeft.l4 k (R : Int) (C : Int) (formFrom R C 0 C) (T : Int) seen (formFrom R C 0 C) ((formFrom R C 0 C).length : Int) (i : Int)) true := by
  have hlF : (formFrom R C 0 C).length = R * C := by rw [formFrom_length, Nat.mul_comm]
  have hR200 : R ≤ 200 := Nat.le_trans (Nat.le_mul_of_pos_right R hC) hRC
  have hC200 : C ≤ 200 := Nat.le_trans (Nat.le_mul_of_pos_left C hR) hRC
  induction d with
  | zero =>
    intro i seen hi hs hu
    refine Ev.step (fun k => ?_) h18
    have p : ¬ ((i : Int) < ((formFrom R C 0 C).length : Int)) := by rw [hlF]; omega
    have p2 : ((formFrom R C 0 C).length : Int) = (seen.length : Int) := by rw [hlF, hs]
    have p3 : ¬ ((T : Int) < 1) := by omega
    rw [laws_FnFormsLeft.l4, if_neg p, if_pos p2, if_neg p3]
    by_cases c : R = 1
    · have eT := h1T c
      rw [if_pos (by omega : (R : Int) = 1), eT]
      rfl
    · rw [if_neg (by omega : ¬ (R : Int) = 1)]
  | succ d ih =>
    intro i seen hi hs hu
    have hlt : i < R * C := by omega
    have hw := nx_lt hR hC hlt
    obtain ⟨hm1, hm2⟩ := nx_mod hR hC hlt
    obtain ⟨_, hc, hq⟩ := nx_form hR hC hlt
    have p1 : (i : Int) < ((formFrom R C 0 C).length : Int) := by rw [hlF]; omega
    have p2 : (0 : Int) ≤ (i : Int) := by omega
    have e1 : rd (formFrom R C 0 C) (i : Int) = ((nx R C i : Nat) : Int) := (rd_place hR hC hlt).1
    have p3 : ¬ (((nx R C i : Nat) : Int) < 0) := by omega
    have p4 : ¬ (((nx R C i : Nat) : Int) ≥ (seen.length : Int)) := by rw [hs]; omega
    have p5 : (0 : Int) ≤ ((nx R C i : Nat) : Int) := Int.natCast_nonneg _
    have p6 : ((nx R C i : Nat) : Int) < (seen.length : Int) := by rw [hs]; omega
    have p7 : ¬ (rdOf false seen ((nx R C i : Nat) : Int) = true) := by rw [hu i (Nat.le_refl _) hlt]; decide
    have p8 : ¬ ((C : Int) = 0) := by omega
    have p9 : ¬ ((R : Int) = 0) := by omega
    have t1 : Int.tmod ((nx R C i : Nat) : Int) (C : Int) = ((nx R C i % C : Nat) : Int) := rfl
    have t2 : Int.tdiv (i : Int) (R : Int) = ((i / R : Nat) : Int) := rfl
    have t3 : Int.tdiv ((nx R C i : Nat) : Int) (C : Int) = ((nx R C i / C : Nat) : Int) := rfl
    have t4 : Int.tmod (i : Int) (R : Int) = ((i % R : Nat) : Int) := rfl
    have v1 : (R : Int) - 1 = ((R - 1 : Nat) : Int) := by omega
    have v2 : ((R - 1 : Nat) : Int) - ((i % R : Nat) : Int) = ((R - 1 - i % R : Nat) : Int) := by omega
    have b1 : i / R ≤ 1000000000000 := by omega
    have b2 : R - 1 - i % R ≤ 1000000000000 := by omega
    have b3 : R - 1 ≤ 1000000000000 := by omega
    have hi2 : i ≤ 1000000000 := by omega
    have hnext := ih (i + 1) (seen.set (nx R C i) true) (by omega) (by rw [List.length_set]; exact hs) (fun j h1 h2 => by
      have hne : nx R C i ≠ nx R C j := fun h => by have := nx_inj hR hC hlt h2 h; omega
      have := hu j (by omega) h2
      unfold rdOf at this ⊢
      rw [Int.toNat_natCast] at this ⊢
      rw [List.getD_eq_getElem?_getD, List.getElem?_set_ne hne, ← List.getD_eq_getElem?_getD]
      exact this)
    refine Ev.step (fun k => ?_) hnext
    rw [laws_FnFormsLeft.l4, if_pos p1, if_pos p2, if_pos p1, e1, if_neg p3, if_neg p4, if_pos p5, if_pos p6, if_neg p7, if_neg p8, if_neg p9, t1, t2, t3, t4, hm1, hm2, v1, nq b1, nq b3, v2, nq b2, if_pos rfl, if_pos rfl, Int.toNat_natCast, nq1 hi2]
theorem fl_j16 {T : Nat} (hT1 : 1 ≤ T) (hT2 : T ≤ 200) (hT : ∀ e, (∀ j, j < R * C → it (nx R C) e j = j) ↔ T ∣ e) : Ev (fun k => laws_FnFormsLeft.j15 k (R : Int) (C : Int) (formFrom R C 0 C) true (T : Int)) true := by
  have h1T : R = 1 → T = 1 := fun h => by
    have := (hT 1).1 (fun j hj => nx_one h j hj)
    exact Nat.dvd_one.1 this
  have h4 := fl_l4 hR hC hRC hT1 h1T (fl_j18 hR hC hRC hT1 hT2 hT) (R * C) 0 (List.replicate (R * C) false) (by omega) (by simp) (fun j _ hj => by
    unfold rdOf
    rw [List.getD_eq_getElem?_getD, List.getElem?_replicate]
    split <;> rfl)
  have e1 : (R : Int) * (C : Int) = ((R * C : Nat) : Int) := by simp
  have b1 : R * C ≤ 1000000000000 := by omega
  have p1 : (0 : Int) ≤ ((R * C : Nat) : Int) := Int.natCast_nonneg _
  have p2 : (((R * C : Nat) : Int)).toNat ≤ 281474976710656 := by rw [Int.toNat_natCast]; omega
  refine Ev.step (fun k => ?_) h4
  rw [laws_FnFormsLeft.j15, if_pos rfl, e1, nq b1, if_pos p1, if_pos p2, Int.toNat_natCast]
  rfl
end
def firstK (p : Nat → Bool) : Nat → Nat → Option Nat
  | 0, _ => none
  | f + 1, j => if p j then some j else firstK p f (j + 1)
theorem firstK_some {p : Nat → Bool} {r : Nat} (f : Nat) : ∀ j, firstK p f j = some r → j ≤ r ∧ r < j + f ∧ p r = true ∧ ∀ e, j ≤ e → e < r → p e = false := by
  induction f with
  | zero => intro j h; cases h
  | succ f ih =>
    intro j h
    rw [firstK] at h
    by_cases hp : p j = true
    · rw [if_pos hp] at h
      injection h with h
      subst h
      exact ⟨Nat.le_refl _, by omega, hp, fun e h1 h2 => by omega⟩
    · rw [if_neg hp] at h
      obtain ⟨h1, h2, h3, h4⟩ := ih _ h
      refine ⟨by omega, by omega, h3, fun e he1 he2 => ?_⟩
      by_cases hej : e = j
      · subst hej; simpa using hp
      · exact h4 e (by omega) he2
theorem firstK_none {p : Nat → Bool} (f : Nat) : ∀ j, firstK p f j = none → ∀ e, j ≤ e → e < j + f → p e = false := by
  induction f with
  | zero => intro j h e h1 h2; omega
  | succ f ih =>
    intro j h e h1 h2
    rw [firstK] at h
    by_cases hp : p j = true
    · rw [if_pos hp] at h; cases h
    · rw [if_neg hp] at h
      by_cases hej : e = j
      · subst hej; simpa using hp
      · exact ih _ h e (by omega) (by omega)
def fits (left : List Int) (i c n step : Nat) (j : Nat) : Bool := decide ((((n + j * step) % c : Nat) : Int) = rd left i)
def goL (left : List Int) : Nat → List Int → Nat → Nat → Option (Nat × Nat)
  | _, [], n, step => some (n, step)
  | i, c :: rest, n, step =>
    match firstK (fits left i c.toNat n step) c.toNat 0 with
    | none => none
    | some j => goL left (i + 1) rest (n + j * step) (Nat.lcm step c.toNat)
def trip : Option (Nat × Nat) → Int × Int × Bool
  | none => (0, 0, false)
  | some (n, step) => ((n : Int), (step : Int), true)
def W : Nat → Nat
  | 0 => 0
  | d + 1 => 1000 * (1 + W d)
theorem lcm_a (t d : Nat) : t / Nat.gcd t d * d = Nat.lcm t d := by
  rw [Nat.lcm, Nat.mul_comm, ← Nat.mul_div_assoc _ (Nat.gcd_dvd_left t d), Nat.mul_comm d t]
theorem lcm_b (t d : Nat) : t * (d / Nat.gcd t d) = Nat.lcm t d := by
  rw [Nat.lcm, Nat.mul_div_assoc _ (Nat.gcd_dvd_right t d)]
theorem lcm_le (t d : Nat) : Nat.lcm t d ≤ t * d := Nat.div_le_self _ _
theorem W_le (d : Nat) (h : d ≤ 6) : W d ≤ 1001001001001001000 := by
  have : d = 0 ∨ d = 1 ∨ d = 2 ∨ d = 3 ∨ d = 4 ∨ d = 5 ∨ d = 6 := by omega
  rcases this with rfl | rfl | rfl | rfl | rfl | rfl | rfl <;> decide
theorem goL_bound (left : List Int) (rest : List Int) : ∀ (i n step : Nat), (∀ c ∈ rest, 1 ≤ c ∧ c ≤ 1000) → rest.length ≤ 6 → 1 ≤ step → step * 1000 ^ rest.length ≤ 1000000000000000000 → n + W rest.length * step ≤ 1001001001001001000 → ∀ m s, goL left i rest n step = some (m, s) → 1 ≤ s ∧ s ≤ 1000000000000000000 ∧ m ≤ 1001001001001001000 := by
  induction rest with
  | nil =>
    intro i n step hc hl hs hp hb m s h
    simp only [goL, Option.some.injEq, Prod.mk.injEq] at h
    obtain ⟨rfl, rfl⟩ := h
    simp at hp
    exact ⟨hs, hp, by omega⟩
  | cons x rest ih =>
    intro i n step hc hl hs hp hb m s h
    obtain ⟨hx1, hx2⟩ := hc x (List.mem_cons_self ..)
    obtain ⟨c, rfl⟩ := Int.eq_ofNat_of_zero_le (show 0 ≤ x by omega)
    simp only [List.length_cons] at hl hb hp
    rw [W, Nat.mul_assoc, Nat.add_mul, Nat.one_mul, Nat.mul_add] at hb
    simp only [goL, Int.toNat_natCast] at h
    cases hf : firstK (fits left i c n step) c 0 with
    | none => simp only [hf] at h; cases h
    | some j =>
      simp only [hf] at h
      obtain ⟨_, hj, _, _⟩ := firstK_some c 0 hf
      have hjs : j * step ≤ 1000 * step := Nat.mul_le_mul_right _ (by omega)
      have hlc : Nat.lcm step c ≤ 1000 * step := Nat.le_trans (lcm_le step c) (by rw [Nat.mul_comm]; exact Nat.mul_le_mul_right _ (by omega))
      have hlp : 1 ≤ Nat.lcm step c := Nat.lcm_pos (by omega) (by omega)
      have hwl : W rest.length * Nat.lcm step c ≤ W rest.length * (1000 * step) := Nat.mul_le_mul_left _ hlc
      have hcm : W rest.length * (1000 * step) = 1000 * (W rest.length * step) := Nat.mul_left_comm _ _ _
      have hpw : Nat.lcm step c * 1000 ^ rest.length ≤ 1000 * step * 1000 ^ rest.length := Nat.mul_le_mul_right _ hlc
      have hpe : 1000 * step * 1000 ^ rest.length = step * 1000 ^ (rest.length + 1) := by rw [Nat.pow_succ, Nat.mul_comm 1000 step, Nat.mul_assoc, Nat.mul_comm 1000]
      exact ih _ _ _ (fun y hy => hc y (List.mem_cons_of_mem _ hy)) (by omega) hlp (by omega) (by omega) m s h
def leastV (cols left : List Int) : Option (Nat × Nat) := goL left 0 cols 0 1
theorem W_one (d : Nat) (h : d ≤ 6) : 0 + W d * 1 ≤ 1001001001001001000 := by
  have := W_le d h
  omega
theorem pow_le6 (d : Nat) (h : d ≤ 6) : 1 * 1000 ^ d ≤ 1000000000000000000 := by
  have : d = 0 ∨ d = 1 ∨ d = 2 ∨ d = 3 ∨ d = 4 ∨ d = 5 ∨ d = 6 := by omega
  rcases this with rfl | rfl | rfl | rfl | rfl | rfl | rfl <;> decide
theorem least_bound {cols left : List Int} (hc : ∀ c ∈ cols, 1 ≤ c ∧ c ≤ 1000) (h6 : cols.length ≤ 6) {m s : Nat} (h : leastV cols left = some (m, s)) : 1 ≤ s ∧ s ≤ 1000000000000000000 ∧ m ≤ 1001001001001001000 :=
  goL_bound left cols 0 0 1 hc h6 (by omega) (pow_le6 _ h6) (W_one _ h6) m s h
section
variable {left cols : List Int} {i c : Nat} {n step : Nat}
theorem impl_skip (hi : i < left.length) (hc1 : 1 ≤ c) (hc2 : c ≤ 1000) (hb : n + 1000 * step ≤ 2000000000000000000) (len x14 : Int) (res : Int × Int × Bool) (d : Nat) : ∀ j, j + d ≤ c → (∀ e, j ≤ e → e < j + d → fits left i c n step e = false) →
    Ev (fun k => impl_leastWith.l1 k left ((n + (j + d) * step : Nat) : Int) step i c ((j + d : Nat) : Int) cols len x14) res → Ev (fun k => impl_leastWith.l1 k left ((n + j * step : Nat) : Int) step i c j cols len x14) res := by
  induction d with
  | zero => intro j _ _ h; exact h
  | succ d ih =>
    intro j hj hne h
    have h0 := hne j (by omega) (by omega)
    have hq : ¬ (((n + j * step) % c : Nat) : Int) = rd left i := of_decide_eq_false h0
    have hjs : (j + 1) * step ≤ 1000 * step := Nat.mul_le_mul_right _ (by omega)
    have hs : (j + 1) * step = j * step + step := Nat.succ_mul _ _
    refine Ev.step (f := fun k => impl_leastWith.l1 k left ((n + (j + 1) * step : Nat) : Int) step i c ((j + 1 : Nat) : Int) cols len x14) (fun k => ?_) (ih (j + 1) (by omega) (fun e h1 h2 => hne e (by omega) (by omega)) (by rw [show j + 1 + d = j + (d + 1) by omega]; exact h))
    have e1 : Int.tmod ((n + j * step : Nat) : Int) (c : Int) = (((n + j * step) % c : Nat) : Int) := rfl
    have e2 : (((n + j * step : Nat) : Int) + (step : Int)) = ((n + (j + 1) * step : Nat) : Int) := by rw [hs]; omega
    rw [impl_leastWith.l1, if_neg (by omega), if_pos (by omega), if_pos (by omega), e1, if_neg hq, if_neg (by omega), e2, w64 (by omega) (by omega), w64 (by omega) (by omega)]
    rfl
end
theorem impl_least_l0 (left : List Int) (rest : List Int) : ∀ (pre : List Int) (n step : Nat), (∀ c ∈ rest, 1 ≤ c ∧ c ≤ 1000) → pre.length + rest.length ≤ left.length → pre.length + rest.length ≤ 6 → 1 ≤ step → n + W rest.length * step ≤ 1001001001001001000 →
   Ev (fun k => impl_leastWith.l0 k left n step (pre ++ rest) ((pre ++ rest).length : Int) pre.length) (trip (goL left pre.length rest n step)) := by
  induction rest with
  | nil =>
    intro pre n step hc hl h6 hs hb
    exact Ev.step (f := fun _ => some ((n : Int), (step : Int), true)) (fun k => by rw [impl_leastWith.l0, if_neg (by simp)]) (Ev.now _)
  | cons x rest ih =>
    intro pre n step hc hl h6 hs hb
    simp only [List.length_cons] at hl h6 hb
    obtain ⟨hx1, hx2⟩ := hc x (List.mem_cons_self ..)
    obtain ⟨c, rfl⟩ := Int.eq_ofNat_of_zero_le (show 0 ≤ x by omega)
    have hlen : ((pre ++ (c : Int) :: rest).length : Int) = pre.length + (rest.length + 1) := by simp
    rw [W, Nat.mul_assoc, Nat.add_mul, Nat.one_mul, Nat.mul_add] at hb
    have hi : pre.length < left.length := by omega
    have hb' : n + 1000 * step ≤ 2000000000000000000 := by omega
    have impl0 : ∀ res, Ev (fun k => impl_leastWith.l1 k left ((n + 0 * step : Nat) : Int) step (pre.length : Nat) c ((0 : Nat) : Int) (pre ++ (c : Int) :: rest) ((pre ++ (c : Int) :: rest).length : Int) pre.length) res →
        Ev (fun k => impl_leastWith.l0 k left n step (pre ++ (c : Int) :: rest) ((pre ++ (c : Int) :: rest).length : Int) pre.length) res := fun res h => by
      refine Ev.step (fun k => ?_) h
      rw [impl_leastWith.l0, if_pos (by omega), if_pos (by omega), if_pos (by omega), rd_mid]
      simp
    cases hf : firstK (fits left pre.length c n step) c 0 with
    | none =>
      have hg : goL left pre.length ((c : Int) :: rest) n step = none := by
        simp only [goL, Int.toNat_natCast, hf]
      rw [hg]
      have hno := firstK_none c 0 hf
      have hcs : c * step ≤ 1000 * step := Nat.mul_le_mul_right _ (by omega)
      refine impl0 _ (impl_skip hi (by omega) (by omega) hb' _ _ _ c 0 (by omega) hno ?_)
      · refine Ev.step (f := fun _ => some (0, 0, false)) (fun k => ?_) (Ev.now _)
        have h0 := hno 0 (by omega) (by omega)
        have hq : ¬ (((n + 0 * step) % c : Nat) : Int) = rd left pre.length := of_decide_eq_false h0
        have e1 : Int.tmod ((n + (0 + c) * step : Nat) : Int) (c : Int) = (((n + 0 * step) % c : Nat) : Int) := by
          have : (n + (0 + c) * step) % c = (n + 0 * step) % c := by rw [Nat.zero_add, Nat.zero_mul, Nat.add_zero, Nat.add_mul_mod_self_left]
          show (((n + (0 + c) * step) % c : Nat) : Int) = _
          rw [this]
        rw [impl_leastWith.l1, if_neg (by omega), if_pos (by omega), if_pos (by omega), e1, if_neg hq, if_pos (by omega)]
    | some j =>
      obtain ⟨_, hj, hp, hno⟩ := firstK_some c 0 hf
      have hg : goL left pre.length ((c : Int) :: rest) n step = goL left (pre.length + 1) rest (n + j * step) (Nat.lcm step c) := by
        simp only [goL, Int.toNat_natCast, hf]
      rw [hg]
      have hjs : j * step ≤ 1000 * step := Nat.mul_le_mul_right _ (by omega)
      have hlc : Nat.lcm step c ≤ 1000 * step := Nat.le_trans (lcm_le step c) (by rw [Nat.mul_comm]; exact Nat.mul_le_mul_right _ (by omega))
      have hlp : 1 ≤ Nat.lcm step c := Nat.lcm_pos (by omega) (by omega)
      have hwl : W rest.length * Nat.lcm step c ≤ W rest.length * (1000 * step) := Nat.mul_le_mul_left _ hlc
      have hcm : W rest.length * (1000 * step) = 1000 * (W rest.length * step) := Nat.mul_left_comm _ _ _
      have hrec := ih (pre ++ [(c : Int)]) (n + j * step) (Nat.lcm step c) (fun y hy => hc y (List.mem_cons_of_mem _ hy)) (by simp; omega) (by simp; omega) hlp (by omega)
      have hq : (((n + (0 + j) * step) % c : Nat) : Int) = rd left pre.length := by rw [Nat.zero_add]; exact of_decide_eq_true hp
      have e1 : Int.tmod ((n + (0 + j) * step : Nat) : Int) (c : Int) = (((n + (0 + j) * step) % c : Nat) : Int) := rfl
      have hg1 : 1 ≤ Nat.gcd step c := Nat.gcd_pos_of_pos_left _ (by omega)
      have e0 : n + (0 + j) * step = n + j * step := by rw [Nat.zero_add]
      have ea : (pre ++ [(c : Int)]) ++ rest = pre ++ (c : Int) :: rest := by simp
      have el : (((pre ++ [(c : Int)]).length : Nat) : Int) = (pre.length : Int) + 1 := by simp
      have el' : (pre ++ [(c : Int)]).length = pre.length + 1 := by simp
      rw [ea, el, el'] at hrec
      have hd1 : step / Nat.gcd step c ≤ step := Nat.div_le_self _ _
      have hd2 : c / Nat.gcd step c ≤ c := Nat.div_le_self _ _
      have hz1 : (0 : Int) ≤ ((step / Nat.gcd step c : Nat) : Int) := Int.natCast_nonneg _
      have hz2 : (0 : Int) ≤ ((c / Nat.gcd step c : Nat) : Int) := Int.natCast_nonneg _
      refine impl0 _ (impl_skip hi (by omega) (by omega) hb' _ _ _ j 0 (by omega) (fun e h1 h2 => hno e h1 (by omega)) ?_)
      · refine Ev.step (fun k => by rw [impl_leastWith.l1, if_neg (by omega), if_pos (by omega), if_pos (by omega), if_pos (e1.trans hq)]) ?_
        refine Ev.bind (impl_gcd_ok step c) (Ev.congr (fun k => ?_) hrec)
        have e2 : Int.tdiv (c : Int) ((Nat.gcd step c : Nat) : Int) = ((c / Nat.gcd step c : Nat) : Int) := rfl
        have e3 : (step : Int) * ((c / Nat.gcd step c : Nat) : Int) = ((Nat.lcm step c : Nat) : Int) := by rw [← Int.natCast_mul, lcm_b]
        rw [if_neg (by omega), e2, w64 (x := ((c / Nat.gcd step c : Nat) : Int)) (by omega) (by omega), e3, w64 (x := ((Nat.lcm step c : Nat) : Int)) (by omega) (by omega), w64 (by omega) (by omega), e0]
theorem impl_least {cols left : List Int} (hc : ∀ c ∈ cols, 1 ≤ c ∧ c ≤ 1000) (h6 : cols.length ≤ 6) (hl : cols.length ≤ left.length) : Ev (fun k => impl_leastWith.f k cols left) (trip (leastV cols left)) := by
  have := (impl_least_l0 left cols [] 0 1 hc (by simpa using hl) (by simpa using h6) (by omega) (W_one _ h6))
  simpa [impl_leastWith.f, leastV] using this
theorem l1In_eq (a b c : Int) : spec_l1In.f a b c = some (decide (b ≤ a) && decide (a ≤ c)) := by
  unfold spec_l1In.f
  by_cases h : b ≤ a
  · rw [if_pos h]; simp [h]
  · rw [if_neg (show ¬ a ≥ b from h)]; simp [h]
theorem in_eq (a b c : Int) : impl_in.f a b c = some (decide (b ≤ a) && decide (a ≤ c)) := by
  unfold impl_in.f
  by_cases h : b ≤ a
  · rw [if_pos h]; simp [h]
  · rw [if_neg h]; simp [h]
theorem cast_len {α : Type} (l : List α) : (decide ((1 : Int) ≤ (l.length : Int)) && decide ((l.length : Int) ≤ 6)) = (decide (1 ≤ l.length) && decide (l.length ≤ 6)) := by
  congr 1 <;> exact decide_eq_decide.2 (by omega)
def okc (c : Int) : Bool := decide (1 ≤ c) && decide (c ≤ 1000)
theorem l1All_l0 (rest : List Int) : ∀ pre : List Int, pre.length + rest.length ≤ 100000000 →
    Ev (fun k => spec_l1All.l0 k 1 1000 (pre ++ rest) ((pre ++ rest).length : Int) pre.length) (rest.all okc) := by
  induction rest with
  | nil =>
    intro pre hl
    exact Ev.step (f := fun _ => some true) (fun k => by rw [spec_l1All.l0, if_neg (by simp)]) (by simpa using Ev.now true)
  | cons x rest ih =>
    intro pre hl
    simp only [List.length_cons] at hl
    have hlen : ((pre ++ x :: rest).length : Int) = pre.length + (rest.length + 1) := by simp
    by_cases hx : okc x = true
    · have hin : spec_l1In.f x 1 1000 = some true := by rw [l1In_eq]; exact congrArg some hx
      refine Ev.step (f := fun k => spec_l1All.l0 k 1 1000 ((pre ++ [x]) ++ rest) (((pre ++ [x]) ++ rest).length : Int) ((pre ++ [x]).length : Nat)) (fun k => ?_) ?_
      · rw [spec_l1All.l0, if_pos (by omega), if_pos (by omega), if_pos (by omega), rd_mid, hin]
        simp only [Option.bind_some, if_true]
        rw [w64 (by omega) (by omega)]
        simp
      · have := ih (pre ++ [x]) (by simp; omega)
        simpa [hx] using this
    · have hx' : okc x = false := by simpa using hx
      have hin : spec_l1In.f x 1 1000 = some false := by rw [l1In_eq]; exact congrArg some hx'
      refine Ev.step (f := fun _ => some false) (fun k => ?_) (by simpa [hx'] using Ev.now false)
      rw [spec_l1All.l0, if_pos (by omega), if_pos (by omega), if_pos (by omega), rd_mid, hin]
      simp
theorem index_l0 (rest : List Int) : ∀ pre : List Int, pre.length + rest.length ≤ 100000000 →
    ∃ r : Int, Ev (fun k => slices_IndexFunc_int_int.l0 k (pre ++ rest) ((pre ++ rest).length : Int) pre.length) r ∧ (decide (r ≥ 0) = !(rest.all okc)) := by
  induction rest with
  | nil =>
    intro pre hl
    exact ⟨-1, Ev.step (f := fun _ => some (-1)) (fun k => by rw [slices_IndexFunc_int_int.l0, if_neg (by simp)]) (Ev.now _), by simp⟩
  | cons x rest ih =>
    intro pre hl
    simp only [List.length_cons] at hl
    have hlen : ((pre ++ x :: rest).length : Int) = pre.length + (rest.length + 1) := by simp
    by_cases hx : okc x = true
    · have hin : impl_areColumns_1.f x = some false := by
        unfold impl_areColumns_1.f
        rw [in_eq]
        unfold okc at hx
        simp only [Option.bind_some, hx, Bool.not_true]
      obtain ⟨r, hr, hd⟩ := ih (pre ++ [x]) (by simp; omega)
      refine ⟨r, Ev.step (f := fun k => slices_IndexFunc_int_int.l0 k ((pre ++ [x]) ++ rest) (((pre ++ [x]) ++ rest).length : Int) ((pre ++ [x]).length : Nat)) (fun k => ?_) hr, by rw [hd]; simp [hx]⟩
      rw [slices_IndexFunc_int_int.l0, if_pos (by omega), if_pos (by omega), if_pos (by omega), rd_mid, hin]
      simp only [Option.bind_some]
      rw [if_neg (by decide), w64 (by omega) (by omega)]
      simp
    · have hx' : okc x = false := by simpa using hx
      have hin : impl_areColumns_1.f x = some true := by
        unfold impl_areColumns_1.f
        rw [in_eq]
        unfold okc at hx'
        simp only [Option.bind_some, hx', Bool.not_false]
      refine ⟨pre.length, Ev.step (f := fun _ => some (pre.length : Int)) (fun k => ?_) (Ev.now _), by simp [hx']⟩
      rw [slices_IndexFunc_int_int.l0, if_pos (by omega), if_pos (by omega), if_pos (by omega), rd_mid, hin]
      simp
def colsB (l : List Int) : Bool := (decide (1 ≤ l.length) && decide (l.length ≤ 6)) && l.all okc
theorem spec_cols (l : List Int) (hl : l.length ≤ 10000000) : Ev (fun k => spec_foColumns.f k l) (colsB l) := by
  have h1 := l1All_l0 l [] (by simp; omega)
  simp only [List.nil_append, List.length_nil] at h1
  unfold spec_foColumns.f colsB
  rw [l1In_eq, cast_len]
  simp only [Option.bind_some]
  by_cases h : (decide (1 ≤ l.length) && decide (l.length ≤ 6)) = true
  · rw [h]
    simp only [if_true, Bool.true_and]
    exact Ev.bind (g := fun k => spec_l1All.f k l 1 1000) (f := fun _ t => some t) h1 (Ev.now _)
  · have h' : (decide (1 ≤ l.length) && decide (l.length ≤ 6)) = false := by simpa using h
    rw [h']
    simpa using Ev.now false
theorem impl_cols (l : List Int) (hl : l.length ≤ 10000000) : Ev (fun k => impl_areColumns.f k l) (colsB l) := by
  obtain ⟨r, h1, hd⟩ := index_l0 l [] (by simp; omega)
  simp only [List.nil_append, List.length_nil] at h1
  unfold impl_areColumns.f colsB
  rw [in_eq, cast_len]
  simp only [Option.bind_some]
  by_cases h : (decide (1 ≤ l.length) && decide (l.length ≤ 6)) = true
  · rw [h]
    simp only [if_true, Bool.true_and]
    have h2 : Ev (fun k => slices_ContainsFunc_int_int.f k l) (!(l.all okc)) := by
      unfold slices_ContainsFunc_int_int.f
      rw [← hd]
      exact Ev.bind (g := fun k => slices_IndexFunc_int_int.f k l) (f := fun _ t => some (decide (t ≥ 0))) h1 (Ev.now _)
    have h3 := Ev.bind (f := fun _ t => some (!t)) h2 (Ev.now _)
    simpa using h3
  · have h' : (decide (1 ≤ l.length) && decide (l.length ≤ 6)) = false := by simpa using h
    rw [h']
    simpa using Ev.now false
theorem colsB_mem {l : List Int} (h : colsB l = true) : 1 ≤ l.length ∧ l.length ≤ 6 ∧ ∀ c ∈ l, 1 ≤ c ∧ c ≤ 1000 := by
  unfold colsB at h
  simp only [Bool.and_eq_true, decide_eq_true_eq, List.all_eq_true] at h
  refine ⟨h.1.1, h.1.2, fun c hc => ?_⟩
  have := h.2 c hc
  unfold okc at this
  simpa using this
def lcmFrom : List Int → Nat → Nat
  | [], s => s
  | c :: rest, s => lcmFrom rest (Nat.lcm s c.toNat)
theorem goL_zeros (rest : List Int) (N : Nat) : ∀ (i s : Nat), (∀ c ∈ rest, 1 ≤ c ∧ c ≤ 1000) → goL (List.replicate N 0) i rest 0 s = some (0, lcmFrom rest s) := by
  induction rest with
  | nil => intro i s hc; rfl
  | cons x rest ih =>
    intro i s hc
    obtain ⟨hx1, hx2⟩ := hc x (List.mem_cons_self ..)
    have hz : rd (List.replicate N 0) i = 0 := by
      simp only [rd, Int.toNat_natCast, List.getD_eq_getElem?_getD, List.getElem?_replicate]
      split <;> rfl
    have hf : fits (List.replicate N 0) i x.toNat 0 s 0 = true := by simp [fits, hz]
    obtain ⟨f, hxf⟩ : ∃ f, x.toNat = f + 1 := ⟨x.toNat - 1, by omega⟩
    have hk : firstK (fits (List.replicate N 0) i x.toNat 0 s) x.toNat 0 = some 0 := by
      rw [show firstK (fits (List.replicate N 0) i x.toNat 0 s) x.toNat 0 = firstK (fits (List.replicate N 0) i x.toNat 0 s) (f + 1) 0 by rw [← hxf], firstK, if_pos hf]
    simp only [goL, hk, lcmFrom, Nat.zero_mul, Nat.add_zero]
    exact ih _ _ (fun y hy => hc y (List.mem_cons_of_mem _ hy))
def answer (s : Nat) : Int × Bool := if (s : Int) > 1000000000000 then (0, false) else ((s : Int), true)
theorem spec_step_l0 (rest : List Int) : ∀ (pre : List Int) (s : Nat), (∀ c ∈ rest, 1 ≤ c ∧ c ≤ 1000) → pre.length + rest.length ≤ 6 → 1 ≤ s → s * 1000 ^ rest.length ≤ 1000000000000000000 →
    Ev (fun k => spec_StepOf.l0 k s (pre ++ rest) ((pre ++ rest).length : Int) pre.length) (answer (lcmFrom rest s)) := by
  induction rest with
  | nil =>
    intro pre s hc hl hs hb
    refine Ev.step (f := fun _ => if (s : Int) > 1000000000000 then some ((0 : Int), false) else some ((s : Int), true)) (fun k => by rw [spec_StepOf.l0, if_neg (by simp)]) ?_
    unfold answer lcmFrom
    by_cases h : (s : Int) > 1000000000000
    · simp only [if_pos h]; exact Ev.now _
    · simp only [if_neg h]; exact Ev.now _
  | cons x rest ih =>
    intro pre s hc hl hs hb
    simp only [List.length_cons] at hl hb
    obtain ⟨hx1, hx2⟩ := hc x (List.mem_cons_self ..)
    obtain ⟨c, rfl⟩ := Int.eq_ofNat_of_zero_le (show 0 ≤ x by omega)
    have hlen : ((pre ++ (c : Int) :: rest).length : Int) = pre.length + (rest.length + 1) := by simp
    have hlc : Nat.lcm s c ≤ 1000 * s := Nat.le_trans (lcm_le s c) (by rw [Nat.mul_comm]; exact Nat.mul_le_mul_right _ (by omega))
    have hlp : 1 ≤ Nat.lcm s c := Nat.lcm_pos (by omega) (by omega)
    have hpw : Nat.lcm s c * 1000 ^ rest.length ≤ 1000 * s * 1000 ^ rest.length := Nat.mul_le_mul_right _ hlc
    have hpe : 1000 * s * 1000 ^ rest.length = s * 1000 ^ (rest.length + 1) := by rw [Nat.pow_succ, Nat.mul_comm 1000 s, Nat.mul_assoc, Nat.mul_comm 1000]
    have hb2 : Nat.lcm s c ≤ Nat.lcm s c * 1000 ^ rest.length := Nat.le_mul_of_pos_right _ (Nat.pow_pos (by omega))
    have hg1 : 1 ≤ Nat.gcd s c := Nat.gcd_pos_of_pos_left _ (by omega)
    have hd1 : s / Nat.gcd s c ≤ s := Nat.div_le_self _ _
    have hs2 : s ≤ s * 1000 ^ (rest.length + 1) := Nat.le_mul_of_pos_right _ (Nat.pow_pos (by omega))
    have hz1 : (0 : Int) ≤ ((s / Nat.gcd s c : Nat) : Int) := Int.natCast_nonneg _
    refine Ev.step (f := fun k => (spec_foCommon.f k (s : Int) (c : Int)).bind fun t114 => (if t114 = 0 then (none) else (spec_StepOf.l0 k (wrap64 ((wrap64 (Int.tdiv (s : Int) t114)) * (c : Int))) (pre ++ (c : Int) :: rest) ((pre ++ (c : Int) :: rest).length : Int) (wrap64 ((pre.length : Int) + 1))))) (fun k => by rw [spec_StepOf.l0, if_pos (by omega), if_pos (by omega), if_pos (by omega), rd_mid]) ?_
    refine Ev.bind (spec_foCommon_ok s c) (Ev.congr (fun k => ?_) (ih (pre ++ [(c : Int)]) (Nat.lcm s c) (fun y hy => hc y (List.mem_cons_of_mem _ hy)) (by simp; omega) hlp (by omega)))
    have e2 : Int.tdiv (s : Int) ((Nat.gcd s c : Nat) : Int) = ((s / Nat.gcd s c : Nat) : Int) := rfl
    have e3 : ((s / Nat.gcd s c : Nat) : Int) * (c : Int) = ((Nat.lcm s c : Nat) : Int) := by rw [← Int.natCast_mul, lcm_a]
    rw [if_neg (by omega), e2, w64 (x := ((s / Nat.gcd s c : Nat) : Int)) (by omega) (by omega), e3, w64 (x := ((Nat.lcm s c : Nat) : Int)) (by omega) (by omega), w64 (by omega) (by omega)]
    simp
def stepV (cols : List Int) : Int × Bool := if colsB cols = true then answer (lcmFrom cols 1) else (0, false)
theorem step_both (cols : List Int) (h1 : cols.length ≤ 10000000) : Ev (fun k => spec_StepOf.f k cols) (stepV cols) ∧ Ev (fun k => impl_StepOf.f k cols) (stepV cols) := by
  unfold spec_StepOf.f impl_StepOf.f stepV
  have hs := spec_cols cols h1
  have hi := impl_cols cols h1
  by_cases hb : colsB cols = true
  · obtain ⟨c1, c2, c3⟩ := colsB_mem hb
    rw [hb] at hs hi ⊢
    have himpl := impl_least (left := List.replicate cols.length 0) c3 c2 (by simp)
    have hv : leastV cols (List.replicate cols.length 0) = some (0, lcmFrom cols 1) := goL_zeros cols _ 0 1 c3
    rw [hv] at himpl
    have hspec := spec_step_l0 cols [] 1 c3 (by simpa using c2) (by omega) (pow_le6 _ c2)
    rw [if_pos rfl]
    refine ⟨Ev.bind hs ?_, Ev.bind hi ?_⟩
    · simp only [if_true]; simpa using hspec
    · simp only [if_true]
      have hz : 0 ≤ (cols.length : Int) := by omega
      have hz2 : ((cols.length : Int)).toNat ≤ 35184372088832 := by simp; omega
      refine Ev.congr (fun k => (if_pos hz).trans (if_pos hz2)) ?_
      refine Ev.bind himpl ?_
      unfold answer
      by_cases h : ((lcmFrom cols 1 : Nat) : Int) > 1000000000000
      · rw [if_pos h]; exact Ev.congr (fun k => if_pos h) (Ev.now _)
      · rw [if_neg h]; exact Ev.congr (fun k => if_neg h) (Ev.now _)
  · have hb' : colsB cols = false := by simpa using hb
    rw [hb'] at hs hi ⊢
    rw [if_neg (by decide)]
    exact ⟨Ev.bind hs (Ev.now _), Ev.bind hi (Ev.now _)⟩
def leftFrom (cols : List Int) : Nat → List Int → Bool
  | _, [] => true
  | i, n :: rest => (decide (0 ≤ n) && decide (n ≤ rd cols i - 1)) && leftFrom cols (i + 1) rest
def leftB (cols left : List Int) : Bool := colsB cols && decide (left.length = cols.length) && leftFrom cols 0 left
theorem rd_bd {l : List Int} (h : ∀ c ∈ l, 1 ≤ c ∧ c ≤ 1000) (i : Nat) (hi : i < l.length) : 1 ≤ rd l i ∧ rd l i ≤ 1000 := by
  have e : rd l i = l[i] := by simp [rd, hi]
  rw [e]
  exact h _ (List.getElem_mem hi)
theorem spec_left_l0 (cols : List Int) (hc : ∀ c ∈ cols, 1 ≤ c ∧ c ≤ 1000) (rest : List Int) : ∀ pre : List Int, pre.length + rest.length = cols.length → cols.length ≤ 6 →
    Ev (fun k => spec_foLeft.l0 k cols (pre ++ rest) ((pre ++ rest).length : Int) pre.length) (leftFrom cols pre.length rest) := by
  induction rest with
  | nil =>
    intro pre hl h6
    exact Ev.step (f := fun _ => some true) (fun k => by rw [spec_foLeft.l0, if_neg (by simp)]) (by simpa [leftFrom] using Ev.now true)
  | cons x rest ih =>
    intro pre hl h6
    simp only [List.length_cons] at hl
    have hlen : ((pre ++ x :: rest).length : Int) = pre.length + (rest.length + 1) := by simp
    have hb := rd_bd hc pre.length (by omega)
    have hin := l1In_eq x 0 (rd cols pre.length - 1)
    by_cases hx : (decide (0 ≤ x) && decide (x ≤ rd cols pre.length - 1)) = true
    · rw [hx] at hin
      refine Ev.step (f := fun k => spec_foLeft.l0 k cols ((pre ++ [x]) ++ rest) (((pre ++ [x]) ++ rest).length : Int) ((pre ++ [x]).length : Nat)) (fun k => ?_) ?_
      · rw [spec_foLeft.l0, if_pos (by omega), if_pos (by omega), if_pos (by omega), if_pos (by omega), rd_mid, w64 (x := rd cols (pre.length : Int) - 1) (by omega) (by omega), hin]
        simp only [Option.bind_some, if_true]
        rw [w64 (by omega) (by omega)]
        simp
      · have := ih (pre ++ [x]) (by simp; omega) h6
        simpa [leftFrom, hx] using this
    · have hx' : (decide (0 ≤ x) && decide (x ≤ rd cols pre.length - 1)) = false := by simpa using hx
      rw [hx'] at hin
      refine Ev.step (f := fun _ => some false) (fun k => ?_) (by rw [leftFrom, hx']; exact Ev.now false)
      rw [spec_foLeft.l0, if_pos (by omega), if_pos (by omega), if_pos (by omega), if_pos (by omega), rd_mid, w64 (x := rd cols (pre.length : Int) - 1) (by omega) (by omega), hin]
      simp
theorem impl_left_l0 (cols : List Int) (hc : ∀ c ∈ cols, 1 ≤ c ∧ c ≤ 1000) (rest : List Int) : ∀ pre : List Int, pre.length + rest.length = cols.length → cols.length ≤ 6 →
    Ev (fun k => impl_areLeft.l0 k cols (pre ++ rest) ((pre ++ rest).length : Int) pre.length) (leftFrom cols pre.length rest) := by
  induction rest with
  | nil =>
    intro pre hl h6
    exact Ev.step (f := fun _ => some true) (fun k => by rw [impl_areLeft.l0, if_neg (by simp)]) (by simpa [leftFrom] using Ev.now true)
  | cons x rest ih =>
    intro pre hl h6
    simp only [List.length_cons] at hl
    have hlen : ((pre ++ x :: rest).length : Int) = pre.length + (rest.length + 1) := by simp
    have hb := rd_bd hc pre.length (by omega)
    have hin := in_eq x 0 (rd cols pre.length - 1)
    by_cases hx : (decide (0 ≤ x) && decide (x ≤ rd cols pre.length - 1)) = true
    · rw [hx] at hin
      refine Ev.step (f := fun k => impl_areLeft.l0 k cols ((pre ++ [x]) ++ rest) (((pre ++ [x]) ++ rest).length : Int) ((pre ++ [x]).length : Nat)) (fun k => ?_) ?_
      · rw [impl_areLeft.l0, if_pos (by omega), if_pos (by omega), if_pos (by omega), if_pos (by omega), rd_mid, w64 (x := rd cols (pre.length : Int) - 1) (by omega) (by omega), hin]
        simp only [Option.bind_some, if_true]
        rw [w64 (by omega) (by omega)]
        simp
      · have := ih (pre ++ [x]) (by simp; omega) h6
        simpa [leftFrom, hx] using this
    · have hx' : (decide (0 ≤ x) && decide (x ≤ rd cols pre.length - 1)) = false := by simpa using hx
      rw [hx'] at hin
      refine Ev.step (f := fun _ => some false) (fun k => ?_) (by rw [leftFrom, hx']; exact Ev.now false)
      rw [impl_areLeft.l0, if_pos (by omega), if_pos (by omega), if_pos (by omega), if_pos (by omega), rd_mid, w64 (x := rd cols (pre.length : Int) - 1) (by omega) (by omega), hin]
      simp
theorem spec_left (cols left : List Int) (h1 : cols.length ≤ 10000000) (h2 : left.length ≤ 10000000) : Ev (fun k => spec_foLeft.f k cols left) (leftB cols left) := by
  unfold spec_foLeft.f leftB
  refine Ev.bind (spec_cols cols h1) ?_
  by_cases hb : colsB cols = true
  · obtain ⟨b1, b2, b3⟩ := colsB_mem hb
    rw [hb]
    simp only [if_true, Bool.true_and]
    by_cases hl : left.length = cols.length
    · have hne : ((left.length : Int) != (cols.length : Int)) = false := by simp; omega
      rw [hne]
      refine Ev.step (f := fun k => spec_foLeft.l0 k cols left (left.length : Int) 0) (fun k => by rw [spec_foLeft.j0, if_neg (by decide)]) ?_
      have := spec_left_l0 cols b3 left [] (by simpa using hl) b2
      simpa [hl] using this
    · have hne : ((left.length : Int) != (cols.length : Int)) = true := by simp; omega
      rw [hne]
      exact Ev.step (f := fun _ => some false) (fun k => by rw [spec_foLeft.j0, if_pos rfl]) (by simpa [hl] using Ev.now false)
  · have hb' : colsB cols = false := by simpa using hb
    rw [hb']
    exact Ev.step (f := fun _ => some false) (fun k => by rw [if_neg (by decide), spec_foLeft.j0, if_pos rfl]) (by simpa using Ev.now false)
theorem impl_left (cols left : List Int) (h1 : cols.length ≤ 10000000) (h2 : left.length ≤ 10000000) : Ev (fun k => impl_areLeft.f k cols left) (leftB cols left) := by
  unfold impl_areLeft.f leftB
  refine Ev.bind (impl_cols cols h1) ?_
  by_cases hb : colsB cols = true
  · obtain ⟨b1, b2, b3⟩ := colsB_mem hb
    rw [hb]
    simp only [if_true, Bool.true_and]
    by_cases hl : left.length = cols.length
    · have hne : ((left.length : Int) != (cols.length : Int)) = false := by simp; omega
      rw [hne]
      refine Ev.step (f := fun k => impl_areLeft.l0 k cols left (left.length : Int) 0) (fun k => by rw [impl_areLeft.j0, if_neg (by decide)]) ?_
      have := impl_left_l0 cols b3 left [] (by simpa using hl) b2
      simpa [hl] using this
    · have hne : ((left.length : Int) != (cols.length : Int)) = true := by simp; omega
      rw [hne]
      exact Ev.step (f := fun _ => some false) (fun k => by rw [impl_areLeft.j0, if_pos rfl]) (by simpa [hl] using Ev.now false)
  · have hb' : colsB cols = false := by simpa using hb
    rw [hb']
    exact Ev.step (f := fun _ => some false) (fun k => by rw [if_neg (by decide), impl_areLeft.j0, if_pos rfl]) (by simpa using Ev.now false)
theorem leftB_mem {cols left : List Int} (h : leftB cols left = true) : colsB cols = true ∧ left.length = cols.length ∧ leftFrom cols 0 left = true := by
  unfold leftB at h
  simp only [Bool.and_eq_true, decide_eq_true_eq] at h
  exact ⟨h.1.1, h.1.2, h.2⟩
section
variable {left cols : List Int} {i c : Nat} {n step : Nat}
theorem spec_skip (hi : i < left.length) (hc1 : 1 ≤ c) (hc2 : c ≤ 1000) (hb : n + 1000 * step ≤ 2000000000000000000) (len x15 : Int) (res : Int × Int × Bool) (d : Nat) : ∀ j, j + d ≤ c → (∀ e, j ≤ e → e < j + d → fits left i c n step e = false) →
    Ev (fun k => spec_foLeast.l1 k left ((n + (j + d) * step : Nat) : Int) step i c false ((j + d : Nat) : Int) cols len x15) res → Ev (fun k => spec_foLeast.l1 k left ((n + j * step : Nat) : Int) step i c false j cols len x15) res := by
  induction d with
  | zero => intro j _ _ h; exact h
  | succ d ih =>
    intro j hj hne h
    have h0 := hne j (by omega) (by omega)
    have hq : ¬ (((n + j * step) % c : Nat) : Int) = rd left i := of_decide_eq_false h0
    have hjs : (j + 1) * step ≤ 1000 * step := Nat.mul_le_mul_right _ (by omega)
    have hs : (j + 1) * step = j * step + step := Nat.succ_mul _ _
    have e1 : Int.tmod ((n + j * step : Nat) : Int) (c : Int) = (((n + j * step) % c : Nat) : Int) := rfl
    have e2 : (((n + j * step : Nat) : Int) + (step : Int)) = ((n + (j + 1) * step : Nat) : Int) := by rw [hs]; omega
    refine Ev.step (f := fun k => spec_foLeast.j2 k left ((n + j * step : Nat) : Int) step i c false j cols len x15 true) (fun k => by rw [spec_foLeast.l1, if_pos (by omega)]; rfl) ?_
    refine Ev.step (f := fun k => spec_foLeast.l1 k left ((n + (j + 1) * step : Nat) : Int) step i c false ((j + 1 : Nat) : Int) cols len x15) (fun k => ?_) (ih (j + 1) (by omega) (fun e h1 h2 => hne e (by omega) (by omega)) (by rw [show j + 1 + d = j + (d + 1) by omega]; exact h))
    rw [spec_foLeast.j2, if_pos rfl, if_neg (by omega), if_pos (by omega), if_pos (by omega), e1, if_neg hq, e2, w64 (by omega) (by omega), w64 (by omega) (by omega)]
    rfl
end
theorem spec_least_l0 (left : List Int) (rest : List Int) : ∀ (pre : List Int) (n step : Nat), (∀ c ∈ rest, 1 ≤ c ∧ c ≤ 1000) → pre.length + rest.length ≤ left.length → pre.length + rest.length ≤ 6 → 1 ≤ step → n + W rest.length * step ≤ 1001001001001001000 →
    Ev (fun k => spec_foLeast.l0 k left n step (pre ++ rest) ((pre ++ rest).length : Int) pre.length) (trip (goL left pre.length rest n step)) := by
  induction rest with
  | nil =>
    intro pre n step hc hl h6 hs hb
    exact Ev.step (f := fun _ => some ((n : Int), (step : Int), true)) (fun k => by rw [spec_foLeast.l0, if_neg (by simp)]) (Ev.now _)
  | cons x rest ih =>
    intro pre n step hc hl h6 hs hb
    simp only [List.length_cons] at hl h6 hb
    obtain ⟨hx1, hx2⟩ := hc x (List.mem_cons_self ..)
    obtain ⟨c, rfl⟩ := Int.eq_ofNat_of_zero_le (show 0 ≤ x by omega)
    have hlen : ((pre ++ (c : Int) :: rest).length : Int) = pre.length + (rest.length + 1) := by simp
    rw [W, Nat.mul_assoc, Nat.add_mul, Nat.one_mul, Nat.mul_add] at hb
    have hi : pre.length < left.length := by omega
    have hb' : n + 1000 * step ≤ 2000000000000000000 := by omega
    have spec0 : ∀ res, Ev (fun k => spec_foLeast.l1 k left ((n + 0 * step : Nat) : Int) step (pre.length : Nat) c false ((0 : Nat) : Int) (pre ++ (c : Int) :: rest) ((pre ++ (c : Int) :: rest).length : Int) pre.length) res →
        Ev (fun k => spec_foLeast.l0 k left n step (pre ++ (c : Int) :: rest) ((pre ++ (c : Int) :: rest).length : Int) pre.length) res := fun res h => by
      refine Ev.step (fun k => ?_) h
      rw [spec_foLeast.l0, if_pos (by omega), if_pos (by omega), if_pos (by omega), rd_mid]
      simp
    cases hf : firstK (fits left pre.length c n step) c 0 with
    | none =>
      have hg : goL left pre.length ((c : Int) :: rest) n step = none := by
        simp only [goL, Int.toNat_natCast, hf]
      rw [hg]
      have hno := firstK_none c 0 hf
      have hcs : c * step ≤ 1000 * step := Nat.mul_le_mul_right _ (by omega)
      refine spec0 _ (spec_skip hi (by omega) (by omega) hb' _ _ _ c 0 (by omega) hno ?_)
      · refine Ev.step (f := fun k => spec_foLeast.j2 k left ((n + (0 + c) * step : Nat) : Int) step (pre.length : Nat) c false ((0 + c : Nat) : Int) (pre ++ (c : Int) :: rest) ((pre ++ (c : Int) :: rest).length : Int) pre.length false) (fun k => by rw [spec_foLeast.l1, if_neg (by omega)]) ?_
        exact Ev.step (f := fun _ => some (0, 0, false)) (fun k => by rw [spec_foLeast.j2, if_neg (by decide), if_neg (by decide)]) (Ev.now _)
    | some j =>
      obtain ⟨_, hj, hp, hno⟩ := firstK_some c 0 hf
      have hg : goL left pre.length ((c : Int) :: rest) n step = goL left (pre.length + 1) rest (n + j * step) (Nat.lcm step c) := by
        simp only [goL, Int.toNat_natCast, hf]
      rw [hg]
      have hjs : j * step ≤ 1000 * step := Nat.mul_le_mul_right _ (by omega)
      have hlc : Nat.lcm step c ≤ 1000 * step := Nat.le_trans (lcm_le step c) (by rw [Nat.mul_comm]; exact Nat.mul_le_mul_right _ (by omega))
      have hlp : 1 ≤ Nat.lcm step c := Nat.lcm_pos (by omega) (by omega)
      have hwl : W rest.length * Nat.lcm step c ≤ W rest.length * (1000 * step) := Nat.mul_le_mul_left _ hlc
      have hcm : W rest.length * (1000 * step) = 1000 * (W rest.length * step) := Nat.mul_left_comm _ _ _
      have hrec := ih (pre ++ [(c : Int)]) (n + j * step) (Nat.lcm step c) (fun y hy => hc y (List.mem_cons_of_mem _ hy)) (by simp; omega) (by simp; omega) hlp (by omega)
      have hq : (((n + (0 + j) * step) % c : Nat) : Int) = rd left pre.length := by rw [Nat.zero_add]; exact of_decide_eq_true hp
      have e1 : Int.tmod ((n + (0 + j) * step : Nat) : Int) (c : Int) = (((n + (0 + j) * step) % c : Nat) : Int) := rfl
      have hg1 : 1 ≤ Nat.gcd step c := Nat.gcd_pos_of_pos_left _ (by omega)
      have e0 : n + (0 + j) * step = n + j * step := by rw [Nat.zero_add]
      have ea : (pre ++ [(c : Int)]) ++ rest = pre ++ (c : Int) :: rest := by simp
      have el : (((pre ++ [(c : Int)]).length : Nat) : Int) = (pre.length : Int) + 1 := by simp
      have el' : (pre ++ [(c : Int)]).length = pre.length + 1 := by simp
      rw [ea, el, el'] at hrec
      have hd1 : step / Nat.gcd step c ≤ step := Nat.div_le_self _ _
      have hd2 : c / Nat.gcd step c ≤ c := Nat.div_le_self _ _
      have hz1 : (0 : Int) ≤ ((step / Nat.gcd step c : Nat) : Int) := Int.natCast_nonneg _
      have hz2 : (0 : Int) ≤ ((c / Nat.gcd step c : Nat) : Int) := Int.natCast_nonneg _
      refine spec0 _ (spec_skip hi (by omega) (by omega) hb' _ _ _ j 0 (by omega) (fun e h1 h2 => hno e h1 (by omega)) ?_)
      · refine Ev.step (f := fun k => spec_foLeast.j2 k left ((n + (0 + j) * step : Nat) : Int) step (pre.length : Nat) c false ((0 + j : Nat) : Int) (pre ++ (c : Int) :: rest) ((pre ++ (c : Int) :: rest).length : Int) pre.length true) (fun k => by rw [spec_foLeast.l1, if_pos (by omega)]; rfl) ?_
        have e1' := e1.trans hq
        refine Ev.step (f := fun k => spec_foLeast.l1 k left ((n + (0 + j) * step : Nat) : Int) step (pre.length : Nat) c true ((0 + j + 1 : Nat) : Int) (pre ++ (c : Int) :: rest) ((pre ++ (c : Int) :: rest).length : Int) pre.length) (fun k => by rw [spec_foLeast.j2, if_pos rfl, if_neg (by omega), if_pos (by omega), if_pos (by omega), if_pos e1', w64 (by omega) (by omega)]; rfl) ?_
        refine Ev.step (f := fun k => spec_foLeast.j2 k left ((n + (0 + j) * step : Nat) : Int) step (pre.length : Nat) c true ((0 + j + 1 : Nat) : Int) (pre ++ (c : Int) :: rest) ((pre ++ (c : Int) :: rest).length : Int) pre.length false) (fun k => by
          rw [spec_foLeast.l1]
          by_cases hz : ((0 + j + 1 : Nat) : Int) < (c : Int)
          · rw [if_pos hz]; rfl
          · rw [if_neg hz]) ?_
        refine Ev.step (fun k => by rw [spec_foLeast.j2, if_neg (by decide), if_pos rfl]) ?_
        refine Ev.bind (spec_foCommon_ok step c) (Ev.congr (fun k => ?_) hrec)
        have e2 : Int.tdiv (step : Int) ((Nat.gcd step c : Nat) : Int) = ((step / Nat.gcd step c : Nat) : Int) := rfl
        have e3 : ((step / Nat.gcd step c : Nat) : Int) * (c : Int) = ((Nat.lcm step c : Nat) : Int) := by rw [← Int.natCast_mul, lcm_a]
        rw [if_neg (by omega), e2, w64 (x := ((step / Nat.gcd step c : Nat) : Int)) (by omega) (by omega), e3, w64 (x := ((Nat.lcm step c : Nat) : Int)) (by omega) (by omega), w64 (by omega) (by omega), e0]
theorem spec_least {cols left : List Int} (hc : ∀ c ∈ cols, 1 ≤ c ∧ c ≤ 1000) (h6 : cols.length ≤ 6) (hl : cols.length ≤ left.length) : Ev (fun k => spec_foLeast.f k cols left) (trip (leastV cols left)) := by
  have := (spec_least_l0 left cols [] 0 1 hc (by simpa using hl) (by simpa using h6) (by omega) (W_one _ h6))
  simpa [spec_foLeast.f, leastV] using this
def lwV (cols left : List Int) : Int × Bool := if leftB cols left = true then (match leastV cols left with | none => (0, false) | some (m, _) => ((m : Int), true)) else (0, false)
theorem lw_both (cols left : List Int) (h1 : cols.length ≤ 10000000) (h2 : left.length ≤ 10000000) : Ev (fun k => spec_LeastWith.f k cols left) (lwV cols left) ∧ Ev (fun k => impl_LeastWith.f k cols left) (lwV cols left) := by
  unfold spec_LeastWith.f impl_LeastWith.f lwV
  have hs := spec_left cols left h1 h2
  have hi := impl_left cols left h1 h2
  by_cases hb : leftB cols left = true
  · obtain ⟨b1, b2, b3⟩ := leftB_mem hb
    obtain ⟨c1, c2, c3⟩ := colsB_mem b1
    have hspec := spec_least (left := left) c3 c2 (by omega)
    have himpl := impl_least (left := left) c3 c2 (by omega)
    rw [hb] at hs hi ⊢
    rw [if_pos rfl]
    cases hv : leastV cols left with
    | none =>
      rw [hv] at hspec himpl
      refine ⟨Ev.bind hs ?_, Ev.bind hi ?_⟩
      · simp only [if_true]; exact Ev.bind hspec (Ev.now _)
      · simp only [if_true]; exact Ev.bind himpl (Ev.now _)
    | some p =>
      obtain ⟨m, s⟩ := p
      rw [hv] at hspec himpl
      refine ⟨Ev.bind hs ?_, Ev.bind hi ?_⟩
      · simp only [if_true]; exact Ev.bind hspec (Ev.now _)
      · simp only [if_true]; exact Ev.bind himpl (Ev.now _)
  · have hb' : leftB cols left = false := by simpa using hb
    rw [hb'] at hs hi ⊢
    rw [if_neg (by decide)]
    exact ⟨Ev.bind hs (Ev.now _), Ev.bind hi (Ev.now _)⟩
def cbV (cols left : List Int) : Bool × Bool := if leftB cols left = true then (match leastV cols left with | none => (false, true) | some _ => (true, true)) else (false, false)
theorem cb_both (cols left : List Int) (h1 : cols.length ≤ 10000000) (h2 : left.length ≤ 10000000) : Ev (fun k => spec_CanBeLeft.f k cols left) (cbV cols left) ∧ Ev (fun k => impl_CanBeLeft.f k cols left) (cbV cols left) := by
  unfold spec_CanBeLeft.f impl_CanBeLeft.f cbV
  have hs := spec_left cols left h1 h2
  have hi := impl_left cols left h1 h2
  by_cases hb : leftB cols left = true
  · obtain ⟨b1, b2, b3⟩ := leftB_mem hb
    obtain ⟨c1, c2, c3⟩ := colsB_mem b1
    have hspec := spec_least (left := left) c3 c2 (by omega)
    have himpl := impl_least (left := left) c3 c2 (by omega)
    rw [hb] at hs hi ⊢
    rw [if_pos rfl]
    cases hv : leastV cols left with
    | none =>
      rw [hv] at hspec himpl
      refine ⟨Ev.bind hs ?_, Ev.bind hi ?_⟩
      · simp only [if_true]; exact Ev.bind hspec (Ev.now _)
      · simp only [if_true]; exact Ev.bind himpl (Ev.now _)
    | some p =>
      obtain ⟨m, s⟩ := p
      rw [hv] at hspec himpl
      refine ⟨Ev.bind hs ?_, Ev.bind hi ?_⟩
      · simp only [if_true]; exact Ev.bind hspec (Ev.now _)
      · simp only [if_true]; exact Ev.bind himpl (Ev.now _)
  · have hb' : leftB cols left = false := by simpa using hb
    rw [hb'] at hs hi ⊢
    rw [if_neg (by decide)]
    exact ⟨Ev.bind hs (Ev.now _), Ev.bind hi (Ev.now _)⟩
def cwV (cols left : List Int) (a : Int) : Int × Bool := if leftB cols left = true then (if 0 ≤ a ∧ a ≤ 1000000000 then (match leastV cols left with | none => (0, true) | some (m, s) => if (m : Int) > a then (0, true) else ((((a - m).toNat / s + 1 : Nat) : Int), true)) else (0, false)) else (0, false)
theorem cw_val {m s : Nat} {a : Int} (hs : 1 ≤ s) (hm : ¬ (m : Int) > a) (ha : a ≤ 1000000000) : wrap64 ((wrap64 (Int.tdiv (wrap64 (a - m)) s)) + 1) = (((a - m).toNat / s + 1 : Nat) : Int) := by
  obtain ⟨d, hd⟩ : ∃ d : Nat, a - m = d := ⟨(a - m).toNat, by omega⟩
  have hdb : d ≤ 1000000000 := by omega
  have t1 : Int.tdiv (d : Int) (s : Int) = ((d / s : Nat) : Int) := rfl
  have hq : d / s ≤ d := Nat.div_le_self _ _
  rw [hd, Int.toNat_natCast]
  clear hd hm ha
  obtain ⟨q, hq2⟩ : ∃ q, d / s = q := ⟨_, rfl⟩
  rw [w64 (x := (d : Int)) (by omega) (by omega), t1, hq2]
  rw [hq2] at hq
  clear t1 hq2
  rw [w64 (x := (q : Int)) (by omega) (by omega), w64 (by omega) (by omega)]
  omega
theorem cw_both (cols left : List Int) (h1 : cols.length ≤ 10000000) (h2 : left.length ≤ 10000000) (a : Int) : Ev (fun k => spec_CountWith.f k cols left a) (cwV cols left a) ∧ Ev (fun k => impl_CountWith.f k cols left a) (cwV cols left a) := by
  have hs := spec_left cols left h1 h2
  have hi := impl_left cols left h1 h2
  unfold spec_CountWith.f impl_CountWith.f cwV
  by_cases hb : leftB cols left = true
  · obtain ⟨b1, b2, b3⟩ := leftB_mem hb
    obtain ⟨c1, c2, c3⟩ := colsB_mem b1
    rw [hb] at hs hi ⊢
    rw [if_pos rfl]
    by_cases hr : 0 ≤ a ∧ a ≤ 1000000000
    · have hspec := spec_least (left := left) c3 c2 (by omega)
      have himpl := impl_least (left := left) c3 c2 (by omega)
      have hr' : (decide (0 ≤ a) && decide (a ≤ 1000000000)) = true := by simpa using hr
      rw [if_pos hr]
      have key : Ev (fun k => (spec_foLeast.f k cols left).bind fun bt121 => (if bt121.2.2 = true then (if bt121.1 > a then (some ((0 : Int), true)) else (if bt121.2.1 = 0 then (none) else (some (wrap64 ((wrap64 (Int.tdiv (wrap64 (a - bt121.1)) bt121.2.1)) + 1), true)))) else (some (0, true)))) (match leastV cols left with | none => (0, true) | some (m, s) => if (m : Int) > a then (0, true) else ((((a - m).toNat / s + 1 : Nat) : Int), true)) ∧ Ev (fun k => (impl_leastWith.f k cols left).bind fun bt121 => (if bt121.2.2 = true then (if bt121.1 > a then (some ((0 : Int), true)) else (if bt121.2.1 = 0 then (none) else (some (wrap64 ((wrap64 (Int.tdiv (wrap64 (a - bt121.1)) bt121.2.1)) + 1), true)))) else (some (0, true)))) (match leastV cols left with | none => (0, true) | some (m, s) => if (m : Int) > a then (0, true) else ((((a - m).toNat / s + 1 : Nat) : Int), true)) := by
        cases hv : leastV cols left with
        | none =>
          rw [hv] at hspec himpl
          exact ⟨Ev.bind hspec (Ev.now _), Ev.bind himpl (Ev.now _)⟩
        | some p =>
          obtain ⟨m, s⟩ := p
          rw [hv] at hspec himpl
          obtain ⟨d1, d2, d3⟩ := least_bound c3 c2 hv
          have hs0 : ¬ ((s : Int) = 0) := by omega
          by_cases hm : (m : Int) > a
          · simp only [if_pos hm]
            refine ⟨Ev.bind hspec ?_, Ev.bind himpl ?_⟩ <;> exact Ev.congr (f := fun _ => some ((0 : Int), true)) (fun k => if_pos hm) (Ev.now _)
          · simp only [if_neg hm]
            rw [← cw_val d1 hm hr.2]
            refine ⟨Ev.bind hspec ?_, Ev.bind himpl ?_⟩
            · exact Ev.congr (fun k => (if_neg hm).trans (if_neg hs0)) (Ev.now _)
            · exact Ev.congr (fun k => (if_neg hm).trans (if_neg hs0)) (Ev.now _)
      refine ⟨Ev.bind hs ?_, Ev.bind hi ?_⟩
      · simp only [if_true, l1In_eq, Option.bind_some]
        rw [hr']
        exact Ev.step (fun k => by rw [spec_CountWith.j0, if_neg (by decide)]) key.1
      · simp only [if_true, in_eq, Option.bind_some]
        rw [hr']
        exact Ev.step (fun k => by rw [impl_CountWith.j0, if_neg (by decide)]) key.2
    · have hr' : (decide (0 ≤ a) && decide (a ≤ 1000000000)) = false := by
        rw [Bool.eq_false_iff]
        intro h
        exact hr (by simpa using h)
      rw [if_neg hr]
      refine ⟨Ev.bind hs ?_, Ev.bind hi ?_⟩
      · simp only [if_true, l1In_eq, Option.bind_some]
        rw [hr']
        exact Ev.step (f := fun _ => some ((0 : Int), false)) (fun k => by rw [spec_CountWith.j0, if_pos (by decide)]) (Ev.now _)
      · simp only [if_true, in_eq, Option.bind_some]
        rw [hr']
        exact Ev.step (f := fun _ => some ((0 : Int), false)) (fun k => by rw [impl_CountWith.j0, if_pos (by decide)]) (Ev.now _)
  · have hb' : leftB cols left = false := by simpa using hb
    rw [hb'] at hs hi ⊢
    rw [if_neg (by decide)]
    refine ⟨Ev.bind hs ?_, Ev.bind hi ?_⟩
    · simp only [Bool.false_eq_true, if_false]
      exact Ev.step (f := fun _ => some ((0 : Int), false)) (fun k => by rw [spec_CountWith.j0, if_pos rfl]) (Ev.now _)
    · simp only [Bool.false_eq_true, if_false]
      exact Ev.step (f := fun _ => some ((0 : Int), false)) (fun k => by rw [impl_CountWith.j0, if_pos rfl]) (Ev.now _)
def fitB (left : List Int) : Nat → List Int → Nat → Bool
  | _, [], _ => true
  | i, c :: rest, k => decide (((k % c.toNat : Nat) : Int) = rd left i) && fitB left (i + 1) rest k
theorem mod_lcm {a b s c : Nat} (h1 : a % s = b % s) (h2 : a % c = b % c) : a % Nat.lcm s c = b % Nat.lcm s c := by
  have key : ∀ x y : Nat, y ≤ x → x % s = y % s → x % c = y % c → x % Nat.lcm s c = y % Nat.lcm s c := by
    intro x y hxy e1 e2
    have d1 : s ∣ x - y := Nat.dvd_of_mod_eq_zero (Nat.sub_mod_eq_zero_of_mod_eq e1)
    have d2 : c ∣ x - y := Nat.dvd_of_mod_eq_zero (Nat.sub_mod_eq_zero_of_mod_eq e2)
    obtain ⟨q, hq⟩ := Nat.lcm_dvd d1 d2
    have : x = y + Nat.lcm s c * q := by omega
    rw [this, Nat.add_mul_mod_self_left]
  rcases Nat.le_total b a with h | h
  · exact key a b h h1 h2
  · exact (key b a h h1.symm h2.symm).symm
/-- The first of the tries: below the step's multiple, and what the two together are. -/
theorem crt_some {left : List Int} {i c n s j : Nat} (hc : 1 ≤ c) (hs : 1 ≤ s) (hn : n < s) (hf : firstK (fits left i c n s) c 0 = some j) :
    n + j * s < Nat.lcm s c ∧ ∀ k, (k % s = n ∧ ((k % c : Nat) : Int) = rd left i) ↔ k % Nat.lcm s c = n + j * s := by
  obtain ⟨_, hj, hp, hno⟩ := firstK_some c 0 hf
  have hp1 : (((n + j * s) % c : Nat) : Int) = rd left i := of_decide_eq_true hp
  have hg : 1 ≤ Nat.gcd s c := Nat.gcd_pos_of_pos_left _ (by omega)
  have hl : Nat.lcm s c = c / Nat.gcd s c * s := by rw [← lcm_b s c, Nat.mul_comm]
  have hjl : j < c / Nat.gcd s c := by
    rcases Nat.lt_or_ge j (c / Nat.gcd s c) with h | h
    · exact h
    · exfalso
      have hp0 : 1 ≤ c / Nat.gcd s c := Nat.div_pos (Nat.le_of_dvd (by omega) (Nat.gcd_dvd_right s c)) hg
      have h2 := hno (j - c / Nat.gcd s c) (by omega) (by omega)
      have h3 : (n + (j - c / Nat.gcd s c) * s) % c = (n + j * s) % c := by
        have e : n + j * s = n + (j - c / Nat.gcd s c) * s + Nat.lcm s c := by
          rw [hl, Nat.add_assoc, ← Nat.add_mul]
          congr 2
          omega
        obtain ⟨q, hq⟩ := Nat.dvd_lcm_right s c
        rw [e, hq, Nat.add_mul_mod_self_left]
      have h4 : fits left i c n s (j - c / Nat.gcd s c) = true := by
        unfold fits
        rw [h3]
        exact hp
      rw [h2] at h4
      cases h4
  have hlt : n + j * s < Nat.lcm s c := by
    have : (j + 1) * s ≤ c / Nat.gcd s c * s := Nat.mul_le_mul_right _ (by omega)
    rw [hl]
    rw [Nat.succ_mul] at this
    omega
  have m1 : (n + j * s) % s = n := by rw [Nat.add_mul_mod_self_right, Nat.mod_eq_of_lt hn]
  refine ⟨hlt, fun k => ⟨fun h => ?_, fun h => ?_⟩⟩
  · have e1 : k % s = (n + j * s) % s := by rw [m1]; exact h.1
    have e2 : k % c = (n + j * s) % c := by
      have := h.2.trans hp1.symm
      exact Int.ofNat_inj.1 this
    rw [mod_lcm e1 e2, Nat.mod_eq_of_lt hlt]
  · have e1 : k % s = (k % Nat.lcm s c) % s := (Nat.mod_mod_of_dvd k (Nat.dvd_lcm_left s c)).symm
    have e2 : k % c = (k % Nat.lcm s c) % c := (Nat.mod_mod_of_dvd k (Nat.dvd_lcm_right s c)).symm
    rw [e1, e2, h]
    exact ⟨m1, hp1⟩
theorem crt_none {left : List Int} {i c n s : Nat} (hc : 1 ≤ c) (hn : n < s) (hf : firstK (fits left i c n s) c 0 = none) (k : Nat) : ¬ (k % s = n ∧ ((k % c : Nat) : Int) = rd left i) := by
  rintro ⟨h1, h2⟩
  have hno := firstK_none c 0 hf (k / s % c) (by omega) (by rw [Nat.zero_add]; exact Nat.mod_lt _ (by omega))
  have e : (n + k / s % c * s) % c = k % c := by
    have hk : k = n + k / s * s := by
      have := Nat.div_add_mod k s
      rw [h1, Nat.mul_comm] at this
      omega
    conv => rhs; rw [hk]
    rw [Nat.add_mod, Nat.mul_mod, Nat.mod_mod, ← Nat.mul_mod, ← Nat.add_mod]
  have h4 : fits left i c n s (k / s % c) = true := by
    unfold fits
    rw [e]
    exact decide_eq_true h2
  rw [hno] at h4
  cases h4
theorem goL_sol (left : List Int) (rest : List Int) : ∀ (i n s : Nat), (∀ c ∈ rest, 1 ≤ c ∧ c ≤ 1000) → n < s →
    (∀ m t, goL left i rest n s = some (m, t) → m < t ∧ t = lcmFrom rest s ∧ ∀ k, (k % s = n ∧ fitB left i rest k = true) ↔ k % t = m) ∧ (goL left i rest n s = none → ∀ k, ¬ (k % s = n ∧ fitB left i rest k = true)) := by
  induction rest with
  | nil =>
    intro i n s hc hn
    refine ⟨fun m t h => ?_, (fun h => by cases h)⟩
    simp only [goL, Option.some.injEq, Prod.mk.injEq] at h
    obtain ⟨rfl, rfl⟩ := h
    exact ⟨hn, rfl, fun k => by simp [fitB]⟩
  | cons x rest ih =>
    intro i n s hc hn
    obtain ⟨hx1, hx2⟩ := hc x (List.mem_cons_self ..)
    obtain ⟨c, rfl⟩ := Int.eq_ofNat_of_zero_le (show 0 ≤ x by omega)
    have hc1 : 1 ≤ c := by omega
    cases hf : firstK (fits left i c n s) c 0 with
    | none =>
      have hg : goL left i ((c : Int) :: rest) n s = none := by simp only [goL, Int.toNat_natCast, hf]
      rw [hg]
      refine ⟨(fun m t h => by cases h), fun _ k hk => ?_⟩
      have h2 := hk.2
      simp only [fitB, Int.toNat_natCast, Bool.and_eq_true, decide_eq_true_eq] at h2
      exact crt_none hc1 hn hf k ⟨hk.1, h2.1⟩
    | some j =>
      have hg : goL left i ((c : Int) :: rest) n s = goL left (i + 1) rest (n + j * s) (Nat.lcm s c) := by simp only [goL, Int.toNat_natCast, hf]
      rw [hg]
      obtain ⟨hlt, hiff⟩ := crt_some hc1 (by omega) hn hf
      obtain ⟨h1, h2⟩ := ih (i + 1) (n + j * s) (Nat.lcm s c) (fun y hy => hc y (List.mem_cons_of_mem _ hy)) hlt
      have hsplit : ∀ k, (k % s = n ∧ fitB left i ((c : Int) :: rest) k = true) ↔ (k % Nat.lcm s c = n + j * s ∧ fitB left (i + 1) rest k = true) := by
        intro k
        simp only [fitB, Int.toNat_natCast, Bool.and_eq_true, decide_eq_true_eq]
        rw [← hiff k]
        exact ⟨fun h => ⟨⟨h.1, h.2.1⟩, h.2.2⟩, fun h => ⟨h.1.1, h.1.2, h.2⟩⟩
      refine ⟨fun m t h => ?_, fun h k hk => h2 h k ((hsplit k).1 hk)⟩
      obtain ⟨a1, a2, a3⟩ := h1 m t h
      exact ⟨a1, a2, fun k => (hsplit k).trans (a3 k)⟩
theorem least_sol {cols left : List Int} (hc : ∀ c ∈ cols, 1 ≤ c ∧ c ≤ 1000) {m t : Nat} (h : leastV cols left = some (m, t)) : m < t ∧ t = lcmFrom cols 1 ∧ ∀ k, fitB left 0 cols k = true ↔ k % t = m := by
  obtain ⟨a1, a2, a3⟩ := (goL_sol left cols 0 0 1 hc (by omega)).1 m t h
  exact ⟨a1, a2, fun k => ⟨fun hk => (a3 k).1 ⟨Nat.mod_one k, hk⟩, fun hk => ((a3 k).2 hk).2⟩⟩
theorem least_no {cols left : List Int} (hc : ∀ c ∈ cols, 1 ≤ c ∧ c ≤ 1000) (h : leastV cols left = none) (k : Nat) : fitB left 0 cols k = false := by
  rw [Bool.eq_false_iff]
  intro hk
  exact (goL_sol left cols 0 0 1 hc (by omega)).2 h k ⟨Nat.mod_one k, hk⟩
theorem dvd_lcmFrom (rest : List Int) : ∀ s : Nat, s ∣ lcmFrom rest s ∧ ∀ c ∈ rest, c.toNat ∣ lcmFrom rest s := by
  induction rest with
  | nil => intro s; exact ⟨Nat.dvd_refl s, fun c hc => by cases hc⟩
  | cons x rest ih =>
    intro s
    obtain ⟨h1, h2⟩ := ih (Nat.lcm s x.toNat)
    refine ⟨Nat.dvd_trans (Nat.dvd_lcm_left s x.toNat) h1, fun c hc => ?_⟩
    rcases List.mem_cons.1 hc with rfl | hc
    · exact Nat.dvd_trans (Nat.dvd_lcm_right s _) h1
    · exact h2 c hc
def cntF (f : Nat → Bool) : Nat → Nat
  | 0 => 0
  | M + 1 => cntF f M + (if f M = true then 1 else 0)
theorem cntF_le (f : Nat → Bool) (M : Nat) : cntF f M ≤ M := by
  induction M with
  | zero => simp [cntF]
  | succ M ih => simp only [cntF]; split <;> omega
theorem cntF_none {f : Nat → Bool} (h : ∀ k, f k = false) (M : Nat) : cntF f M = 0 := by
  induction M with
  | zero => rfl
  | succ M ih => simp [cntF, ih, h M]
theorem div_succ' (a s : Nat) (hs : 1 ≤ s) : (a + 1) / s = a / s + (if (a + 1) % s = 0 then 1 else 0) := by
  have e := Nat.div_add_mod a s
  have hr : a % s < s := Nat.mod_lt _ (by omega)
  by_cases h : a % s + 1 = s
  · have e1 : a + 1 = s * (a / s + 1) := by rw [Nat.mul_succ]; omega
    rw [e1, Nat.mul_mod_right, if_pos rfl, Nat.mul_div_cancel_left _ (by omega)]
  · have e1 : a + 1 = (a % s + 1) + s * (a / s) := by omega
    rw [e1, Nat.add_mul_div_left _ _ (by omega), Nat.add_mul_mod_self_left, Nat.div_eq_of_lt (by omega), Nat.mod_eq_of_lt (by omega), if_neg (by omega)]
    omega
theorem cntF_mod {f : Nat → Bool} {m s : Nat} (hm : m < s) (h : ∀ k, f k = true ↔ k % s = m) (M : Nat) : cntF f M = (M + (s - 1 - m)) / s := by
  induction M with
  | zero => rw [Nat.zero_add, Nat.div_eq_of_lt (by omega)]; rfl
  | succ M ih =>
    have e : M + 1 + (s - 1 - m) = M + (s - 1 - m) + 1 := by omega
    rw [e, div_succ' _ _ (by omega), cntF, ih]
    congr 1
    have hiff : f M = true ↔ (M + (s - 1 - m) + 1) % s = 0 := by
      rw [h M]
      constructor
      · intro hk
        have e2 := Nat.div_add_mod M s
        have e3 : M + (s - 1 - m) + 1 = s * (M / s + 1) := by rw [Nat.mul_succ]; omega
        rw [e3, Nat.mul_mod_right]
      · intro hk
        obtain ⟨q, hq⟩ := Nat.dvd_of_mod_eq_zero hk
        have hq1 : 1 ≤ q := by
          rcases Nat.eq_zero_or_pos q with h0 | h0
          · rw [h0] at hq; omega
          · exact h0
        obtain ⟨q', rfl⟩ : ∃ q', q = q' + 1 := ⟨q - 1, by omega⟩
        rw [Nat.mul_succ] at hq
        have e3 : M = m + s * q' := by omega
        rw [e3, Nat.add_mul_mod_self_left, Nat.mod_eq_of_lt hm]
    by_cases hf : f M = true
    · rw [if_pos hf, if_pos (hiff.1 hf)]
    · rw [if_neg hf, if_neg (fun h' => hf (hiff.2 h'))]
/-- How many up to a number: what CountWith answers. -/
theorem cnt_val {cols left : List Int} (hb : leftB cols left = true) (M : Nat) (hM : M ≤ 1000000000) : cwV cols left (M : Int) = (((cntF (fitB left 0 cols) (M + 1) : Nat) : Int), true) := by
  obtain ⟨b1, _, _⟩ := leftB_mem hb
  obtain ⟨_, _, c3⟩ := colsB_mem b1
  unfold cwV
  rw [if_pos hb, if_pos ⟨by omega, by omega⟩]
  cases hv : leastV cols left with
  | none => simp only [cntF_none (least_no c3 hv)]; rfl
  | some p =>
    obtain ⟨m, s⟩ := p
    obtain ⟨a1, _, a3⟩ := least_sol c3 hv
    simp only [cntF_mod a1 a3]
    by_cases h : (m : Int) > (M : Int)
    · rw [if_pos h, Nat.div_eq_of_lt (by omega)]
      rfl
    · rw [if_neg h]
      have e1 : ((M : Int) - (m : Int)).toNat = M - m := by omega
      have e2 : M + 1 + (s - 1 - m) = M - m + s := by omega
      rw [e1, e2, Nat.add_div_right _ (by omega)]
theorem soldiers_eq (a0 : Int) : spec_foSoldiers.f a0 = impl_isSoldiers.f a0 := by
  unfold spec_foSoldiers.f impl_isSoldiers.f spec_l1In.f impl_in.f
  rfl
theorem soldiers_some (a0 : Int) : ∃ b, impl_isSoldiers.f a0 = some b ∧ (b = true → ∃ n : Nat, a0 = n ∧ 1 ≤ n ∧ n ≤ 1000000) := by
  unfold impl_isSoldiers.f impl_in.f
  by_cases h1 : 1 ≤ a0
  · by_cases h2 : a0 ≤ 1000000
    · refine ⟨true, by simp [h1, h2], fun _ => ?_⟩
      obtain ⟨n, rfl⟩ := Int.eq_ofNat_of_zero_le (show 0 ≤ a0 by omega)
      exact ⟨n, rfl, by omega, by omega⟩
    · exact ⟨false, by simp [h1, h2], by simp⟩
  · exact ⟨false, by simp [h1], by simp⟩
theorem spec_rem_l0 (n : Int) (rest : List Int) : ∀ (pre out : List Int), (∀ c ∈ rest, 1 ≤ c ∧ c ≤ 1000) → pre.length + rest.length ≤ 6 → out.length + rest.length ≤ 6 →
    Ev (fun k => spec_RemaindersOf.l0 k n out (pre ++ rest) ((pre ++ rest).length : Int) pre.length) (out ++ rest.map (fun c => Int.tmod n c), true) := by
  induction rest with
  | nil =>
    intro pre out hc hl ho
    exact Ev.step (f := fun _ => some (out, true)) (fun k => by rw [spec_RemaindersOf.l0, if_neg (by simp)]) (by simpa using Ev.now (out, true))
  | cons x rest ih =>
    intro pre out hc hl ho
    simp only [List.length_cons] at hl ho
    obtain ⟨hx1, hx2⟩ := hc x (List.mem_cons_self ..)
    have hlen : ((pre ++ x :: rest).length : Int) = pre.length + (rest.length + 1) := by simp
    have := ih (pre ++ [x]) (out ++ [Int.tmod n x]) (fun y hy => hc y (List.mem_cons_of_mem _ hy)) (by simp; omega) (by simp; omega)
    refine Ev.step (f := fun k => spec_RemaindersOf.l0 k n (out ++ [Int.tmod n x]) ((pre ++ [x]) ++ rest) (((pre ++ [x]) ++ rest).length : Int) ((pre ++ [x]).length : Nat)) (fun k => ?_) (by simpa using this)
    rw [spec_RemaindersOf.l0, if_pos (by omega), if_pos (by omega), if_pos (by omega), rd_mid, if_neg (by omega), if_pos (by omega), w64 (by omega) (by omega)]
    simp
theorem impl_rem_l0 (n : Int) (rest : List Int) : ∀ (pre out : List Int), (∀ c ∈ rest, 1 ≤ c ∧ c ≤ 1000) → pre.length + rest.length ≤ 6 → out.length + rest.length ≤ 6 →
    Ev (fun k => impl_RemaindersOf.l0 k n out (pre ++ rest) ((pre ++ rest).length : Int) pre.length) (out ++ rest.map (fun c => Int.tmod n c), true) := by
  induction rest with
  | nil =>
    intro pre out hc hl ho
    exact Ev.step (f := fun _ => some (out, true)) (fun k => by rw [impl_RemaindersOf.l0, if_neg (by simp)]) (by simpa using Ev.now (out, true))
  | cons x rest ih =>
    intro pre out hc hl ho
    simp only [List.length_cons] at hl ho
    obtain ⟨hx1, hx2⟩ := hc x (List.mem_cons_self ..)
    have hlen : ((pre ++ x :: rest).length : Int) = pre.length + (rest.length + 1) := by simp
    have := ih (pre ++ [x]) (out ++ [Int.tmod n x]) (fun y hy => hc y (List.mem_cons_of_mem _ hy)) (by simp; omega) (by simp; omega)
    refine Ev.step (f := fun k => impl_RemaindersOf.l0 k n (out ++ [Int.tmod n x]) ((pre ++ [x]) ++ rest) (((pre ++ [x]) ++ rest).length : Int) ((pre ++ [x]).length : Nat)) (fun k => ?_) (by simpa using this)
    rw [impl_RemaindersOf.l0, if_pos (by omega), if_pos (by omega), if_pos (by omega), rd_mid, if_neg (by omega), if_pos (by omega), w64 (by omega) (by omega)]
    simp
theorem rem_both (n : Int) (cols : List Int) (h1 : cols.length ≤ 10000000) : ∃ r b, Ev (fun k => spec_RemaindersOf.f k n cols) (r, b) ∧ Ev (fun k => impl_RemaindersOf.f k n cols) (r, b) ∧ r.length ≤ 200 ∧ (1 ≤ n → n ≤ 1000000 → colsB cols = true → b = true ∧ r = cols.map (fun c => Int.tmod n c)) := by
  obtain ⟨b, hb, h⟩ := soldiers_some n
  unfold spec_RemaindersOf.f impl_RemaindersOf.f
  simp only [soldiers_eq, hb, Option.bind_some]
  cases b with
  | false =>
    refine ⟨[], false, ?_, ?_, by simp, fun q1 q2 _ => ?_⟩
    · exact Ev.step (f := fun _ => some (([] : List Int), false)) (fun k => by rw [if_neg (by decide), spec_RemaindersOf.j0, if_pos rfl]) (Ev.now _)
    · exact Ev.step (f := fun _ => some (([] : List Int), false)) (fun k => by rw [if_neg (by decide), impl_RemaindersOf.j0, if_pos rfl]) (Ev.now _)
    · unfold impl_isSoldiers.f impl_in.f at hb
      rw [if_pos q1] at hb
      simp at hb
      omega
  | true =>
    simp only [if_true]
    have hs := spec_cols cols h1
    have hi := impl_cols cols h1
    by_cases hc : colsB cols = true
    · obtain ⟨c1, c2, c3⟩ := colsB_mem hc
      rw [hc] at hs hi
      have a := spec_rem_l0 n cols [] [] c3 (by simpa using c2) (by simpa using c2)
      have c := impl_rem_l0 n cols [] [] c3 (by simpa using c2) (by simpa using c2)
      refine ⟨cols.map (fun c => Int.tmod n c), true, Ev.bind hs ?_, Ev.bind hi ?_, by simp; omega, fun _ _ _ => ⟨rfl, rfl⟩⟩
      · exact Ev.step (fun k => by rw [spec_RemaindersOf.j0, if_neg (by decide)]) (by simpa using a)
      · exact Ev.step (fun k => by rw [impl_RemaindersOf.j0, if_neg (by decide)]) (by simpa using c)
    · have hc' : colsB cols = false := by simpa using hc
      rw [hc'] at hs hi
      refine ⟨[], false, Ev.bind hs ?_, Ev.bind hi ?_, by simp, fun _ _ h => absurd h hc⟩
      · exact Ev.step (f := fun _ => some (([] : List Int), false)) (fun k => by rw [spec_RemaindersOf.j0, if_pos (by decide)]) (Ev.now _)
      · exact Ev.step (f := fun _ => some (([] : List Int), false)) (fun k => by rw [impl_RemaindersOf.j0, if_pos (by decide)]) (Ev.now _)
theorem mSame_l0 (l : List Int) (hl : l.length ≤ 1000000000) (d : Nat) : ∀ i : Nat, i + d = l.length → Ev (fun k => laws_mSame.l0 k l l (l.length : Int) (i : Int)) true := by
  induction d with
  | zero =>
    intro i hi
    have p : ¬ ((i : Int) < (l.length : Int)) := by omega
    exact Ev.step (f := fun _ => some true) (fun k => by rw [laws_mSame.l0, if_neg p]) (Ev.now true)
  | succ d ih =>
    intro i hi
    have p1 : (i : Int) < (l.length : Int) := by omega
    have p2 : (0 : Int) ≤ (i : Int) := by omega
    have hi2 : i ≤ 1000000000 := by omega
    refine Ev.step (fun k => ?_) (ih (i + 1) (by omega))
    rw [laws_mSame.l0, if_pos p1, if_pos p2, if_pos p1, if_pos p1, if_pos rfl, nq1 hi2]
theorem mSame_self (l : List Int) (hl : l.length ≤ 1000000000) : Ev (fun k => laws_mSame.f k l l) true := by
  refine Ev.congr (fun k => ?_) (mSame_l0 l hl l.length 0 (by omega))
  show (if (l.length : Int) = (l.length : Int) then laws_mSame.l0 k l l (l.length : Int) 0 else some false) = _
  rw [if_pos rfl]
  rfl
theorem fit_map (left : List Int) (m : Nat) (rest : List Int) : ∀ i, (∀ c ∈ rest, 1 ≤ c ∧ c ≤ 1000) → i + rest.length = left.length → fitB left i rest m = true → rest.map (fun c => Int.tmod (m : Int) c) = left.drop i := by
  induction rest with
  | nil =>
    intro i _ hl _
    rw [List.drop_of_length_le (by simp at hl; omega)]
    rfl
  | cons x rest ih =>
    intro i hc hl hf
    obtain ⟨hx1, hx2⟩ := hc x (List.mem_cons_self ..)
    obtain ⟨q, rfl⟩ := Int.eq_ofNat_of_zero_le (show 0 ≤ x by omega)
    simp only [fitB, Int.toNat_natCast, Bool.and_eq_true, decide_eq_true_eq] at hf
    simp only [List.length_cons] at hl
    have hi : i < left.length := by omega
    rw [List.drop_eq_getElem_cons hi, List.map_cons, ih (i + 1) (fun y hy => hc y (List.mem_cons_of_mem _ hy)) (by omega) hf.2]
    congr 1
    have e : rd left (i : Int) = left[i] := by simp [rd, hi]
    rw [← e, ← hf.1]
    rfl
theorem stepV_true {cols : List Int} {step : Int} (h : stepV cols = (step, true)) : colsB cols = true ∧ step = ((lcmFrom cols 1 : Nat) : Int) ∧ lcmFrom cols 1 ≤ 1000000000000 := by
  unfold stepV at h
  by_cases hb : colsB cols = true
  · rw [if_pos hb] at h
    unfold answer at h
    by_cases hs : ((lcmFrom cols 1 : Nat) : Int) > 1000000000000
    · rw [if_pos hs] at h
      simp at h
    · rw [if_neg hs] at h
      simp at h
      exact ⟨hb, h.symm, by omega⟩
  · rw [if_neg hb] at h
    simp at h
theorem cwV_true {c l : List Int} {a v : Int} (h : cwV c l a = (v, true)) : leftB c l = true ∧ 0 ≤ a ∧ a ≤ 1000000000 := by
  unfold cwV at h
  by_cases hb : leftB c l = true
  · rw [if_pos hb] at h
    by_cases hr : 0 ≤ a ∧ a ≤ 1000000000
    · exact ⟨hb, hr⟩
    · rw [if_neg hr] at h
      simp at h
  · rw [if_neg hb] at h
    simp at h
theorem cw_at {cols left : List Int} {m t : Nat} (hb : leftB cols left = true) (hv : leastV cols left = some (m, t)) {a : Int} (h0 : 0 ≤ a) (h1 : a ≤ 1000000000) : cwV cols left a = if (m : Int) > a then (0, true) else ((((a - m).toNat / t + 1 : Nat) : Int), true) := by
  unfold cwV
  rw [if_pos hb, if_pos ⟨h0, h1⟩, hv]
/-- A byte that is masked. -/
theorem cur_mask (x : Int) : 0 ≤ Go.bits .and .u64 x 255 ∧ Go.bits .and .u64 x 255 ≤ 255 := by
  unfold Go.bits
  simp only []
  have h1 : (BitVec.ofInt IntKind.u64.bits x &&& BitVec.ofInt IntKind.u64.bits 255).toNat ≤ 255 := by
    rw [BitVec.toNat_and]
    have e : (BitVec.ofInt IntKind.u64.bits 255).toNat = 255 := by decide
    rw [e]
    exact Nat.and_le_right
  obtain ⟨n, hn⟩ : ∃ n, (BitVec.ofInt IntKind.u64.bits x &&& BitVec.ofInt IntKind.u64.bits 255).toNat = n := ⟨_, rfl⟩
  rw [hn] at h1 ⊢
  have e2 : IntKind.u64.wrap (n : Int) = n := by
    have e3 : IntKind.u64.wrap (n : Int) = (n : Int) % 18446744073709551616 := rfl
    rw [e3]
    omega
  rw [e2]
  omega
section
variable {code : List Int} (hc : ∀ x ∈ code, 0 ≤ x ∧ x ≤ 255)
include hc
theorem cur_next (at_ seed : Int) (h0 : 0 ≤ at_) (h1 : at_ ≤ 1000000000) : ∃ r s, spec_l1Cur_next.f code at_ seed = some (r, at_ + 1, s) ∧ 0 ≤ r ∧ r ≤ 255 := by
  have w1 : wrap64 (at_ + 1) = at_ + 1 := w64 (by omega) (by omega)
  unfold spec_l1Cur_next.f
  rw [w1]
  by_cases c1 : at_ < (code.length : Int)
  · rw [if_pos c1, if_pos h0]
    have hb : 0 ≤ rd code at_ ∧ rd code at_ ≤ 255 := by
      have hl : at_.toNat < code.length := by omega
      have e : rd code at_ = code[at_.toNat] := by simp [rd, hl]
      rw [e]
      exact hc _ (List.getElem_mem hl)
    by_cases c2 : at_ + 1 ≤ (code.length : Int)
    · rw [if_pos c2]
      refine ⟨_, _, rfl, ?_, ?_⟩ <;> rw [w64 (by omega) (by omega)] <;> omega
    · omega
  · rw [if_neg c1]
    by_cases c2 : at_ + 1 ≤ (code.length : Int)
    · omega
    · rw [if_neg c2]
      obtain ⟨m1, m2⟩ := cur_mask ((IntKind.u64.wrap ((IntKind.u64.wrap ((IntKind.u64.wrap (seed * 6364136223846793005)) + 0)) + 1442695040888963407)) / 1099511627776)
      refine ⟨_, _, rfl, ?_, ?_⟩ <;> rw [w64 (by omega) (by omega)] <;> omega
theorem cur_pick (at_ seed n : Int) (hn : 1 ≤ n) (hn2 : n ≤ 1000000) (h0 : 0 ≤ at_) (h1 : at_ ≤ 900000000) : ∃ r a s, spec_l1Cur_pick.f code at_ seed n = some (r, a, s) ∧ 0 ≤ r ∧ r < n ∧ at_ ≤ a ∧ a ≤ at_ + 2 := by
  unfold spec_l1Cur_pick.f
  by_cases c1 : n ≤ 1
  · rw [if_pos c1]
    exact ⟨0, at_, seed, rfl, by omega, by omega, by omega, by omega⟩
  · rw [if_neg c1]
    obtain ⟨r1, s1, e1, a1, a2⟩ := cur_next hc at_ seed h0 (by omega)
    obtain ⟨m, rfl⟩ := Int.eq_ofNat_of_zero_le (show 0 ≤ n by omega)
    have hm : ∀ x : Int, 0 ≤ x → 0 ≤ Int.tmod x (m : Int) ∧ Int.tmod x (m : Int) < (m : Int) := fun x hx => by
      obtain ⟨y, rfl⟩ := Int.eq_ofNat_of_zero_le hx
      have e : Int.tmod (y : Int) (m : Int) = ((y % m : Nat) : Int) := rfl
      have := Nat.mod_lt y (show m > 0 by omega)
      rw [e]
      omega
    rw [e1]
    simp only [Option.bind_some]
    by_cases c2 : (m : Int) > 200
    · rw [if_pos c2]
      obtain ⟨r2, s2, e2, b1, b2⟩ := cur_next hc (at_ + 1) s1 (by omega) (by omega)
      rw [e2]
      simp only [Option.bind_some]
      rw [if_neg (by omega)]
      have w1 : wrap64 (r1 * 256) = r1 * 256 := w64 (by omega) (by omega)
      rw [w1, w64 (by omega) (by omega)]
      obtain ⟨q1, q2⟩ := hm (r1 * 256 + r2) (by omega)
      exact ⟨_, _, _, rfl, q1, q2, by omega, by omega⟩
    · rw [if_neg c2, if_neg (by omega)]
      obtain ⟨q1, q2⟩ := hm r1 a1
      exact ⟨_, _, _, rfl, q1, q2, by omega, by omega⟩
theorem cur_among (at_ seed : Int) (l : List Int) (hl : 1 ≤ l.length) (hl2 : l.length ≤ 1000000) (h0 : 0 ≤ at_) (h1 : at_ ≤ 900000000) : ∃ r a s, spec_l1Cur_among.f code at_ seed l = some (r, a, s) ∧ r ∈ l ∧ at_ ≤ a ∧ a ≤ at_ + 2 := by
  unfold spec_l1Cur_among.f
  obtain ⟨r, a, s, e, q1, q2, q3, q4⟩ := cur_pick hc at_ seed (l.length : Int) (by omega) (by omega) h0 h1
  rw [e]
  simp only [Option.bind_some]
  rw [if_pos q1, if_pos q2]
  refine ⟨_, _, _, rfl, ?_, q3, q4⟩
  have hlt : r.toNat < l.length := by omega
  have e2 : rd l r = l[r.toNat] := by simp [rd, hlt]
  rw [e2]
  exact List.getElem_mem hlt
end
section
variable {code : List Int} (hc : ∀ x ∈ code, 0 ≤ x ∧ x ≤ 255)
include hc
theorem cols_j2 (cols left : List Int) (x40 : Int) (b : Bool) (at_ seed : Int) (h1 : 1 ≤ left.length) (h2 : left.length = cols.length) (h3 : cols.length ≤ 4) (hm : ∀ x ∈ cols, 1 ≤ x ∧ x ≤ 12) (h0 : 0 ≤ at_) (ha : at_ ≤ 1000) :
    ∃ r1 r2 r3 r4, Ev (fun k => spec_l1Cur_columns.j2 k cols left x40 b code at_ seed) (r1, r2, r3, r4) ∧ r1.length ≤ 10 ∧ r2.length ≤ 10 ∧ 0 ≤ r3 ∧ r3 ≤ 2000 := by
  cases b with
  | true =>
    obtain ⟨r, a, s, e, q1, q2, q3, q4⟩ := cur_pick hc at_ seed (left.length : Int) (by omega) (by omega) h0 (by omega)
    have hr : r.toNat < cols.length := by omega
    have e1 : rd cols r = cols[r.toNat] := by simp [rd, hr]
    obtain ⟨m1, m2⟩ := hm _ (List.getElem_mem hr)
    obtain ⟨r', a', s', e', q1', q2', q3', q4'⟩ := cur_pick hc a s (rd cols r) (by rw [e1]; omega) (by rw [e1]; omega) (by omega) (by omega)
    refine ⟨cols, left.set r.toNat r', a', s', Ev.step (f := fun _ => some (cols, left.set r.toNat r', a', s')) (fun k => ?_) (Ev.now _), by omega, by simp; omega, by omega, by omega⟩
    rw [spec_l1Cur_columns.j2, if_pos rfl, e]
    simp only [Option.bind_some]
    rw [if_pos q1, if_pos (by omega), e']
    simp only [Option.bind_some]
    rw [if_pos q2]
  | false =>
    by_cases c3 : x40 = 3
    · refine ⟨cols, left ++ [0], at_, seed, Ev.step (f := fun _ => some (cols, left ++ [0], at_, seed)) (fun k => ?_) (Ev.now _), by omega, by simp; omega, by omega, by omega⟩
      rw [spec_l1Cur_columns.j2, if_neg (by decide), if_pos c3, if_pos (by omega)]
    · by_cases c4 : x40 = 4
      · obtain ⟨r, a, s, e, q1, q2, q3, q4⟩ := cur_pick hc at_ seed 5 (by omega) (by omega) h0 (by omega)
        have hlen : (rd_L2 ([[], [997, 991, 983, 977, 971], [1], [2, 4, 6, 8, 10, 12], [1, 1, 1, 1, 1, 1, 1]] : List (List Int)) r).length ≤ 10 := by
          have : r = 0 ∨ r = 1 ∨ r = 2 ∨ r = 3 ∨ r = 4 := by omega
          rcases this with rfl | rfl | rfl | rfl | rfl <;> decide
        refine ⟨rd_L2 ([[], [997, 991, 983, 977, 971], [1], [2, 4, 6, 8, 10, 12], [1, 1, 1, 1, 1, 1, 1]] : List (List Int)) r, left, a, s, Ev.step (f := fun _ => some (rd_L2 ([[], [997, 991, 983, 977, 971], [1], [2, 4, 6, 8, 10, 12], [1, 1, 1, 1, 1, 1, 1]] : List (List Int)) r, left, a, s)) (fun k => ?_) (Ev.now _), hlen, by omega, by omega, by omega⟩
        rw [spec_l1Cur_columns.j2, if_neg (by decide), if_neg c3, if_pos c4]
        simp only [Option.bind_some]
        rw [e]
        simp only [Option.bind_some]
        rw [if_pos q1, if_pos (by simpa using q2)]
      · refine ⟨cols, left, at_, seed, Ev.step (f := fun _ => some (cols, left, at_, seed)) (fun k => ?_) (Ev.now _), by omega, by omega, by omega, by omega⟩
        rw [spec_l1Cur_columns.j2, if_neg (by decide), if_neg c3, if_neg c4]
theorem cols_l1 (cols : List Int) (n at_ seed : Int) (h3 : 1 ≤ cols.length) (h4 : cols.length ≤ 4) (hm : ∀ x ∈ cols, 1 ≤ x ∧ x ≤ 12) (h0 : 0 ≤ at_) (ha : at_ ≤ 100) (rest : List Int) : ∀ pre left : List Int, cols = pre ++ rest → left.length = pre.length →
    ∃ r1 r2 r3 r4, Ev (fun k => spec_l1Cur_columns.l1 k cols left n cols (cols.length : Int) (pre.length : Int) code at_ seed) (r1, r2, r3, r4) ∧ r1.length ≤ 10 ∧ r2.length ≤ 10 ∧ 0 ≤ r3 ∧ r3 ≤ 2000 := by
  induction rest with
  | nil =>
    intro pre left e hl
    have hpl : pre.length = cols.length := by rw [e]; simp
    have p : ¬ ((pre.length : Int) < (cols.length : Int)) := by omega
    obtain ⟨r, a, s, e1, q1, q2, q3, q4⟩ := cur_pick hc at_ seed 10 (by omega) (by omega) h0 (by omega)
    by_cases c0 : r = 0
    · obtain ⟨r', a', s', e2, _, q3', q4'⟩ := cur_among hc a s ([0, (-1), 1000, 1001] : List Int) (by simp) (by simp) (by omega) (by omega)
      refine ⟨cols.set (0 : Int).toNat r', left, a', s', Ev.step (f := fun _ => some (cols.set (0 : Int).toNat r', left, a', s')) (fun k => ?_) (Ev.now _), by simp; omega, by omega, by omega, by omega⟩
      rw [spec_l1Cur_columns.l1, if_neg p, e1]
      simp only [Option.bind_some]
      rw [if_pos c0, e2]
      simp only [Option.bind_some]
      rw [if_pos (by omega)]
    · by_cases c1 : r = 1
      · obtain ⟨r1, r2, r3, r4, hE, z⟩ := cols_j2 hc cols left r (r == 1) a s (by omega) (by omega) h4 hm (by omega) (by omega)
        refine ⟨r1, r2, r3, r4, Ev.step (fun k => ?_) hE, z⟩
        rw [spec_l1Cur_columns.l1, if_neg p, e1]
        simp only [Option.bind_some]
        rw [if_neg c0, if_pos c1]
      · obtain ⟨r1, r2, r3, r4, hE, z⟩ := cols_j2 hc cols left r (r == 2) a s (by omega) (by omega) h4 hm (by omega) (by omega)
        refine ⟨r1, r2, r3, r4, Ev.step (fun k => ?_) hE, z⟩
        rw [spec_l1Cur_columns.l1, if_neg p, e1]
        simp only [Option.bind_some]
        rw [if_neg c0, if_neg c1]
  | cons x rest ih =>
    intro pre left e hl
    have hlen : cols.length = pre.length + (rest.length + 1) := by rw [e]; simp
    obtain ⟨hx1, hx2⟩ := hm x (by rw [e]; simp)
    have p1 : (pre.length : Int) < (cols.length : Int) := by omega
    have p2 : (0 : Int) ≤ (pre.length : Int) := by omega
    have e1 : rd cols (pre.length : Int) = x := by rw [e]; exact rd_mid pre x rest
    have ee : cols = (pre ++ [x]) ++ rest := by rw [e]; simp
    obtain ⟨r1, r2, r3, r4, hE, z⟩ := ih (pre ++ [x]) (left ++ [Int.tmod n x]) ee (by simp; omega)
    have el : ((pre ++ [x]).length : Int) = (pre.length : Int) + 1 := by simp
    rw [el] at hE
    refine ⟨r1, r2, r3, r4, Ev.step (fun k => ?_) hE, z⟩
    rw [spec_l1Cur_columns.l1, if_pos p1, if_pos p2, if_pos p1, e1, if_neg (by omega), if_pos (by omega), w64 (by omega) (by omega)]
theorem cols_l0 (d : Nat) : ∀ (cols : List Int) (at_ seed : Int), cols.length + d ≤ 4 → 1 ≤ cols.length + d → (∀ x ∈ cols, 1 ≤ x ∧ x ≤ 12) → 0 ≤ at_ → at_ + 2 * d ≤ 50 →
    ∃ r1 r2 r3 r4, Ev (fun k => spec_l1Cur_columns.l0 k cols (d : Int) code at_ seed) (r1, r2, r3, r4) ∧ r1.length ≤ 10 ∧ r2.length ≤ 10 ∧ 0 ≤ r3 ∧ r3 ≤ 2000 := by
  induction d with
  | zero =>
    intro cols at_ seed h1 h2 hm h0 ha
    obtain ⟨r, a, s, e, q1, q2, q3, q4⟩ := cur_pick hc at_ seed 200 (by omega) (by omega) h0 (by omega)
    obtain ⟨r1, r2, r3, r4, hE, z⟩ := cols_l1 hc cols r a s (by omega) (by omega) hm (by omega) (by omega) cols [] [] rfl rfl
    refine ⟨r1, r2, r3, r4, Ev.step (fun k => ?_) hE, z⟩
    rw [spec_l1Cur_columns.l0, if_neg (by omega), e]
    rfl
  | succ d ih =>
    intro cols at_ seed h1 h2 hm h0 ha
    obtain ⟨r, a, s, e, q1, q2, q3, q4⟩ := cur_pick hc at_ seed 12 (by omega) (by omega) h0 (by omega)
    have w1 : wrap64 (1 + r) = 1 + r := w64 (by omega) (by omega)
    have w2 : wrap64 (((d + 1 : Nat) : Int) - 1) = (d : Int) := by rw [w64 (by omega) (by omega)]; omega
    obtain ⟨r1, r2, r3, r4, hE, z⟩ := ih (cols ++ [1 + r]) a s (by simp; omega) (by simp; omega) (fun x hx => by
      rcases List.mem_append.1 hx with h | h
      · exact hm x h
      · rw [List.mem_singleton.1 h]; omega) (by omega) (by omega)
    refine ⟨r1, r2, r3, r4, Ev.step (fun k => ?_) hE, z⟩
    rw [spec_l1Cur_columns.l0, if_pos (by omega), e]
    simp only [Option.bind_some]
    rw [if_pos (by omega), w1, w2]
theorem cols_ok : ∃ r1 r2 r3 r4, Ev (fun k => spec_l1Cur_columns.f k code 0 0) (r1, r2, r3, r4) ∧ r1.length ≤ 10 ∧ r2.length ≤ 10 ∧ 0 ≤ r3 ∧ r3 ≤ 2000 := by
  obtain ⟨r, a, s, e, q1, q2, q3, q4⟩ := cur_pick hc 0 0 4 (by omega) (by omega) (by omega) (by omega)
  obtain ⟨d, hd⟩ : ∃ d : Nat, 1 + r = d := ⟨(1 + r).toNat, by omega⟩
  obtain ⟨r1, r2, r3, r4, hE, z⟩ := cols_l0 hc d [] a s (by simp; omega) (by simp; omega) (fun x hx => by cases hx) (by omega) (by omega)
  refine ⟨r1, r2, r3, r4, ?_, z⟩
  unfold spec_l1Cur_columns.f
  rw [e]
  simp only [Option.bind_some]
  rw [w64 (by omega) (by omega), hd]
  exact hE
theorem draw_least : ∃ r1 r2, Ev (fun k => spec_DrawLeastWith.f k code) (r1, r2) ∧ r1.length ≤ 10 ∧ r2.length ≤ 10 := by
  obtain ⟨r1, r2, r3, r4, hE, h1, h2, _⟩ := cols_ok hc
  exact ⟨r1, r2, Ev.bind hE (Ev.now _), h1, h2⟩
theorem draw_count : ∃ r1 r2 r3, Ev (fun k => spec_DrawCountWith.f k code) (r1, r2, r3) ∧ r1.length ≤ 10 ∧ r2.length ≤ 10 := by
  obtain ⟨r1, r2, r3, r4, hE, h1, h2, h3, h4⟩ := cols_ok hc
  obtain ⟨r, a, s, e, _⟩ := cur_among hc r3 r4 ([0, 1, 23, 100, 1000, 1000000000, 1000000001, (-1)] : List Int) (by simp) (by simp) h3 (by omega)
  refine ⟨r1, r2, r, Ev.bind hE (Ev.congr (f := fun _ => some (r1, r2, r)) (fun k => ?_) (Ev.now _)), h1, h2⟩
  simp only [e, Option.bind_some]
theorem draw_rem : ∃ r1 r2, Ev (fun k => spec_DrawRemaindersOf.f k code) (r1, r2) ∧ r2.length ≤ 10 := by
  obtain ⟨r1, r2, r3, r4, hE, h1, h2, h3, h4⟩ := cols_ok hc
  obtain ⟨r, a, s, e, _⟩ := cur_among hc r3 r4 ([0, 1, 23, 100, 1000000, 1000001] : List Int) (by simp) (by simp) h3 (by omega)
  refine ⟨r, r1, Ev.bind hE (Ev.congr (f := fun _ => some (r, r1)) (fun k => ?_) (Ev.now _)), h1⟩
  simp only [e, Option.bind_some]
theorem draw_turn : ∃ r1 r2, spec_DrawTurnFormation.f code = some (r1, r2) := by
  unfold spec_DrawTurnFormation.f spec_l1Cur_one.f
  obtain ⟨r, a, s, e, q1, q2, q3, q4⟩ := cur_pick hc 0 0 10 (by omega) (by omega) (by omega) (by omega)
  rw [e]
  simp only [Option.bind_some]
  cases (r == 0) with
  | true =>
    obtain ⟨r', a', s', e1, _, q5, q6⟩ := cur_among hc a s ([0, 1, 14, 200, 201, (-1)] : List Int) (by simp) (by simp) (by omega) (by omega)
    obtain ⟨r2, a2, s2, e2, _⟩ := cur_among hc a' s' ([0, 1, 14, 15, 200, 4611686018427387904] : List Int) (by simp) (by simp) (by omega) (by omega)
    rw [if_pos rfl, e1]
    simp only [Option.bind_some]
    rw [e2]
    exact ⟨_, _, rfl⟩
  | false =>
    obtain ⟨r', a', s', e1, _, _, q5, q6⟩ := cur_pick hc a s 6 (by omega) (by omega) (by omega) (by omega)
    obtain ⟨r2, a2, s2, e2, _⟩ := cur_pick hc a' s' 8 (by omega) (by omega) (by omega) (by omega)
    rw [if_neg (by decide), e1]
    simp only [Option.bind_some]
    rw [e2]
    exact ⟨_, _, rfl⟩
end
section
variable {c l list turn : List Int} {most s rows wide times : Int} {nine : Bool}
theorem fl_l3 (hc : ∀ x ∈ c, 1 ≤ x ∧ x ≤ 1000) (hl : c.length = l.length) (h6 : c.length ≤ 6) (count : Int) (kk found : Nat) (rest : List Int) : ∀ (pre : List Int) (b : Bool), c = pre ++ rest →
    Ev (fun k => laws_FnFormsLeft.l2 k c l most count rows wide turn nine times ((found + (if (b && fitB l pre.length rest kk) = true then 1 else 0) : Nat) : Int) ((kk + 1 : Nat) : Int)) true → found ≤ 100000 → kk ≤ 100000 →
    Ev (fun k => laws_FnFormsLeft.l3 k c l most count rows wide turn nine times (found : Int) (kk : Int) b c (c.length : Int) (pre.length : Int)) true := by
  induction rest with
  | nil =>
    intro pre b e h hf hk
    have hpl : pre.length = c.length := by rw [e]; simp
    have p : ¬ ((pre.length : Int) < (c.length : Int)) := by omega
    refine Ev.step (fun k => ?_) h
    rw [laws_FnFormsLeft.l3, if_neg p]
    cases b with
    | true =>
      rw [if_pos rfl, nq1 (by omega), nq1 (by omega)]
      rfl
    | false =>
      rw [if_neg (by decide), nq1 (by omega)]
      rfl
  | cons x rest ih =>
    intro pre b e h hf hk
    have hlen : c.length = pre.length + (rest.length + 1) := by rw [e]; simp
    obtain ⟨hx1, hx2⟩ := hc x (by rw [e]; simp)
    have p1 : (pre.length : Int) < (c.length : Int) := by omega
    have p2 : (0 : Int) ≤ (pre.length : Int) := by omega
    have p3 : (pre.length : Int) < (l.length : Int) := by omega
    have e1 : rd c (pre.length : Int) = x := by rw [e]; exact rd_mid pre x rest
    have ee : c = (pre ++ [x]) ++ rest := by rw [e]; simp
    have el : ((pre ++ [x]).length : Int) = ((pre.length + 1 : Nat) : Int) := by simp
    have hpl : pre.length ≤ 1000000000 := by omega
    cases b with
    | true =>
      obtain ⟨q, rfl⟩ := Int.eq_ofNat_of_zero_le (show 0 ≤ x by omega)
      have hne : ¬ ((q : Int) = 0) := by omega
      have t1 : Int.tmod (kk : Int) (q : Int) = ((kk % q : Nat) : Int) := rfl
      have := ih (pre ++ [(q : Int)]) (((kk % q : Nat) : Int) == rd l (pre.length : Int)) ee (by
        have e2 : (pre ++ [(q : Int)]).length = pre.length + 1 := by simp
        rw [e2]
        exact h) hf hk
      rw [el] at this
      refine Ev.step (fun k => ?_) this
      rw [laws_FnFormsLeft.l3, if_pos p1, if_pos p2, if_pos p1, if_pos rfl, e1, if_neg hne, if_pos p3, t1, nq1 hpl]
    | false =>
      have := ih (pre ++ [x]) false ee h hf hk
      rw [el] at this
      refine Ev.step (fun k => ?_) this
      rw [laws_FnFormsLeft.l3, if_pos p1, if_pos p2, if_pos p1, if_neg (by decide), nq1 hpl]
theorem fl_l2 (hc : ∀ x ∈ c, 1 ≤ x ∧ x ≤ 1000) (hl : c.length = l.length) (h6 : c.length ≤ 6) (M : Nat) (hM : M ≤ 1000) (h16 : Ev (fun k => laws_FnFormsLeft.j15 k rows wide turn nine times) true) (d : Nat) : ∀ kk, kk + d = M + 1 →
    Ev (fun k => laws_FnFormsLeft.l2 k c l (M : Int) ((cntF (fitB l 0 c) (M + 1) : Nat) : Int) rows wide turn nine times ((cntF (fitB l 0 c) kk : Nat) : Int) (kk : Int)) true := by
  induction d with
  | zero =>
    intro kk hk
    have e : kk = M + 1 := by omega
    have p : ¬ ((kk : Int) ≤ (M : Int)) := by omega
    refine Ev.step (fun k => ?_) h16
    rw [laws_FnFormsLeft.l2, if_neg p, e, if_pos rfl]
  | succ d ih =>
    intro kk hk
    have p : (kk : Int) ≤ (M : Int) := by omega
    have hcl := cntF_le (fitB l 0 c) kk
    have h3 := fl_l3 (most := (M : Int)) (rows := rows) (wide := wide) (turn := turn) (nine := nine) (times := times) hc hl h6 ((cntF (fitB l 0 c) (M + 1) : Nat) : Int) kk (cntF (fitB l 0 c) kk) c [] true rfl (ih (kk + 1) (by omega)) (by omega) (by omega)
    refine Ev.step (fun k => ?_) h3
    rw [laws_FnFormsLeft.l2, if_pos p]
    rfl
theorem fl_j10 {more : List Int} (hmore : ∀ x ∈ more, 0 ≤ x ∧ x ≤ 255) : Ev (fun k => laws_FnFormsLeft.j10 k more) true := by
  obtain ⟨c, l, most, dc, hcl, hll⟩ := draw_count hmore
  obtain ⟨s, list, dr, hli⟩ := draw_rem hmore
  obtain ⟨rows, wide, dt⟩ := draw_turn hmore
  obtain ⟨cs, ci⟩ := cw_both c l (by omega) (by omega) most
  obtain ⟨rr, rb, rs, ri, rl, _⟩ := rem_both s list (by omega)
  obtain ⟨fr, fb, fs, fi, ft, fd, fl⟩ := form_both rows wide
  obtain ⟨tr, ts, ti, td⟩ := tt_both rows wide fb ft
  have h16 : Ev (fun k => laws_FnFormsLeft.j15 k rows wide fr fb tr) true := by
    cases fb with
    | false => exact Ev.step (f := fun _ => some true) (fun k => by rw [laws_FnFormsLeft.j15, if_neg (by decide)]) (Ev.now true)
    | true =>
      obtain ⟨R, C, rfl, rfl, hR, hC, hRC, rfl⟩ := fd rfl
      obtain ⟨T, rfl, hT1, hT2, hT3⟩ := td R C rfl rfl rfl hR hC hRC
      exact fl_j16 hR hC hRC hT1 hT2 hT3
  have h13 : Ev (fun k => laws_FnFormsLeft.j12 k c l most (cwV c l most).1 rows wide fr fb tr ((cwV c l most).2 && decide (most ≤ 1000))) true := by
    by_cases hf : ((cwV c l most).2 && decide (most ≤ 1000)) = true
    · rw [hf]
      rw [Bool.and_eq_true, decide_eq_true_eq] at hf
      obtain ⟨hb, h0, h1⟩ := cwV_true (c := c) (l := l) (a := most) (v := (cwV c l most).1) (by rw [← hf.1])
      obtain ⟨M, rfl⟩ := Int.eq_ofNat_of_zero_le h0
      obtain ⟨b1, b2, b3⟩ := leftB_mem hb
      obtain ⟨c1, c2, c3⟩ := colsB_mem b1
      have hcv := cnt_val hb M (by omega)
      rw [hcv]
      refine Ev.step (fun k => ?_) (fl_l2 c3 b2.symm c2 M (by omega) h16 (M + 1) 0 (by omega))
      rw [laws_FnFormsLeft.j12, if_pos rfl]
      rfl
    · have hf' : ((cwV c l most).2 && decide (most ≤ 1000)) = false := by simpa using hf
      rw [hf']
      exact Ev.step (fun k => by rw [laws_FnFormsLeft.j12, if_neg (by decide)]) h16
  have h12 : Ev (fun k => laws_FnFormsLeft.j11 k c l most (cwV c l most).1 (cwV c l most).2 rows wide fr fb tr false) true := by
    refine Ev.step (fun k => ?_) h13
    rw [laws_FnFormsLeft.j11, if_neg (by decide)]
    cases (cwV c l most).2 with
    | true => rw [if_pos rfl, Bool.true_and]
    | false => rw [if_neg (by decide), Bool.false_and]
  have hm1 := mSame_self rr (by omega)
  have hm2 := mSame_self fr (by omega)
  have n1 : ∀ b : Bool, ¬ ((b != b) = true) := fun b => by simp
  refine Ev.step (f := fun k => ((spec_DrawCountWith.f k more).bind fun bt318 => ((impl_CountWith.f k bt318.1 bt318.2.1 bt318.2.2).bind fun bt325 => ((spec_CountWith.f k bt318.1 bt318.2.1 bt318.2.2).bind fun bt327 => ((spec_DrawRemaindersOf.f k more).bind fun bt329 => ((impl_RemaindersOf.f k bt329.1 bt329.2).bind fun bt333 => ((spec_RemaindersOf.f k bt329.1 bt329.2).bind fun bt337 => ((spec_DrawTurnFormation.f more).bind fun bt341 => ((impl_TurnFormation.f k bt341.1 bt341.2).bind fun bt343 => ((spec_TurnFormation.f k bt341.1 bt341.2).bind fun bt347 => ((impl_TimesTurned.f k bt341.1 bt341.2).bind fun bt351 => ((spec_TimesTurned.f k bt341.1 bt341.2).bind fun bt353 => (if (bt325.2 != bt327.2) = true then (laws_FnFormsLeft.j11 k bt318.1 bt318.2.1 bt318.2.2 bt325.1 bt325.2 bt341.1 bt341.2 bt343.1 bt343.2 bt351.1 true) else (if bt325.1 = bt327.1 then (if (bt333.2 != bt337.2) = true then (laws_FnFormsLeft.j11 k bt318.1 bt318.2.1 bt318.2.2 bt325.1 bt325.2 bt341.1 bt341.2 bt343.1 bt343.2 bt351.1 true) else ((laws_mSame.f k bt333.1 bt337.1).bind fun t355 => (if t355 = true then (if (bt343.2 != bt347.2) = true then (laws_FnFormsLeft.j11 k bt318.1 bt318.2.1 bt318.2.2 bt325.1 bt325.2 bt341.1 bt341.2 bt343.1 bt343.2 bt351.1 true) else ((laws_mSame.f k bt343.1 bt347.1).bind fun t356 => (if t356 = true then (if (bt351.2 != bt353.2) = true then (laws_FnFormsLeft.j11 k bt318.1 bt318.2.1 bt318.2.2 bt325.1 bt325.2 bt341.1 bt341.2 bt343.1 bt343.2 bt351.1 true) else (if bt351.1 = bt353.1 then (laws_FnFormsLeft.j11 k bt318.1 bt318.2.1 bt318.2.2 bt325.1 bt325.2 bt341.1 bt341.2 bt343.1 bt343.2 bt351.1 (bt351.2 != bt343.2)) else (laws_FnFormsLeft.j11 k bt318.1 bt318.2.1 bt318.2.2 bt325.1 bt325.2 bt341.1 bt341.2 bt343.1 bt343.2 bt351.1 true))) else (laws_FnFormsLeft.j11 k bt318.1 bt318.2.1 bt318.2.2 bt325.1 bt325.2 bt341.1 bt341.2 bt343.1 bt343.2 bt351.1 true)))) else (laws_FnFormsLeft.j11 k bt318.1 bt318.2.1 bt318.2.2 bt325.1 bt325.2 bt341.1 bt341.2 bt343.1 bt343.2 bt351.1 true)))) else (laws_FnFormsLeft.j11 k bt318.1 bt318.2.1 bt318.2.2 bt325.1 bt325.2 bt341.1 bt341.2 bt343.1 bt343.2 bt351.1 true))))))))))))))) (fun k => by rw [laws_FnFormsLeft.j10]) ?_
  refine Ev.bind dc (Ev.bind ci (Ev.bind cs (Ev.bind dr (Ev.bind ri (Ev.bind rs ?_)))))
  refine Ev.bind (Ev.congr (f := fun _ => some (rows, wide)) (fun _ => dt) (Ev.now _)) ?_
  refine Ev.bind fi (Ev.bind fs (Ev.bind ti (Ev.bind ts ?_)))
  refine Ev.congr (fun k => (if_neg (n1 _)).trans ((if_pos rfl).trans (if_neg (n1 _)))) ?_
  refine Ev.bind hm1 ?_
  refine Ev.congr (fun k => (if_pos rfl).trans (if_neg (n1 _))) ?_
  refine Ev.bind hm2 ?_
  refine Ev.congr (fun k => (if_pos rfl).trans ((if_neg (n1 _)).trans (if_pos rfl))) ?_
  simp only [bne_self_eq_false]
  exact h12
end
section
variable {cols left more : List Int} {step : Int} {three : Bool} (h11 : Ev (fun k => laws_FnFormsLeft.j10 k more) true)
include h11
theorem fl_l1 (S : Nat) (h6 : cols.length ≤ 6) (rest : List Int) : ∀ pre : List Int, cols = pre ++ rest → (∀ x ∈ rest, 1 ≤ x ∧ x ≤ 1000 ∧ x.toNat ∣ S) →
    Ev (fun k => laws_FnFormsLeft.l1 k more (S : Int) cols (cols.length : Int) (pre.length : Int)) true := by
  induction rest with
  | nil =>
    intro pre e _
    have hpl : pre.length = cols.length := by rw [e]; simp
    have p : ¬ ((pre.length : Int) < (cols.length : Int)) := by omega
    exact Ev.step (fun k => by rw [laws_FnFormsLeft.l1, if_neg p]) h11
  | cons x rest ih =>
    intro pre e hd
    have hlen : cols.length = pre.length + (rest.length + 1) := by rw [e]; simp
    obtain ⟨hx1, hx2, hx3⟩ := hd x (List.mem_cons_self ..)
    obtain ⟨q, rfl⟩ := Int.eq_ofNat_of_zero_le (show 0 ≤ x by omega)
    have p1 : (pre.length : Int) < (cols.length : Int) := by omega
    have p2 : (0 : Int) ≤ (pre.length : Int) := by omega
    have e1 : rd cols (pre.length : Int) = (q : Int) := by rw [e]; exact rd_mid pre (q : Int) rest
    have ee : cols = (pre ++ [(q : Int)]) ++ rest := by rw [e]; simp
    have el : ((pre ++ [(q : Int)]).length : Int) = ((pre.length + 1 : Nat) : Int) := by simp
    have hpl : pre.length ≤ 1000000000 := by omega
    have hne : ¬ ((q : Int) = 0) := by omega
    have t1 : Int.tmod (S : Int) (q : Int) = 0 := by
      show ((S % q : Nat) : Int) = 0
      rw [Nat.mod_eq_zero_of_dvd (by simpa using hx3)]
      rfl
    have := ih (pre ++ [(q : Int)]) ee (fun y hy => hd y (List.mem_cons_of_mem _ hy))
    rw [el] at this
    refine Ev.step (fun k => ?_) this
    rw [laws_FnFormsLeft.l1, if_pos p1, if_pos p2, if_pos p1, e1, if_neg hne, if_pos t1, nq1 hpl]
theorem fl_j8 (h3 : three = true → stepV cols = (step, true)) : Ev (fun k => laws_FnFormsLeft.j8 k more cols step three) true := by
  cases three with
  | false => exact Ev.step (fun k => by rw [laws_FnFormsLeft.j8, if_neg (by decide)]) h11
  | true =>
    obtain ⟨hb, rfl, _⟩ := stepV_true (h3 rfl)
    obtain ⟨c1, c2, c3⟩ := colsB_mem hb
    have hd := (dvd_lcmFrom cols 1).2
    refine Ev.step (fun k => ?_) (fl_l1 h11 (lcmFrom cols 1) c2 cols [] rfl (fun x hx => ⟨(c3 x hx).1, (c3 x hx).2, hd x hx⟩))
    rw [laws_FnFormsLeft.j8, if_pos rfl]
    rfl
/-- There is a least number: all that is asked of it. -/
theorem fl_ok {m t : Nat} (hcl : cols.length ≤ 10000) (hll : left.length ≤ 10000) (hb : leftB cols left = true) (hv : leastV cols left = some (m, t)) (h3 : three = true → stepV cols = (step, true)) :
    Ev (fun k => laws_FnFormsLeft.l0 k more cols left (m : Int) step three cols (cols.length : Int) 0) true := by
  obtain ⟨b1, b2, b3⟩ := leftB_mem hb
  obtain ⟨c1, c2, c3⟩ := colsB_mem b1
  obtain ⟨a1, a2, a3⟩ := least_sol c3 hv
  obtain ⟨d1, d2, d3⟩ := least_bound c3 c2 hv
  have h9 := fl_j8 (cols := cols) h11 h3
  have hfit : fitB left 0 cols m = true := (a3 m).2 (Nat.mod_eq_of_lt a1)
  -- what is left over in each of the columns
  have h8 : Ev (fun k => laws_FnFormsLeft.j7 k more cols left (m : Int) step three (decide ((m : Int) ≥ 1) && decide ((m : Int) ≤ 1000000))) true := by
    by_cases hq : (decide ((m : Int) ≥ 1) && decide ((m : Int) ≤ 1000000)) = true
    · rw [hq]
      rw [Bool.and_eq_true, decide_eq_true_eq, decide_eq_true_eq] at hq
      obtain ⟨rr, rb, _, ri, rl, rv⟩ := rem_both (m : Int) cols (by omega)
      obtain ⟨rfl, rfl⟩ := rv (by omega) hq.2 b1
      have hmap := fit_map left m cols 0 c3 (by omega) hfit
      rw [List.drop_zero] at hmap
      rw [hmap] at ri
      have hm := mSame_self left (by omega)
      refine Ev.step (f := fun k => (impl_RemaindersOf.f k (m : Int) cols).bind fun bt235 => (if bt235.2 = true then ((laws_mSame.f k bt235.1 left).bind fun t239 => (if t239 = true then (laws_FnFormsLeft.j8 k more cols step three) else (some false))) else (some false))) (fun k => by rw [laws_FnFormsLeft.j7, if_pos rfl]) ?_
      refine Ev.bind ri ?_
      refine Ev.congr (fun k => if_pos rfl) ?_
      refine Ev.bind hm ?_
      exact Ev.congr (fun k => if_pos rfl) h9
    · have hq' : (decide ((m : Int) ≥ 1) && decide ((m : Int) ≤ 1000000)) = false := by simpa using hq
      rw [hq']
      exact Ev.step (fun k => by rw [laws_FnFormsLeft.j7, if_neg (by decide)]) h9
  have h7 : Ev (fun k => laws_FnFormsLeft.j6 k more cols left (m : Int) step three) true := by
    refine Ev.step (fun k => ?_) h8
    rw [laws_FnFormsLeft.j6]
    by_cases h : (m : Int) ≥ 1
    · rw [if_pos h, decide_eq_true h, Bool.true_and]
    · rw [if_neg h, decide_eq_false h, Bool.false_and]
  have h6 : ∀ fl : Bool, (fl = true → three = true ∧ wrap64 ((m : Int) + step) ≤ 1000000000) → Ev (fun k => laws_FnFormsLeft.j5 k more cols left (m : Int) step three fl) true := by
    intro fl hfl
    cases fl with
    | false => exact Ev.step (fun k => by rw [laws_FnFormsLeft.j5, if_neg (by decide)]) h7
    | true =>
      obtain ⟨ht, hle⟩ := hfl rfl
      obtain ⟨_, e, hS⟩ := stepV_true (h3 ht)
      have ew : wrap64 ((m : Int) + step) = ((m + t : Nat) : Int) := by
        rw [e, ← a2, w64 (by omega) (by omega)]
        omega
      rw [ew] at hle
      obtain ⟨_, ci⟩ := cw_both cols left (by omega) (by omega) ((m + t : Nat) : Int)
      have hcv : cwV cols left ((m + t : Nat) : Int) = (2, true) := by
        rw [cw_at hb hv (by omega) hle, if_neg (by omega)]
        have e2 : (((m + t : Nat) : Int) - (m : Int)).toNat = t := by omega
        rw [e2, Nat.div_self (by omega)]
        rfl
      rw [hcv] at ci
      refine Ev.step (f := fun k => (impl_CountWith.f k cols left ((m + t : Nat) : Int)).bind fun bt233 => (if bt233.2 = true then (if bt233.1 = 2 then (laws_FnFormsLeft.j6 k more cols left (m : Int) step three) else (some false)) else (some false))) (fun k => by rw [laws_FnFormsLeft.j5, if_pos rfl, ew]) ?_
      refine Ev.bind ci ?_
      exact Ev.congr (fun k => (if_pos rfl).trans (if_pos rfl)) h7
  have h5 : Ev (fun k => laws_FnFormsLeft.j4 k more cols left (m : Int) step three) true := by
    cases three with
    | false => exact Ev.step (fun k => by rw [laws_FnFormsLeft.j4, if_neg (by decide)]) (h6 false (fun h => by cases h))
    | true => exact Ev.step (fun k => by rw [laws_FnFormsLeft.j4, if_pos rfl]) (h6 (decide (wrap64 ((m : Int) + step) ≤ 1000000000)) (fun h => ⟨rfl, of_decide_eq_true h⟩))
  have h4 : (m : Int) ≤ 1000000000 → Ev (fun k => laws_FnFormsLeft.j3 k more cols left (m : Int) step three false) true := by
    intro hm
    by_cases h0 : (m : Int) > 0
    · have ew : wrap64 ((m : Int) - 1) = (m : Int) - 1 := w64 (by omega) (by omega)
      obtain ⟨_, ci⟩ := cw_both cols left (by omega) (by omega) ((m : Int) - 1)
      have hcv : cwV cols left ((m : Int) - 1) = (0, true) := by
        rw [cw_at hb hv (by omega) (by omega), if_pos (by omega)]
      rw [hcv] at ci
      refine Ev.step (f := fun k => (impl_CountWith.f k cols left ((m : Int) - 1)).bind fun bt231 => (if bt231.2 = true then (if bt231.1 = 0 then (laws_FnFormsLeft.j4 k more cols left (m : Int) step three) else (some false)) else (some false))) (fun k => by rw [laws_FnFormsLeft.j3, if_neg (by decide), if_pos h0, ew]) ?_
      refine Ev.bind ci ?_
      exact Ev.congr (fun k => (if_pos rfl).trans (if_pos rfl)) h5
    · exact Ev.step (fun k => by rw [laws_FnFormsLeft.j3, if_neg (by decide), if_neg h0]) h5
  have hj3 : Ev (fun k => laws_FnFormsLeft.j2 k more cols left (m : Int) step three false) true := by
    by_cases hm : (m : Int) ≤ 1000000000
    · obtain ⟨_, ci⟩ := cw_both cols left (by omega) (by omega) (m : Int)
      have hcv : cwV cols left (m : Int) = (1, true) := by
        rw [cw_at hb hv (by omega) hm, if_neg (by omega)]
        have e2 : ((m : Int) - (m : Int)).toNat = 0 := by omega
        rw [e2, Nat.zero_div]
        rfl
      rw [hcv] at ci
      refine Ev.step (f := fun k => (impl_CountWith.f k cols left (m : Int)).bind fun bt229 => (if bt229.2 = true then (laws_FnFormsLeft.j3 k more cols left (m : Int) step three (bt229.1 != 1)) else (laws_FnFormsLeft.j3 k more cols left (m : Int) step three true))) (fun k => by rw [laws_FnFormsLeft.j2, if_neg (by decide), if_pos hm]) ?_
      refine Ev.bind ci ?_
      exact Ev.congr (fun k => if_pos rfl) (h4 hm)
    · exact Ev.step (fun k => by rw [laws_FnFormsLeft.j2, if_neg (by decide), if_neg hm]) h7
  have hl0 : ∀ (rest pre : List Int), cols = pre ++ rest → fitB left pre.length rest m = true → Ev (fun k => laws_FnFormsLeft.l0 k more cols left (m : Int) step three cols (cols.length : Int) (pre.length : Int)) true := by
    intro rest
    induction rest with
    | nil =>
      intro pre e _
      have hpl : pre.length = cols.length := by rw [e]; simp
      have p : ¬ ((pre.length : Int) < (cols.length : Int)) := by omega
      have p0 : ¬ ((m : Int) < 0) := by omega
      refine Ev.step (fun k => ?_) hj3
      rw [laws_FnFormsLeft.l0, if_neg p, if_neg p0]
      cases three with
      | false => rw [if_neg (by decide)]
      | true =>
        obtain ⟨_, e2, _⟩ := stepV_true (h3 rfl)
        have : ¬ ((m : Int) ≥ step) := by rw [e2, ← a2]; omega
        rw [if_pos rfl, decide_eq_false this]
    | cons x rest ih =>
      intro pre e hf
      have hlen : cols.length = pre.length + (rest.length + 1) := by rw [e]; simp
      obtain ⟨hx1, hx2⟩ := c3 x (by rw [e]; simp)
      obtain ⟨q, rfl⟩ := Int.eq_ofNat_of_zero_le (show 0 ≤ x by omega)
      simp only [fitB, Int.toNat_natCast, Bool.and_eq_true, decide_eq_true_eq] at hf
      have p1 : (pre.length : Int) < (cols.length : Int) := by omega
      have p2 : (0 : Int) ≤ (pre.length : Int) := by omega
      have p3 : (pre.length : Int) < (left.length : Int) := by omega
      have e1 : rd cols (pre.length : Int) = (q : Int) := by rw [e]; exact rd_mid pre (q : Int) rest
      have ee : cols = (pre ++ [(q : Int)]) ++ rest := by rw [e]; simp
      have el : ((pre ++ [(q : Int)]).length : Int) = ((pre.length + 1 : Nat) : Int) := by simp
      have el2 : (pre ++ [(q : Int)]).length = pre.length + 1 := by simp
      have hpl : pre.length ≤ 1000000000 := by omega
      have hne : ¬ ((q : Int) = 0) := by omega
      have t1 : Int.tmod (m : Int) (q : Int) = rd left (pre.length : Int) := hf.1
      have := ih (pre ++ [(q : Int)]) ee (by rw [el2]; exact hf.2)
      rw [el] at this
      refine Ev.step (fun k => ?_) this
      rw [laws_FnFormsLeft.l0, if_pos p1, if_pos p2, if_pos p1, e1, if_neg hne, if_pos p3, if_pos t1, nq1 hpl]
  exact hl0 cols [] rfl hfit
end
theorem FnFormsLeft_core (code more : List Int) (hcode : ∀ x ∈ code, 0 ≤ x ∧ x ≤ 255) (hmore : ∀ x ∈ more, 0 ≤ x ∧ x ≤ 255) (hlc : code.length ≤ 140737488351232) (hlm : more.length ≤ 140737488351232) : Ev (fun k => laws_FnFormsLeft.f k code more) true := by
  have h11 := fl_j10 hmore
  obtain ⟨cols, left, dl, h0, h1⟩ := draw_least hcode
  obtain ⟨ls, li⟩ := lw_both cols left (by omega) (by omega)
  obtain ⟨bs, bi⟩ := cb_both cols left (by omega) (by omega)
  obtain ⟨ss, si⟩ := step_both cols (by omega)
  have n1 : ∀ b : Bool, ¬ ((b != b) = true) := fun b => by simp
  have hst : (stepV cols).2 = true → stepV cols = ((stepV cols).1, true) := fun h => by rw [← h]
  have h9 := fl_j8 (cols := cols) (step := (stepV cols).1) (three := (stepV cols).2) h11 hst
  have hj1 : Ev (fun k => laws_FnFormsLeft.j0 k more cols left (lwV cols left).1 (lwV cols left).2 (stepV cols).1 (stepV cols).2 false) true := by
    by_cases hb : leftB cols left = true
    · cases hv : leastV cols left with
      | none =>
        have e : lwV cols left = (0, false) := by unfold lwV; rw [if_pos hb, hv]
        rw [e]
        exact Ev.step (fun k => by rw [laws_FnFormsLeft.j0, if_neg (by decide), if_neg (by decide)]) h9
      | some p =>
        obtain ⟨m, t⟩ := p
        have e : lwV cols left = ((m : Int), true) := by unfold lwV; rw [if_pos hb, hv]
        rw [e]
        exact Ev.step (fun k => by rw [laws_FnFormsLeft.j0, if_neg (by decide), if_pos rfl]) (fl_ok h11 (by omega) (by omega) hb hv hst)
    · have e : lwV cols left = (0, false) := by unfold lwV; rw [if_neg hb]
      rw [e]
      exact Ev.step (fun k => by rw [laws_FnFormsLeft.j0, if_neg (by decide), if_neg (by decide)]) h9
  have hflag : (if (cbV cols left).2 = true then ((lwV cols left).2 != (cbV cols left).1) else ((lwV cols left).2 != false)) = false := by
    unfold cbV lwV
    by_cases hb : leftB cols left = true
    · rw [if_pos hb, if_pos hb]
      cases hv : leastV cols left with
      | none => rfl
      | some p => rfl
    · rw [if_neg hb, if_neg hb]
      rfl
  by_cases hbig : laws_big.f code more = some true
  · refine Ev.congr (f := fun _ => some true) (fun k => ?_) (Ev.now true)
    simp only [laws_FnFormsLeft.f, hbig, Option.bind_some, if_true]
  have hbig2 : laws_big.f code more = some false := by
    unfold laws_big.f at hbig ⊢
    by_cases c1 : (code.length : Int) > 1048576
    · rw [if_pos c1] at hbig
      exact absurd rfl hbig
    · rw [if_neg c1] at hbig ⊢
      cases hd : decide ((more.length : Int) > wrap64 (1048576 - (code.length : Int))) with
      | true => rw [hd] at hbig; exact absurd rfl hbig
      | false => rfl
  unfold laws_FnFormsLeft.f
  refine Ev.bind (Ev.congr (f := fun _ => some false) (fun _ => hbig2) (Ev.now false)) ?_
  refine Ev.congr (fun k => if_neg (by decide)) ?_
  refine Ev.bind dl ?_
  refine Ev.bind li (Ev.bind ls (Ev.bind bi (Ev.bind bs (Ev.bind si (Ev.bind ss ?_)))))
  refine Ev.congr (fun k => (if_neg (n1 _)).trans ((if_pos rfl).trans ((if_neg (n1 _)).trans ((if_neg (n1 _)).trans ((if_neg (n1 _)).trans (if_pos rfl)))))) ?_
  refine Ev.congr (fun k => ?_) hj1
  cases hc2 : (cbV cols left).2 with
  | true =>
    rw [hc2, if_pos rfl] at hflag
    rw [if_pos rfl, hflag]
  | false =>
    rw [hc2, if_neg (by decide)] at hflag
    rw [if_neg (by decide), hflag]
theorem byte_wf {x : Int} (h : (Lit.int .u8 x).wf = true) : 0 ≤ x ∧ x ≤ 255 := by
  have h' : IntKind.u8.min ≤ x ∧ x ≤ IntKind.u8.max := by simpa [Lit.wf] using h
  have e1 : IntKind.u8.min = 0 := by decide
  have e2 : IntKind.u8.max = 255 := by decide
  omega
theorem FnFormsLeft : laws_FnFormsLeft.Pure := by
  intro l0 l1 _ n0 w0 _ n1 w1
  refine Ev.rounds (r := true) ?_
  exact FnFormsLeft_core l0 l1 (fun x hx => byte_wf (w0 x hx)) (fun x hx => byte_wf (w1 x hx)) (by omega) (by omega)

end Go.Proofs.Yteekggogodjffaa.Pure
