/- For every two numbers of 64 bits, the program's TurnFormation answers what the reference's does, and its memory is its own. -/
import Derived.Test.YtollpomnfpkaeaaPFnExactTurnFormationx2
namespace Go.Proofs.Ytollpomnfpkaeaa.Pure
open Go.RowKit Go.Proofs.Ytollpomnfpkaeaa.PFnExactTurnFormation Go.Proofs.YtollpomnfpkaeaaW.PrintWords Go.Proofs.YtollpomnfpkaeaaW.PrintLast
set_option linter.unusedVariables false
set_option linter.unusedSimpArgs false

theorem w64 {x : Int} (h1 : -9223372036854775808 ≤ x) (h2 : x ≤ 9223372036854775807) : wrap64 x = x := by
  unfold wrap64
  omega
theorem wf_lo {a : Int} (h : (Lit.int .i64 a).wf = true) : -9223372036854775808 ≤ a := by
  have h' : IntKind.i64.min ≤ a ∧ a ≤ IntKind.i64.max := by simpa [Lit.wf] using h
  have e : IntKind.i64.min = -9223372036854775808 := by decide
  omega
theorem wf_hi {a : Int} (h : (Lit.int .i64 a).wf = true) : a ≤ 9223372036854775807 := by
  have h' : IntKind.i64.min ≤ a ∧ a ≤ IntKind.i64.max := by simpa [Lit.wf] using h
  have e : IntKind.i64.max = 9223372036854775807 := by decide
  omega
theorem ev_congr_fun {α : Type} {g f : Nat → Option α} {r : α} (h : g = f) (k : Ev f r) : Ev g r := h ▸ k
theorem rd_mid (pre : List Int) (x : Int) (rest : List Int) : rd (pre ++ x :: rest) (pre.length : Int) = x := by
  simp [rd]
theorem eqIntS_l0 (l : List Int) (hl : l.length ≤ 1000000000000000000) (d : Nat) : ∀ i : Int, 0 ≤ i → (l.length : Int) - i = d → Ev (fun k => laws_eqIntS.l0 k l l i) true := by
  induction d with
  | zero =>
    intro i h0 hd
    exact Ev.step (f := fun _ => some true) (fun k => by rw [laws_eqIntS.l0]; rw [if_neg (by omega)]) (Ev.now _)
  | succ d ih =>
    intro i h0 hd
    refine Ev.step (f := fun k => laws_eqIntS.l0 k l l (i + 1)) (fun k => ?_) (ih (i + 1) (by omega) (by omega))
    rw [laws_eqIntS.l0]
    rw [if_pos (by omega), if_pos h0, if_pos (by omega), if_pos rfl, w64 (by omega) (by omega)]
theorem eqIntS_self (l : List Int) (hl : l.length ≤ 1000000000000000000) : Ev (fun k => laws_eqIntS.f k l l) true :=
  Ev.congr (fun k => by unfold laws_eqIntS.f; rw [if_pos rfl]) (eqIntS_l0 l hl l.length 0 (by omega) (by omega))
def marksFrom (v : Int) : Nat → List Int
  | 0 => []
  | n + 1 => v :: marksFrom (v + 1) n
theorem marksFrom_length (n : Nat) : ∀ v, (marksFrom v n).length = n := by
  induction n with
  | zero => intro v; rfl
  | succ n ih => intro v; simp [marksFrom, ih]
theorem mark_l0 (rest : List Int) : ∀ (pre : List Int) (v : Int), 0 ≤ v → v + rest.length ≤ 1000000000000000000 → pre.length + rest.length ≤ 1000000000000000000 →
    Ev (fun k => laws_markIntS.l0 k (pre ++ rest) v pre.length) (v + rest.length, pre ++ marksFrom v rest.length) := by
  induction rest with
  | nil =>
    intro pre v h0 hv hl
    exact Ev.step (f := fun _ => some (v, pre)) (fun k => by rw [laws_markIntS.l0]; rw [if_neg (by simp)]; simp) (by simpa [marksFrom] using Ev.now (v, pre))
  | cons x rest ih =>
    intro pre v h0 hv hl
    simp only [List.length_cons] at hv hl
    refine Ev.step (f := fun k => laws_markIntS.l0 k ((pre ++ [v]) ++ rest) (v + 1) ((pre ++ [v]).length : Nat)) (fun k => ?_) ?_
    · rw [laws_markIntS.l0]
      rw [if_pos (by simp; omega), if_pos (by omega), w64 (by omega) (by omega), w64 (by omega) (by omega)]
      simp
    · have := ih (pre ++ [v]) (v + 1) (by omega) (by omega) (by simp; omega)
      have e1 : v + 1 + (rest.length : Int) = v + ((x :: rest).length : Nat) := by simp; omega
      have e2 : (pre ++ [v]) ++ marksFrom (v + 1) rest.length = pre ++ marksFrom v (x :: rest).length := by simp [marksFrom]
      rw [e1, e2] at this
      exact this
theorem held_l0 (n : Nat) : ∀ (pre : List Int) (v : Int), 0 ≤ v → v + n ≤ 1000000000000000000 → pre.length + n ≤ 1000000000000000000 →
    Ev (fun k => laws_heldIntS.l0 k (pre ++ marksFrom v n) v pre.length) (v + n) := by
  induction n with
  | zero =>
    intro pre v h0 hv hl
    exact Ev.step (f := fun _ => some v) (fun k => by rw [laws_heldIntS.l0, marksFrom]; rw [if_neg (by simp)]) (by simpa using Ev.now v)
  | succ n ih =>
    intro pre v h0 hv hl
    refine Ev.step (f := fun k => laws_heldIntS.l0 k ((pre ++ [v]) ++ marksFrom (v + 1) n) (v + 1) ((pre ++ [v]).length : Nat)) (fun k => ?_) ?_
    · rw [laws_heldIntS.l0, marksFrom]
      rw [if_pos (by simp; omega), if_pos (by omega), if_pos (rd_mid _ _ _), w64 (by omega) (by omega), w64 (by omega) (by omega)]
      simp
    · have := ih (pre ++ [v]) (v + 1) (by omega) (by omega) (by simp; omega)
      have e1 : v + 1 + (n : Int) = v + ((n + 1 : Nat) : Int) := by omega
      rw [e1] at this
      exact this
theorem mark_ok (l : List Int) (hl : l.length ≤ 100000000000000000) : Ev (fun k => laws_markIntS.f k l 1) (1 + (l.length : Int), marksFrom 1 l.length) := by
  have := mark_l0 l [] 1 (by omega) (by omega) (by simp; omega)
  simpa [laws_markIntS.f] using this
theorem held_ok (n : Nat) (hl : n ≤ 100000000000000000) : Ev (fun k => laws_heldIntS.f k (marksFrom 1 n) 1) (1 + (n : Int)) := by
  have := held_l0 n [] 1 (by omega) (by omega) (by simp; omega)
  simpa [laws_heldIntS.f] using this
def colList (C c : Int) : Nat → List Int
  | 0 => []
  | n + 1 => ((n : Int) * C + c) :: colList C c n
def formFrom (R : Nat) (C c : Int) : Nat → List Int
  | 0 => []
  | m + 1 => colList C c R ++ formFrom R C (c + 1) m
theorem colList_length (C c : Int) (n : Nat) : (colList C c n).length = n := by
  induction n with
  | zero => rfl
  | succ n ih => simp [colList, ih]
theorem formFrom_length (R : Nat) (C : Int) (m : Nat) : ∀ c, (formFrom R C c m).length = m * R := by
  induction m with
  | zero => intro c; simp [formFrom]
  | succ m ih => intro c; simp [formFrom, ih, colList_length, Nat.succ_mul]; omega
theorem sides_eq (a0 a1 : Int) : spec_foSides.f a0 a1 = impl_isTurned.f a0 a1 := by
  unfold spec_foSides.f impl_isTurned.f spec_l1In.f impl_in.f
  rfl
theorem isTurned_some (a0 a1 : Int) : ∃ b, impl_isTurned.f a0 a1 = some b ∧ (b = true → ∃ R C : Nat, a0 = R ∧ a1 = C ∧ 1 ≤ R ∧ 1 ≤ C ∧ R ≤ 200 ∧ C ≤ 200 ∧ R * C ≤ 200) := by
  unfold impl_isTurned.f impl_in.f
  by_cases h1 : 1 ≤ a0
  · by_cases h2 : a0 ≤ 200
    · by_cases h3 : 1 ≤ a1
      · by_cases h4 : a1 ≤ 200
        · simp only [h1, h2, h3, h4, if_true, decide_true, Option.bind_some, true_and]
          refine ⟨_, rfl, fun h => ?_⟩
          have h := of_decide_eq_true h
          obtain ⟨R, rfl⟩ := Int.eq_ofNat_of_zero_le (show 0 ≤ a0 by omega)
          obtain ⟨C, rfl⟩ := Int.eq_ofNat_of_zero_le (show 0 ≤ a1 by omega)
          have hb : R * C ≤ 200 * 200 := Nat.mul_le_mul (by omega) (by omega)
          have hc : ((R : Int) * (C : Int)) = ((R * C : Nat) : Int) := by simp
          rw [hc, w64 (by omega) (by omega)] at h
          exact ⟨R, C, rfl, rfl, by omega, by omega, by omega, by omega, by omega⟩
        · simp [h1, h2, h3, h4]
      · simp [h1, h2, h3]
    · simp [h1, h2]
  · simp [h1]
theorem spec_l1 {R C : Nat} {c : Int} (h0 : 0 ≤ c) (hc : c < C) (hR : 1 ≤ R) (hRC : R * C ≤ 200) (res : List Int) (n : Nat) : ∀ xs : List Int, n ≤ R → xs.length + n ≤ 1000 →
    Ev (fun k => spec_foTurn.l0 k R C (xs ++ colList C c n) (c + 1)) res → Ev (fun k => spec_foTurn.l1 k R C xs c ((n : Int) - 1)) res := by
  have hC : C ≤ 200 := Nat.le_trans (Nat.le_mul_of_pos_left C hR) hRC
  induction n with
  | zero =>
    intro xs hn hl h
    refine Ev.step (fun k => ?_) h
    rw [spec_foTurn.l1]
    rw [if_neg (by omega), w64 (by omega) (by omega)]
    simp [colList]
  | succ n ih =>
    intro xs hn hl h
    have hm : n * C ≤ R * C := Nat.mul_le_mul_right C (by omega)
    have e : ((n : Int) * (C : Int)) = ((n * C : Nat) : Int) := by simp
    refine Ev.step (f := fun k => spec_foTurn.l1 k R C (xs ++ [(n : Int) * C + c]) c ((n : Int) - 1)) (fun k => ?_) ?_
    · rw [spec_foTurn.l1]
      have e1 : ((n + 1 : Nat) : Int) - 1 = n := by omega
      rw [e1, if_pos (by omega), if_pos (by omega), e, w64 (x := ((n * C : Nat) : Int)) (by omega) (by omega), w64 (by omega) (by omega), w64 (by omega) (by omega)]
    · refine ih _ (by omega) (by simp; omega) ?_
      simpa [colList] using h
theorem impl_l1 {R C : Nat} {c : Int} (x9 : Int) (h0 : 0 ≤ c) (hc : c < C) (hR : 1 ≤ R) (hRC : R * C ≤ 200) (res : List Int) (n : Nat) : ∀ xs : List Int, n ≤ R → xs.length + n ≤ 1000 →
    Ev (fun k => impl_turnedForm.l0 k R C (xs ++ colList C c n) x9 (c + 1)) res → Ev (fun k => impl_turnedForm.l1 k R C xs c ((n : Int) - 1) x9 c) res := by
  have hC : C ≤ 200 := Nat.le_trans (Nat.le_mul_of_pos_left C hR) hRC
  induction n with
  | zero =>
    intro xs hn hl h
    refine Ev.step (fun k => ?_) h
    rw [impl_turnedForm.l1]
    rw [if_neg (by omega), w64 (by omega) (by omega)]
    simp [colList]
  | succ n ih =>
    intro xs hn hl h
    have hm : n * C ≤ R * C := Nat.mul_le_mul_right C (by omega)
    have e : ((n : Int) * (C : Int)) = ((n * C : Nat) : Int) := by simp
    refine Ev.step (f := fun k => impl_turnedForm.l1 k R C (xs ++ [(n : Int) * C + c]) c ((n : Int) - 1) x9 c) (fun k => ?_) ?_
    · rw [impl_turnedForm.l1]
      have e1 : ((n + 1 : Nat) : Int) - 1 = n := by omega
      rw [e1, if_pos (by omega), if_pos (by omega), e, w64 (x := ((n * C : Nat) : Int)) (by omega) (by omega), w64 (by omega) (by omega), w64 (by omega) (by omega)]
    · refine ih _ (by omega) (by simp; omega) ?_
      simpa [colList] using h
theorem spec_l0 {R C : Nat} (hR : 1 ≤ R) (hRC : R * C ≤ 200) (m : Nat) : ∀ (c : Int) (xs : List Int), 0 ≤ c → c + m = C → xs.length + m * R ≤ 200 →
    Ev (fun k => spec_foTurn.l0 k R C xs c) (xs ++ formFrom R C c m) := by
  have hR2 : m = 0 ∨ 1 ≤ m := by omega
  induction m with
  | zero =>
    intro c xs h0 hc hl
    refine Ev.step (f := fun _ => some xs) (fun k => by rw [spec_foTurn.l0]; rw [if_neg (by omega)]) ?_
    simpa [formFrom] using Ev.now xs
  | succ m ih =>
    intro c xs h0 hc hl
    rw [Nat.succ_mul] at hl
    have hC : 1 ≤ C := by omega
    have hR200 : R ≤ 200 := by omega
    refine Ev.step (f := fun k => spec_foTurn.l1 k R C xs c ((R : Int) - 1)) (fun k => ?_) ?_
    · rw [spec_foTurn.l0]
      rw [if_pos (by omega), w64 (by omega) (by omega)]
    · refine spec_l1 h0 (by omega) hR hRC _ R xs (by omega) (by omega) ?_
      have := ih (by omega) (c + 1) (xs ++ colList C c R) (by omega) (by omega) (by simp [colList_length]; omega)
      simpa [formFrom] using this
theorem impl_l0 {R C : Nat} (hR : 1 ≤ R) (hRC : R * C ≤ 200) (m : Nat) : ∀ (c : Int) (xs : List Int), 0 ≤ c → c + m = C → xs.length + m * R ≤ 200 →
    Ev (fun k => impl_turnedForm.l0 k R C xs C c) (xs ++ formFrom R C c m) := by
  have hR2 : m = 0 ∨ 1 ≤ m := by omega
  induction m with
  | zero =>
    intro c xs h0 hc hl
    refine Ev.step (f := fun _ => some xs) (fun k => by rw [impl_turnedForm.l0]; rw [if_neg (by omega)]) ?_
    simpa [formFrom] using Ev.now xs
  | succ m ih =>
    intro c xs h0 hc hl
    rw [Nat.succ_mul] at hl
    have hC : 1 ≤ C := by omega
    have hR200 : R ≤ 200 := by omega
    refine Ev.step (f := fun k => impl_turnedForm.l1 k R C xs c ((R : Int) - 1) C c) (fun k => ?_) ?_
    · rw [impl_turnedForm.l0]
      rw [if_pos (by omega), w64 (by omega) (by omega)]
    · refine impl_l1 _ h0 (by omega) hR hRC _ R xs (by omega) (by omega) ?_
      have := ih (by omega) (c + 1) (xs ++ colList C c R) (by omega) (by omega) (by simp [colList_length]; omega)
      simpa [formFrom] using this
theorem spec_form {R C : Nat} (hR : 1 ≤ R) (hRC : R * C ≤ 200) : Ev (fun k => spec_foTurn.f k R C) (formFrom R C 0 C) := by
  have := spec_l0 hR hRC C 0 [] (by omega) (by omega) (by rw [Nat.mul_comm]; simpa using hRC)
  simpa [spec_foTurn.f] using this
theorem impl_form {R C : Nat} (hR : 1 ≤ R) (hRC : R * C ≤ 200) : Ev (fun k => impl_turnedForm.f k R C) (formFrom R C 0 C) := by
  have := impl_l0 hR hRC C 0 [] (by omega) (by omega) (by rw [Nat.mul_comm]; simpa using hRC)
  simpa [impl_turnedForm.f] using this
theorem both (a0 a1 : Int) : ∃ r b, Ev (fun k => spec_TurnFormation.f k a0 a1) (r, b) ∧ Ev (fun k => impl_TurnFormation.f k a0 a1) (r, b) ∧ r.length ≤ 200 := by
  obtain ⟨b, hb, h⟩ := isTurned_some a0 a1
  unfold spec_TurnFormation.f impl_TurnFormation.f
  simp only [sides_eq, hb, Option.bind_some]
  cases b with
  | false => exact ⟨[], false, by simpa using Ev.now _, by simpa using Ev.now _, by simp⟩
  | true =>
    obtain ⟨R, C, rfl, rfl, hR, hC, _, _, hRC⟩ := h rfl
    simp only [if_true]
    refine ⟨formFrom R C 0 C, true, Ev.bind (spec_form hR hRC) (Ev.now _), Ev.bind (impl_form hR hRC) (Ev.now _), ?_⟩
    rw [formFrom_length, Nat.mul_comm]
    exact hRC
theorem FnExactTurnFormation : laws_FnExactTurnFormation.Pure := by
  intro a0 a1 w0 w1
  obtain ⟨r, b, ⟨K1, hs⟩, ⟨K2, hi⟩, hl⟩ := both a0 a1
  obtain ⟨K3, he⟩ := eqIntS_self r (by omega)
  obtain ⟨K4, hm⟩ := mark_ok r (by omega)
  obtain ⟨K5, hh⟩ := held_ok r.length (by omega)
  obtain ⟨K, e1, e2, e3, e4, e5⟩ : ∃ K, (∀ d, spec_TurnFormation.f (K + d) a0 a1 = some (r, b)) ∧ (∀ d, impl_TurnFormation.f (K + d) a0 a1 = some (r, b)) ∧ (∀ d, laws_eqIntS.f (K + d) r r = some true) ∧ (∀ d, laws_markIntS.f (K + d) r 1 = some (1 + (r.length : Int), marksFrom 1 r.length)) ∧ (∀ d, laws_heldIntS.f (K + d) (marksFrom 1 r.length) 1 = some (1 + (r.length : Int))) :=
    ⟨K1 + K2 + K3 + K4 + K5, fun d => hs _ (by omega), fun d => hi _ (by omega), fun d => he _ (by omega), fun d => hm _ (by omega), fun d => hh _ (by omega)⟩
  refine ⟨K + 4, ?_⟩
  have hn : ¬ (1 + (r.length : Int) < 0) := by omega
  simp [laws_FnExactTurnFormation.f, laws_FnExactTurnFormation.j0, laws_FnExactTurnFormation.j1, e1, e2, e3, e4, e5, hn]

end Go.Proofs.Ytollpomnfpkaeaa.Pure
