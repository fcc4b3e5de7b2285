/- For every list of paces and every number, the program's DropPace answers what the reference's does, leaves its argument alone, and its memory is its own. -/
import Derived.Test.YtpnmmjhhnfacfaaPFnExactDropPacex4
namespace Go.Proofs.Ytpnmmjhhnfacfaa.Pure
open Go.RowKit Go.Proofs.Ytpnmmjhhnfacfaa.PFnExactDropPace Go.Proofs.YtpnmmjhhnfacfaaW.PrintWords Go.Proofs.YtpnmmjhhnfacfaaW.PrintLast
set_option linter.unusedVariables false
set_option linter.unusedSimpArgs false

theorem w64 {x : Int} (h1 : -9223372036854775808 ≤ x) (h2 : x ≤ 9223372036854775807) : wrap64 x = x := by
  unfold wrap64
  omega
theorem wf_lo {a : Int} (h : (Lit.int .i64 a).wf = true) : -9223372036854775808 ≤ a := by
  have h' : IntKind.i64.min ≤ a ∧ a ≤ IntKind.i64.max := by simpa [Lit.wf] using h
  have e : IntKind.i64.min = -9223372036854775808 := by decide
  omega
theorem wf_hi {a : Int} (h : (Lit.int .i64 a).wf = true) : a ≤ 9223372036854775807 := by
  have h' : IntKind.i64.min ≤ a ∧ a ≤ IntKind.i64.max := by simpa [Lit.wf] using h
  have e : IntKind.i64.max = 9223372036854775807 := by decide
  omega
theorem ev_congr_fun {α : Type} {g f : Nat → Option α} {r : α} (h : g = f) (k : Ev f r) : Ev g r := h ▸ k
theorem rd_mid (pre : List Int) (x : Int) (rest : List Int) : rd (pre ++ x :: rest) (pre.length : Int) = x := by
  simp [rd]
theorem l1In_eq (a b c : Int) : spec_l1In.f a b c = some (decide (b ≤ a) && decide (a ≤ c)) := by
  unfold spec_l1In.f
  by_cases h : b ≤ a
  · rw [if_pos h]; simp [h]
  · rw [if_neg (show ¬ a ≥ b from h)]; simp [h]
theorem in_eq (a b c : Int) : impl_in.f a b c = some (decide (b ≤ a) && decide (a ≤ c)) := by
  unfold impl_in.f
  by_cases h : b ≤ a
  · rw [if_pos h]; simp [h]
  · rw [if_neg h]; simp [h]
theorem cast_len {α : Type} (l : List α) : (decide ((1 : Int) ≤ (l.length : Int)) && decide ((l.length : Int) ≤ 6)) = (decide (1 ≤ l.length) && decide (l.length ≤ 6)) := by
  congr 1 <;> exact decide_eq_decide.2 (by omega)
theorem rdP_mid (pre : List S37) (x : S37) (rest : List S37) : rd_T37 (pre ++ x :: rest) (pre.length : Int) = x := by
  simp [rd_T37]
def okP (p : S37) : Bool := (decide (1 ≤ p.f0) && decide (p.f0 ≤ 60)) && (decide (0 ≤ p.f1) && decide (p.f1 ≤ p.f0 - 1))
def pacesB (l : List S37) : Bool := (decide (1 ≤ l.length) && decide (l.length ≤ 6)) && l.all okP
def convP (z : S39) : S37 := ⟨z.f0, z.f1⟩
theorem okP_iff {p : S37} (h : okP p = true) : 1 ≤ p.f0 ∧ p.f0 ≤ 60 ∧ 0 ≤ p.f1 ∧ p.f1 < p.f0 := by
  unfold okP at h
  simp only [Bool.and_eq_true, decide_eq_true_eq] at h
  omega
theorem pacesB_mem {l : List S37} (h : pacesB l = true) : 1 ≤ l.length ∧ l.length ≤ 6 ∧ ∀ p ∈ l, 1 ≤ p.f0 ∧ p.f0 ≤ 60 ∧ 0 ≤ p.f1 ∧ p.f1 < p.f0 := by
  unfold pacesB at h
  simp only [Bool.and_eq_true, decide_eq_true_eq, List.all_eq_true] at h
  exact ⟨h.1.1, h.1.2, fun p hp => okP_iff (h.2 p hp)⟩
theorem rdL_mid (pre : List S39) (x : S39) (rest : List S39) : rd_T39 (pre ++ x :: rest) (pre.length : Int) = x := by
  simp [rd_T39]
theorem spPace_eq (p : S37) : spec_spPace.f p.f0 p.f1 = some (okP p) := by
  unfold spec_spPace.f okP
  rw [l1In_eq]
  simp only [Option.bind_some]
  by_cases h : (decide (1 ≤ p.f0) && decide (p.f0 ≤ 60)) = true
  · have h' : 1 ≤ p.f0 ∧ p.f0 ≤ 60 := by simpa using h
    rw [h, w64 (by omega) (by omega), l1In_eq]
    simp
  · have h' : (decide (1 ≤ p.f0) && decide (p.f0 ≤ 60)) = false := by simpa using h
    rw [h']
    simp
theorem isPace_eq (p : S37) : impl_isPace.f p.f0 p.f1 = some (okP p) := by
  unfold impl_isPace.f okP
  rw [in_eq]
  simp only [Option.bind_some]
  by_cases h : (decide (1 ≤ p.f0) && decide (p.f0 ≤ 60)) = true
  · have h' : 1 ≤ p.f0 ∧ p.f0 ≤ 60 := by simpa using h
    rw [h, w64 (by omega) (by omega), in_eq]
    simp
  · have h' : (decide (1 ≤ p.f0) && decide (p.f0 ≤ 60)) = false := by simpa using h
    rw [h']
    simp
theorem spGood_l0 (rest : List S37) : ∀ pre : List S37, pre.length + rest.length ≤ 100000000 →
    Ev (fun k => spec_spGood.l0 k (pre ++ rest) ((pre ++ rest).length : Int) pre.length) (rest.all okP) := by
  induction rest with
  | nil =>
    intro pre hl
    exact Ev.step (f := fun _ => some true) (fun k => by rw [spec_spGood.l0, if_neg (by simp)]) (by simpa using Ev.now true)
  | cons x rest ih =>
    intro pre hl
    simp only [List.length_cons] at hl
    have hlen : ((pre ++ x :: rest).length : Int) = pre.length + (rest.length + 1) := by simp
    by_cases hx : okP x = true
    · refine Ev.step (f := fun k => spec_spGood.l0 k ((pre ++ [x]) ++ rest) (((pre ++ [x]) ++ rest).length : Int) ((pre ++ [x]).length : Nat)) (fun k => ?_) ?_
      · rw [spec_spGood.l0, if_pos (by omega), if_pos (by omega), if_pos (by omega), rdP_mid, spPace_eq, hx]
        simp only [Option.bind_some, if_true]
        rw [w64 (by omega) (by omega)]
        simp
      · have := ih (pre ++ [x]) (by simp; omega)
        simpa [hx] using this
    · have hx' : okP x = false := by simpa using hx
      refine Ev.step (f := fun _ => some false) (fun k => ?_) (by simpa [hx'] using Ev.now false)
      rw [spec_spGood.l0, if_pos (by omega), if_pos (by omega), if_pos (by omega), rdP_mid, spPace_eq, hx']
      simp
theorem indexP_l0 (rest : List S37) : ∀ pre : List S37, pre.length + rest.length ≤ 100000000 →
    ∃ r : Int, Ev (fun k => slices_IndexFunc_impl_Pace_impl_Pace.l0 k (pre ++ rest) ((pre ++ rest).length : Int) pre.length) r ∧ (decide (r ≥ 0) = !(rest.all okP)) := by
  induction rest with
  | nil =>
    intro pre hl
    exact ⟨-1, Ev.step (f := fun _ => some (-1)) (fun k => by rw [slices_IndexFunc_impl_Pace_impl_Pace.l0, if_neg (by simp)]) (Ev.now _), by simp⟩
  | cons x rest ih =>
    intro pre hl
    simp only [List.length_cons] at hl
    have hlen : ((pre ++ x :: rest).length : Int) = pre.length + (rest.length + 1) := by simp
    by_cases hx : okP x = true
    · have hin : impl_arePaces_1.f x.f0 x.f1 = some false := by
        unfold impl_arePaces_1.f
        rw [isPace_eq, hx]
        rfl
      obtain ⟨r, hr, hd⟩ := ih (pre ++ [x]) (by simp; omega)
      refine ⟨r, Ev.step (f := fun k => slices_IndexFunc_impl_Pace_impl_Pace.l0 k ((pre ++ [x]) ++ rest) (((pre ++ [x]) ++ rest).length : Int) ((pre ++ [x]).length : Nat)) (fun k => ?_) hr, by rw [hd]; simp [hx]⟩
      rw [slices_IndexFunc_impl_Pace_impl_Pace.l0, if_pos (by omega), if_pos (by omega), if_pos (by omega), rdP_mid, hin]
      simp only [Option.bind_some]
      rw [if_neg (by decide), w64 (by omega) (by omega)]
      simp
    · have hx' : okP x = false := by simpa using hx
      have hin : impl_arePaces_1.f x.f0 x.f1 = some true := by
        unfold impl_arePaces_1.f
        rw [isPace_eq, hx']
        rfl
      refine ⟨pre.length, Ev.step (f := fun _ => some (pre.length : Int)) (fun k => ?_) (Ev.now _), by simp [hx']⟩
      rw [slices_IndexFunc_impl_Pace_impl_Pace.l0, if_pos (by omega), if_pos (by omega), if_pos (by omega), rdP_mid, hin]
      simp
theorem spec_good (l : List S37) (hl : l.length ≤ 10000000) : Ev (fun k => spec_spGood.f k l) (pacesB l) := by
  have h1 := spGood_l0 l [] (by simp; omega)
  simp only [List.nil_append, List.length_nil] at h1
  unfold spec_spGood.f pacesB
  rw [l1In_eq, cast_len]
  simp only [Option.bind_some]
  by_cases h : (decide (1 ≤ l.length) && decide (l.length ≤ 6)) = true
  · rw [h]
    simp only [if_true, Bool.true_and]
    exact h1
  · have h' : (decide (1 ≤ l.length) && decide (l.length ≤ 6)) = false := by simpa using h
    rw [h']
    simpa using Ev.now false
theorem impl_good (l : List S37) (hl : l.length ≤ 10000000) : Ev (fun k => impl_arePaces.f k l) (pacesB l) := by
  obtain ⟨r, h1, hd⟩ := indexP_l0 l [] (by simp; omega)
  simp only [List.nil_append, List.length_nil] at h1
  unfold impl_arePaces.f pacesB
  rw [in_eq, cast_len]
  simp only [Option.bind_some]
  by_cases h : (decide (1 ≤ l.length) && decide (l.length ≤ 6)) = true
  · rw [h]
    simp only [if_true, Bool.true_and]
    have h2 : Ev (fun k => slices_ContainsFunc_impl_Pace_impl_Pace.f k l) (!(l.all okP)) := by
      unfold slices_ContainsFunc_impl_Pace_impl_Pace.f
      rw [← hd]
      exact Ev.bind (g := fun k => slices_IndexFunc_impl_Pace_impl_Pace.f k l) (f := fun _ t => some (decide (t ≥ 0))) h1 (Ev.now _)
    have h3 := Ev.bind (f := fun _ t => some (!t)) h2 (Ev.now _)
    simpa using h3
  · have h' : (decide (1 ≤ l.length) && decide (l.length ≤ 6)) = false := by simpa using h
    rw [h']
    simpa using Ev.now false
theorem toPace_l0 (rest : List S39) : ∀ (pre : List S39), pre.length + rest.length ≤ 100000000 →
    Ev (fun k => laws_toPaceS.l0 k (pre ++ rest) (pre.map convP ++ List.replicate rest.length z37) pre.length) ((pre ++ rest).map convP) := by
  induction rest with
  | nil =>
    intro pre hl
    exact Ev.step (f := fun _ => some (pre.map convP)) (fun k => by rw [laws_toPaceS.l0]; rw [if_neg (by simp)]; simp) (by simpa using Ev.now (pre.map convP))
  | cons x rest ih =>
    intro pre hl
    simp only [List.length_cons] at hl
    refine Ev.step (f := fun k => laws_toPaceS.l0 k ((pre ++ [x]) ++ rest) ((pre ++ [x]).map convP ++ List.replicate rest.length z37) ((pre ++ [x]).length : Nat)) (fun k => ?_) ?_
    · rw [laws_toPaceS.l0]
      rw [if_pos (by simp; omega), if_pos (by omega), rdL_mid]
      unfold laws_toPace.f
      simp only [Option.bind_some]
      rw [if_pos (by simp; omega), w64 (by omega) (by omega)]
      simp [List.replicate_succ, convP]
    · have := ih (pre ++ [x]) (by simp; omega)
      simpa using this
theorem toPace_ok (l : List S39) (hl : l.length ≤ 100000000) : Ev (fun k => laws_toPaceS.f k l) (l.map convP) := by
  have := toPace_l0 l [] (by simpa using hl)
  refine Ev.congr (fun k => ?_) (by simpa using this)
  unfold laws_toPaceS.f
  rw [if_pos (by omega), if_pos (by simp; omega)]
  simp
theorem eqPace_l0 (l : List S37) (hl : l.length ≤ 1000000000000000000) (d : Nat) : ∀ i : Int, 0 ≤ i → (l.length : Int) - i = d → Ev (fun k => laws_eqPaceS.l0 k l l i) true := by
  induction d with
  | zero =>
    intro i h0 hd
    exact Ev.step (f := fun _ => some true) (fun k => by rw [laws_eqPaceS.l0]; rw [if_neg (by omega)]) (Ev.now _)
  | succ d ih =>
    intro i h0 hd
    refine Ev.step (f := fun k => laws_eqPaceS.l0 k l l (i + 1)) (fun k => ?_) (ih (i + 1) (by omega) (by omega))
    have he : ∀ a b : Int, laws_eqPace.f a b a b = some true := fun a b => by unfold laws_eqPace.f; rw [if_pos rfl, if_pos rfl]
    rw [laws_eqPaceS.l0, if_pos (by omega), if_pos h0, if_pos (by omega), he]
    simp only [Option.bind_some, if_true]
    rw [w64 (by omega) (by omega)]
theorem eqPace_self (l : List S37) (hl : l.length ≤ 1000000000000000000) : Ev (fun k => laws_eqPaceS.f k l l) true :=
  Ev.congr (fun k => by unfold laws_eqPaceS.f; rw [if_pos rfl]) (eqPace_l0 l hl l.length 0 (by omega) (by omega))
theorem szPace_eq (l : List S39) (hl : l.length ≤ 9223372036854775807) : laws_szPaceS.f l 1048576 = some (if (1048576 - (l.length : Int)) < 0 then -1 else 1048576 - (l.length : Int)) := by
  unfold laws_szPaceS.f
  rw [w64 (by omega) (by omega)]
  by_cases h : (1048576 - (l.length : Int)) < 0
  · rw [if_pos h, if_pos h]
  · rw [if_neg h, if_neg h]
def marksP (v : Int) : Nat → List S37
  | 0 => []
  | n + 1 => ⟨v, v + 1⟩ :: marksP (v + 2) n
theorem marksP_length (n : Nat) : ∀ v, (marksP v n).length = n := by
  induction n with
  | zero => intro v; rfl
  | succ n ih => intro v; simp [marksP, ih]
theorem set_mid {α : Type} (pre : List α) (x y : α) (rest : List α) : (pre ++ x :: rest).set pre.length y = pre ++ y :: rest := by
  simp
theorem markP_l0 (rest : List S37) : ∀ (pre : List S37) (v : Int), 0 ≤ v → v + 2 * rest.length ≤ 1000000000000000000 → pre.length + rest.length ≤ 100000000000000000 →
    Ev (fun k => laws_markPaceS.l0 k (pre ++ rest) v pre.length) (v + 2 * rest.length, pre ++ marksP v rest.length) := by
  induction rest with
  | nil =>
    intro pre v h0 hv hl
    exact Ev.step (f := fun _ => some (v, pre)) (fun k => by rw [laws_markPaceS.l0]; rw [if_neg (by simp)]; simp) (by simpa [marksP] using Ev.now (v, pre))
  | cons x rest ih =>
    intro pre v h0 hv hl
    simp only [List.length_cons] at hv hl
    refine Ev.step (f := fun k => laws_markPaceS.l0 k ((pre ++ [⟨v, v + 1⟩]) ++ rest) (v + 2) ((pre ++ [(⟨v, v + 1⟩ : S37)]).length : Nat)) (fun k => ?_) ?_
    · rw [laws_markPaceS.l0]
      rw [if_pos (by simp; omega), if_pos (by omega), Int.toNat_natCast, rdP_mid, set_mid]
      simp only [Option.bind_some]
      rw [rdP_mid, set_mid, w64 (x := v + 1) (by omega) (by omega), w64 (by omega) (by omega), w64 (by omega) (by omega)]
      have e : v + 1 + 1 = v + 2 := by omega
      rw [e]
      simp
    · have := ih (pre ++ [⟨v, v + 1⟩]) (v + 2) (by omega) (by omega) (by simp; omega)
      have e1 : v + 2 + 2 * (rest.length : Int) = v + 2 * ((x :: rest).length : Nat) := by simp; omega
      have e2 : (pre ++ [⟨v, v + 1⟩]) ++ marksP (v + 2) rest.length = pre ++ marksP v (x :: rest).length := by simp [marksP]
      rw [e1, e2] at this
      exact this
theorem markP_ok (l : List S37) (hl : l.length ≤ 10000000000000000) : Ev (fun k => laws_markPaceS.f k l 1) (1 + 2 * (l.length : Int), marksP 1 l.length) := by
  have := markP_l0 l [] 1 (by omega) (by omega) (by simp; omega)
  simpa [laws_markPaceS.f] using this
theorem heldP_l0 (n : Nat) : ∀ (pre : List S37) (v : Int), 0 ≤ v → v + 2 * n ≤ 1000000000000000000 → pre.length + n ≤ 100000000000000000 →
    Ev (fun k => laws_heldPaceS.l0 k (pre ++ marksP v n) v pre.length) (v + 2 * n) := by
  induction n with
  | zero =>
    intro pre v h0 hv hl
    exact Ev.step (f := fun _ => some v) (fun k => by rw [laws_heldPaceS.l0, marksP]; rw [if_neg (by simp)]) (by simpa using Ev.now v)
  | succ n ih =>
    intro pre v h0 hv hl
    refine Ev.step (f := fun k => laws_heldPaceS.l0 k ((pre ++ [⟨v, v + 1⟩]) ++ marksP (v + 2) n) (v + 2) ((pre ++ [(⟨v, v + 1⟩ : S37)]).length : Nat)) (fun k => ?_) ?_
    · rw [laws_heldPaceS.l0, marksP]
      rw [if_pos (by simp; omega), if_pos (by omega), rdP_mid, if_pos rfl, w64 (x := v + 1) (by omega) (by omega), if_pos rfl, w64 (by omega) (by omega), w64 (by omega) (by omega)]
      have e : v + 1 + 1 = v + 2 := by omega
      rw [e]
      simp
    · have := ih (pre ++ [⟨v, v + 1⟩]) (v + 2) (by omega) (by omega) (by simp; omega)
      have e1 : v + 2 + 2 * (n : Int) = v + 2 * ((n + 1 : Nat) : Int) := by omega
      rw [e1] at this
      exact this
theorem heldP_ok (n : Nat) (hl : n ≤ 10000000000000000) : Ev (fun k => laws_heldPaceS.f k (marksP 1 n) 1) (1 + 2 * (n : Int)) := by
  have := heldP_l0 n [] 1 (by omega) (by omega) (by simp; omega)
  simpa [laws_heldPaceS.f] using this
theorem dpw (i : Nat) (h : i ≤ 1000) : wrap64 ((i : Int) + 1) = ((i + 1 : Nat) : Int) := by rw [w64 (by omega) (by omega)]; rfl
theorem both (l : List S37) (a : Int) (hl : l.length ≤ 10000000) : ∃ r c, Ev (fun k => spec_DropPace.f k l a) (r, c) ∧ Ev (fun k => impl_DropPace.f k l a) (r, c) ∧ r.length ≤ 200 := by
  have hs := spec_good l hl
  have hi := impl_good l hl
  unfold spec_DropPace.f impl_DropPace.f slices_Clone_impl_Pace_impl_Pace.f
  by_cases hb : pacesB l = true
  · rw [hb] at hs hi
    obtain ⟨_, h6, hp⟩ := pacesB_mem hb
    have e1 : spec_l1In.f a 0 (wrap64 ((l.length : Int) - 1)) = some (decide (0 ≤ a) && decide (a ≤ (l.length : Int) - 1)) := by rw [l1In_eq, w64 (by omega) (by omega)]
    have e2 : impl_in.f a 0 (wrap64 ((l.length : Int) - 1)) = some (decide (0 ≤ a) && decide (a ≤ (l.length : Int) - 1)) := by rw [in_eq, w64 (by omega) (by omega)]
    cases ha : (decide (0 ≤ a) && decide (a ≤ (l.length : Int) - 1)) with
    | true =>
      rw [ha] at e1 e2
      simp only [Bool.and_eq_true, decide_eq_true_eq] at ha
      obtain ⟨i, rfl⟩ : ∃ i : Nat, a = i := ⟨a.toNat, by omega⟩
      by_cases h : (l.length : Int) = 1
      · refine ⟨[], false, Ev.bind hs ?_, Ev.bind hi ?_, by simp⟩
        · refine Ev.congr (f := fun _ => some ([], false)) (fun k => ?_) (Ev.now _)
          rw [if_pos rfl, e1, Option.bind_some, if_pos rfl, if_pos h]
        · simp only [if_true, e2, Option.bind_some]
          refine Ev.congr (f := fun _ => some ([], false)) (fun k => ?_) (Ev.now _)
          rw [if_pos h]
      · have hi6 : i ≤ 1000 := by omega
        have hel : l.take i ++ l.drop (i + 1) = l.eraseIdx i := (List.eraseIdx_eq_take_drop_succ l i).symm
        refine ⟨l.eraseIdx i, true, Ev.bind hs ?_, Ev.bind hi ?_, by have := List.length_eraseIdx_le l i; omega⟩
        · simp only [if_true, e1, Option.bind_some, h, if_false, List.nil_append, List.length_nil, dpw i hi6, Int.toNat_natCast, hel]
          have hlt : (l.take i).length ≤ l.length := by rw [List.length_take]; omega
          have hld : (l.drop (i + 1)).length ≤ l.length := by rw [List.length_drop]; omega
          refine Ev.congr (fun k => ?_) (Ev.now _)
          rw [if_pos (by omega), if_pos (by omega), if_pos (by omega), if_pos (by omega), if_pos (by omega), if_pos (by omega)]
        · simp only [if_true, e2, Option.bind_some, h, if_false, List.nil_append, List.length_nil]
          rw [if_pos (show 0 + l.length < 8796093022208 by omega)]
          simp only [Option.bind_some, Int.toNat_natCast]
          refine Ev.congr (fun k => if_pos (by omega)) (Ev.now _)
    | false =>
      rw [ha] at e1 e2
      refine ⟨[], false, Ev.bind hs ?_, Ev.bind hi ?_, by simp⟩
      · simp only [if_true, e1, Option.bind_some, Bool.false_eq_true, if_false]; exact Ev.now _
      · simp only [if_true, e2, Option.bind_some, Bool.false_eq_true, if_false]; exact Ev.now _
  · have hb' : pacesB l = false := by simpa using hb
    rw [hb'] at hs hi
    exact ⟨[], false, Ev.bind hs (Ev.now _), Ev.bind hi (Ev.now _), by simp⟩
theorem FnExactDropPace : ∀ (l0 : List S39) (a1 : Int), l0.length ≤ maxLen → (∀ z ∈ l0, (Lit.int .i64 z.f0).wf = true ∧ (Lit.int .i64 z.f1).wf = true) → (Lit.int .i64 a1).wf = true → ∃ k, laws_FnExactDropPace.f k l0 a1 = some true := by
  intro l0 a m0 w0 w1
  unfold maxLen at m0
  refine Ev.rounds (r := true) ?_
  unfold laws_FnExactDropPace.f
  rw [szPace_eq l0 m0]
  simp only [Option.bind_some]
  by_cases h : (1048576 - (l0.length : Int)) < 0
  · rw [if_pos h]; exact Ev.now _
  rw [if_neg h]
  refine Ev.congr (fun k => if_neg h) ?_
  have t0 := toPace_ok l0 (by omega)
  have hl : (l0.map convP).length ≤ 10000000 := by rw [List.length_map]; omega
  obtain ⟨r, c, hs, hi, hr⟩ := both _ a hl
  have he := eqPace_self r (by omega)
  have hm := markP_ok r (by omega)
  have hh := heldP_ok r.length (by omega)
  refine Ev.bind t0 (Ev.bind hs (Ev.bind t0 (Ev.bind hi (Ev.bind he ?_))))
  simp only [if_true, bne_self_eq_false]
  refine Ev.step (fun k => by rw [laws_FnExactDropPace.j0, if_neg (by decide)]) ?_
  refine Ev.bind t0 (Ev.bind (eqPace_self _ (by omega)) ?_)
  simp only [if_true]
  refine Ev.bind (markP_ok _ (by omega)) ?_
  refine Ev.congr (fun k => if_neg (show ¬ (1 + 2 * ((l0.map convP).length : Int) < 0) by omega)) ?_
  refine Ev.bind he ?_
  simp only [if_true, bne_self_eq_false]
  refine Ev.step (fun k => by rw [laws_FnExactDropPace.j1, if_neg (by decide)]) ?_
  refine Ev.bind hm (Ev.bind hh ?_)
  refine Ev.congr (fun k => (if_neg (show ¬ (1 + 2 * (r.length : Int) < 0) by omega)).trans (if_pos rfl)) ?_
  refine Ev.bind t0 (Ev.bind hi (Ev.bind he ?_))
  simp only [if_true, bne_self_eq_false]
  refine Ev.step (fun k => by rw [laws_FnExactDropPace.j2, if_neg (by decide)]) ?_
  refine Ev.bind hh ?_
  exact Ev.congr (fun k => (if_neg (show ¬ (1 + 2 * (r.length : Int) < 0) by omega)).trans (if_pos rfl)) (Ev.now _)

end Go.Proofs.Ytpnmmjhhnfacfaa.Pure
