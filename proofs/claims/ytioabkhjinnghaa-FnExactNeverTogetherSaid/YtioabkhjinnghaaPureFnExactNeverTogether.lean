/- For every list of paces, the program's NeverTogether answers what the reference's does, leaves its argument alone, and the rows it hands back are its own. -/
import Derived.Test.YtioabkhjinnghaaPFnExactNeverTogetherx4
namespace Go.Proofs.Ytioabkhjinnghaa.Pure
open Go.RowKit Go.Proofs.Ytioabkhjinnghaa.PFnExactNeverTogether Go.Proofs.YtioabkhjinnghaaW.PrintWords Go.Proofs.YtioabkhjinnghaaW.PrintLast
set_option linter.unusedVariables false
set_option linter.unusedSimpArgs false

theorem w64 {x : Int} (h1 : -9223372036854775808 ≤ x) (h2 : x ≤ 9223372036854775807) : wrap64 x = x := by
  unfold wrap64
  omega
theorem wf_lo {a : Int} (h : (Lit.int .i64 a).wf = true) : -9223372036854775808 ≤ a := by
  have h' : IntKind.i64.min ≤ a ∧ a ≤ IntKind.i64.max := by simpa [Lit.wf] using h
  have e : IntKind.i64.min = -9223372036854775808 := by decide
  omega
theorem wf_hi {a : Int} (h : (Lit.int .i64 a).wf = true) : a ≤ 9223372036854775807 := by
  have h' : IntKind.i64.min ≤ a ∧ a ≤ IntKind.i64.max := by simpa [Lit.wf] using h
  have e : IntKind.i64.max = 9223372036854775807 := by decide
  omega
theorem ev_congr_fun {α : Type} {g f : Nat → Option α} {r : α} (h : g = f) (k : Ev f r) : Ev g r := h ▸ k
theorem rd_mid (pre : List Int) (x : Int) (rest : List Int) : rd (pre ++ x :: rest) (pre.length : Int) = x := by
  simp [rd]
theorem l1In_eq (a b c : Int) : spec_l1In.f a b c = some (decide (b ≤ a) && decide (a ≤ c)) := by
  unfold spec_l1In.f
  by_cases h : b ≤ a
  · rw [if_pos h]; simp [h]
  · rw [if_neg (show ¬ a ≥ b from h)]; simp [h]
theorem in_eq (a b c : Int) : impl_in.f a b c = some (decide (b ≤ a) && decide (a ≤ c)) := by
  unfold impl_in.f
  by_cases h : b ≤ a
  · rw [if_pos h]; simp [h]
  · rw [if_neg h]; simp [h]
theorem cast_len {α : Type} (l : List α) : (decide ((1 : Int) ≤ (l.length : Int)) && decide ((l.length : Int) ≤ 6)) = (decide (1 ≤ l.length) && decide (l.length ≤ 6)) := by
  congr 1 <;> exact decide_eq_decide.2 (by omega)
theorem rdP_mid (pre : List S37) (x : S37) (rest : List S37) : rd_T37 (pre ++ x :: rest) (pre.length : Int) = x := by
  simp [rd_T37]
def okP (p : S37) : Bool := (decide (1 ≤ p.f0) && decide (p.f0 ≤ 60)) && (decide (0 ≤ p.f1) && decide (p.f1 ≤ p.f0 - 1))
def pacesB (l : List S37) : Bool := (decide (1 ≤ l.length) && decide (l.length ≤ 6)) && l.all okP
def convP (z : S34) : S37 := ⟨z.f0, z.f1⟩
theorem okP_iff {p : S37} (h : okP p = true) : 1 ≤ p.f0 ∧ p.f0 ≤ 60 ∧ 0 ≤ p.f1 ∧ p.f1 < p.f0 := by
  unfold okP at h
  simp only [Bool.and_eq_true, decide_eq_true_eq] at h
  omega
theorem pacesB_mem {l : List S37} (h : pacesB l = true) : 1 ≤ l.length ∧ l.length ≤ 6 ∧ ∀ p ∈ l, 1 ≤ p.f0 ∧ p.f0 ≤ 60 ∧ 0 ≤ p.f1 ∧ p.f1 < p.f0 := by
  unfold pacesB at h
  simp only [Bool.and_eq_true, decide_eq_true_eq, List.all_eq_true] at h
  exact ⟨h.1.1, h.1.2, fun p hp => okP_iff (h.2 p hp)⟩
theorem rdL_mid (pre : List S34) (x : S34) (rest : List S34) : rd_T34 (pre ++ x :: rest) (pre.length : Int) = x := by
  simp [rd_T34]
theorem spPace_eq (p : S37) : spec_spPace.f p.f0 p.f1 = some (okP p) := by
  unfold spec_spPace.f okP
  rw [l1In_eq]
  simp only [Option.bind_some]
  by_cases h : (decide (1 ≤ p.f0) && decide (p.f0 ≤ 60)) = true
  · have h' : 1 ≤ p.f0 ∧ p.f0 ≤ 60 := by simpa using h
    rw [h, w64 (by omega) (by omega), l1In_eq]
    simp
  · have h' : (decide (1 ≤ p.f0) && decide (p.f0 ≤ 60)) = false := by simpa using h
    rw [h']
    simp
theorem isPace_eq (p : S37) : impl_isPace.f p.f0 p.f1 = some (okP p) := by
  unfold impl_isPace.f okP
  rw [in_eq]
  simp only [Option.bind_some]
  by_cases h : (decide (1 ≤ p.f0) && decide (p.f0 ≤ 60)) = true
  · have h' : 1 ≤ p.f0 ∧ p.f0 ≤ 60 := by simpa using h
    rw [h, w64 (by omega) (by omega), in_eq]
    simp
  · have h' : (decide (1 ≤ p.f0) && decide (p.f0 ≤ 60)) = false := by simpa using h
    rw [h']
    simp
theorem spGood_l0 (rest : List S37) : ∀ pre : List S37, pre.length + rest.length ≤ 100000000 →
    Ev (fun k => spec_spGood.l0 k (pre ++ rest) ((pre ++ rest).length : Int) pre.length) (rest.all okP) := by
  induction rest with
  | nil =>
    intro pre hl
    exact Ev.step (f := fun _ => some true) (fun k => by rw [spec_spGood.l0, if_neg (by simp)]) (by simpa using Ev.now true)
  | cons x rest ih =>
    intro pre hl
    simp only [List.length_cons] at hl
    have hlen : ((pre ++ x :: rest).length : Int) = pre.length + (rest.length + 1) := by simp
    by_cases hx : okP x = true
    · refine Ev.step (f := fun k => spec_spGood.l0 k ((pre ++ [x]) ++ rest) (((pre ++ [x]) ++ rest).length : Int) ((pre ++ [x]).length : Nat)) (fun k => ?_) ?_
      · rw [spec_spGood.l0, if_pos (by omega), if_pos (by omega), if_pos (by omega), rdP_mid, spPace_eq, hx]
        simp only [Option.bind_some, if_true]
        rw [w64 (by omega) (by omega)]
        simp
      · have := ih (pre ++ [x]) (by simp; omega)
        simpa [hx] using this
    · have hx' : okP x = false := by simpa using hx
      refine Ev.step (f := fun _ => some false) (fun k => ?_) (by simpa [hx'] using Ev.now false)
      rw [spec_spGood.l0, if_pos (by omega), if_pos (by omega), if_pos (by omega), rdP_mid, spPace_eq, hx']
      simp
theorem indexP_l0 (rest : List S37) : ∀ pre : List S37, pre.length + rest.length ≤ 100000000 →
    ∃ r : Int, Ev (fun k => slices_IndexFunc_impl_Pace_impl_Pace.l0 k (pre ++ rest) ((pre ++ rest).length : Int) pre.length) r ∧ (decide (r ≥ 0) = !(rest.all okP)) := by
  induction rest with
  | nil =>
    intro pre hl
    exact ⟨-1, Ev.step (f := fun _ => some (-1)) (fun k => by rw [slices_IndexFunc_impl_Pace_impl_Pace.l0, if_neg (by simp)]) (Ev.now _), by simp⟩
  | cons x rest ih =>
    intro pre hl
    simp only [List.length_cons] at hl
    have hlen : ((pre ++ x :: rest).length : Int) = pre.length + (rest.length + 1) := by simp
    by_cases hx : okP x = true
    · have hin : impl_arePaces_1.f x.f0 x.f1 = some false := by
        unfold impl_arePaces_1.f
        rw [isPace_eq, hx]
        rfl
      obtain ⟨r, hr, hd⟩ := ih (pre ++ [x]) (by simp; omega)
      refine ⟨r, Ev.step (f := fun k => slices_IndexFunc_impl_Pace_impl_Pace.l0 k ((pre ++ [x]) ++ rest) (((pre ++ [x]) ++ rest).length : Int) ((pre ++ [x]).length : Nat)) (fun k => ?_) hr, by rw [hd]; simp [hx]⟩
      rw [slices_IndexFunc_impl_Pace_impl_Pace.l0, if_pos (by omega), if_pos (by omega), if_pos (by omega), rdP_mid, hin]
      simp only [Option.bind_some]
      rw [if_neg (by decide), w64 (by omega) (by omega)]
      simp
    · have hx' : okP x = false := by simpa using hx
      have hin : impl_arePaces_1.f x.f0 x.f1 = some true := by
        unfold impl_arePaces_1.f
        rw [isPace_eq, hx']
        rfl
      refine ⟨pre.length, Ev.step (f := fun _ => some (pre.length : Int)) (fun k => ?_) (Ev.now _), by simp [hx']⟩
      rw [slices_IndexFunc_impl_Pace_impl_Pace.l0, if_pos (by omega), if_pos (by omega), if_pos (by omega), rdP_mid, hin]
      simp
theorem spec_good (l : List S37) (hl : l.length ≤ 10000000) : Ev (fun k => spec_spGood.f k l) (pacesB l) := by
  have h1 := spGood_l0 l [] (by simp; omega)
  simp only [List.nil_append, List.length_nil] at h1
  unfold spec_spGood.f pacesB
  rw [l1In_eq, cast_len]
  simp only [Option.bind_some]
  by_cases h : (decide (1 ≤ l.length) && decide (l.length ≤ 6)) = true
  · rw [h]
    simp only [if_true, Bool.true_and]
    exact h1
  · have h' : (decide (1 ≤ l.length) && decide (l.length ≤ 6)) = false := by simpa using h
    rw [h']
    simpa using Ev.now false
theorem impl_good (l : List S37) (hl : l.length ≤ 10000000) : Ev (fun k => impl_arePaces.f k l) (pacesB l) := by
  obtain ⟨r, h1, hd⟩ := indexP_l0 l [] (by simp; omega)
  simp only [List.nil_append, List.length_nil] at h1
  unfold impl_arePaces.f pacesB
  rw [in_eq, cast_len]
  simp only [Option.bind_some]
  by_cases h : (decide (1 ≤ l.length) && decide (l.length ≤ 6)) = true
  · rw [h]
    simp only [if_true, Bool.true_and]
    have h2 : Ev (fun k => slices_ContainsFunc_impl_Pace_impl_Pace.f k l) (!(l.all okP)) := by
      unfold slices_ContainsFunc_impl_Pace_impl_Pace.f
      rw [← hd]
      exact Ev.bind (g := fun k => slices_IndexFunc_impl_Pace_impl_Pace.f k l) (f := fun _ t => some (decide (t ≥ 0))) h1 (Ev.now _)
    have h3 := Ev.bind (f := fun _ t => some (!t)) h2 (Ev.now _)
    simpa using h3
  · have h' : (decide (1 ≤ l.length) && decide (l.length ≤ 6)) = false := by simpa using h
    rw [h']
    simpa using Ev.now false
theorem toPace_l0 (rest : List S34) : ∀ (pre : List S34), pre.length + rest.length ≤ 100000000 →
    Ev (fun k => laws_toPaceS.l0 k (pre ++ rest) (pre.map convP ++ List.replicate rest.length z37) pre.length) ((pre ++ rest).map convP) := by
  induction rest with
  | nil =>
    intro pre hl
    exact Ev.step (f := fun _ => some (pre.map convP)) (fun k => by rw [laws_toPaceS.l0]; rw [if_neg (by simp)]; simp) (by simpa using Ev.now (pre.map convP))
  | cons x rest ih =>
    intro pre hl
    simp only [List.length_cons] at hl
    refine Ev.step (f := fun k => laws_toPaceS.l0 k ((pre ++ [x]) ++ rest) ((pre ++ [x]).map convP ++ List.replicate rest.length z37) ((pre ++ [x]).length : Nat)) (fun k => ?_) ?_
    · rw [laws_toPaceS.l0]
      rw [if_pos (by simp; omega), if_pos (by omega), rdL_mid]
      unfold laws_toPace.f
      simp only [Option.bind_some]
      rw [if_pos (by simp; omega), w64 (by omega) (by omega)]
      simp [List.replicate_succ, convP]
    · have := ih (pre ++ [x]) (by simp; omega)
      simpa using this
theorem toPace_ok (l : List S34) (hl : l.length ≤ 100000000) : Ev (fun k => laws_toPaceS.f k l) (l.map convP) := by
  have := toPace_l0 l [] (by simpa using hl)
  refine Ev.congr (fun k => ?_) (by simpa using this)
  unfold laws_toPaceS.f
  rw [if_pos (by omega), if_pos (by simp; omega)]
  simp
theorem eqPace_l0 (l : List S37) (hl : l.length ≤ 1000000000000000000) (d : Nat) : ∀ i : Int, 0 ≤ i → (l.length : Int) - i = d → Ev (fun k => laws_eqPaceS.l0 k l l i) true := by
  induction d with
  | zero =>
    intro i h0 hd
    exact Ev.step (f := fun _ => some true) (fun k => by rw [laws_eqPaceS.l0]; rw [if_neg (by omega)]) (Ev.now _)
  | succ d ih =>
    intro i h0 hd
    refine Ev.step (f := fun k => laws_eqPaceS.l0 k l l (i + 1)) (fun k => ?_) (ih (i + 1) (by omega) (by omega))
    have he : ∀ a b : Int, laws_eqPace.f a b a b = some true := fun a b => by unfold laws_eqPace.f; rw [if_pos rfl, if_pos rfl]
    rw [laws_eqPaceS.l0, if_pos (by omega), if_pos h0, if_pos (by omega), he]
    simp only [Option.bind_some, if_true]
    rw [w64 (by omega) (by omega)]
theorem eqPace_self (l : List S37) (hl : l.length ≤ 1000000000000000000) : Ev (fun k => laws_eqPaceS.f k l l) true :=
  Ev.congr (fun k => by unfold laws_eqPaceS.f; rw [if_pos rfl]) (eqPace_l0 l hl l.length 0 (by omega) (by omega))
theorem szPace_eq (l : List S34) (hl : l.length ≤ 9223372036854775807) : laws_szPaceS.f l 1048576 = some (if (1048576 - (l.length : Int)) < 0 then -1 else 1048576 - (l.length : Int)) := by
  unfold laws_szPaceS.f
  rw [w64 (by omega) (by omega)]
  by_cases h : (1048576 - (l.length : Int)) < 0
  · rw [if_pos h, if_pos h]
  · rw [if_neg h, if_neg h]
def marksP (v : Int) : Nat → List S37
  | 0 => []
  | n + 1 => ⟨v, v + 1⟩ :: marksP (v + 2) n
theorem marksP_length (n : Nat) : ∀ v, (marksP v n).length = n := by
  induction n with
  | zero => intro v; rfl
  | succ n ih => intro v; simp [marksP, ih]
theorem set_mid {α : Type} (pre : List α) (x y : α) (rest : List α) : (pre ++ x :: rest).set pre.length y = pre ++ y :: rest := by
  simp
theorem markP_l0 (rest : List S37) : ∀ (pre : List S37) (v : Int), 0 ≤ v → v + 2 * rest.length ≤ 1000000000000000000 → pre.length + rest.length ≤ 100000000000000000 →
    Ev (fun k => laws_markPaceS.l0 k (pre ++ rest) v pre.length) (v + 2 * rest.length, pre ++ marksP v rest.length) := by
  induction rest with
  | nil =>
    intro pre v h0 hv hl
    exact Ev.step (f := fun _ => some (v, pre)) (fun k => by rw [laws_markPaceS.l0]; rw [if_neg (by simp)]; simp) (by simpa [marksP] using Ev.now (v, pre))
  | cons x rest ih =>
    intro pre v h0 hv hl
    simp only [List.length_cons] at hv hl
    refine Ev.step (f := fun k => laws_markPaceS.l0 k ((pre ++ [⟨v, v + 1⟩]) ++ rest) (v + 2) ((pre ++ [(⟨v, v + 1⟩ : S37)]).length : Nat)) (fun k => ?_) ?_
    · rw [laws_markPaceS.l0]
      rw [if_pos (by simp; omega), if_pos (by omega), Int.toNat_natCast, rdP_mid, set_mid]
      simp only [Option.bind_some]
      rw [rdP_mid, set_mid, w64 (x := v + 1) (by omega) (by omega), w64 (by omega) (by omega), w64 (by omega) (by omega)]
      have e : v + 1 + 1 = v + 2 := by omega
      rw [e]
      simp
    · have := ih (pre ++ [⟨v, v + 1⟩]) (v + 2) (by omega) (by omega) (by simp; omega)
      have e1 : v + 2 + 2 * (rest.length : Int) = v + 2 * ((x :: rest).length : Nat) := by simp; omega
      have e2 : (pre ++ [⟨v, v + 1⟩]) ++ marksP (v + 2) rest.length = pre ++ marksP v (x :: rest).length := by simp [marksP]
      rw [e1, e2] at this
      exact this
theorem markP_ok (l : List S37) (hl : l.length ≤ 10000000000000000) : Ev (fun k => laws_markPaceS.f k l 1) (1 + 2 * (l.length : Int), marksP 1 l.length) := by
  have := markP_l0 l [] 1 (by omega) (by omega) (by simp; omega)
  simpa [laws_markPaceS.f] using this
theorem eqIntS_l0 (l : List Int) (hl : l.length ≤ 1000000000000000000) (d : Nat) : ∀ i : Int, 0 ≤ i → (l.length : Int) - i = d → Ev (fun k => laws_eqIntS.l0 k l l i) true := by
  induction d with
  | zero =>
    intro i h0 hd
    exact Ev.step (f := fun _ => some true) (fun k => by rw [laws_eqIntS.l0]; rw [if_neg (by omega)]) (Ev.now _)
  | succ d ih =>
    intro i h0 hd
    refine Ev.step (f := fun k => laws_eqIntS.l0 k l l (i + 1)) (fun k => ?_) (ih (i + 1) (by omega) (by omega))
    rw [laws_eqIntS.l0]
    rw [if_pos (by omega), if_pos h0, if_pos (by omega), if_pos rfl, w64 (by omega) (by omega)]
theorem eqIntS_self (l : List Int) (hl : l.length ≤ 1000000000000000000) : Ev (fun k => laws_eqIntS.f k l l) true :=
  Ev.congr (fun k => by unfold laws_eqIntS.f; rw [if_pos rfl]) (eqIntS_l0 l hl l.length 0 (by omega) (by omega))
theorem eqIntSS_l0 (l : List (List Int)) (hr : ∀ r ∈ l, r.length ≤ 1000000000) (hl : l.length ≤ 1000000000000000000) (d : Nat) : ∀ i : Int, 0 ≤ i → (l.length : Int) - i = d → Ev (fun k => laws_eqIntSS.l0 k l l i) true := by
  induction d with
  | zero =>
    intro i h0 hd
    exact Ev.step (f := fun _ => some true) (fun k => by rw [laws_eqIntSS.l0]; rw [if_neg (by omega)]) (Ev.now _)
  | succ d ih =>
    intro i h0 hd
    have hrow : (rd_L3 l i).length ≤ 1000000000 := by
      have e : rd_L3 l i = l[i.toNat]'(by omega) := by unfold rd_L3; rw [List.getD_eq_getElem?_getD, List.getElem?_eq_getElem (by omega)]; rfl
      rw [e]; exact hr _ (List.getElem_mem _)
    refine Ev.step (f := fun k => (laws_eqIntS.f k (rd_L3 l i) (rd_L3 l i)).bind fun t124 => if t124 = true then laws_eqIntSS.l0 k l l (wrap64 (i + 1)) else some false) (fun k => ?_) (Ev.bind (eqIntS_self _ (by omega)) (Ev.congr (fun k => if_pos rfl) ?_))
    · rw [laws_eqIntSS.l0]
      rw [if_pos (by omega), if_pos h0, if_pos (by omega)]
    · rw [w64 (by omega) (by omega)]; exact ih (i + 1) (by omega) (by omega)
theorem eqIntSS_self (l : List (List Int)) (hr : ∀ r ∈ l, r.length ≤ 1000000000) (hl : l.length ≤ 1000000000000000000) : Ev (fun k => laws_eqIntSS.f k l l) true :=
  Ev.congr (fun k => by unfold laws_eqIntSS.f; rw [if_pos rfl]) (eqIntSS_l0 l hr hl l.length 0 (by omega) (by omega))
def marksFrom (v : Int) : Nat → List Int
  | 0 => []
  | n + 1 => v :: marksFrom (v + 1) n
theorem marksFrom_length (n : Nat) : ∀ v, (marksFrom v n).length = n := by
  induction n with
  | zero => intro v; rfl
  | succ n ih => intro v; simp [marksFrom, ih]
theorem mark_l0 (rest : List Int) : ∀ (pre : List Int) (v : Int), 0 ≤ v → v + rest.length ≤ 1000000000000000000 → pre.length + rest.length ≤ 1000000000000000000 →
    Ev (fun k => laws_markIntS.l0 k (pre ++ rest) v pre.length) (v + rest.length, pre ++ marksFrom v rest.length) := by
  induction rest with
  | nil =>
    intro pre v h0 hv hl
    exact Ev.step (f := fun _ => some (v, pre)) (fun k => by rw [laws_markIntS.l0]; rw [if_neg (by simp)]; simp) (by simpa [marksFrom] using Ev.now (v, pre))
  | cons x rest ih =>
    intro pre v h0 hv hl
    simp only [List.length_cons] at hv hl
    refine Ev.step (f := fun k => laws_markIntS.l0 k ((pre ++ [v]) ++ rest) (v + 1) ((pre ++ [v]).length : Nat)) (fun k => ?_) ?_
    · rw [laws_markIntS.l0]
      rw [if_pos (by simp; omega), if_pos (by omega), w64 (by omega) (by omega), w64 (by omega) (by omega)]
      simp
    · have := ih (pre ++ [v]) (v + 1) (by omega) (by omega) (by simp; omega)
      have e1 : v + 1 + (rest.length : Int) = v + ((x :: rest).length : Nat) := by simp; omega
      have e2 : (pre ++ [v]) ++ marksFrom (v + 1) rest.length = pre ++ marksFrom v (x :: rest).length := by simp [marksFrom]
      rw [e1, e2] at this
      exact this
theorem held_l0 (n : Nat) : ∀ (pre : List Int) (v : Int), 0 ≤ v → v + n ≤ 1000000000000000000 → pre.length + n ≤ 1000000000000000000 →
    Ev (fun k => laws_heldIntS.l0 k (pre ++ marksFrom v n) v pre.length) (v + n) := by
  induction n with
  | zero =>
    intro pre v h0 hv hl
    exact Ev.step (f := fun _ => some v) (fun k => by rw [laws_heldIntS.l0, marksFrom]; rw [if_neg (by simp)]) (by simpa using Ev.now v)
  | succ n ih =>
    intro pre v h0 hv hl
    refine Ev.step (f := fun k => laws_heldIntS.l0 k ((pre ++ [v]) ++ marksFrom (v + 1) n) (v + 1) ((pre ++ [v]).length : Nat)) (fun k => ?_) ?_
    · rw [laws_heldIntS.l0, marksFrom]
      rw [if_pos (by simp; omega), if_pos (by omega), if_pos (rd_mid _ _ _), w64 (by omega) (by omega), w64 (by omega) (by omega)]
      simp
    · have := ih (pre ++ [v]) (v + 1) (by omega) (by omega) (by simp; omega)
      have e1 : v + 1 + (n : Int) = v + ((n + 1 : Nat) : Int) := by omega
      rw [e1] at this
      exact this
theorem mark_ok (l : List Int) (hl : l.length ≤ 100000000000000000) : Ev (fun k => laws_markIntS.f k l 1) (1 + (l.length : Int), marksFrom 1 l.length) := by
  have := mark_l0 l [] 1 (by omega) (by omega) (by simp; omega)
  simpa [laws_markIntS.f] using this
theorem held_ok (n : Nat) (hl : n ≤ 100000000000000000) : Ev (fun k => laws_heldIntS.f k (marksFrom 1 n) 1) (1 + (n : Int)) := by
  have := held_l0 n [] 1 (by omega) (by omega) (by simp; omega)
  simpa [laws_heldIntS.f] using this
def totalLen : List (List Int) → Nat
  | [] => 0
  | r :: rest => r.length + totalLen rest
def marksSS : Int → List (List Int) → List (List Int)
  | _, [] => []
  | v, r :: rest => marksFrom v r.length :: marksSS (v + r.length) rest
theorem marksSS_length (l : List (List Int)) : ∀ v, (marksSS v l).length = l.length := by
  induction l with
  | nil => intro v; rfl
  | cons r rest ih => intro v; simp [marksSS, ih]
theorem mark_at (l : List Int) (v : Int) (h0 : 0 ≤ v) (hv : v + l.length ≤ 1000000000000000000) (hl : l.length ≤ 1000000000000000000) : Ev (fun k => laws_markIntS.f k l v) (v + (l.length : Int), marksFrom v l.length) := by
  have := mark_l0 l [] v h0 hv (by simp; omega)
  simpa [laws_markIntS.f] using this
theorem held_at (n : Nat) (v : Int) (h0 : 0 ≤ v) (hv : v + n ≤ 1000000000000000000) (hl : n ≤ 1000000000000000000) : Ev (fun k => laws_heldIntS.f k (marksFrom v n) v) (v + (n : Int)) := by
  have := held_l0 n [] v h0 hv (by simp; omega)
  simpa [laws_heldIntS.f] using this
theorem mid_row (pre : List (List Int)) (x : List Int) (rest : List (List Int)) : rd_L3 (pre ++ x :: rest) (pre.length : Int) = x := by
  simp [rd_L3]
theorem markSS_l0 (rest : List (List Int)) : ∀ (pre : List (List Int)) (v : Int), 0 ≤ v → v + totalLen rest ≤ 1000000000000000000 → pre.length + rest.length ≤ 1000000000000000000 →
    Ev (fun k => laws_markIntSS.l0 k (pre ++ rest) v pre.length) (v + totalLen rest, pre ++ marksSS v rest) := by
  induction rest with
  | nil =>
    intro pre v h0 hv hl
    exact Ev.step (f := fun _ => some (v, pre)) (fun k => by rw [laws_markIntSS.l0]; rw [if_neg (by simp)]; simp) (by simpa [marksSS, totalLen] using Ev.now (v, pre))
  | cons r rest ih =>
    intro pre v h0 hv hl
    simp only [List.length_cons] at hl
    simp only [totalLen] at hv
    refine Ev.step (f := fun k => (laws_markIntS.f k r v).bind fun b => laws_markIntSS.l0 k ((pre ++ r :: rest).set pre.length b.2) b.1 ((pre.length : Int) + 1)) (fun k => ?_) (Ev.bind (mark_at r v h0 (by omega) (by omega)) ?_)
    · rw [laws_markIntSS.l0]
      rw [if_pos (by simp; omega), if_pos (by omega), w64 (by omega) (by omega)]
      simp
    · have := ih (pre ++ [marksFrom v r.length]) (v + r.length) (by omega) (by omega) (by simp; omega)
      have e1 : v + (r.length : Int) + (totalLen rest : Int) = v + (totalLen (r :: rest) : Nat) := by simp [totalLen]; omega
      have e2 : (pre ++ [marksFrom v r.length]) ++ marksSS (v + r.length) rest = pre ++ marksSS v (r :: rest) := by simp [marksSS]
      rw [e1, e2] at this
      simpa using this
theorem heldSS_l0 (rest : List (List Int)) : ∀ (pre : List (List Int)) (v : Int), 0 ≤ v → v + totalLen rest ≤ 1000000000000000000 → pre.length + rest.length ≤ 1000000000000000000 →
    Ev (fun k => laws_heldIntSS.l0 k (pre ++ marksSS v rest) v pre.length) (v + totalLen rest) := by
  induction rest with
  | nil =>
    intro pre v h0 hv hl
    exact Ev.step (f := fun _ => some v) (fun k => by rw [laws_heldIntSS.l0, marksSS]; rw [if_neg (by simp)]) (by simpa [totalLen] using Ev.now v)
  | cons r rest ih =>
    intro pre v h0 hv hl
    simp only [List.length_cons] at hl
    simp only [totalLen] at hv
    have := ih (pre ++ [marksFrom v r.length]) (v + r.length) (by omega) (by omega) (by simp; omega)
    refine Ev.step (f := fun k => (laws_heldIntS.f k (marksFrom v r.length) v).bind fun t => if t < 0 then some (-1) else laws_heldIntSS.l0 k ((pre ++ [marksFrom v r.length]) ++ marksSS (v + r.length) rest) t ((pre ++ [marksFrom v r.length]).length : Nat)) (fun k => ?_) (Ev.bind (held_at r.length v h0 (by omega) (by omega)) (Ev.congr (fun k => if_neg (by omega)) ?_))
    · rw [laws_heldIntSS.l0, marksSS]
      rw [if_pos (by simp; omega), if_pos (by omega), mid_row, w64 (by omega) (by omega)]
      simp
    · have e1 : v + (r.length : Int) + (totalLen rest : Int) = v + (totalLen (r :: rest) : Nat) := by simp [totalLen]; omega
      rw [e1] at this
      exact this
theorem markSS_ok (l : List (List Int)) (hl : l.length ≤ 1000000000) (ht : totalLen l ≤ 1000000000000) : Ev (fun k => laws_markIntSS.f k l 1) (1 + (totalLen l : Int), marksSS 1 l) := by
  have := markSS_l0 l [] 1 (by omega) (by omega) (by simp; omega)
  simpa [laws_markIntSS.f] using this
theorem heldSS_ok (l : List (List Int)) (hl : l.length ≤ 1000000000) (ht : totalLen l ≤ 1000000000000) : Ev (fun k => laws_heldIntSS.f k (marksSS 1 l) 1) (1 + (totalLen l : Int)) := by
  have := heldSS_l0 l [] 1 (by omega) (by omega) (by simp; omega)
  simpa [laws_heldIntSS.f] using this
theorem totalLen_le (l : List (List Int)) (m : Nat) (h : ∀ r ∈ l, r.length ≤ m) : totalLen l ≤ l.length * m := by
  induction l with
  | nil => simp [totalLen]
  | cons r rest ih =>
    have h1 := h r (List.mem_cons_self ..)
    have h2 := ih (fun y hy => h y (List.mem_cons_of_mem _ hy))
    simp only [totalLen, List.length_cons, Nat.succ_mul]
    omega
theorem impl_gcd_l0 (n : Nat) : ∀ (m b : Nat), b = n → Ev (fun k => impl_gcd.l0 k (m : Int) (b : Int)) ((Nat.gcd m b : Nat) : Int) := by
  induction n using Nat.strongRecOn with
  | _ n ih =>
    intro m b hb
    by_cases h : b = 0
    · subst h
      refine Ev.step (f := fun _ => some (m : Int)) (fun k => by rw [impl_gcd.l0, if_pos (by omega)]) ?_
      rw [Nat.gcd_zero_right]
      exact Ev.now _
    · have hlt : m % b < n := by rw [← hb]; exact Nat.mod_lt _ (by omega)
      have := ih (m % b) hlt b (m % b) rfl
      refine Ev.step (f := fun k => impl_gcd.l0 k (b : Int) ((m % b : Nat) : Int)) (fun k => ?_) ?_
      · rw [impl_gcd.l0, if_neg (by omega)]
        rfl
      · have e : Nat.gcd b (m % b) = Nat.gcd m b := by rw [Nat.gcd_comm b (m % b), ← Nat.gcd_rec, Nat.gcd_comm]
        rw [e] at this
        exact this
theorem impl_gcd_ok (m b : Nat) : Ev (fun k => impl_gcd.f k (m : Int) (b : Int)) ((Nat.gcd m b : Nat) : Int) := impl_gcd_l0 b m b rfl
theorem spec_foCommon_l0 (n : Nat) : ∀ (m b : Nat), b = n → Ev (fun k => spec_foCommon.l0 k (m : Int) (b : Int)) ((Nat.gcd m b : Nat) : Int) := by
  induction n using Nat.strongRecOn with
  | _ n ih =>
    intro m b hb
    by_cases h : b = 0
    · subst h
      refine Ev.step (f := fun _ => some (m : Int)) (fun k => by rw [spec_foCommon.l0, if_neg (by omega)]) ?_
      rw [Nat.gcd_zero_right]
      exact Ev.now _
    · have hlt : m % b < n := by rw [← hb]; exact Nat.mod_lt _ (by omega)
      have := ih (m % b) hlt b (m % b) rfl
      refine Ev.step (f := fun k => spec_foCommon.l0 k (b : Int) ((m % b : Nat) : Int)) (fun k => ?_) ?_
      · rw [spec_foCommon.l0, if_pos (by omega), if_neg (by omega)]
        rfl
      · have e : Nat.gcd b (m % b) = Nat.gcd m b := by rw [Nat.gcd_comm b (m % b), ← Nat.gcd_rec, Nat.gcd_comm]
        rw [e] at this
        exact this
theorem spec_foCommon_ok (m b : Nat) : Ev (fun k => spec_foCommon.f k (m : Int) (b : Int)) ((Nat.gcd m b : Nat) : Int) := spec_foCommon_l0 b m b rfl
theorem rdP_mem (l : List S37) (i : Nat) (h : i < l.length) : rd_T37 l (i : Int) ∈ l := by
  have e : rd_T37 l (i : Int) = l[i] := by unfold rd_T37; rw [Int.toNat_natCast, List.getD_eq_getElem?_getD, List.getElem?_eq_getElem h]; rfl
  rw [e]; exact List.getElem_mem _
def rowsTwo (l : List (List Int)) : Prop := ∀ x ∈ l, x.length = 2
theorem rowsTwo_add {l : List (List Int)} (h : rowsTwo l) (a b : Int) : rowsTwo (l ++ [[a, b]]) := by
  intro x hx
  rcases List.mem_append.1 hx with h1 | h1
  · exact h x h1
  · rw [List.mem_singleton.1 h1]; rfl
theorem both_l1 (l : List S37) (h6 : l.length ≤ 6) (hp : ∀ p ∈ l, 1 ≤ p.f0 ∧ p.f0 ≤ 60 ∧ 0 ≤ p.f1 ∧ p.f1 < p.f0) (i : Nat) (hi : i < l.length) (e : Nat) (f : Int) (he1 : 1 ≤ e) (hf0 : 0 ≤ f) (hf1 : f ≤ 60) (c : Nat) (hc : c ≤ 100)
    (next : ∀ out, out.length ≤ c → rowsTwo out → ∃ r, Ev (fun k => spec_NeverTogether.l0 k l out l (l.length : Int) ((i : Int) + 1)) (r, true) ∧ Ev (fun k => impl_NeverTogether.l0 k l out l (l.length : Int) ((i : Int) + 1)) (r, true) ∧ r.length ≤ 100 ∧ rowsTwo r) (d : Nat) : ∀ (j : Nat) (out : List (List Int)), j + d = l.length → out.length + d ≤ c → rowsTwo out →
    ∃ r, Ev (fun k => spec_NeverTogether.l1 k l out i j l (l.length : Int) i e f) (r, true) ∧ Ev (fun k => impl_NeverTogether.l1 k l out i j l (l.length : Int) i e f) (r, true) ∧ r.length ≤ 100 ∧ rowsTwo r := by
  induction d with
  | zero =>
    intro j out hj ho hr
    obtain ⟨r, a, b, x, y⟩ := next out (by omega) hr
    refine ⟨r, Ev.step (fun k => ?_) a, Ev.step (fun k => ?_) b, x, y⟩
    · rw [spec_NeverTogether.l1, if_neg (by omega), w64 (x := (i : Int) + 1) (by omega) (by omega)]
    · rw [impl_NeverTogether.l1, if_neg (by omega), w64 (x := (i : Int) + 1) (by omega) (by omega)]
  | succ d ih =>
    intro j out hj ho hr
    obtain ⟨g1, g2, g3, g4⟩ := hp _ (rdP_mem l j (by omega))
    generalize hq : rd_T37 l (j : Int) = q at g1 g2 g3 g4
    obtain ⟨e2, he2⟩ := Int.eq_ofNat_of_zero_le (show 0 ≤ q.f0 by omega)
    obtain ⟨g, hg, hs, hi2⟩ : ∃ g : Nat, 0 < g ∧ Ev (fun k => spec_foCommon.f k (e : Int) (e2 : Int)) (g : Int) ∧ Ev (fun k => impl_gcd.f k (e : Int) (e2 : Int)) (g : Int) := ⟨_, Nat.gcd_pos_of_pos_left _ he1, spec_foCommon_ok e e2, impl_gcd_ok e e2⟩
    have es : ∀ k, spec_NeverTogether.l1 (k + 1) l out i j l (l.length : Int) i e f = (spec_foCommon.f k (e : Int) (e2 : Int)).bind fun t130 => (if t130 = 0 then (none) else (if (Int.tmod (f - q.f1) t130) = 0 then (spec_NeverTogether.l1 k l out i ((j + 1 : Nat) : Int) l (l.length : Int) i e f) else (if out.length < 5864062014805 then (spec_NeverTogether.l1 k l (out ++ [(([(i : Int), (j : Int)] : List Int))]) i ((j + 1 : Nat) : Int) l (l.length : Int) i e f) else (none)))) := by
      intro k
      rw [spec_NeverTogether.l1, if_pos (by omega), if_pos (by omega), hq, he2, w64 (x := f - q.f1) (by omega) (by omega), w64 (x := (j : Int) + 1) (by omega) (by omega)]
      rfl
    have ei : ∀ k, impl_NeverTogether.l1 (k + 1) l out i j l (l.length : Int) i e f = (impl_gcd.f k (e : Int) (e2 : Int)).bind fun t130 => (if t130 = 0 then (none) else (if (Int.tmod (f - q.f1) t130) = 0 then (impl_NeverTogether.l1 k l out i ((j + 1 : Nat) : Int) l (l.length : Int) i e f) else (if out.length < 5864062014805 then (impl_NeverTogether.l1 k l (out ++ [(([(i : Int), (j : Int)] : List Int))]) i ((j + 1 : Nat) : Int) l (l.length : Int) i e f) else (none)))) := by
      intro k
      rw [impl_NeverTogether.l1, if_pos (by omega), if_pos (by omega), hq, he2, w64 (x := f - q.f1) (by omega) (by omega), w64 (x := (j : Int) + 1) (by omega) (by omega)]
      rfl
    by_cases hz : Int.tmod (f - q.f1) (g : Int) = 0
    · obtain ⟨r, a, b, x, y⟩ := ih (j + 1) out (by omega) (by omega) hr
      exact ⟨r, Ev.step es (Ev.bind hs (Ev.congr (fun k => by rw [if_neg (by omega), if_pos hz]) a)), Ev.step ei (Ev.bind hi2 (Ev.congr (fun k => by rw [if_neg (by omega), if_pos hz]) b)), x, y⟩
    · obtain ⟨r, a, b, x, y⟩ := ih (j + 1) (out ++ [[(i : Int), (j : Int)]]) (by omega) (by simp; omega) (rowsTwo_add hr _ _)
      exact ⟨r, Ev.step es (Ev.bind hs (Ev.congr (fun k => by rw [if_neg (by omega), if_neg hz, if_pos (by omega)]) a)), Ev.step ei (Ev.bind hi2 (Ev.congr (fun k => by rw [if_neg (by omega), if_neg hz, if_pos (by omega)]) b)), x, y⟩
theorem both_l0 (l : List S37) (h6 : l.length ≤ 6) (hp : ∀ p ∈ l, 1 ≤ p.f0 ∧ p.f0 ≤ 60 ∧ 0 ≤ p.f1 ∧ p.f1 < p.f0) (d : Nat) : ∀ (i : Nat) (out : List (List Int)), i + d = l.length → out.length + 6 * d ≤ 100 → rowsTwo out →
    ∃ r, Ev (fun k => spec_NeverTogether.l0 k l out l (l.length : Int) i) (r, true) ∧ Ev (fun k => impl_NeverTogether.l0 k l out l (l.length : Int) i) (r, true) ∧ r.length ≤ 100 ∧ rowsTwo r := by
  induction d with
  | zero =>
    intro i out hi ho hr
    exact ⟨out, Ev.step (f := fun _ => some (out, true)) (fun k => by rw [spec_NeverTogether.l0, if_neg (by omega)]) (Ev.now _), Ev.step (f := fun _ => some (out, true)) (fun k => by rw [impl_NeverTogether.l0, if_neg (by omega)]) (Ev.now _), by omega, hr⟩
  | succ d ih =>
    intro i out hi ho hr
    obtain ⟨g1, g2, g3, g4⟩ := hp _ (rdP_mem l i (by omega))
    obtain ⟨e, he⟩ := Int.eq_ofNat_of_zero_le (show 0 ≤ (rd_T37 l (i : Int)).f0 by omega)
    obtain ⟨r, a, b, x, y⟩ := both_l1 l h6 hp i (by omega) e (rd_T37 l (i : Int)).f1 (by omega) g3 (by omega) (out.length + 6) (by omega) (fun out2 h2 hr2 => ih (i + 1) out2 (by omega) (by omega) hr2) (l.length - (i + 1)) (i + 1) out (by omega) (by omega) hr
    refine ⟨r, Ev.step (fun k => ?_) a, Ev.step (fun k => ?_) b, x, y⟩
    · rw [spec_NeverTogether.l0, if_pos (by omega), if_pos (by omega), if_pos (by omega), he, w64 (x := (i : Int) + 1) (by omega) (by omega)]
      rfl
    · rw [impl_NeverTogether.l0, if_pos (by omega), if_pos (by omega), if_pos (by omega), he, w64 (x := (i : Int) + 1) (by omega) (by omega)]
      rfl
theorem both (l : List S37) (hl : l.length ≤ 10000000) : ∃ r b, Ev (fun k => spec_NeverTogether.f k l) (r, b) ∧ Ev (fun k => impl_NeverTogether.f k l) (r, b) ∧ r.length ≤ 100 ∧ rowsTwo r := by
  have hs := spec_good l hl
  have hi := impl_good l hl
  unfold spec_NeverTogether.f impl_NeverTogether.f
  by_cases hb : pacesB l = true
  · rw [hb] at hs hi
    obtain ⟨_, h6, hp⟩ := pacesB_mem hb
    obtain ⟨r, a, b, x, y⟩ := both_l0 l h6 hp l.length 0 [] (by omega) (by simp; omega) (by intro x hx; cases hx)
    exact ⟨r, true, Ev.bind hs (Ev.congr (fun k => if_pos rfl) a), Ev.bind hi (Ev.congr (fun k => if_pos rfl) b), x, y⟩
  · have hb' : pacesB l = false := by simpa using hb
    rw [hb'] at hs hi
    exact ⟨[], false, Ev.bind hs (Ev.congr (fun k => if_neg (by decide)) (Ev.now _)), Ev.bind hi (Ev.congr (fun k => if_neg (by decide)) (Ev.now _)), by simp, by intro x hx; cases hx⟩
theorem FnExactNeverTogether : ∀ (l0 : List S34), l0.length ≤ maxLen → (∀ z ∈ l0, (Lit.int .i64 z.f0).wf = true ∧ (Lit.int .i64 z.f1).wf = true) → ∃ k, laws_FnExactNeverTogether.f k l0 = some true := by
  intro l0 m0 w0
  unfold maxLen at m0
  refine Ev.rounds (r := true) ?_
  unfold laws_FnExactNeverTogether.f
  rw [szPace_eq l0 m0]
  simp only [Option.bind_some]
  by_cases h : (1048576 - (l0.length : Int)) < 0
  · rw [if_pos h]; exact Ev.congr (fun k => if_pos (by omega)) (Ev.now _)
  rw [if_neg h]
  refine Ev.congr (fun k => if_neg h) ?_
  have t0 := toPace_ok l0 (by omega)
  have hl : (l0.map convP).length ≤ 10000000 := by rw [List.length_map]; omega
  obtain ⟨r, b, hs, hi, hr, hx⟩ := both _ hl
  have ht : totalLen r ≤ r.length * 2 := totalLen_le r 2 (fun x h => by rw [hx x h]; omega)
  refine Ev.bind t0 (Ev.bind hs (Ev.bind hi (Ev.bind (eqPace_self _ (by omega)) (Ev.bind (markP_ok _ (by omega)) (Ev.bind (markSS_ok r (by omega) (by omega)) (Ev.bind (eqIntSS_self r (fun x h => by rw [hx x h]; omega) (by omega)) (Ev.bind (heldSS_ok r (by omega) (by omega)) ?_)))))))
  refine Ev.congr (fun k => ?_) (Ev.now true)
  rw [if_pos rfl, if_pos rfl, if_pos (by omega), if_pos rfl, if_pos (by omega), if_pos rfl]

end Go.Proofs.Ytioabkhjinnghaa.Pure
