/- For every number and list of numbers, the program's RemaindersOf answers what the reference's does, leaves its argument alone, and its memory is its own. -/
import Derived.Test.YtollpomnfpkaeaaPFnExactRemaindersOfx3
namespace Go.Proofs.Ytollpomnfpkaeaa.Pure
open Go.RowKit Go.Proofs.Ytollpomnfpkaeaa.PFnExactRemaindersOf Go.Proofs.YtollpomnfpkaeaaW.PrintWords Go.Proofs.YtollpomnfpkaeaaW.PrintLast
set_option linter.unusedVariables false
set_option linter.unusedSimpArgs false

theorem w64 {x : Int} (h1 : -9223372036854775808 ≤ x) (h2 : x ≤ 9223372036854775807) : wrap64 x = x := by
  unfold wrap64
  omega
theorem wf_lo {a : Int} (h : (Lit.int .i64 a).wf = true) : -9223372036854775808 ≤ a := by
  have h' : IntKind.i64.min ≤ a ∧ a ≤ IntKind.i64.max := by simpa [Lit.wf] using h
  have e : IntKind.i64.min = -9223372036854775808 := by decide
  omega
theorem wf_hi {a : Int} (h : (Lit.int .i64 a).wf = true) : a ≤ 9223372036854775807 := by
  have h' : IntKind.i64.min ≤ a ∧ a ≤ IntKind.i64.max := by simpa [Lit.wf] using h
  have e : IntKind.i64.max = 9223372036854775807 := by decide
  omega
theorem ev_congr_fun {α : Type} {g f : Nat → Option α} {r : α} (h : g = f) (k : Ev f r) : Ev g r := h ▸ k
theorem rd_mid (pre : List Int) (x : Int) (rest : List Int) : rd (pre ++ x :: rest) (pre.length : Int) = x := by
  simp [rd]
theorem eqIntS_l0 (l : List Int) (hl : l.length ≤ 1000000000000000000) (d : Nat) : ∀ i : Int, 0 ≤ i → (l.length : Int) - i = d → Ev (fun k => laws_eqIntS.l0 k l l i) true := by
  induction d with
  | zero =>
    intro i h0 hd
    exact Ev.step (f := fun _ => some true) (fun k => by rw [laws_eqIntS.l0]; rw [if_neg (by omega)]) (Ev.now _)
  | succ d ih =>
    intro i h0 hd
    refine Ev.step (f := fun k => laws_eqIntS.l0 k l l (i + 1)) (fun k => ?_) (ih (i + 1) (by omega) (by omega))
    rw [laws_eqIntS.l0]
    rw [if_pos (by omega), if_pos h0, if_pos (by omega), if_pos rfl, w64 (by omega) (by omega)]
theorem eqIntS_self (l : List Int) (hl : l.length ≤ 1000000000000000000) : Ev (fun k => laws_eqIntS.f k l l) true :=
  Ev.congr (fun k => by unfold laws_eqIntS.f; rw [if_pos rfl]) (eqIntS_l0 l hl l.length 0 (by omega) (by omega))
def marksFrom (v : Int) : Nat → List Int
  | 0 => []
  | n + 1 => v :: marksFrom (v + 1) n
theorem marksFrom_length (n : Nat) : ∀ v, (marksFrom v n).length = n := by
  induction n with
  | zero => intro v; rfl
  | succ n ih => intro v; simp [marksFrom, ih]
theorem mark_l0 (rest : List Int) : ∀ (pre : List Int) (v : Int), 0 ≤ v → v + rest.length ≤ 1000000000000000000 → pre.length + rest.length ≤ 1000000000000000000 →
    Ev (fun k => laws_markIntS.l0 k (pre ++ rest) v pre.length) (v + rest.length, pre ++ marksFrom v rest.length) := by
  induction rest with
  | nil =>
    intro pre v h0 hv hl
    exact Ev.step (f := fun _ => some (v, pre)) (fun k => by rw [laws_markIntS.l0]; rw [if_neg (by simp)]; simp) (by simpa [marksFrom] using Ev.now (v, pre))
  | cons x rest ih =>
    intro pre v h0 hv hl
    simp only [List.length_cons] at hv hl
    refine Ev.step (f := fun k => laws_markIntS.l0 k ((pre ++ [v]) ++ rest) (v + 1) ((pre ++ [v]).length : Nat)) (fun k => ?_) ?_
    · rw [laws_markIntS.l0]
      rw [if_pos (by simp; omega), if_pos (by omega), w64 (by omega) (by omega), w64 (by omega) (by omega)]
      simp
    · have := ih (pre ++ [v]) (v + 1) (by omega) (by omega) (by simp; omega)
      have e1 : v + 1 + (rest.length : Int) = v + ((x :: rest).length : Nat) := by simp; omega
      have e2 : (pre ++ [v]) ++ marksFrom (v + 1) rest.length = pre ++ marksFrom v (x :: rest).length := by simp [marksFrom]
      rw [e1, e2] at this
      exact this
theorem held_l0 (n : Nat) : ∀ (pre : List Int) (v : Int), 0 ≤ v → v + n ≤ 1000000000000000000 → pre.length + n ≤ 1000000000000000000 →
    Ev (fun k => laws_heldIntS.l0 k (pre ++ marksFrom v n) v pre.length) (v + n) := by
  induction n with
  | zero =>
    intro pre v h0 hv hl
    exact Ev.step (f := fun _ => some v) (fun k => by rw [laws_heldIntS.l0, marksFrom]; rw [if_neg (by simp)]) (by simpa using Ev.now v)
  | succ n ih =>
    intro pre v h0 hv hl
    refine Ev.step (f := fun k => laws_heldIntS.l0 k ((pre ++ [v]) ++ marksFrom (v + 1) n) (v + 1) ((pre ++ [v]).length : Nat)) (fun k => ?_) ?_
    · rw [laws_heldIntS.l0, marksFrom]
      rw [if_pos (by simp; omega), if_pos (by omega), if_pos (rd_mid _ _ _), w64 (by omega) (by omega), w64 (by omega) (by omega)]
      simp
    · have := ih (pre ++ [v]) (v + 1) (by omega) (by omega) (by simp; omega)
      have e1 : v + 1 + (n : Int) = v + ((n + 1 : Nat) : Int) := by omega
      rw [e1] at this
      exact this
theorem mark_ok (l : List Int) (hl : l.length ≤ 100000000000000000) : Ev (fun k => laws_markIntS.f k l 1) (1 + (l.length : Int), marksFrom 1 l.length) := by
  have := mark_l0 l [] 1 (by omega) (by omega) (by simp; omega)
  simpa [laws_markIntS.f] using this
theorem held_ok (n : Nat) (hl : n ≤ 100000000000000000) : Ev (fun k => laws_heldIntS.f k (marksFrom 1 n) 1) (1 + (n : Int)) := by
  have := held_l0 n [] 1 (by omega) (by omega) (by simp; omega)
  simpa [laws_heldIntS.f] using this
theorem toInt_l0 (rest : List Int) : ∀ (pre : List Int), pre.length + rest.length ≤ 100000000 →
    Ev (fun k => laws_toIntS.l0 k (pre ++ rest) (pre ++ List.replicate rest.length 0) pre.length) (pre ++ rest) := by
  induction rest with
  | nil =>
    intro pre hl
    exact Ev.step (f := fun _ => some pre) (fun k => by rw [laws_toIntS.l0]; rw [if_neg (by simp)]; simp) (by simpa using Ev.now pre)
  | cons x rest ih =>
    intro pre hl
    simp only [List.length_cons] at hl
    refine Ev.step (f := fun k => laws_toIntS.l0 k ((pre ++ [x]) ++ rest) ((pre ++ [x]) ++ List.replicate rest.length 0) ((pre ++ [x]).length : Nat)) (fun k => ?_) ?_
    · rw [laws_toIntS.l0]
      rw [if_pos (by simp; omega), if_pos (by omega), if_pos (by simp; omega), rd_mid, w64 (by omega) (by omega)]
      simp [List.replicate_succ]
    · have := ih (pre ++ [x]) (by simp; omega)
      simpa using this
theorem toInt_ok (l : List Int) (hl : l.length ≤ 100000000) : Ev (fun k => laws_toIntS.f k l) l := by
  have := toInt_l0 l [] (by simpa using hl)
  refine Ev.congr (fun k => ?_) (by simpa using this)
  unfold laws_toIntS.f
  rw [if_pos (by omega), if_pos (by simp; omega)]
  simp
def okc (c : Int) : Bool := decide (1 ≤ c) && decide (c ≤ 1000)
theorem l1In_eq (a b c : Int) : spec_l1In.f a b c = some (decide (b ≤ a) && decide (a ≤ c)) := by
  unfold spec_l1In.f
  by_cases h : b ≤ a
  · rw [if_pos h]; simp [h]
  · rw [if_neg (show ¬ a ≥ b from h)]; simp [h]
theorem in_eq (a b c : Int) : impl_in.f a b c = some (decide (b ≤ a) && decide (a ≤ c)) := by
  unfold impl_in.f
  by_cases h : b ≤ a
  · rw [if_pos h]; simp [h]
  · rw [if_neg h]; simp [h]
theorem l1All_l0 (rest : List Int) : ∀ pre : List Int, pre.length + rest.length ≤ 100000000 →
    Ev (fun k => spec_l1All.l0 k 1 1000 (pre ++ rest) ((pre ++ rest).length : Int) pre.length) (rest.all okc) := by
  induction rest with
  | nil =>
    intro pre hl
    exact Ev.step (f := fun _ => some true) (fun k => by rw [spec_l1All.l0, if_neg (by simp)]) (by simpa using Ev.now true)
  | cons x rest ih =>
    intro pre hl
    simp only [List.length_cons] at hl
    have hlen : ((pre ++ x :: rest).length : Int) = pre.length + (rest.length + 1) := by simp
    by_cases hx : okc x = true
    · have hin : spec_l1In.f x 1 1000 = some true := by rw [l1In_eq]; exact congrArg some hx
      refine Ev.step (f := fun k => spec_l1All.l0 k 1 1000 ((pre ++ [x]) ++ rest) (((pre ++ [x]) ++ rest).length : Int) ((pre ++ [x]).length : Nat)) (fun k => ?_) ?_
      · rw [spec_l1All.l0, if_pos (by omega), if_pos (by omega), if_pos (by omega), rd_mid, hin]
        simp only [Option.bind_some, if_true]
        rw [w64 (by omega) (by omega)]
        simp
      · have := ih (pre ++ [x]) (by simp; omega)
        simpa [hx] using this
    · have hx' : okc x = false := by simpa using hx
      have hin : spec_l1In.f x 1 1000 = some false := by rw [l1In_eq]; exact congrArg some hx'
      refine Ev.step (f := fun _ => some false) (fun k => ?_) (by simpa [hx'] using Ev.now false)
      rw [spec_l1All.l0, if_pos (by omega), if_pos (by omega), if_pos (by omega), rd_mid, hin]
      simp
theorem index_l0 (rest : List Int) : ∀ pre : List Int, pre.length + rest.length ≤ 100000000 →
    ∃ r : Int, Ev (fun k => slices_IndexFunc_int_int.l0 k (pre ++ rest) ((pre ++ rest).length : Int) pre.length) r ∧ (decide (r ≥ 0) = !(rest.all okc)) := by
  induction rest with
  | nil =>
    intro pre hl
    exact ⟨-1, Ev.step (f := fun _ => some (-1)) (fun k => by rw [slices_IndexFunc_int_int.l0, if_neg (by simp)]) (Ev.now _), by simp⟩
  | cons x rest ih =>
    intro pre hl
    simp only [List.length_cons] at hl
    have hlen : ((pre ++ x :: rest).length : Int) = pre.length + (rest.length + 1) := by simp
    by_cases hx : okc x = true
    · have hin : impl_areColumns_1.f x = some false := by
        unfold impl_areColumns_1.f
        rw [in_eq]
        unfold okc at hx
        simp only [Option.bind_some, hx, Bool.not_true]
      obtain ⟨r, hr, hd⟩ := ih (pre ++ [x]) (by simp; omega)
      refine ⟨r, Ev.step (f := fun k => slices_IndexFunc_int_int.l0 k ((pre ++ [x]) ++ rest) (((pre ++ [x]) ++ rest).length : Int) ((pre ++ [x]).length : Nat)) (fun k => ?_) hr, by rw [hd]; simp [hx]⟩
      rw [slices_IndexFunc_int_int.l0, if_pos (by omega), if_pos (by omega), if_pos (by omega), rd_mid, hin]
      simp only [Option.bind_some]
      rw [if_neg (by decide), w64 (by omega) (by omega)]
      simp
    · have hx' : okc x = false := by simpa using hx
      have hin : impl_areColumns_1.f x = some true := by
        unfold impl_areColumns_1.f
        rw [in_eq]
        unfold okc at hx'
        simp only [Option.bind_some, hx', Bool.not_false]
      refine ⟨pre.length, Ev.step (f := fun _ => some (pre.length : Int)) (fun k => ?_) (Ev.now _), by simp [hx']⟩
      rw [slices_IndexFunc_int_int.l0, if_pos (by omega), if_pos (by omega), if_pos (by omega), rd_mid, hin]
      simp
def colsB (l : List Int) : Bool := (decide (1 ≤ l.length) && decide (l.length ≤ 6)) && l.all okc
theorem cast_len (l : List Int) : (decide ((1 : Int) ≤ (l.length : Int)) && decide ((l.length : Int) ≤ 6)) = (decide (1 ≤ l.length) && decide (l.length ≤ 6)) := by
  congr 1 <;> exact decide_eq_decide.2 (by omega)
theorem spec_cols (l : List Int) (hl : l.length ≤ 10000000) : Ev (fun k => spec_foColumns.f k l) (colsB l) := by
  have h1 := l1All_l0 l [] (by simp; omega)
  simp only [List.nil_append, List.length_nil] at h1
  unfold spec_foColumns.f colsB
  rw [l1In_eq, cast_len]
  simp only [Option.bind_some]
  by_cases h : (decide (1 ≤ l.length) && decide (l.length ≤ 6)) = true
  · rw [h]
    simp only [if_true, Bool.true_and]
    exact Ev.bind (g := fun k => spec_l1All.f k l 1 1000) (f := fun _ t => some t) h1 (Ev.now _)
  · have h' : (decide (1 ≤ l.length) && decide (l.length ≤ 6)) = false := by simpa using h
    rw [h']
    simpa using Ev.now false
theorem impl_cols (l : List Int) (hl : l.length ≤ 10000000) : Ev (fun k => impl_areColumns.f k l) (colsB l) := by
  obtain ⟨r, h1, hd⟩ := index_l0 l [] (by simp; omega)
  simp only [List.nil_append, List.length_nil] at h1
  unfold impl_areColumns.f colsB
  rw [in_eq, cast_len]
  simp only [Option.bind_some]
  by_cases h : (decide (1 ≤ l.length) && decide (l.length ≤ 6)) = true
  · rw [h]
    simp only [if_true, Bool.true_and]
    have h2 : Ev (fun k => slices_ContainsFunc_int_int.f k l) (!(l.all okc)) := by
      unfold slices_ContainsFunc_int_int.f
      rw [← hd]
      exact Ev.bind (g := fun k => slices_IndexFunc_int_int.f k l) (f := fun _ t => some (decide (t ≥ 0))) h1 (Ev.now _)
    have h3 := Ev.bind (f := fun _ t => some (!t)) h2 (Ev.now _)
    simpa using h3
  · have h' : (decide (1 ≤ l.length) && decide (l.length ≤ 6)) = false := by simpa using h
    rw [h']
    simpa using Ev.now false
theorem colsB_mem {l : List Int} (h : colsB l = true) : 1 ≤ l.length ∧ l.length ≤ 6 ∧ ∀ c ∈ l, 1 ≤ c ∧ c ≤ 1000 := by
  unfold colsB at h
  simp only [Bool.and_eq_true, decide_eq_true_eq, List.all_eq_true] at h
  refine ⟨h.1.1, h.1.2, fun c hc => ?_⟩
  have := h.2 c hc
  unfold okc at this
  simpa using this
theorem soldiers_eq (a0 : Int) : spec_foSoldiers.f a0 = impl_isSoldiers.f a0 := by
  unfold spec_foSoldiers.f impl_isSoldiers.f spec_l1In.f impl_in.f
  rfl
theorem soldiers_some (a0 : Int) : ∃ b, impl_isSoldiers.f a0 = some b ∧ (b = true → ∃ n : Nat, a0 = n ∧ 1 ≤ n ∧ n ≤ 1000000) := by
  unfold impl_isSoldiers.f impl_in.f
  by_cases h1 : 1 ≤ a0
  · by_cases h2 : a0 ≤ 1000000
    · refine ⟨true, by simp [h1, h2], fun _ => ?_⟩
      obtain ⟨n, rfl⟩ := Int.eq_ofNat_of_zero_le (show 0 ≤ a0 by omega)
      exact ⟨n, rfl, by omega, by omega⟩
    · exact ⟨false, by simp [h1, h2], by simp⟩
  · exact ⟨false, by simp [h1], by simp⟩
theorem spec_rem_l0 (n : Int) (rest : List Int) : ∀ (pre out : List Int), (∀ c ∈ rest, 1 ≤ c ∧ c ≤ 1000) → pre.length + rest.length ≤ 6 → out.length + rest.length ≤ 6 →
    Ev (fun k => spec_RemaindersOf.l0 k n out (pre ++ rest) ((pre ++ rest).length : Int) pre.length) (out ++ rest.map (fun c => Int.tmod n c), true) := by
  induction rest with
  | nil =>
    intro pre out hc hl ho
    exact Ev.step (f := fun _ => some (out, true)) (fun k => by rw [spec_RemaindersOf.l0, if_neg (by simp)]) (by simpa using Ev.now (out, true))
  | cons x rest ih =>
    intro pre out hc hl ho
    simp only [List.length_cons] at hl ho
    obtain ⟨hx1, hx2⟩ := hc x (List.mem_cons_self ..)
    have hlen : ((pre ++ x :: rest).length : Int) = pre.length + (rest.length + 1) := by simp
    have := ih (pre ++ [x]) (out ++ [Int.tmod n x]) (fun y hy => hc y (List.mem_cons_of_mem _ hy)) (by simp; omega) (by simp; omega)
    refine Ev.step (f := fun k => spec_RemaindersOf.l0 k n (out ++ [Int.tmod n x]) ((pre ++ [x]) ++ rest) (((pre ++ [x]) ++ rest).length : Int) ((pre ++ [x]).length : Nat)) (fun k => ?_) (by simpa using this)
    rw [spec_RemaindersOf.l0, if_pos (by omega), if_pos (by omega), if_pos (by omega), rd_mid, if_neg (by omega), if_pos (by omega), w64 (by omega) (by omega)]
    simp
theorem impl_rem_l0 (n : Int) (rest : List Int) : ∀ (pre out : List Int), (∀ c ∈ rest, 1 ≤ c ∧ c ≤ 1000) → pre.length + rest.length ≤ 6 → out.length + rest.length ≤ 6 →
    Ev (fun k => impl_RemaindersOf.l0 k n out (pre ++ rest) ((pre ++ rest).length : Int) pre.length) (out ++ rest.map (fun c => Int.tmod n c), true) := by
  induction rest with
  | nil =>
    intro pre out hc hl ho
    exact Ev.step (f := fun _ => some (out, true)) (fun k => by rw [impl_RemaindersOf.l0, if_neg (by simp)]) (by simpa using Ev.now (out, true))
  | cons x rest ih =>
    intro pre out hc hl ho
    simp only [List.length_cons] at hl ho
    obtain ⟨hx1, hx2⟩ := hc x (List.mem_cons_self ..)
    have hlen : ((pre ++ x :: rest).length : Int) = pre.length + (rest.length + 1) := by simp
    have := ih (pre ++ [x]) (out ++ [Int.tmod n x]) (fun y hy => hc y (List.mem_cons_of_mem _ hy)) (by simp; omega) (by simp; omega)
    refine Ev.step (f := fun k => impl_RemaindersOf.l0 k n (out ++ [Int.tmod n x]) ((pre ++ [x]) ++ rest) (((pre ++ [x]) ++ rest).length : Int) ((pre ++ [x]).length : Nat)) (fun k => ?_) (by simpa using this)
    rw [impl_RemaindersOf.l0, if_pos (by omega), if_pos (by omega), if_pos (by omega), rd_mid, if_neg (by omega), if_pos (by omega), w64 (by omega) (by omega)]
    simp
theorem both (n : Int) (cols : List Int) (h1 : cols.length ≤ 10000000) : ∃ r b, Ev (fun k => spec_RemaindersOf.f k n cols) (r, b) ∧ Ev (fun k => impl_RemaindersOf.f k n cols) (r, b) ∧ r.length ≤ 200 := by
  obtain ⟨b, hb, h⟩ := soldiers_some n
  unfold spec_RemaindersOf.f impl_RemaindersOf.f
  simp only [soldiers_eq, hb, Option.bind_some]
  cases b with
  | false =>
    refine ⟨[], false, ?_, ?_, by simp⟩
    · exact Ev.step (f := fun _ => some (([] : List Int), false)) (fun k => by rw [if_neg (by decide), spec_RemaindersOf.j0, if_pos rfl]) (Ev.now _)
    · exact Ev.step (f := fun _ => some (([] : List Int), false)) (fun k => by rw [if_neg (by decide), impl_RemaindersOf.j0, if_pos rfl]) (Ev.now _)
  | true =>
    simp only [if_true]
    have hs := spec_cols cols h1
    have hi := impl_cols cols h1
    by_cases hc : colsB cols = true
    · obtain ⟨c1, c2, c3⟩ := colsB_mem hc
      rw [hc] at hs hi
      have a := spec_rem_l0 n cols [] [] c3 (by simpa using c2) (by simpa using c2)
      have c := impl_rem_l0 n cols [] [] c3 (by simpa using c2) (by simpa using c2)
      refine ⟨cols.map (fun c => Int.tmod n c), true, Ev.bind hs ?_, Ev.bind hi ?_, by simp; omega⟩
      · exact Ev.step (fun k => by rw [spec_RemaindersOf.j0, if_neg (by decide)]) (by simpa using a)
      · exact Ev.step (fun k => by rw [impl_RemaindersOf.j0, if_neg (by decide)]) (by simpa using c)
    · have hc' : colsB cols = false := by simpa using hc
      rw [hc'] at hs hi
      refine ⟨[], false, Ev.bind hs ?_, Ev.bind hi ?_, by simp⟩
      · exact Ev.step (f := fun _ => some (([] : List Int), false)) (fun k => by rw [spec_RemaindersOf.j0, if_pos (by decide)]) (Ev.now _)
      · exact Ev.step (f := fun _ => some (([] : List Int), false)) (fun k => by rw [impl_RemaindersOf.j0, if_pos (by decide)]) (Ev.now _)
theorem FnExactRemaindersOf : laws_FnExactRemaindersOf.Pure := by
  intro a0 l1 w0 m1 n1 w1
  refine Ev.rounds (r := true) ?_
  unfold laws_FnExactRemaindersOf.f
  by_cases c0 : (l1.length : Int) > 1048576
  · simp only [if_pos c0]; exact Ev.now _
  simp only [if_neg c0]
  obtain ⟨r, b, hs, hi, hl⟩ := both a0 l1 (by omega)
  have t0 := toInt_ok l1 (by omega)
  have he := eqIntS_self r (by omega)
  have hm := mark_ok r (by omega)
  have hh := held_ok r.length (by omega)
  refine Ev.bind t0 (Ev.bind hs (Ev.bind t0 (Ev.bind hi (Ev.bind he ?_))))
  simp only [if_true, bne_self_eq_false]
  refine Ev.step (fun k => by rw [laws_FnExactRemaindersOf.j0, if_neg (by decide)]) ?_
  refine Ev.bind t0 (Ev.bind (eqIntS_self l1 (by omega)) ?_)
  simp only [if_true]
  refine Ev.bind (mark_ok l1 (by omega)) ?_
  refine Ev.congr (fun k => if_neg (show ¬ (1 + (l1.length : Int) < 0) by omega)) ?_
  refine Ev.bind he ?_
  simp only [if_true, bne_self_eq_false]
  refine Ev.step (fun k => by rw [laws_FnExactRemaindersOf.j1, if_neg (by decide)]) ?_
  refine Ev.bind hm (Ev.bind hh ?_)
  refine Ev.congr (fun k => (if_neg (show ¬ (1 + (r.length : Int) < 0) by omega)).trans (if_pos rfl)) ?_
  refine Ev.bind t0 (Ev.bind hi (Ev.bind he ?_))
  simp only [if_true, bne_self_eq_false]
  refine Ev.step (fun k => by rw [laws_FnExactRemaindersOf.j2, if_neg (by decide)]) ?_
  refine Ev.bind hh ?_
  exact Ev.congr (fun k => (if_neg (show ¬ (1 + (r.length : Int) < 0) by omega)).trans (if_pos rfl)) (Ev.now _)

end Go.Proofs.Ytollpomnfpkaeaa.Pure
