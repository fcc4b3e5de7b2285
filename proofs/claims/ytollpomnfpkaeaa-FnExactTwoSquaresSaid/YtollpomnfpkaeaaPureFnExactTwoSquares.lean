/- For every number, the program's TwoSquares answers what the reference's does, and the rows it hands back are its own. -/
import Derived.Test.YtollpomnfpkaeaaPFnExactTwoSquaresx2
namespace Go.Proofs.Ytollpomnfpkaeaa.Pure
open Go.RowKit Go.Proofs.Ytollpomnfpkaeaa.PFnExactTwoSquares Go.Proofs.YtollpomnfpkaeaaW.PrintWords Go.Proofs.YtollpomnfpkaeaaW.PrintLast
set_option linter.unusedVariables false
set_option linter.unusedSimpArgs false

theorem w64 {x : Int} (h1 : -9223372036854775808 ≤ x) (h2 : x ≤ 9223372036854775807) : wrap64 x = x := by
  unfold wrap64
  omega
theorem wf_lo {a : Int} (h : (Lit.int .i64 a).wf = true) : -9223372036854775808 ≤ a := by
  have h' : IntKind.i64.min ≤ a ∧ a ≤ IntKind.i64.max := by simpa [Lit.wf] using h
  have e : IntKind.i64.min = -9223372036854775808 := by decide
  omega
theorem wf_hi {a : Int} (h : (Lit.int .i64 a).wf = true) : a ≤ 9223372036854775807 := by
  have h' : IntKind.i64.min ≤ a ∧ a ≤ IntKind.i64.max := by simpa [Lit.wf] using h
  have e : IntKind.i64.max = 9223372036854775807 := by decide
  omega
theorem ev_congr_fun {α : Type} {g f : Nat → Option α} {r : α} (h : g = f) (k : Ev f r) : Ev g r := h ▸ k
theorem rd_mid (pre : List Int) (x : Int) (rest : List Int) : rd (pre ++ x :: rest) (pre.length : Int) = x := by
  simp [rd]
theorem eqIntS_l0 (l : List Int) (hl : l.length ≤ 1000000000000000000) (d : Nat) : ∀ i : Int, 0 ≤ i → (l.length : Int) - i = d → Ev (fun k => laws_eqIntS.l0 k l l i) true := by
  induction d with
  | zero =>
    intro i h0 hd
    exact Ev.step (f := fun _ => some true) (fun k => by rw [laws_eqIntS.l0]; rw [if_neg (by omega)]) (Ev.now _)
  | succ d ih =>
    intro i h0 hd
    refine Ev.step (f := fun k => laws_eqIntS.l0 k l l (i + 1)) (fun k => ?_) (ih (i + 1) (by omega) (by omega))
    rw [laws_eqIntS.l0]
    rw [if_pos (by omega), if_pos h0, if_pos (by omega), if_pos rfl, w64 (by omega) (by omega)]
theorem eqIntS_self (l : List Int) (hl : l.length ≤ 1000000000000000000) : Ev (fun k => laws_eqIntS.f k l l) true :=
  Ev.congr (fun k => by unfold laws_eqIntS.f; rw [if_pos rfl]) (eqIntS_l0 l hl l.length 0 (by omega) (by omega))
theorem eqIntSS_l0 (l : List (List Int)) (hr : ∀ r ∈ l, r.length ≤ 1000000000) (hl : l.length ≤ 1000000000000000000) (d : Nat) : ∀ i : Int, 0 ≤ i → (l.length : Int) - i = d → Ev (fun k => laws_eqIntSS.l0 k l l i) true := by
  induction d with
  | zero =>
    intro i h0 hd
    exact Ev.step (f := fun _ => some true) (fun k => by rw [laws_eqIntSS.l0]; rw [if_neg (by omega)]) (Ev.now _)
  | succ d ih =>
    intro i h0 hd
    have hrow : (rd_L1 l i).length ≤ 1000000000 := by
      have e : rd_L1 l i = l[i.toNat]'(by omega) := by unfold rd_L1; rw [List.getD_eq_getElem?_getD, List.getElem?_eq_getElem (by omega)]; rfl
      rw [e]; exact hr _ (List.getElem_mem _)
    refine Ev.step (f := fun k => (laws_eqIntS.f k (rd_L1 l i) (rd_L1 l i)).bind fun t124 => if t124 = true then laws_eqIntSS.l0 k l l (wrap64 (i + 1)) else some false) (fun k => ?_) (Ev.bind (eqIntS_self _ (by omega)) (Ev.congr (fun k => if_pos rfl) ?_))
    · rw [laws_eqIntSS.l0]
      rw [if_pos (by omega), if_pos h0, if_pos (by omega)]
    · rw [w64 (by omega) (by omega)]; exact ih (i + 1) (by omega) (by omega)
theorem eqIntSS_self (l : List (List Int)) (hr : ∀ r ∈ l, r.length ≤ 1000000000) (hl : l.length ≤ 1000000000000000000) : Ev (fun k => laws_eqIntSS.f k l l) true :=
  Ev.congr (fun k => by unfold laws_eqIntSS.f; rw [if_pos rfl]) (eqIntSS_l0 l hr hl l.length 0 (by omega) (by omega))
def marksFrom (v : Int) : Nat → List Int
  | 0 => []
  | n + 1 => v :: marksFrom (v + 1) n
theorem marksFrom_length (n : Nat) : ∀ v, (marksFrom v n).length = n := by
  induction n with
  | zero => intro v; rfl
  | succ n ih => intro v; simp [marksFrom, ih]
theorem mark_l0 (rest : List Int) : ∀ (pre : List Int) (v : Int), 0 ≤ v → v + rest.length ≤ 1000000000000000000 → pre.length + rest.length ≤ 1000000000000000000 →
    Ev (fun k => laws_markIntS.l0 k (pre ++ rest) v pre.length) (v + rest.length, pre ++ marksFrom v rest.length) := by
  induction rest with
  | nil =>
    intro pre v h0 hv hl
    exact Ev.step (f := fun _ => some (v, pre)) (fun k => by rw [laws_markIntS.l0]; rw [if_neg (by simp)]; simp) (by simpa [marksFrom] using Ev.now (v, pre))
  | cons x rest ih =>
    intro pre v h0 hv hl
    simp only [List.length_cons] at hv hl
    refine Ev.step (f := fun k => laws_markIntS.l0 k ((pre ++ [v]) ++ rest) (v + 1) ((pre ++ [v]).length : Nat)) (fun k => ?_) ?_
    · rw [laws_markIntS.l0]
      rw [if_pos (by simp; omega), if_pos (by omega), w64 (by omega) (by omega), w64 (by omega) (by omega)]
      simp
    · have := ih (pre ++ [v]) (v + 1) (by omega) (by omega) (by simp; omega)
      have e1 : v + 1 + (rest.length : Int) = v + ((x :: rest).length : Nat) := by simp; omega
      have e2 : (pre ++ [v]) ++ marksFrom (v + 1) rest.length = pre ++ marksFrom v (x :: rest).length := by simp [marksFrom]
      rw [e1, e2] at this
      exact this
theorem held_l0 (n : Nat) : ∀ (pre : List Int) (v : Int), 0 ≤ v → v + n ≤ 1000000000000000000 → pre.length + n ≤ 1000000000000000000 →
    Ev (fun k => laws_heldIntS.l0 k (pre ++ marksFrom v n) v pre.length) (v + n) := by
  induction n with
  | zero =>
    intro pre v h0 hv hl
    exact Ev.step (f := fun _ => some v) (fun k => by rw [laws_heldIntS.l0, marksFrom]; rw [if_neg (by simp)]) (by simpa using Ev.now v)
  | succ n ih =>
    intro pre v h0 hv hl
    refine Ev.step (f := fun k => laws_heldIntS.l0 k ((pre ++ [v]) ++ marksFrom (v + 1) n) (v + 1) ((pre ++ [v]).length : Nat)) (fun k => ?_) ?_
    · rw [laws_heldIntS.l0, marksFrom]
      rw [if_pos (by simp; omega), if_pos (by omega), if_pos (rd_mid _ _ _), w64 (by omega) (by omega), w64 (by omega) (by omega)]
      simp
    · have := ih (pre ++ [v]) (v + 1) (by omega) (by omega) (by simp; omega)
      have e1 : v + 1 + (n : Int) = v + ((n + 1 : Nat) : Int) := by omega
      rw [e1] at this
      exact this
theorem mark_ok (l : List Int) (hl : l.length ≤ 100000000000000000) : Ev (fun k => laws_markIntS.f k l 1) (1 + (l.length : Int), marksFrom 1 l.length) := by
  have := mark_l0 l [] 1 (by omega) (by omega) (by simp; omega)
  simpa [laws_markIntS.f] using this
theorem held_ok (n : Nat) (hl : n ≤ 100000000000000000) : Ev (fun k => laws_heldIntS.f k (marksFrom 1 n) 1) (1 + (n : Int)) := by
  have := held_l0 n [] 1 (by omega) (by omega) (by simp; omega)
  simpa [laws_heldIntS.f] using this
def totalLen : List (List Int) → Nat
  | [] => 0
  | r :: rest => r.length + totalLen rest
def marksSS : Int → List (List Int) → List (List Int)
  | _, [] => []
  | v, r :: rest => marksFrom v r.length :: marksSS (v + r.length) rest
theorem marksSS_length (l : List (List Int)) : ∀ v, (marksSS v l).length = l.length := by
  induction l with
  | nil => intro v; rfl
  | cons r rest ih => intro v; simp [marksSS, ih]
theorem mark_at (l : List Int) (v : Int) (h0 : 0 ≤ v) (hv : v + l.length ≤ 1000000000000000000) (hl : l.length ≤ 1000000000000000000) : Ev (fun k => laws_markIntS.f k l v) (v + (l.length : Int), marksFrom v l.length) := by
  have := mark_l0 l [] v h0 hv (by simp; omega)
  simpa [laws_markIntS.f] using this
theorem held_at (n : Nat) (v : Int) (h0 : 0 ≤ v) (hv : v + n ≤ 1000000000000000000) (hl : n ≤ 1000000000000000000) : Ev (fun k => laws_heldIntS.f k (marksFrom v n) v) (v + (n : Int)) := by
  have := held_l0 n [] v h0 hv (by simp; omega)
  simpa [laws_heldIntS.f] using this
theorem mid_row (pre : List (List Int)) (x : List Int) (rest : List (List Int)) : rd_L1 (pre ++ x :: rest) (pre.length : Int) = x := by
  simp [rd_L1]
theorem markSS_l0 (rest : List (List Int)) : ∀ (pre : List (List Int)) (v : Int), 0 ≤ v → v + totalLen rest ≤ 1000000000000000000 → pre.length + rest.length ≤ 1000000000000000000 →
    Ev (fun k => laws_markIntSS.l0 k (pre ++ rest) v pre.length) (v + totalLen rest, pre ++ marksSS v rest) := by
  induction rest with
  | nil =>
    intro pre v h0 hv hl
    exact Ev.step (f := fun _ => some (v, pre)) (fun k => by rw [laws_markIntSS.l0]; rw [if_neg (by simp)]; simp) (by simpa [marksSS, totalLen] using Ev.now (v, pre))
  | cons r rest ih =>
    intro pre v h0 hv hl
    simp only [List.length_cons] at hl
    simp only [totalLen] at hv
    refine Ev.step (f := fun k => (laws_markIntS.f k r v).bind fun b => laws_markIntSS.l0 k ((pre ++ r :: rest).set pre.length b.2) b.1 ((pre.length : Int) + 1)) (fun k => ?_) (Ev.bind (mark_at r v h0 (by omega) (by omega)) ?_)
    · rw [laws_markIntSS.l0]
      rw [if_pos (by simp; omega), if_pos (by omega), w64 (by omega) (by omega)]
      simp
    · have := ih (pre ++ [marksFrom v r.length]) (v + r.length) (by omega) (by omega) (by simp; omega)
      have e1 : v + (r.length : Int) + (totalLen rest : Int) = v + (totalLen (r :: rest) : Nat) := by simp [totalLen]; omega
      have e2 : (pre ++ [marksFrom v r.length]) ++ marksSS (v + r.length) rest = pre ++ marksSS v (r :: rest) := by simp [marksSS]
      rw [e1, e2] at this
      simpa using this
theorem heldSS_l0 (rest : List (List Int)) : ∀ (pre : List (List Int)) (v : Int), 0 ≤ v → v + totalLen rest ≤ 1000000000000000000 → pre.length + rest.length ≤ 1000000000000000000 →
    Ev (fun k => laws_heldIntSS.l0 k (pre ++ marksSS v rest) v pre.length) (v + totalLen rest) := by
  induction rest with
  | nil =>
    intro pre v h0 hv hl
    exact Ev.step (f := fun _ => some v) (fun k => by rw [laws_heldIntSS.l0, marksSS]; rw [if_neg (by simp)]) (by simpa [totalLen] using Ev.now v)
  | cons r rest ih =>
    intro pre v h0 hv hl
    simp only [List.length_cons] at hl
    simp only [totalLen] at hv
    have := ih (pre ++ [marksFrom v r.length]) (v + r.length) (by omega) (by omega) (by simp; omega)
    refine Ev.step (f := fun k => (laws_heldIntS.f k (marksFrom v r.length) v).bind fun t => if t < 0 then some (-1) else laws_heldIntSS.l0 k ((pre ++ [marksFrom v r.length]) ++ marksSS (v + r.length) rest) t ((pre ++ [marksFrom v r.length]).length : Nat)) (fun k => ?_) (Ev.bind (held_at r.length v h0 (by omega) (by omega)) (Ev.congr (fun k => if_neg (by omega)) ?_))
    · rw [laws_heldIntSS.l0, marksSS]
      rw [if_pos (by simp; omega), if_pos (by omega), mid_row, w64 (by omega) (by omega)]
      simp
    · have e1 : v + (r.length : Int) + (totalLen rest : Int) = v + (totalLen (r :: rest) : Nat) := by simp [totalLen]; omega
      rw [e1] at this
      exact this
theorem markSS_ok (l : List (List Int)) (hl : l.length ≤ 1000000000) (ht : totalLen l ≤ 1000000000000) : Ev (fun k => laws_markIntSS.f k l 1) (1 + (totalLen l : Int), marksSS 1 l) := by
  have := markSS_l0 l [] 1 (by omega) (by omega) (by simp; omega)
  simpa [laws_markIntSS.f] using this
theorem heldSS_ok (l : List (List Int)) (hl : l.length ≤ 1000000000) (ht : totalLen l ≤ 1000000000000) : Ev (fun k => laws_heldIntSS.f k (marksSS 1 l) 1) (1 + (totalLen l : Int)) := by
  have := heldSS_l0 l [] 1 (by omega) (by omega) (by simp; omega)
  simpa [laws_heldIntSS.f] using this
theorem totalLen_le (l : List (List Int)) (m : Nat) (h : ∀ r ∈ l, r.length ≤ m) : totalLen l ≤ l.length * m := by
  induction l with
  | nil => simp [totalLen]
  | cons r rest ih =>
    have h1 := h r (List.mem_cons_self ..)
    have h2 := ih (fun y hy => h y (List.mem_cons_of_mem _ hy))
    simp only [totalLen, List.length_cons, Nat.succ_mul]
    omega
theorem soldiers_eq (a0 : Int) : spec_foSoldiers.f a0 = impl_isSoldiers.f a0 := by
  unfold spec_foSoldiers.f impl_isSoldiers.f spec_l1In.f impl_in.f
  rfl
theorem soldiers_some (a0 : Int) : ∃ b, impl_isSoldiers.f a0 = some b ∧ (b = true → ∃ n : Nat, a0 = n ∧ 1 ≤ n ∧ n ≤ 1000000) := by
  unfold impl_isSoldiers.f impl_in.f
  by_cases h1 : 1 ≤ a0
  · by_cases h2 : a0 ≤ 1000000
    · refine ⟨true, by simp [h1, h2], fun _ => ?_⟩
      obtain ⟨n, rfl⟩ := Int.eq_ofNat_of_zero_le (show 0 ≤ a0 by omega)
      exact ⟨n, rfl, by omega, by omega⟩
    · exact ⟨false, by simp [h1, h2], by simp⟩
  · exact ⟨false, by simp [h1], by simp⟩
theorem impl_root_l0 (n r : Nat) (hn : n ≤ 1000000000000) (h1 : r * r ≤ n) (h2 : n < (r + 1) * (r + 1)) (hr : r ≤ 1000000) (d : Nat) : ∀ x : Nat, x + d = r → Ev (fun k => impl_rootOf.l0 k n x) (r : Int) := by
  induction d with
  | zero =>
    intro x hx
    obtain rfl : x = r := by omega
    refine Ev.step (f := fun _ => some (x : Int)) (fun k => ?_) (Ev.now _)
    have e : ((x : Int) + 1) * ((x : Int) + 1) = (((x + 1) * (x + 1) : Nat) : Int) := by simp
    have hb : (x + 1) * (x + 1) ≤ 1000001 * 1000001 := Nat.mul_le_mul (by omega) (by omega)
    rw [impl_rootOf.l0, w64 (x := (x : Int) + 1) (by omega) (by omega), e, w64 (by omega) (by omega), if_neg (by omega)]
  | succ d ih =>
    intro x hx
    refine Ev.step (f := fun k => impl_rootOf.l0 k n ((x + 1 : Nat) : Int)) (fun k => ?_) (ih (x + 1) (by omega))
    have e : ((x : Int) + 1) * ((x : Int) + 1) = (((x + 1) * (x + 1) : Nat) : Int) := by simp
    have hb : (x + 1) * (x + 1) ≤ r * r := Nat.mul_le_mul (by omega) (by omega)
    rw [impl_rootOf.l0, w64 (x := (x : Int) + 1) (by omega) (by omega), e, w64 (by omega) (by omega), if_pos (by omega)]
    rfl
theorem impl_root_ok {n r : Nat} (hn : n ≤ 1000000000000) (h1 : r * r ≤ n) (h2 : n < (r + 1) * (r + 1)) : Ev (fun k => impl_rootOf.f k n) (r : Int) := by
  have hr : r ≤ 1000000 := by
    refine Nat.le_of_not_lt fun h => ?_
    have : 1000001 * 1000001 ≤ r * r := Nat.mul_le_mul h h
    omega
  exact impl_root_l0 n r hn h1 h2 hr r 0 (by omega)
theorem spec_root_l0 (n r : Nat) (hn : n ≤ 1000000000000) (h1 : r * r ≤ n) (h2 : n < (r + 1) * (r + 1)) (hr : r ≤ 1000000) (d : Nat) : ∀ x : Nat, x + d = r → Ev (fun k => spec_foRoot.l0 k n x) (r : Int) := by
  induction d with
  | zero =>
    intro x hx
    obtain rfl : x = r := by omega
    refine Ev.step (f := fun _ => some (x : Int)) (fun k => ?_) (Ev.now _)
    have e : ((x : Int) + 1) * ((x : Int) + 1) = (((x + 1) * (x + 1) : Nat) : Int) := by simp
    have hb : (x + 1) * (x + 1) ≤ 1000001 * 1000001 := Nat.mul_le_mul (by omega) (by omega)
    rw [spec_foRoot.l0, w64 (x := (x : Int) + 1) (by omega) (by omega), e, w64 (by omega) (by omega), if_neg (by omega)]
  | succ d ih =>
    intro x hx
    refine Ev.step (f := fun k => spec_foRoot.l0 k n ((x + 1 : Nat) : Int)) (fun k => ?_) (ih (x + 1) (by omega))
    have e : ((x : Int) + 1) * ((x : Int) + 1) = (((x + 1) * (x + 1) : Nat) : Int) := by simp
    have hb : (x + 1) * (x + 1) ≤ r * r := Nat.mul_le_mul (by omega) (by omega)
    rw [spec_foRoot.l0, w64 (x := (x : Int) + 1) (by omega) (by omega), e, w64 (by omega) (by omega), if_pos (by omega)]
    rfl
theorem spec_root_ok {n r : Nat} (hn : n ≤ 1000000000000) (h1 : r * r ≤ n) (h2 : n < (r + 1) * (r + 1)) : Ev (fun k => spec_foRoot.f k n) (r : Int) := by
  have hr : r ≤ 1000000 := by
    refine Nat.le_of_not_lt fun h => ?_
    have : 1000001 * 1000001 ≤ r * r := Nat.mul_le_mul h h
    omega
  exact spec_root_l0 n r hn h1 h2 hr r 0 (by omega)
theorem root_exists (n : Nat) : ∃ r : Nat, r * r ≤ n ∧ n < (r + 1) * (r + 1) := by
  induction n with
  | zero => exact ⟨0, by omega, by omega⟩
  | succ n ih =>
    obtain ⟨r, h1, h2⟩ := ih
    by_cases c : (r + 1) * (r + 1) ≤ n + 1
    · refine ⟨r + 1, c, ?_⟩
      have : (r + 1 + 1) * (r + 1 + 1) = (r + 1) * (r + 1) + 2 * (r + 1) + 1 := by rw [Nat.add_mul, Nat.mul_add]; omega
      omega
    · exact ⟨r, by omega, by omega⟩
theorem both_l0 (n : Nat) (hn : n ≤ 1000000) (d : Nat) : ∀ (i : Nat) (out : List (List Int)), 1 ≤ i → i + d = 1001 → out.length ≤ i → (∀ r ∈ out, r.length = 2) →
    ∃ r, Ev (fun k => spec_TwoSquares.l0 k n out i) (r, true) ∧ Ev (fun k => impl_TwoSquares.l0 k n out i) (r, true) ∧ r.length ≤ 1001 ∧ ∀ x ∈ r, x.length = 2 := by
  induction d with
  | zero =>
    intro i out h1 hd ho hr
    obtain rfl : i = 1001 := by omega
    refine ⟨out, ?_, ?_, by omega, hr⟩
    · exact Ev.step (f := fun _ => some (out, true)) (fun k => by rw [spec_TwoSquares.l0, w64 (x := 2 * ((1001 : Nat) : Int)) (by omega) (by omega), w64 (by omega) (by omega), if_neg (by omega)]) (Ev.now _)
    · exact Ev.step (f := fun _ => some (out, true)) (fun k => by rw [impl_TwoSquares.l0, w64 (x := 2 * ((1001 : Nat) : Int)) (by omega) (by omega), w64 (by omega) (by omega), if_neg (by omega)]) (Ev.now _)
  | succ d ih =>
    intro i out h1 hd ho hr
    have hb : i * i ≤ 1000 * 1000 := Nat.mul_le_mul (by omega) (by omega)
    have e : (i : Int) * i = ((i * i : Nat) : Int) := by simp
    have e2 : (2 * (i : Int)) * i = ((2 * (i * i) : Nat) : Int) := by rw [Int.mul_assoc, e]; omega
    by_cases c : 2 * (i * i) ≤ n
    · obtain ⟨t, t1, t2⟩ := root_exists (n - i * i)
      have e3 : (n : Int) - ((i * i : Nat) : Int) = ((n - i * i : Nat) : Int) := by omega
      have hs := spec_root_ok (by omega) t1 t2
      have hi := impl_root_ok (by omega) t1 t2
      have e4 : (t : Int) * t = ((t * t : Nat) : Int) := by simp
      have es : ∀ k, spec_TwoSquares.l0 (k + 1) n out i = (spec_foRoot.f k ((n - i * i : Nat) : Int)).bind fun t112 => (if (wrap64 ((wrap64 ((i : Int) * i)) + (wrap64 (t112 * t112)))) = n then (if out.length < 5864062014805 then (spec_TwoSquares.l0 k n (out ++ [(([(i : Int), t112] : List Int))]) (wrap64 ((i : Int) + 1))) else (none)) else (spec_TwoSquares.l0 k n out (wrap64 ((i : Int) + 1)))) := by
        intro k
        rw [spec_TwoSquares.l0, w64 (x := 2 * (i : Int)) (by omega) (by omega), e2, w64 (x := ((2 * (i * i) : Nat) : Int)) (by omega) (by omega), if_pos (by omega), e, w64 (x := ((i * i : Nat) : Int)) (by omega) (by omega), e3, w64 (x := ((n - i * i : Nat) : Int)) (by omega) (by omega)]
      have ei : ∀ k, impl_TwoSquares.l0 (k + 1) n out i = (impl_rootOf.f k ((n - i * i : Nat) : Int)).bind fun t124 => (if (wrap64 (t124 * t124)) = ((n - i * i : Nat) : Int) then (if out.length < 5864062014805 then (impl_TwoSquares.l0 k n (out ++ [(([(i : Int), t124] : List Int))]) (wrap64 ((i : Int) + 1))) else (none)) else (impl_TwoSquares.l0 k n out (wrap64 ((i : Int) + 1)))) := by
        intro k
        rw [impl_TwoSquares.l0, w64 (x := 2 * (i : Int)) (by omega) (by omega), e2, w64 (x := ((2 * (i * i) : Nat) : Int)) (by omega) (by omega), if_pos (by omega), e, w64 (x := ((i * i : Nat) : Int)) (by omega) (by omega), e3, w64 (x := ((n - i * i : Nat) : Int)) (by omega) (by omega)]
      by_cases c2 : t * t = n - i * i
      · obtain ⟨r, a, b, hl, hx⟩ := ih (i + 1) (out ++ [[(i : Int), (t : Int)]]) (by omega) (by omega) (by simp; omega) (by
          intro x hx
          rcases List.mem_append.1 hx with h | h
          · exact hr x h
          · rw [List.mem_singleton.1 h]; rfl)
        refine ⟨r, Ev.step es (Ev.bind hs (Ev.congr (fun k => ?_) a)), Ev.step ei (Ev.bind hi (Ev.congr (fun k => ?_) b)), hl, hx⟩
        · rw [e, e4, w64 (x := ((i * i : Nat) : Int)) (by omega) (by omega), w64 (x := ((t * t : Nat) : Int)) (by omega) (by omega), w64 (x := ((i * i : Nat) : Int) + ((t * t : Nat) : Int)) (by omega) (by omega), if_pos (by omega), if_pos (by omega), w64 (x := (i : Int) + 1) (by omega) (by omega)]
          rfl
        · rw [e4, w64 (x := ((t * t : Nat) : Int)) (by omega) (by omega), if_pos (by omega), if_pos (by omega), w64 (x := (i : Int) + 1) (by omega) (by omega)]
          rfl
      · obtain ⟨r, a, b, hl, hx⟩ := ih (i + 1) out (by omega) (by omega) (by omega) hr
        refine ⟨r, Ev.step es (Ev.bind hs (Ev.congr (fun k => ?_) a)), Ev.step ei (Ev.bind hi (Ev.congr (fun k => ?_) b)), hl, hx⟩
        · rw [e, e4, w64 (x := ((i * i : Nat) : Int)) (by omega) (by omega), w64 (x := ((t * t : Nat) : Int)) (by omega) (by omega), w64 (x := ((i * i : Nat) : Int) + ((t * t : Nat) : Int)) (by omega) (by omega), if_neg (by omega), w64 (x := (i : Int) + 1) (by omega) (by omega)]
          rfl
        · rw [e4, w64 (x := ((t * t : Nat) : Int)) (by omega) (by omega), if_neg (by omega), w64 (x := (i : Int) + 1) (by omega) (by omega)]
          rfl
    · refine ⟨out, ?_, ?_, by omega, hr⟩
      · exact Ev.step (f := fun _ => some (out, true)) (fun k => by rw [spec_TwoSquares.l0, w64 (x := 2 * (i : Int)) (by omega) (by omega), e2, w64 (x := ((2 * (i * i) : Nat) : Int)) (by omega) (by omega), if_neg (by omega)]) (Ev.now _)
      · exact Ev.step (f := fun _ => some (out, true)) (fun k => by rw [impl_TwoSquares.l0, w64 (x := 2 * (i : Int)) (by omega) (by omega), e2, w64 (x := ((2 * (i * i) : Nat) : Int)) (by omega) (by omega), if_neg (by omega)]) (Ev.now _)
theorem both (a0 : Int) : ∃ r b, Ev (fun k => spec_TwoSquares.f k a0) (r, b) ∧ Ev (fun k => impl_TwoSquares.f k a0) (r, b) ∧ r.length ≤ 1001 ∧ ∀ x ∈ r, x.length = 2 := by
  obtain ⟨b, hb, h⟩ := soldiers_some a0
  unfold spec_TwoSquares.f impl_TwoSquares.f
  simp only [soldiers_eq, hb, Option.bind_some]
  cases b with
  | false => exact ⟨[], false, by simpa using Ev.now _, by simpa using Ev.now _, by simp, by simp⟩
  | true =>
    obtain ⟨n, rfl, h1, h2⟩ := h rfl
    obtain ⟨r, a, c, hl, hx⟩ := both_l0 n h2 1000 1 [] (by omega) (by omega) (by simp) (by simp)
    exact ⟨r, true, by simpa using a, by simpa using c, hl, hx⟩
theorem FnExactTwoSquares : ∀ (a0 : Int), (Lit.int .i64 a0).wf = true → ∃ k, laws_FnExactTwoSquares.f k a0 = some true := by
  intro a0 w0
  refine Ev.rounds (r := true) ?_
  unfold laws_FnExactTwoSquares.f
  obtain ⟨r, b, hs, hi, hl, hx⟩ := both a0
  have ht : totalLen r ≤ r.length * 2 := totalLen_le r 2 (fun x h => by rw [hx x h]; omega)
  refine Ev.bind hs (Ev.bind hi (Ev.bind (markSS_ok r (by omega) (by omega)) (Ev.bind (eqIntSS_self r (fun x h => by rw [hx x h]; omega) (by omega)) (Ev.bind (heldSS_ok r (by omega) (by omega)) ?_))))
  refine Ev.congr (fun k => ?_) (Ev.now true)
  rw [if_pos rfl, if_pos rfl, if_pos (by omega), if_pos rfl]

end Go.Proofs.Ytollpomnfpkaeaa.Pure
