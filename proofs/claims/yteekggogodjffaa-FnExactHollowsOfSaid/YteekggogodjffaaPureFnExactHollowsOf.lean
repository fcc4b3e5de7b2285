/- For every number, the program's HollowsOf answers what the reference's does, and the rows it hands back are its own. -/
import Derived.Test.YteekggogodjffaaPFnExactHollowsOfx2
namespace Go.Proofs.Yteekggogodjffaa.Pure
open Go.RowKit Go.Proofs.Yteekggogodjffaa.PFnExactHollowsOf Go.Proofs.YteekggogodjffaaW.PrintWords Go.Proofs.YteekggogodjffaaW.PrintLast
set_option linter.unusedVariables false
set_option linter.unusedSimpArgs false

theorem w64 {x : Int} (h1 : -9223372036854775808 ≤ x) (h2 : x ≤ 9223372036854775807) : wrap64 x = x := by
  unfold wrap64
  omega
theorem wf_lo {a : Int} (h : (Lit.int .i64 a).wf = true) : -9223372036854775808 ≤ a := by
  have h' : IntKind.i64.min ≤ a ∧ a ≤ IntKind.i64.max := by simpa [Lit.wf] using h
  have e : IntKind.i64.min = -9223372036854775808 := by decide
  omega
theorem wf_hi {a : Int} (h : (Lit.int .i64 a).wf = true) : a ≤ 9223372036854775807 := by
  have h' : IntKind.i64.min ≤ a ∧ a ≤ IntKind.i64.max := by simpa [Lit.wf] using h
  have e : IntKind.i64.max = 9223372036854775807 := by decide
  omega
theorem ev_congr_fun {α : Type} {g f : Nat → Option α} {r : α} (h : g = f) (k : Ev f r) : Ev g r := h ▸ k
theorem rd_mid (pre : List Int) (x : Int) (rest : List Int) : rd (pre ++ x :: rest) (pre.length : Int) = x := by
  simp [rd]
theorem eqIntS_l0 (l : List Int) (hl : l.length ≤ 1000000000000000000) (d : Nat) : ∀ i : Int, 0 ≤ i → (l.length : Int) - i = d → Ev (fun k => laws_eqIntS.l0 k l l i) true := by
  induction d with
  | zero =>
    intro i h0 hd
    exact Ev.step (f := fun _ => some true) (fun k => by rw [laws_eqIntS.l0]; rw [if_neg (by omega)]) (Ev.now _)
  | succ d ih =>
    intro i h0 hd
    refine Ev.step (f := fun k => laws_eqIntS.l0 k l l (i + 1)) (fun k => ?_) (ih (i + 1) (by omega) (by omega))
    rw [laws_eqIntS.l0]
    rw [if_pos (by omega), if_pos h0, if_pos (by omega), if_pos rfl, w64 (by omega) (by omega)]
theorem eqIntS_self (l : List Int) (hl : l.length ≤ 1000000000000000000) : Ev (fun k => laws_eqIntS.f k l l) true :=
  Ev.congr (fun k => by unfold laws_eqIntS.f; rw [if_pos rfl]) (eqIntS_l0 l hl l.length 0 (by omega) (by omega))
theorem eqIntSS_l0 (l : List (List Int)) (hr : ∀ r ∈ l, r.length ≤ 1000000000) (hl : l.length ≤ 1000000000000000000) (d : Nat) : ∀ i : Int, 0 ≤ i → (l.length : Int) - i = d → Ev (fun k => laws_eqIntSS.l0 k l l i) true := by
  induction d with
  | zero =>
    intro i h0 hd
    exact Ev.step (f := fun _ => some true) (fun k => by rw [laws_eqIntSS.l0]; rw [if_neg (by omega)]) (Ev.now _)
  | succ d ih =>
    intro i h0 hd
    have hrow : (rd_L1 l i).length ≤ 1000000000 := by
      have e : rd_L1 l i = l[i.toNat]'(by omega) := by unfold rd_L1; rw [List.getD_eq_getElem?_getD, List.getElem?_eq_getElem (by omega)]; rfl
      rw [e]; exact hr _ (List.getElem_mem _)
    refine Ev.step (f := fun k => (laws_eqIntS.f k (rd_L1 l i) (rd_L1 l i)).bind fun t124 => if t124 = true then laws_eqIntSS.l0 k l l (wrap64 (i + 1)) else some false) (fun k => ?_) (Ev.bind (eqIntS_self _ (by omega)) (Ev.congr (fun k => if_pos rfl) ?_))
    · rw [laws_eqIntSS.l0]
      rw [if_pos (by omega), if_pos h0, if_pos (by omega)]
    · rw [w64 (by omega) (by omega)]; exact ih (i + 1) (by omega) (by omega)
theorem eqIntSS_self (l : List (List Int)) (hr : ∀ r ∈ l, r.length ≤ 1000000000) (hl : l.length ≤ 1000000000000000000) : Ev (fun k => laws_eqIntSS.f k l l) true :=
  Ev.congr (fun k => by unfold laws_eqIntSS.f; rw [if_pos rfl]) (eqIntSS_l0 l hr hl l.length 0 (by omega) (by omega))
def marksFrom (v : Int) : Nat → List Int
  | 0 => []
  | n + 1 => v :: marksFrom (v + 1) n
theorem marksFrom_length (n : Nat) : ∀ v, (marksFrom v n).length = n := by
  induction n with
  | zero => intro v; rfl
  | succ n ih => intro v; simp [marksFrom, ih]
theorem mark_l0 (rest : List Int) : ∀ (pre : List Int) (v : Int), 0 ≤ v → v + rest.length ≤ 1000000000000000000 → pre.length + rest.length ≤ 1000000000000000000 →
    Ev (fun k => laws_markIntS.l0 k (pre ++ rest) v pre.length) (v + rest.length, pre ++ marksFrom v rest.length) := by
  induction rest with
  | nil =>
    intro pre v h0 hv hl
    exact Ev.step (f := fun _ => some (v, pre)) (fun k => by rw [laws_markIntS.l0]; rw [if_neg (by simp)]; simp) (by simpa [marksFrom] using Ev.now (v, pre))
  | cons x rest ih =>
    intro pre v h0 hv hl
    simp only [List.length_cons] at hv hl
    refine Ev.step (f := fun k => laws_markIntS.l0 k ((pre ++ [v]) ++ rest) (v + 1) ((pre ++ [v]).length : Nat)) (fun k => ?_) ?_
    · rw [laws_markIntS.l0]
      rw [if_pos (by simp; omega), if_pos (by omega), w64 (by omega) (by omega), w64 (by omega) (by omega)]
      simp
    · have := ih (pre ++ [v]) (v + 1) (by omega) (by omega) (by simp; omega)
      have e1 : v + 1 + (rest.length : Int) = v + ((x :: rest).length : Nat) := by simp; omega
      have e2 : (pre ++ [v]) ++ marksFrom (v + 1) rest.length = pre ++ marksFrom v (x :: rest).length := by simp [marksFrom]
      rw [e1, e2] at this
      exact this
theorem held_l0 (n : Nat) : ∀ (pre : List Int) (v : Int), 0 ≤ v → v + n ≤ 1000000000000000000 → pre.length + n ≤ 1000000000000000000 →
    Ev (fun k => laws_heldIntS.l0 k (pre ++ marksFrom v n) v pre.length) (v + n) := by
  induction n with
  | zero =>
    intro pre v h0 hv hl
    exact Ev.step (f := fun _ => some v) (fun k => by rw [laws_heldIntS.l0, marksFrom]; rw [if_neg (by simp)]) (by simpa using Ev.now v)
  | succ n ih =>
    intro pre v h0 hv hl
    refine Ev.step (f := fun k => laws_heldIntS.l0 k ((pre ++ [v]) ++ marksFrom (v + 1) n) (v + 1) ((pre ++ [v]).length : Nat)) (fun k => ?_) ?_
    · rw [laws_heldIntS.l0, marksFrom]
      rw [if_pos (by simp; omega), if_pos (by omega), if_pos (rd_mid _ _ _), w64 (by omega) (by omega), w64 (by omega) (by omega)]
      simp
    · have := ih (pre ++ [v]) (v + 1) (by omega) (by omega) (by simp; omega)
      have e1 : v + 1 + (n : Int) = v + ((n + 1 : Nat) : Int) := by omega
      rw [e1] at this
      exact this
theorem mark_ok (l : List Int) (hl : l.length ≤ 100000000000000000) : Ev (fun k => laws_markIntS.f k l 1) (1 + (l.length : Int), marksFrom 1 l.length) := by
  have := mark_l0 l [] 1 (by omega) (by omega) (by simp; omega)
  simpa [laws_markIntS.f] using this
theorem held_ok (n : Nat) (hl : n ≤ 100000000000000000) : Ev (fun k => laws_heldIntS.f k (marksFrom 1 n) 1) (1 + (n : Int)) := by
  have := held_l0 n [] 1 (by omega) (by omega) (by simp; omega)
  simpa [laws_heldIntS.f] using this
def totalLen : List (List Int) → Nat
  | [] => 0
  | r :: rest => r.length + totalLen rest
def marksSS : Int → List (List Int) → List (List Int)
  | _, [] => []
  | v, r :: rest => marksFrom v r.length :: marksSS (v + r.length) rest
theorem marksSS_length (l : List (List Int)) : ∀ v, (marksSS v l).length = l.length := by
  induction l with
  | nil => intro v; rfl
  | cons r rest ih => intro v; simp [marksSS, ih]
theorem mark_at (l : List Int) (v : Int) (h0 : 0 ≤ v) (hv : v + l.length ≤ 1000000000000000000) (hl : l.length ≤ 1000000000000000000) : Ev (fun k => laws_markIntS.f k l v) (v + (l.length : Int), marksFrom v l.length) := by
  have := mark_l0 l [] v h0 hv (by simp; omega)
  simpa [laws_markIntS.f] using this
theorem held_at (n : Nat) (v : Int) (h0 : 0 ≤ v) (hv : v + n ≤ 1000000000000000000) (hl : n ≤ 1000000000000000000) : Ev (fun k => laws_heldIntS.f k (marksFrom v n) v) (v + (n : Int)) := by
  have := held_l0 n [] v h0 hv (by simp; omega)
  simpa [laws_heldIntS.f] using this
theorem mid_row (pre : List (List Int)) (x : List Int) (rest : List (List Int)) : rd_L1 (pre ++ x :: rest) (pre.length : Int) = x := by
  simp [rd_L1]
theorem markSS_l0 (rest : List (List Int)) : ∀ (pre : List (List Int)) (v : Int), 0 ≤ v → v + totalLen rest ≤ 1000000000000000000 → pre.length + rest.length ≤ 1000000000000000000 →
    Ev (fun k => laws_markIntSS.l0 k (pre ++ rest) v pre.length) (v + totalLen rest, pre ++ marksSS v rest) := by
  induction rest with
  | nil =>
    intro pre v h0 hv hl
    exact Ev.step (f := fun _ => some (v, pre)) (fun k => by rw [laws_markIntSS.l0]; rw [if_neg (by simp)]; simp) (by simpa [marksSS, totalLen] using Ev.now (v, pre))
  | cons r rest ih =>
    intro pre v h0 hv hl
    simp only [List.length_cons] at hl
    simp only [totalLen] at hv
    refine Ev.step (f := fun k => (laws_markIntS.f k r v).bind fun b => laws_markIntSS.l0 k ((pre ++ r :: rest).set pre.length b.2) b.1 ((pre.length : Int) + 1)) (fun k => ?_) (Ev.bind (mark_at r v h0 (by omega) (by omega)) ?_)
    · rw [laws_markIntSS.l0]
      rw [if_pos (by simp; omega), if_pos (by omega), w64 (by omega) (by omega)]
      simp
    · have := ih (pre ++ [marksFrom v r.length]) (v + r.length) (by omega) (by omega) (by simp; omega)
      have e1 : v + (r.length : Int) + (totalLen rest : Int) = v + (totalLen (r :: rest) : Nat) := by simp [totalLen]; omega
      have e2 : (pre ++ [marksFrom v r.length]) ++ marksSS (v + r.length) rest = pre ++ marksSS v (r :: rest) := by simp [marksSS]
      rw [e1, e2] at this
      simpa using this
theorem heldSS_l0 (rest : List (List Int)) : ∀ (pre : List (List Int)) (v : Int), 0 ≤ v → v + totalLen rest ≤ 1000000000000000000 → pre.length + rest.length ≤ 1000000000000000000 →
    Ev (fun k => laws_heldIntSS.l0 k (pre ++ marksSS v rest) v pre.length) (v + totalLen rest) := by
  induction rest with
  | nil =>
    intro pre v h0 hv hl
    exact Ev.step (f := fun _ => some v) (fun k => by rw [laws_heldIntSS.l0, marksSS]; rw [if_neg (by simp)]) (by simpa [totalLen] using Ev.now v)
  | cons r rest ih =>
    intro pre v h0 hv hl
    simp only [List.length_cons] at hl
    simp only [totalLen] at hv
    have := ih (pre ++ [marksFrom v r.length]) (v + r.length) (by omega) (by omega) (by simp; omega)
    refine Ev.step (f := fun k => (laws_heldIntS.f k (marksFrom v r.length) v).bind fun t => if t < 0 then some (-1) else laws_heldIntSS.l0 k ((pre ++ [marksFrom v r.length]) ++ marksSS (v + r.length) rest) t ((pre ++ [marksFrom v r.length]).length : Nat)) (fun k => ?_) (Ev.bind (held_at r.length v h0 (by omega) (by omega)) (Ev.congr (fun k => if_neg (by omega)) ?_))
    · rw [laws_heldIntSS.l0, marksSS]
      rw [if_pos (by simp; omega), if_pos (by omega), mid_row, w64 (by omega) (by omega)]
      simp
    · have e1 : v + (r.length : Int) + (totalLen rest : Int) = v + (totalLen (r :: rest) : Nat) := by simp [totalLen]; omega
      rw [e1] at this
      exact this
theorem markSS_ok (l : List (List Int)) (hl : l.length ≤ 1000000000) (ht : totalLen l ≤ 1000000000000) : Ev (fun k => laws_markIntSS.f k l 1) (1 + (totalLen l : Int), marksSS 1 l) := by
  have := markSS_l0 l [] 1 (by omega) (by omega) (by simp; omega)
  simpa [laws_markIntSS.f] using this
theorem heldSS_ok (l : List (List Int)) (hl : l.length ≤ 1000000000) (ht : totalLen l ≤ 1000000000000) : Ev (fun k => laws_heldIntSS.f k (marksSS 1 l) 1) (1 + (totalLen l : Int)) := by
  have := heldSS_l0 l [] 1 (by omega) (by omega) (by simp; omega)
  simpa [laws_heldIntSS.f] using this
theorem totalLen_le (l : List (List Int)) (m : Nat) (h : ∀ r ∈ l, r.length ≤ m) : totalLen l ≤ l.length * m := by
  induction l with
  | nil => simp [totalLen]
  | cons r rest ih =>
    have h1 := h r (List.mem_cons_self ..)
    have h2 := ih (fun y hy => h y (List.mem_cons_of_mem _ hy))
    simp only [totalLen, List.length_cons, Nat.succ_mul]
    omega
theorem soldiers_eq (a0 : Int) : spec_foSoldiers.f a0 = impl_isSoldiers.f a0 := by
  unfold spec_foSoldiers.f impl_isSoldiers.f spec_l1In.f impl_in.f
  rfl
theorem soldiers_some (a0 : Int) : ∃ b, impl_isSoldiers.f a0 = some b ∧ (b = true → ∃ n : Nat, a0 = n ∧ 1 ≤ n ∧ n ≤ 1000000) := by
  unfold impl_isSoldiers.f impl_in.f
  by_cases h1 : 1 ≤ a0
  · by_cases h2 : a0 ≤ 1000000
    · refine ⟨true, by simp [h1, h2], fun _ => ?_⟩
      obtain ⟨n, rfl⟩ := Int.eq_ofNat_of_zero_le (show 0 ≤ a0 by omega)
      exact ⟨n, rfl, by omega, by omega⟩
    · exact ⟨false, by simp [h1, h2], by simp⟩
  · exact ⟨false, by simp [h1], by simp⟩
theorem wq {x : Nat} (h : x ≤ 1000000000000) : wrap64 (x : Int) = (x : Int) := w64 (by omega) (by omega)
theorem wqa {x y : Nat} (h : x + y ≤ 1000000000000) : wrap64 ((x : Int) + (y : Int)) = ((x + y : Nat) : Int) := by rw [w64 (by omega) (by omega)]; omega
theorem wqm {x y : Nat} (h : x * y ≤ 1000000000000) : wrap64 ((x : Int) * (y : Int)) = ((x * y : Nat) : Int) := by rw [← Int.natCast_mul]; exact wq h
def hrow (n t : Nat) : List (List Int) := if 4 * t * (t + 1) ≤ n ∧ n % (4 * t) = 0 then [[((n / (4 * t) + t : Nat) : Int), (t : Int)]] else []
def hup (n : Nat) : Nat → List (List Int)
  | 0 => []
  | T + 1 => hup n T ++ hrow n (T + 1)
theorem hrow_len (n t : Nat) : (hrow n t).length ≤ 1 := by
  unfold hrow
  split <;> simp
theorem hrow_rev (n t : Nat) : (hrow n t).reverse = hrow n t := by
  unfold hrow
  split <;> rfl
theorem mem_hrow {n t : Nat} {r : List Int} (h : r ∈ hrow n t) : 4 * t * (t + 1) ≤ n ∧ n % (4 * t) = 0 ∧ r = [((n / (4 * t) + t : Nat) : Int), (t : Int)] := by
  unfold hrow at h
  split at h
  · rename_i c
    exact ⟨c.1, c.2, List.mem_singleton.1 h⟩
  · cases h
theorem hup_len (n T : Nat) : (hup n T).length ≤ T := by
  induction T with
  | zero => simp [hup]
  | succ T ih =>
    have := hrow_len n (T + 1)
    simp only [hup, List.length_append]
    omega
theorem mem_hup {n T : Nat} {r : List Int} (h : r ∈ hup n T) : ∃ t, 1 ≤ t ∧ t ≤ T ∧ 4 * t * (t + 1) ≤ n ∧ n % (4 * t) = 0 ∧ r = [((n / (4 * t) + t : Nat) : Int), (t : Int)] := by
  induction T with
  | zero => cases h
  | succ T ih =>
    rcases List.mem_append.1 h with h | h
    · obtain ⟨t, h1, h2, h3⟩ := ih h
      exact ⟨t, h1, by omega, h3⟩
    · exact ⟨T + 1, by omega, by omega, mem_hrow h⟩
theorem hup_stop {n T : Nat} (h : n < 4 * (T + 1) * (T + 1 + 1)) (d : Nat) : hup n (T + d) = hup n T := by
  induction d with
  | zero => rfl
  | succ d ih =>
    have h1 : 4 * (T + 1) * (T + 1 + 1) ≤ 4 * (T + d + 1) * (T + d + 1 + 1) := Nat.mul_le_mul (by omega) (by omega)
    show hup n (T + d) ++ hrow n (T + d + 1) = _
    have h2 : hrow n (T + d + 1) = [] := by
      unfold hrow
      rw [if_neg (by omega)]
    rw [h2, List.append_nil, ih]
theorem hfall {n t t' : Nat} (h0 : 1 ≤ t) (h1 : t < t') (h2 : 4 * t' * (t' + 1) ≤ n) (h3 : n % (4 * t) = 0) (h4 : n % (4 * t') = 0) : n / (4 * t') + t' < n / (4 * t) + t := by
  obtain ⟨a, ha⟩ := Nat.dvd_of_mod_eq_zero h3
  obtain ⟨b, hb⟩ := Nat.dvd_of_mod_eq_zero h4
  have e1 : n / (4 * t) = a := by rw [ha, Nat.mul_div_cancel_left _ (by omega)]
  have e2 : n / (4 * t') = b := by rw [hb, Nat.mul_div_cancel_left _ (by omega)]
  rw [e1, e2]
  have hb1 : t' + 1 ≤ b := by
    rw [hb] at h2
    exact Nat.le_of_mul_le_mul_left h2 (by omega)
  obtain ⟨e, rfl⟩ : ∃ e, t' = t + e := ⟨t' - t, by omega⟩
  have hab : t * a = t * b + e * b := by
    have : 4 * t * a = 4 * (t + e) * b := by rw [← ha, ← hb]
    rw [Nat.mul_assoc, Nat.mul_assoc] at this
    have := Nat.eq_of_mul_eq_mul_left (by omega : 0 < 4) this
    rw [this, Nat.add_mul]
  rcases Nat.lt_or_ge (b + (t + e)) (a + t) with h | h
  · exact h
  · exfalso
    have h5 : t * a ≤ t * (b + e) := Nat.mul_le_mul_left _ (by omega)
    rw [Nat.mul_add, hab] at h5
    have h6 : e * b ≤ e * t := by rw [Nat.mul_comm e t]; omega
    have := Nat.le_of_mul_le_mul_left h6 (by omega)
    omega
theorem hup_pair (n T : Nat) : (hup n T).Pairwise (fun a b => rd b 0 < rd a 0) := by
  induction T with
  | zero => exact List.Pairwise.nil
  | succ T ih =>
    refine List.pairwise_append.2 ⟨ih, ?_, ?_⟩
    · unfold hrow
      split
      · exact List.pairwise_singleton _ _
      · exact List.Pairwise.nil
    · intro a ha b hb
      obtain ⟨t, h1, h2, h3, h4, rfl⟩ := mem_hup ha
      obtain ⟨h5, h6, rfl⟩ := mem_hrow hb
      have := hfall h1 (by omega) h5 h4 h6
      exact Int.ofNat_lt.2 this
theorem hup_dec (n T : Nat) : holDec (hup n T) = true := by
  unfold holDec
  refine decide_eq_true fun i => ⟨?_, fun j hij => ?_⟩
  · obtain ⟨t, _, _, _, _, e⟩ := mem_hup (List.getElem_mem (l := hup n T) i.isLt)
    show 0 < ((hup n T)[i.val]'i.isLt).length
    rw [e]
    simp
  · exact List.pairwise_iff_getElem.1 (hup_pair n T) i.val j.val i.isLt j.isLt hij
theorem hw4 {x : Nat} (h : x ≤ 1000000) : wrap64 ((4 : Int) * (x : Int)) = ((4 * x : Nat) : Int) := wqm (x := 4) (by omega)
theorem hw2 {x : Nat} (h : x ≤ 1000000) : wrap64 ((2 : Int) * (x : Int)) = ((2 * x : Nat) : Int) := wqm (x := 2) (by omega)
theorem hw1 {x : Nat} (h : x ≤ 1000000) : wrap64 ((x : Int) + 1) = ((x + 1 : Nat) : Int) := wqa (y := 1) (by omega)
theorem hwp {x : Nat} (h : x ≤ 1000000) : wrap64 (((x + 1 : Nat) : Int) - 1) = (x : Int) := by rw [w64 (by omega) (by omega)]; omega
section
variable {n T : Nat} {l : List (List Int)}
theorem impl_hol_out (k : Nat) (hT : T ≤ 500) (p1 : ¬ ((4 * (T + 1) * (T + 1 + 1) : Nat) : Int) ≤ n) (hd : holDec l = true) (hl : l.length < 4611686018427387904) (b : 4 * (T + 1) * (T + 1 + 1) ≤ 1000000000000) :
    impl_HollowsOf.l0 (k + 1) n l ((T + 1 : Nat) : Int) = some (l.reverse, true) := by
  rw [impl_HollowsOf.l0, hw4 (by omega), hw1 (by omega), wqm b, if_neg p1, if_pos ⟨hd, hl⟩]
theorem impl_hol_skip (k : Nat) (hT : T ≤ 500) (p1 : ((4 * (T + 1) * (T + 1 + 1) : Nat) : Int) ≤ n) (p3 : ¬ ((n % (4 * (T + 1)) : Nat) : Int) = 0) (b : 4 * (T + 1) * (T + 1 + 1) ≤ 1000000000000) :
    impl_HollowsOf.l0 (k + 1) n l ((T + 1 : Nat) : Int) = impl_HollowsOf.l0 k n l ((T + 1 + 1 : Nat) : Int) := by
  have t1 : Int.tmod (n : Int) ((4 * (T + 1) : Nat) : Int) = ((n % (4 * (T + 1)) : Nat) : Int) := rfl
  rw [impl_HollowsOf.l0, hw4 (by omega), hw1 (by omega), wqm b, if_pos p1, if_neg (by omega), t1, if_neg p3]
theorem impl_hol_push (k : Nat) (hT : T ≤ 500) (hn : n ≤ 1000000) (p1 : ((4 * (T + 1) * (T + 1 + 1) : Nat) : Int) ≤ n) (p3 : ((n % (4 * (T + 1)) : Nat) : Int) = 0) (p4 : l.length < 5864062014805) (b : 4 * (T + 1) * (T + 1 + 1) ≤ 1000000000000) :
    impl_HollowsOf.l0 (k + 1) n l ((T + 1 : Nat) : Int) = impl_HollowsOf.l0 k n (l ++ [[((n / (4 * (T + 1)) + (T + 1) : Nat) : Int), ((T + 1 : Nat) : Int)]]) ((T + 1 + 1 : Nat) : Int) := by
  have t1 : Int.tmod (n : Int) ((4 * (T + 1) : Nat) : Int) = ((n % (4 * (T + 1)) : Nat) : Int) := rfl
  have t2 : Int.tdiv (n : Int) ((4 * (T + 1) : Nat) : Int) = ((n / (4 * (T + 1)) : Nat) : Int) := rfl
  have hd : n / (4 * (T + 1)) ≤ n := Nat.div_le_self _ _
  have p2 : ¬ (((4 * (T + 1) : Nat) : Int) = 0) := by omega
  have b1 : n / (4 * (T + 1)) ≤ 1000000000000 := Nat.le_trans hd (by omega)
  have b2 : n / (4 * (T + 1)) + (T + 1) ≤ 1000000000000 := Nat.le_trans (Nat.add_le_add_right hd _) (by omega)
  rw [impl_HollowsOf.l0, hw4 (by omega), hw1 (by omega), wqm b, if_pos p1, if_neg p2, t1, if_pos p3, if_pos p4, t2, wq b1, wqa b2]
end
theorem impl_hol_l0 (n M : Nat) (hn : n ≤ 1000000) (hM : M ≤ 500) (hM2 : n < 4 * (M + 1) * (M + 1 + 1)) (d : Nat) : ∀ T : Nat, T + d = M → Ev (fun k => impl_HollowsOf.l0 k n (hup n T) ((T + 1 : Nat) : Int)) ((hup n M).reverse, true) := by
  induction d with
  | zero =>
    intro T hT
    obtain rfl : T = M := by omega
    have hl := hup_len n T
    have hb : 4 * (T + 1) * (T + 1 + 1) ≤ 2004 * 502 := Nat.mul_le_mul (by omega) (by omega)
    exact Ev.step (f := fun _ => some ((hup n T).reverse, true)) (fun k => impl_hol_out k hM (fun h => absurd (Int.ofNat_le.1 h) (by omega)) (hup_dec n T) (by omega) (by omega)) (Ev.now _)
  | succ d ih =>
    intro T hT
    have hl := hup_len n T
    have hb : 4 * (T + 1) * (T + 1 + 1) ≤ 2000 * 501 := Nat.mul_le_mul (by omega) (by omega)
    by_cases c : 4 * (T + 1) * (T + 1 + 1) ≤ n
    · have hr := ih (T + 1) (by omega)
      by_cases c2 : n % (4 * (T + 1)) = 0
      · have er : hup n (T + 1) = hup n T ++ [[((n / (4 * (T + 1)) + (T + 1) : Nat) : Int), ((T + 1 : Nat) : Int)]] := by
          show hup n T ++ hrow n (T + 1) = _
          unfold hrow
          rw [if_pos ⟨c, c2⟩]
        rw [er] at hr
        exact Ev.step (fun k => impl_hol_push k (by omega) hn (Int.ofNat_le.2 c) (by rw [c2]; rfl) (by omega) (by omega)) hr
      · have er : hup n (T + 1) = hup n T := by
          show hup n T ++ hrow n (T + 1) = _
          unfold hrow
          rw [if_neg (fun h => c2 h.2), List.append_nil]
        rw [er] at hr
        exact Ev.step (fun k => impl_hol_skip k (by omega) (Int.ofNat_le.2 c) (fun h => c2 (Int.ofNat_inj.1 h)) (by omega)) hr
    · have e5 : M = T + (d + 1) := by omega
      have es : hup n M = hup n T := by
        rw [e5]
        exact hup_stop (by omega) (d + 1)
      rw [es]
      exact Ev.step (f := fun _ => some ((hup n T).reverse, true)) (fun k => impl_hol_out k (by omega) (fun h => c (Int.ofNat_le.1 h)) (hup_dec n T) (by omega) (by omega)) (Ev.now _)
section
variable {n m T : Nat} {l : List (List Int)}
theorem spec_hol_q (hn : n ≤ 1000000) (hm : n = 4 * m) : wrap64 (Int.tdiv (n : Int) 4) = (m : Int) := by
  have t1 : Int.tdiv (n : Int) 4 = ((n / 4 : Nat) : Int) := rfl
  have e4 : n / 4 = m := by omega
  rw [t1, e4]
  exact wq (by omega)
theorem spec_hol_skip1 (k : Nat) (hn : n ≤ 1000000) (hm : n = 4 * m) (hT : T ≤ 1000000) (p3 : ¬ ((m % (T + 1) : Nat) : Int) = 0) :
    spec_HollowsOf.l0 (k + 1) n l ((T + 1 : Nat) : Int) = spec_HollowsOf.l0 k n l (T : Int) := by
  have t2 : Int.tmod (m : Int) ((T + 1 : Nat) : Int) = ((m % (T + 1) : Nat) : Int) := rfl
  rw [spec_HollowsOf.l0, if_pos (by omega), if_neg (by omega), spec_hol_q hn hm, t2, hwp hT, if_neg p3]
theorem spec_hol_skip2 (k : Nat) (hn : n ≤ 1000000) (hm : n = 4 * m) (hT : T ≤ 1000000) (p3 : ((m % (T + 1) : Nat) : Int) = 0) (p4 : ¬ ((m / (T + 1) + (T + 1) : Nat) : Int) > ((2 * (T + 1) : Nat) : Int)) (hT2 : T + 1 ≤ 1000000) :
    spec_HollowsOf.l0 (k + 1) n l ((T + 1 : Nat) : Int) = spec_HollowsOf.l0 k n l (T : Int) := by
  have t2 : Int.tmod (m : Int) ((T + 1 : Nat) : Int) = ((m % (T + 1) : Nat) : Int) := rfl
  have t3 : Int.tdiv (m : Int) ((T + 1 : Nat) : Int) = ((m / (T + 1) : Nat) : Int) := rfl
  have hd : m / (T + 1) ≤ m := Nat.div_le_self _ _
  have b1 : m / (T + 1) ≤ 1000000000000 := Nat.le_trans hd (by omega)
  have b2 : m / (T + 1) + (T + 1) ≤ 1000000000000 := Nat.le_trans (Nat.add_le_add_right hd _) (by omega)
  have p1 : ((T + 1 : Nat) : Int) > 0 := by omega
  have p2 : ¬ ((T + 1 : Nat) : Int) = 0 := by omega
  rw [spec_HollowsOf.l0, if_pos p1, if_neg p2, spec_hol_q hn hm, t2, t3, wq b1, wqa b2, hw2 hT2, hwp hT, if_pos p3, if_neg p4]
theorem spec_hol_push (k : Nat) (hn : n ≤ 1000000) (hm : n = 4 * m) (hT : T ≤ 1000000) (p3 : ((m % (T + 1) : Nat) : Int) = 0) (p4 : ((m / (T + 1) + (T + 1) : Nat) : Int) > ((2 * (T + 1) : Nat) : Int)) (hT2 : T + 1 ≤ 1000000) (p5 : l.length < 5864062014805) :
    spec_HollowsOf.l0 (k + 1) n l ((T + 1 : Nat) : Int) = spec_HollowsOf.l0 k n (l ++ [[((m / (T + 1) + (T + 1) : Nat) : Int), ((T + 1 : Nat) : Int)]]) (T : Int) := by
  have t2 : Int.tmod (m : Int) ((T + 1 : Nat) : Int) = ((m % (T + 1) : Nat) : Int) := rfl
  have t3 : Int.tdiv (m : Int) ((T + 1 : Nat) : Int) = ((m / (T + 1) : Nat) : Int) := rfl
  have hd : m / (T + 1) ≤ m := Nat.div_le_self _ _
  have b1 : m / (T + 1) ≤ 1000000000000 := Nat.le_trans hd (by omega)
  have b2 : m / (T + 1) + (T + 1) ≤ 1000000000000 := Nat.le_trans (Nat.add_le_add_right hd _) (by omega)
  have p1 : ((T + 1 : Nat) : Int) > 0 := by omega
  have p2 : ¬ ((T + 1 : Nat) : Int) = 0 := by omega
  rw [spec_HollowsOf.l0, if_pos p1, if_neg p2, spec_hol_q hn hm, t2, t3, wq b1, wqa b2, hw2 hT2, hwp hT, if_pos p3, if_pos p4, if_pos p5]
end
theorem spec_hol_l0 (n m : Nat) (hn : n ≤ 1000000) (hm : n = 4 * m) : ∀ (T : Nat) (out : List (List Int)), T ≤ m → out.length + T ≤ 1000000 → Ev (fun k => spec_HollowsOf.l0 k n out (T : Int)) (out ++ (hup n T).reverse, true) := by
  intro T
  induction T with
  | zero =>
    intro out h1 h2
    refine Ev.step (f := fun _ => some (out, true)) (fun k => by rw [spec_HollowsOf.l0, if_neg (by simp)]) ?_
    simpa [hup] using Ev.now (out, true)
  | succ T ih =>
    intro out h1 h2
    have q1 : n % (4 * (T + 1)) = 4 * (m % (T + 1)) := by rw [hm, Nat.mul_mod_mul_left]
    have q2 : n / (4 * (T + 1)) = m / (T + 1) := by rw [hm, Nat.mul_div_mul_left _ _ (by omega)]
    have hrev : ∀ r, hrow n (T + 1) = r → (hup n (T + 1)).reverse = r ++ (hup n T).reverse := fun r hr => by
      show (hup n T ++ hrow n (T + 1)).reverse = _
      rw [List.reverse_append, hrow_rev, hr]
    by_cases c1 : m % (T + 1) = 0
    · have hmd : m = (T + 1) * (m / (T + 1)) := by
        have := Nat.div_add_mod m (T + 1)
        omega
      have p3 : ((m % (T + 1) : Nat) : Int) = 0 := by rw [c1]; rfl
      by_cases c2 : m / (T + 1) + (T + 1) > 2 * (T + 1)
      · have hle : 4 * (T + 1) * (T + 1 + 1) ≤ n := by
          have : (T + 1) * (T + 1 + 1) ≤ (T + 1) * (m / (T + 1)) := Nat.mul_le_mul_left _ (by omega)
          rw [← hmd] at this
          rw [Nat.mul_assoc, hm]
          omega
        have er : hrow n (T + 1) = [[((m / (T + 1) + (T + 1) : Nat) : Int), ((T + 1 : Nat) : Int)]] := by
          unfold hrow
          rw [if_pos ⟨hle, by omega⟩, q2]
        have hr := ih (out ++ [[((m / (T + 1) + (T + 1) : Nat) : Int), ((T + 1 : Nat) : Int)]]) (by omega) (by simp; omega)
        rw [List.append_assoc, ← hrev _ er] at hr
        exact Ev.step (fun k => spec_hol_push k hn hm (by omega) p3 (Int.ofNat_lt.2 c2) (by omega) (by omega)) hr
      · have er : hrow n (T + 1) = [] := by
          unfold hrow
          rw [if_neg]
          rintro ⟨h3, _⟩
          rw [Nat.mul_assoc, hm] at h3
          have h4 : (T + 1) * (T + 1 + 1) ≤ m := by omega
          have h5 : (T + 1) * (T + 1 + 1) ≤ (T + 1) * (m / (T + 1)) := by rw [← hmd]; exact h4
          have := Nat.le_of_mul_le_mul_left h5 (by omega)
          omega
        have hr := ih out (by omega) (by omega)
        have e0 := hrev _ er
        rw [List.nil_append] at e0
        rw [← e0] at hr
        exact Ev.step (fun k => spec_hol_skip2 k hn hm (by omega) p3 (fun h => c2 (Int.ofNat_lt.1 h)) (by omega)) hr
    · have er : hrow n (T + 1) = [] := by
        unfold hrow
        rw [if_neg]
        rintro ⟨_, h3⟩
        omega
      have hr := ih out (by omega) (by omega)
      have e0 := hrev _ er
      rw [List.nil_append] at e0
      rw [← e0] at hr
      exact Ev.step (fun k => spec_hol_skip1 k hn hm (by omega) (fun h => c1 (Int.ofNat_inj.1 h))) hr
theorem hol_list (n M : Nat) (h1 : 1 ≤ n) (h2 : n ≤ 1000000) (hM : M ≤ 500) (hM2 : n < 4 * (M + 1) * (M + 1 + 1)) : Ev (fun k => spec_HollowsOf.f k (n : Int)) ((hup n M).reverse, true) ∧ Ev (fun k => impl_HollowsOf.f k (n : Int)) ((hup n M).reverse, true) := by
  have hb : impl_isSoldiers.f (n : Int) = some true := by
    unfold impl_isSoldiers.f impl_in.f
    rw [if_pos (by omega)]
    simp
    omega
  constructor
  · unfold spec_HollowsOf.f
    simp only [soldiers_eq, hb, Option.bind_some, if_true]
    have t0 : Int.tmod (n : Int) 4 = ((n % 4 : Nat) : Int) := rfl
    by_cases c : n % 4 = 0
    · have hr := spec_hol_l0 n (n / 4) h2 (by omega) (n / 4) [] (by omega) (by simp; omega)
      have e : hup n (n / 4) = hup n M := by
        rcases Nat.lt_or_ge (n / 4) M with h | h
        · have hq : n < 4 * (n / 4 + 1) * (n / 4 + 1 + 1) := by
            have : 4 * (n / 4 + 1) * 1 ≤ 4 * (n / 4 + 1) * (n / 4 + 1 + 1) := Nat.mul_le_mul_left _ (by omega)
            omega
          have e5 : M = n / 4 + (M - n / 4) := by omega
          rw [e5]
          exact (hup_stop hq (M - n / 4)).symm
        · have e5 : n / 4 = M + (n / 4 - M) := by omega
          rw [e5]
          exact hup_stop hM2 (n / 4 - M)
      rw [List.nil_append, e] at hr
      have hq := spec_hol_q (m := n / 4) h2 (by omega)
      have p : ((n % 4 : Nat) : Int) = 0 := by rw [c]; rfl
      refine Ev.congr (fun k => ?_) hr
      rw [t0, if_pos p, hq]
    · have e : hup n M = [] := by
        rcases hh : hup n M with _ | ⟨r, rest⟩
        · rfl
        · exfalso
          have hm : r ∈ hup n M := by rw [hh]; exact List.mem_cons_self ..
          obtain ⟨t, _, _, _, h4, _⟩ := mem_hup hm
          have := Nat.mod_mul_right_mod n 4 t
          rw [h4] at this
          omega
      rw [e]
      have p : ¬ ((n % 4 : Nat) : Int) = 0 := fun h => c (Int.ofNat_inj.1 h)
      refine Ev.congr (f := fun _ => some (([] : List (List Int)).reverse, true)) (fun k => ?_) (Ev.now _)
      rw [t0, if_neg p]
      rfl
  · unfold impl_HollowsOf.f
    simp only [hb, Option.bind_some, if_true]
    exact impl_hol_l0 n M h2 hM hM2 M 0 (by omega)
theorem hol_both (a0 : Int) : ∃ r b, Ev (fun k => spec_HollowsOf.f k a0) (r, b) ∧ Ev (fun k => impl_HollowsOf.f k a0) (r, b) ∧ r.length ≤ 500 ∧ ∀ x ∈ r, x.length = 2 := by
  obtain ⟨b, hb, h⟩ := soldiers_some a0
  cases b with
  | false =>
    unfold spec_HollowsOf.f impl_HollowsOf.f
    simp only [soldiers_eq, hb, Option.bind_some]
    exact ⟨[], false, by simpa using Ev.now _, by simpa using Ev.now _, by simp, by simp⟩
  | true =>
    obtain ⟨n, rfl, h1, h2⟩ := h rfl
    obtain ⟨M, hM⟩ : ∃ M : Nat, M = 500 := ⟨_, rfl⟩
    obtain ⟨hs, hi⟩ := hol_list n M h1 h2 (by omega) (by subst hM; omega)
    have hl := hup_len n M
    refine ⟨_, true, hs, hi, by rw [List.length_reverse]; omega, fun x hx => ?_⟩
    obtain ⟨t, _, _, _, _, rfl⟩ := mem_hup (List.mem_reverse.1 hx)
    rfl
theorem FnExactHollowsOf : ∀ (a0 : Int), (Lit.int .i64 a0).wf = true → ∃ k, laws_FnExactHollowsOf.f k a0 = some true := by
  intro a0 w0
  refine Ev.rounds (r := true) ?_
  unfold laws_FnExactHollowsOf.f
  obtain ⟨r, b, hs, hi, hl, hx⟩ := hol_both a0
  have ht : totalLen r ≤ r.length * 2 := totalLen_le r 2 (fun x h => by rw [hx x h]; omega)
  refine Ev.bind hs (Ev.bind hi (Ev.bind (markSS_ok r (by omega) (by omega)) (Ev.bind (eqIntSS_self r (fun x h => by rw [hx x h]; omega) (by omega)) (Ev.bind (heldSS_ok r (by omega) (by omega)) ?_))))
  refine Ev.congr (fun k => ?_) (Ev.now true)
  rw [if_pos rfl, if_pos rfl, if_pos (by omega), if_pos rfl]

end Go.Proofs.Yteekggogodjffaa.Pure
