/- For every number of 64 bits, the program's SquareTriangles answers what the reference's does, and its memory is its own. -/
import Derived.Test.YtollpomnfpkaeaaPFnExactSquareTrianglesx2
namespace Go.Proofs.Ytollpomnfpkaeaa.Pure
open Go.RowKit Go.Proofs.Ytollpomnfpkaeaa.PFnExactSquareTriangles Go.Proofs.YtollpomnfpkaeaaW.PrintWords Go.Proofs.YtollpomnfpkaeaaW.PrintLast
set_option linter.unusedVariables false
set_option linter.unusedSimpArgs false

theorem w64 {x : Int} (h1 : -9223372036854775808 ≤ x) (h2 : x ≤ 9223372036854775807) : wrap64 x = x := by
  unfold wrap64
  omega
theorem wf_lo {a : Int} (h : (Lit.int .i64 a).wf = true) : -9223372036854775808 ≤ a := by
  have h' : IntKind.i64.min ≤ a ∧ a ≤ IntKind.i64.max := by simpa [Lit.wf] using h
  have e : IntKind.i64.min = -9223372036854775808 := by decide
  omega
theorem wf_hi {a : Int} (h : (Lit.int .i64 a).wf = true) : a ≤ 9223372036854775807 := by
  have h' : IntKind.i64.min ≤ a ∧ a ≤ IntKind.i64.max := by simpa [Lit.wf] using h
  have e : IntKind.i64.max = 9223372036854775807 := by decide
  omega
theorem ev_congr_fun {α : Type} {g f : Nat → Option α} {r : α} (h : g = f) (k : Ev f r) : Ev g r := h ▸ k
theorem rd_mid (pre : List Int) (x : Int) (rest : List Int) : rd (pre ++ x :: rest) (pre.length : Int) = x := by
  simp [rd]
theorem eqIntS_l0 (l : List Int) (hl : l.length ≤ 1000000000000000000) (d : Nat) : ∀ i : Int, 0 ≤ i → (l.length : Int) - i = d → Ev (fun k => laws_eqIntS.l0 k l l i) true := by
  induction d with
  | zero =>
    intro i h0 hd
    exact Ev.step (f := fun _ => some true) (fun k => by rw [laws_eqIntS.l0]; rw [if_neg (by omega)]) (Ev.now _)
  | succ d ih =>
    intro i h0 hd
    refine Ev.step (f := fun k => laws_eqIntS.l0 k l l (i + 1)) (fun k => ?_) (ih (i + 1) (by omega) (by omega))
    rw [laws_eqIntS.l0]
    rw [if_pos (by omega), if_pos h0, if_pos (by omega), if_pos rfl, w64 (by omega) (by omega)]
theorem eqIntS_self (l : List Int) (hl : l.length ≤ 1000000000000000000) : Ev (fun k => laws_eqIntS.f k l l) true :=
  Ev.congr (fun k => by unfold laws_eqIntS.f; rw [if_pos rfl]) (eqIntS_l0 l hl l.length 0 (by omega) (by omega))
def marksFrom (v : Int) : Nat → List Int
  | 0 => []
  | n + 1 => v :: marksFrom (v + 1) n
theorem marksFrom_length (n : Nat) : ∀ v, (marksFrom v n).length = n := by
  induction n with
  | zero => intro v; rfl
  | succ n ih => intro v; simp [marksFrom, ih]
theorem mark_l0 (rest : List Int) : ∀ (pre : List Int) (v : Int), 0 ≤ v → v + rest.length ≤ 1000000000000000000 → pre.length + rest.length ≤ 1000000000000000000 →
    Ev (fun k => laws_markIntS.l0 k (pre ++ rest) v pre.length) (v + rest.length, pre ++ marksFrom v rest.length) := by
  induction rest with
  | nil =>
    intro pre v h0 hv hl
    exact Ev.step (f := fun _ => some (v, pre)) (fun k => by rw [laws_markIntS.l0]; rw [if_neg (by simp)]; simp) (by simpa [marksFrom] using Ev.now (v, pre))
  | cons x rest ih =>
    intro pre v h0 hv hl
    simp only [List.length_cons] at hv hl
    refine Ev.step (f := fun k => laws_markIntS.l0 k ((pre ++ [v]) ++ rest) (v + 1) ((pre ++ [v]).length : Nat)) (fun k => ?_) ?_
    · rw [laws_markIntS.l0]
      rw [if_pos (by simp; omega), if_pos (by omega), w64 (by omega) (by omega), w64 (by omega) (by omega)]
      simp
    · have := ih (pre ++ [v]) (v + 1) (by omega) (by omega) (by simp; omega)
      have e1 : v + 1 + (rest.length : Int) = v + ((x :: rest).length : Nat) := by simp; omega
      have e2 : (pre ++ [v]) ++ marksFrom (v + 1) rest.length = pre ++ marksFrom v (x :: rest).length := by simp [marksFrom]
      rw [e1, e2] at this
      exact this
theorem held_l0 (n : Nat) : ∀ (pre : List Int) (v : Int), 0 ≤ v → v + n ≤ 1000000000000000000 → pre.length + n ≤ 1000000000000000000 →
    Ev (fun k => laws_heldIntS.l0 k (pre ++ marksFrom v n) v pre.length) (v + n) := by
  induction n with
  | zero =>
    intro pre v h0 hv hl
    exact Ev.step (f := fun _ => some v) (fun k => by rw [laws_heldIntS.l0, marksFrom]; rw [if_neg (by simp)]) (by simpa using Ev.now v)
  | succ n ih =>
    intro pre v h0 hv hl
    refine Ev.step (f := fun k => laws_heldIntS.l0 k ((pre ++ [v]) ++ marksFrom (v + 1) n) (v + 1) ((pre ++ [v]).length : Nat)) (fun k => ?_) ?_
    · rw [laws_heldIntS.l0, marksFrom]
      rw [if_pos (by simp; omega), if_pos (by omega), if_pos (rd_mid _ _ _), w64 (by omega) (by omega), w64 (by omega) (by omega)]
      simp
    · have := ih (pre ++ [v]) (v + 1) (by omega) (by omega) (by simp; omega)
      have e1 : v + 1 + (n : Int) = v + ((n + 1 : Nat) : Int) := by omega
      rw [e1] at this
      exact this
theorem mark_ok (l : List Int) (hl : l.length ≤ 100000000000000000) : Ev (fun k => laws_markIntS.f k l 1) (1 + (l.length : Int), marksFrom 1 l.length) := by
  have := mark_l0 l [] 1 (by omega) (by omega) (by simp; omega)
  simpa [laws_markIntS.f] using this
theorem held_ok (n : Nat) (hl : n ≤ 100000000000000000) : Ev (fun k => laws_heldIntS.f k (marksFrom 1 n) 1) (1 + (n : Int)) := by
  have := held_l0 n [] 1 (by omega) (by omega) (by simp; omega)
  simpa [laws_heldIntS.f] using this
theorem impl_root_l0 (n r : Nat) (hn : n ≤ 1000000000000) (h1 : r * r ≤ n) (h2 : n < (r + 1) * (r + 1)) (hr : r ≤ 1000000) (d : Nat) : ∀ x : Nat, x + d = r → Ev (fun k => impl_rootOf.l0 k n x) (r : Int) := by
  induction d with
  | zero =>
    intro x hx
    obtain rfl : x = r := by omega
    refine Ev.step (f := fun _ => some (x : Int)) (fun k => ?_) (Ev.now _)
    have e : ((x : Int) + 1) * ((x : Int) + 1) = (((x + 1) * (x + 1) : Nat) : Int) := by simp
    have hb : (x + 1) * (x + 1) ≤ 1000001 * 1000001 := Nat.mul_le_mul (by omega) (by omega)
    rw [impl_rootOf.l0, w64 (x := (x : Int) + 1) (by omega) (by omega), e, w64 (by omega) (by omega), if_neg (by omega)]
  | succ d ih =>
    intro x hx
    refine Ev.step (f := fun k => impl_rootOf.l0 k n ((x + 1 : Nat) : Int)) (fun k => ?_) (ih (x + 1) (by omega))
    have e : ((x : Int) + 1) * ((x : Int) + 1) = (((x + 1) * (x + 1) : Nat) : Int) := by simp
    have hb : (x + 1) * (x + 1) ≤ r * r := Nat.mul_le_mul (by omega) (by omega)
    rw [impl_rootOf.l0, w64 (x := (x : Int) + 1) (by omega) (by omega), e, w64 (by omega) (by omega), if_pos (by omega)]
    rfl
theorem impl_root_ok {n r : Nat} (hn : n ≤ 1000000000000) (h1 : r * r ≤ n) (h2 : n < (r + 1) * (r + 1)) : Ev (fun k => impl_rootOf.f k n) (r : Int) := by
  have hr : r ≤ 1000000 := by
    refine Nat.le_of_not_lt fun h => ?_
    have : 1000001 * 1000001 ≤ r * r := Nat.mul_le_mul h h
    omega
  exact impl_root_l0 n r hn h1 h2 hr r 0 (by omega)
theorem soldiers_eq (a0 : Int) : spec_foSoldiers.f a0 = impl_isSoldiers.f a0 := by
  unfold spec_foSoldiers.f impl_isSoldiers.f spec_l1In.f impl_in.f
  rfl
theorem soldiers_some (a0 : Int) : ∃ b, impl_isSoldiers.f a0 = some b ∧ (b = true → ∃ n : Nat, a0 = n ∧ 1 ≤ n ∧ n ≤ 1000000) := by
  unfold impl_isSoldiers.f impl_in.f
  by_cases h1 : 1 ≤ a0
  · by_cases h2 : a0 ≤ 1000000
    · refine ⟨true, by simp [h1, h2], fun _ => ?_⟩
      obtain ⟨n, rfl⟩ := Int.eq_ofNat_of_zero_le (show 0 ≤ a0 by omega)
      exact ⟨n, rfl, by omega, by omega⟩
    · exact ⟨false, by simp [h1, h2], by simp⟩
  · exact ⟨false, by simp [h1], by simp⟩
def tri (n : Nat) : Nat := n * (n + 1) / 2
theorem tri_succ (n : Nat) : tri (n + 1) = tri n + (n + 1) := by
  unfold tri
  have : (n + 1) * (n + 1 + 1) = n * (n + 1) + 2 * (n + 1) := by grind
  omega
theorem tri_double (n : Nat) : 2 * tri n = n * (n + 1) := by
  induction n with
  | zero => rfl
  | succ n ih =>
    rw [tri_succ, Nat.mul_add, ih]
    grind
theorem tri_mono {a b : Nat} (h : a ≤ b) : tri a ≤ tri b := by
  induction h with
  | refl => exact Nat.le_refl _
  | step _ ih => rw [tri_succ]; omega
def cand : List Nat := [1, 36, 1225, 41616]
def upto (x : Nat) : List Nat := cand.filter (· < x)
def bs (n : Nat) (g : Nat → Nat) : Nat → Nat → Nat → Nat
  | 0, lo, _ => lo
  | f + 1, lo, hi => if g ((lo + hi) / 2) ≤ n then bs n g f ((lo + hi) / 2) hi else bs n g f lo ((lo + hi) / 2)
def sqRoot (n : Nat) : Nat := bs n (fun x => x * x) 12 0 4096
def triRoot (n : Nat) : Nat := bs n tri 12 0 4096
def checkT (r : Nat) : Bool := decide (sqRoot (tri r) * sqRoot (tri r) ≤ tri r) && decide (tri r < (sqRoot (tri r) + 1) * (sqRoot (tri r) + 1)) && (upto (tri (r + 1)) == upto (tri r) ++ (if sqRoot (tri r) * sqRoot (tri r) = tri r then [tri r] else []))
def checkS (s : Nat) : Bool := decide (tri (triRoot (s * s)) ≤ s * s) && decide (s * s < tri (triRoot (s * s) + 1)) && (upto ((s + 1) * (s + 1)) == upto (s * s) ++ (if tri (triRoot (s * s)) = s * s then [s * s] else []))
theorem checkT_all : ((List.range 1415).all fun r => checkT (r + 1)) = true := by decide +kernel
theorem checkS_all : ((List.range 1001).all fun r => checkS (r + 1)) = true := by decide +kernel
theorem checkT_at {r : Nat} (h1 : 1 ≤ r) (h : r ≤ 1415) : ∃ q, q * q ≤ tri r ∧ tri r < (q + 1) * (q + 1) ∧ upto (tri (r + 1)) = upto (tri r) ++ (if q * q = tri r then [tri r] else []) := by
  have := List.all_eq_true.1 checkT_all (r - 1) (by simp; omega)
  rw [show r - 1 + 1 = r by omega] at this
  unfold checkT at this
  simp only [Bool.and_eq_true, decide_eq_true_eq, beq_iff_eq] at this
  exact ⟨_, this.1.1, this.1.2, this.2⟩
theorem checkS_at {r : Nat} (h1 : 1 ≤ r) (h : r ≤ 1001) : ∃ q, tri q ≤ r * r ∧ r * r < tri (q + 1) ∧ upto ((r + 1) * (r + 1)) = upto (r * r) ++ (if tri q = r * r then [r * r] else []) := by
  have := List.all_eq_true.1 checkS_all (r - 1) (by simp; omega)
  rw [show r - 1 + 1 = r by omega] at this
  unfold checkS at this
  simp only [Bool.and_eq_true, decide_eq_true_eq, beq_iff_eq] at this
  exact ⟨_, this.1.1, this.1.2, this.2⟩
theorem upto_len (x : Nat) : (upto x).length ≤ 4 := by
  have := List.length_filter_le (fun y => decide (y < x)) cand
  simpa [upto, cand] using this
theorem tri_f (r : Nat) (h : r ≤ 2000000) : impl_triangle.f (r : Int) = some ((tri r : Nat) : Int) := by
  unfold impl_triangle.f
  have hb : r * (r + 1) ≤ 2000000 * 2000001 := Nat.mul_le_mul (by omega) (by omega)
  have e : (r : Int) * ((r : Int) + 1) = ((r * (r + 1) : Nat) : Int) := by simp
  have e2 : Int.tdiv ((r * (r + 1) : Nat) : Int) 2 = ((tri r : Nat) : Int) := rfl
  have hd := tri_double r
  rw [w64 (x := (r : Int) + 1) (by omega) (by omega), e, w64 (x := ((r * (r + 1) : Nat) : Int)) (by omega) (by omega), e2, w64 (by omega) (by omega)]
theorem impl_sq_l0 {most : Nat} (hm : most ≤ 1000000) (d : Nat) : ∀ r : Nat, 1 ≤ r → r + d = 1415 → (1 < r → tri (r - 1) ≤ most) →
    Ev (fun k => impl_SquareTriangles.l0 k most ((upto (tri r)).map Int.ofNat) r) ((upto (most + 1)).map Int.ofNat, true) := by
  induction d with
  | zero =>
    intro r h1 hr hlt
    exfalso
    have := hlt (by omega)
    have e : tri (r - 1) = 1000405 := by rw [show r - 1 = 1414 by omega]; rfl
    omega
  | succ d ih =>
    intro r h1 hr hlt
    obtain ⟨q, hq1, hq2, hq3⟩ := checkT_at h1 (by omega)
    have hbt : tri r ≤ tri 1415 := tri_mono (by omega)
    have e1415 : tri 1415 = 1001820 := rfl
    have hq : q ≤ 1001 := by
      refine Nat.le_of_not_lt fun h => ?_
      have : 1002 * 1002 ≤ q * q := Nat.mul_le_mul h h
      omega
    by_cases hc : tri r ≤ most
    · have hrec := ih (r + 1) (by omega) (by omega) (fun _ => by rw [Nat.add_sub_cancel]; exact hc)
      refine Ev.step (f := fun k => (impl_rootOf.f k ((tri r : Nat) : Int)).bind fun t119 => (if (wrap64 (t119 * t119)) = ((tri r : Nat) : Int) then (if ((upto (tri r)).map Int.ofNat).length < 17592186044416 then (impl_SquareTriangles.l0 k most (((upto (tri r)).map Int.ofNat) ++ [((tri r : Nat) : Int)]) (wrap64 ((r : Int) + 1))) else (none)) else (impl_SquareTriangles.l0 k most ((upto (tri r)).map Int.ofNat) (wrap64 ((r : Int) + 1))))) (fun k => ?_) ?_
      · rw [impl_SquareTriangles.l0, tri_f r (by omega)]
        simp only [Option.bind_some]
        rw [if_pos (by omega)]
      · refine Ev.bind (impl_root_ok (by omega) hq1 hq2) ?_
        have e : (q : Int) * (q : Int) = ((q * q : Nat) : Int) := by simp
        have hqq : q * q ≤ 1001 * 1001 := Nat.mul_le_mul hq hq
        have er : wrap64 ((r : Int) + 1) = ((r + 1 : Nat) : Int) := by rw [w64 (by omega) (by omega)]; rfl
        have hlen := upto_len (tri r)
        refine Ev.congr (fun k => ?_) hrec
        rw [e, w64 (by omega) (by omega), er, hq3]
        by_cases hs : q * q = tri r
        · rw [if_pos (by omega), if_pos (by simp; omega), if_pos hs]
          simp
        · rw [if_neg (by omega), if_neg hs]
          simp
    · have e : upto (tri r) = upto (most + 1) := by
        unfold upto
        refine List.filter_congr fun c hcm => ?_
        by_cases h1r : r = 1
        · subst h1r
          have : tri 1 = 1 := rfl
          have h0 : most = 0 := by omega
          subst h0
          rfl
        · have hp := hlt (by omega)
          obtain ⟨q', _, _, h3⟩ := checkT_at (r := r - 1) (by omega) (by omega)
          rw [show r - 1 + 1 = r by omega] at h3
          have iff : c < tri r → c ≤ tri (r - 1) := fun hlt' => by
            have hmem : c ∈ upto (tri r) := List.mem_filter.2 ⟨hcm, by simpa using hlt'⟩
            rw [h3] at hmem
            rcases List.mem_append.1 hmem with h | h
            · have := (List.mem_filter.1 h).2
              simp at this
              omega
            · by_cases hs : q' * q' = tri (r - 1)
              · rw [if_pos hs] at h
                simp at h
                omega
              · rw [if_neg hs] at h
                simp at h
          by_cases h4 : c < tri r
          · have := iff h4
            simp [h4]
            omega
          · simp [h4]
            omega
      refine Ev.step (f := fun _ => some ((upto (tri r)).map Int.ofNat, true)) (fun k => ?_) (by rw [e]; exact Ev.now _)
      rw [impl_SquareTriangles.l0, tri_f r (by omega)]
      simp only [Option.bind_some]
      rw [if_neg (by omega)]
theorem fo_tri_l0 (n r : Nat) (hn : n ≤ 1000000000000) (h1 : tri r ≤ n) (h2 : n < tri (r + 1)) (d : Nat) : ∀ x : Nat, x + d = r → Ev (fun k => spec_foTriangle.l0 k ((n - tri x : Nat) : Int) x) ((r : Int), ((n - tri r : Nat) : Int)) := by
  have hr : r ≤ 2 * n := by
    have := tri_double r
    have : r ≤ r * (r + 1) := Nat.le_mul_of_pos_right r (by omega)
    omega
  induction d with
  | zero =>
    intro x hx
    obtain rfl : x = r := by omega
    refine Ev.step (f := fun _ => some ((x : Int), ((n - tri x : Nat) : Int))) (fun k => ?_) (Ev.now _)
    rw [tri_succ] at h2
    rw [spec_foTriangle.l0, if_neg (by omega)]
  | succ d ih =>
    intro x hx
    have hx2 : tri (x + 1) ≤ tri r := tri_mono (by omega)
    have hts := tri_succ x
    refine Ev.step (f := fun k => spec_foTriangle.l0 k ((n - tri (x + 1) : Nat) : Int) ((x + 1 : Nat) : Int)) (fun k => ?_) (ih (x + 1) (by omega))
    have e : (((n - tri x : Nat) : Int) - ((x : Int) + 1)) = ((n - tri (x + 1) : Nat) : Int) := by omega
    rw [spec_foTriangle.l0, if_pos (by omega), w64 (x := (x : Int) + 1) (by omega) (by omega), e, w64 (by omega) (by omega)]
    rfl
theorem fo_tri_ok {n r : Nat} (hn : n ≤ 1000000000000) (h1 : tri r ≤ n) (h2 : n < tri (r + 1)) : Ev (fun k => spec_foTriangle.f k n) ((r : Int), ((n - tri r : Nat) : Int)) := by
  have := fo_tri_l0 n r hn h1 h2 r 0 (by omega)
  exact this
theorem spec_sq_l0 {most : Nat} (hm : most ≤ 1000000) (d : Nat) : ∀ r : Nat, 1 ≤ r → r + d = 1001 → (1 < r → (r - 1) * (r - 1) ≤ most) →
    Ev (fun k => spec_SquareTriangles.l0 k most ((upto (r * r)).map Int.ofNat) r) ((upto (most + 1)).map Int.ofNat, true) := by
  have hend : ∀ r : Nat, 1 ≤ r → r ≤ 1001 → (1 < r → (r - 1) * (r - 1) ≤ most) → ¬ r * r ≤ most → Ev (fun k => spec_SquareTriangles.l0 k most ((upto (r * r)).map Int.ofNat) r) ((upto (most + 1)).map Int.ofNat, true) := by
    intro r h1 hr hlt hc
    have e : upto (r * r) = upto (most + 1) := by
      unfold upto
      refine List.filter_congr fun c hcm => ?_
      by_cases h1r : r = 1
      · subst h1r
        have h0 : most = 0 := by omega
        subst h0
        rfl
      · have hp := hlt (by omega)
        obtain ⟨q', _, _, h3⟩ := checkS_at (r := r - 1) (by omega) (by omega)
        rw [show r - 1 + 1 = r by omega] at h3
        have iff : c < r * r → c ≤ (r - 1) * (r - 1) := fun hlt' => by
          have hmem : c ∈ upto (r * r) := List.mem_filter.2 ⟨hcm, by simpa using hlt'⟩
          rw [h3] at hmem
          rcases List.mem_append.1 hmem with h | h
          · have := (List.mem_filter.1 h).2
            simp at this
            omega
          · by_cases hs : tri q' = (r - 1) * (r - 1)
            · rw [if_pos hs] at h
              simp at h
              omega
            · rw [if_neg hs] at h
              simp at h
        by_cases h4 : c < r * r
        · have := iff h4
          simp [h4]
          omega
        · simp [h4]
          omega
    refine Ev.step (f := fun _ => some ((upto (r * r)).map Int.ofNat, true)) (fun k => ?_) (by rw [e]; exact Ev.now _)
    have hrr : r * r ≤ 1001 * 1001 := Nat.mul_le_mul hr hr
    have e2 : (r : Int) * (r : Int) = ((r * r : Nat) : Int) := by simp
    rw [spec_SquareTriangles.l0, e2, w64 (by omega) (by omega), if_neg (by omega)]
  induction d with
  | zero =>
    intro r h1 hr hlt
    obtain rfl : r = 1001 := by omega
    exact hend 1001 h1 (by omega) hlt (by omega)
  | succ d ih =>
    intro r h1 hr hlt
    by_cases hc : r * r ≤ most
    · obtain ⟨q, hq1, hq2, hq3⟩ := checkS_at h1 (by omega)
      have hrec := ih (r + 1) (by omega) (by omega) (fun _ => by rw [Nat.add_sub_cancel]; exact hc)
      have e2 : (r : Int) * (r : Int) = ((r * r : Nat) : Int) := by simp
      have er : wrap64 ((r : Int) + 1) = ((r + 1 : Nat) : Int) := by rw [w64 (by omega) (by omega)]; rfl
      refine Ev.step (f := fun k => (spec_foTriangle.f k ((r * r : Nat) : Int)).bind fun bt107 => (if bt107.2 = 0 then (if ((upto (r * r)).map Int.ofNat).length < 17592186044416 then (spec_SquareTriangles.l0 k most (((upto (r * r)).map Int.ofNat) ++ [((r * r : Nat) : Int)]) ((r + 1 : Nat) : Int)) else (none)) else (spec_SquareTriangles.l0 k most ((upto (r * r)).map Int.ofNat) ((r + 1 : Nat) : Int)))) (fun k => ?_) ?_
      · rw [spec_SquareTriangles.l0, e2, w64 (by omega) (by omega), if_pos (by omega), er]
      · refine Ev.bind (fo_tri_ok (by omega) hq1 hq2) ?_
        have hlen := upto_len (r * r)
        refine Ev.congr (fun k => ?_) hrec
        rw [hq3]
        by_cases hs : tri q = r * r
        · rw [if_pos (by simp; omega), if_pos (by simp; omega), if_pos hs]
          simp
        · have hne : ¬ (((r * r - tri q : Nat) : Int) = 0) := by omega
          simp only []
          rw [if_neg hne, if_neg hs]
          simp
    · exact hend r h1 (by omega) hlt hc
theorem both (a0 : Int) : ∃ r b, Ev (fun k => spec_SquareTriangles.f k a0) (r, b) ∧ Ev (fun k => impl_SquareTriangles.f k a0) (r, b) ∧ r.length ≤ 200 := by
  obtain ⟨b, hb, h⟩ := soldiers_some a0
  unfold spec_SquareTriangles.f impl_SquareTriangles.f
  simp only [soldiers_eq, hb, Option.bind_some]
  cases b with
  | false => exact ⟨[], false, by simpa using Ev.now _, by simpa using Ev.now _, by simp⟩
  | true =>
    obtain ⟨n, rfl, h1, h2⟩ := h rfl
    simp only [if_true]
    have h3 := spec_sq_l0 h2 1000 1 (by omega) (by omega) (by omega)
    have h4 := impl_sq_l0 h2 1414 1 (by omega) (by omega) (by omega)
    refine ⟨_, true, h3, h4, ?_⟩
    have := upto_len (n + 1)
    rw [List.length_map]
    omega
theorem FnExactSquareTriangles : laws_FnExactSquareTriangles.Pure := by
  intro a0 w0
  obtain ⟨r, b, ⟨K1, hs⟩, ⟨K2, hi⟩, hl⟩ := both a0
  obtain ⟨K3, he⟩ := eqIntS_self r (by omega)
  obtain ⟨K4, hm⟩ := mark_ok r (by omega)
  obtain ⟨K5, hh⟩ := held_ok r.length (by omega)
  obtain ⟨K, e1, e2, e3, e4, e5⟩ : ∃ K, (∀ d, spec_SquareTriangles.f (K + d) a0 = some (r, b)) ∧ (∀ d, impl_SquareTriangles.f (K + d) a0 = some (r, b)) ∧ (∀ d, laws_eqIntS.f (K + d) r r = some true) ∧ (∀ d, laws_markIntS.f (K + d) r 1 = some (1 + (r.length : Int), marksFrom 1 r.length)) ∧ (∀ d, laws_heldIntS.f (K + d) (marksFrom 1 r.length) 1 = some (1 + (r.length : Int))) :=
    ⟨K1 + K2 + K3 + K4 + K5, fun d => hs _ (by omega), fun d => hi _ (by omega), fun d => he _ (by omega), fun d => hm _ (by omega), fun d => hh _ (by omega)⟩
  refine ⟨K + 4, ?_⟩
  have hn : ¬ (1 + (r.length : Int) < 0) := by omega
  simp [laws_FnExactSquareTriangles.f, laws_FnExactSquareTriangles.j0, laws_FnExactSquareTriangles.j1, e1, e2, e3, e4, e5, hn]

end Go.Proofs.Ytollpomnfpkaeaa.Pure
