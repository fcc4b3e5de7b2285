/- For whatever numbers are given, rectangles and hollow squares have just so many, full squares and triangles as many as can be, and places are told both ways. -/
import Derived.Test.YtgdmbhldabeelaaRPFnFormsStandOfAllx16
namespace Go.Proofs.YtgdmbhldabeelaaR.Pure
open Go.RowKit Go.Proofs.YtgdmbhldabeelaaR.PFnFormsStandOfAll Go.Proofs.YtgdmbhldabeelaaRW.PrintWords Go.Proofs.YtgdmbhldabeelaaRW.PrintLast
set_option linter.unusedVariables false
set_option linter.unusedSimpArgs false

theorem w64 {x : Int} (h1 : -9223372036854775808 ≤ x) (h2 : x ≤ 9223372036854775807) : wrap64 x = x := by
  unfold wrap64
  omega
theorem wf_lo {a : Int} (h : (Lit.int .i64 a).wf = true) : -9223372036854775808 ≤ a := by
  have h' : IntKind.i64.min ≤ a ∧ a ≤ IntKind.i64.max := by simpa [Lit.wf] using h
  have e : IntKind.i64.min = -9223372036854775808 := by decide
  omega
theorem wf_hi {a : Int} (h : (Lit.int .i64 a).wf = true) : a ≤ 9223372036854775807 := by
  have h' : IntKind.i64.min ≤ a ∧ a ≤ IntKind.i64.max := by simpa [Lit.wf] using h
  have e : IntKind.i64.max = 9223372036854775807 := by decide
  omega
theorem ev_congr_fun {α : Type} {g f : Nat → Option α} {r : α} (h : g = f) (k : Ev f r) : Ev g r := h ▸ k
theorem rd_mid (pre : List Int) (x : Int) (rest : List Int) : rd (pre ++ x :: rest) (pre.length : Int) = x := by
  simp [rd]
def Gd (P : Nat → Nat → Prop) (out : List (List Int)) (i : Nat) : Prop := (∀ x ∈ out, ∃ a b : Nat, x = [(a : Int), (b : Int)] ∧ a < i ∧ P a b) ∧ out.Pairwise (fun x y => rd x 0 < rd y 0)
theorem Gd.nil {P : Nat → Nat → Prop} {i : Nat} : Gd P [] i := ⟨(fun x hx => by cases hx), List.Pairwise.nil⟩
theorem Gd.skip {P : Nat → Nat → Prop} {out : List (List Int)} {i : Nat} (h : Gd P out i) : Gd P out (i + 1) := ⟨fun x hx => by
  obtain ⟨a, b, e, h1, h2⟩ := h.1 x hx
  exact ⟨a, b, e, by omega, h2⟩, h.2⟩
theorem Gd.push {P : Nat → Nat → Prop} {out : List (List Int)} {i b : Nat} (h : Gd P out i) (hp : P i b) : Gd P (out ++ [[(i : Int), (b : Int)]]) (i + 1) := by
  refine ⟨fun x hx => ?_, ?_⟩
  · rcases List.mem_append.1 hx with hx | hx
    · exact h.skip.1 x hx
    · exact ⟨i, b, List.mem_singleton.1 hx, by omega, hp⟩
  · refine List.pairwise_append.2 ⟨h.2, List.pairwise_singleton _ _, fun x hx y hy => ?_⟩
    obtain ⟨a, c, rfl, h1, _⟩ := h.1 x hx
    rw [List.mem_singleton.1 hy]
    exact Int.ofNat_lt.2 h1
theorem soldiers_eq (a0 : Int) : spec_foSoldiers.f a0 = impl_isSoldiers.f a0 := by
  unfold spec_foSoldiers.f impl_isSoldiers.f spec_l1In.f impl_in.f
  rfl
theorem soldiers_some (a0 : Int) : ∃ b, impl_isSoldiers.f a0 = some b ∧ (b = true → ∃ n : Nat, a0 = n ∧ 1 ≤ n ∧ n ≤ 1000000) := by
  unfold impl_isSoldiers.f impl_in.f
  by_cases h1 : 1 ≤ a0
  · by_cases h2 : a0 ≤ 1000000
    · refine ⟨true, by simp [h1, h2], fun _ => ?_⟩
      obtain ⟨n, rfl⟩ := Int.eq_ofNat_of_zero_le (show 0 ≤ a0 by omega)
      exact ⟨n, rfl, by omega, by omega⟩
    · exact ⟨false, by simp [h1, h2], by simp⟩
  · exact ⟨false, by simp [h1], by simp⟩
def RP (n a b : Nat) : Prop := 1 ≤ a ∧ a ≤ b ∧ a * b = n
theorem rect_l0 (n : Nat) (hn0 : 1 ≤ n) (hn : n ≤ 1000000) (d : Nat) : ∀ (i : Nat) (out : List (List Int)), 1 ≤ i → i + d = 1001 → out.length ≤ i → Gd (RP n) out i → (2 ≤ i → 1 ≤ out.length) →
    ∃ r, Ev (fun k => spec_RectanglesOf.l0 k n out i) (r, true) ∧ Ev (fun k => impl_RectanglesOf.l0 k n out i) (r, true) ∧ r.length ≤ 1001 ∧ 1 ≤ r.length ∧ ∃ j, Gd (RP n) r j := by
  induction d with
  | zero =>
    intro i out h1 hd ho hr hne
    obtain rfl : i = 1001 := by omega
    refine ⟨out, ?_, ?_, by omega, hne (by omega), _, hr⟩
    · exact Ev.step (f := fun _ => some (out, true)) (fun k => by rw [spec_RectanglesOf.l0, w64 (by omega) (by omega), if_neg (by omega)]) (Ev.now _)
    · exact Ev.step (f := fun _ => some (out, true)) (fun k => by rw [impl_RectanglesOf.l0, w64 (by omega) (by omega), if_neg (by omega)]) (Ev.now _)
  | succ d ih =>
    intro i out h1 hd ho hr hne
    have hb : i * i ≤ 1000 * 1000 := Nat.mul_le_mul (by omega) (by omega)
    have e : (i : Int) * i = ((i * i : Nat) : Int) := by simp
    by_cases c : i * i ≤ n
    · by_cases c2 : Int.tmod (n : Int) (i : Int) = 0
      · have hq : wrap64 (Int.tdiv (n : Int) (i : Int)) = ((n / i : Nat) : Int) := by
          have t1 : Int.tdiv (n : Int) (i : Int) = ((n / i : Nat) : Int) := rfl
          have hdv : n / i ≤ n := Nat.div_le_self _ _
          rw [t1]
          obtain ⟨q, hq⟩ : ∃ q, n / i = q := ⟨_, rfl⟩
          rw [hq] at hdv ⊢
          clear t1 hq c2 c e ih
          exact w64 (by omega) (by omega)
        have hmul : i * (n / i) = n := by
          have t1 : Int.tmod (n : Int) (i : Int) = ((n % i : Nat) : Int) := rfl
          rw [t1] at c2
          have hz : n % i = 0 := Int.ofNat_inj.1 c2
          have := Nat.div_add_mod n i
          omega
        have hle : i ≤ n / i := by
          rw [← hmul] at c
          exact Nat.le_of_mul_le_mul_left c (by omega)
        obtain ⟨r, a, b, hl, hx⟩ := ih (i + 1) (out ++ [[(i : Int), ((n / i : Nat) : Int)]]) (by omega) (by omega) (by simp; omega) (Gd.push hr ⟨h1, hle, hmul⟩) (fun _ => by simp)
        refine ⟨r, Ev.step (fun k => ?_) a, Ev.step (fun k => ?_) b, hl, hx⟩
        · rw [spec_RectanglesOf.l0, e, w64 (x := ((i * i : Nat) : Int)) (by omega) (by omega), if_pos (by omega), if_neg (by omega), if_pos c2, if_pos (by omega), hq, w64 (x := (i : Int) + 1) (by omega) (by omega)]
          rfl
        · rw [impl_RectanglesOf.l0, e, w64 (x := ((i * i : Nat) : Int)) (by omega) (by omega), if_pos (by omega), if_neg (by omega), if_pos c2, if_pos (by omega), hq, w64 (x := (i : Int) + 1) (by omega) (by omega)]
          rfl
      · obtain ⟨r, a, b, hl, hx⟩ := ih (i + 1) out (by omega) (by omega) (by omega) hr.skip (fun _ => by
          by_cases h2 : 2 ≤ i
          · exact hne h2
          · exfalso
            apply c2
            obtain rfl : i = 1 := by omega
            show ((n % 1 : Nat) : Int) = 0
            rw [Nat.mod_one]
            rfl)
        refine ⟨r, Ev.step (fun k => ?_) a, Ev.step (fun k => ?_) b, hl, hx⟩
        · rw [spec_RectanglesOf.l0, e, w64 (x := ((i * i : Nat) : Int)) (by omega) (by omega), if_pos (by omega), if_neg (by omega), if_neg c2, w64 (x := (i : Int) + 1) (by omega) (by omega)]
          rfl
        · rw [impl_RectanglesOf.l0, e, w64 (x := ((i * i : Nat) : Int)) (by omega) (by omega), if_pos (by omega), if_neg (by omega), if_neg c2, w64 (x := (i : Int) + 1) (by omega) (by omega)]
          rfl
    · refine ⟨out, ?_, ?_, by omega, hne (by
        refine Classical.byContradiction fun h2 => ?_
        obtain rfl : i = 1 := by omega
        omega), _, hr⟩
      · exact Ev.step (f := fun _ => some (out, true)) (fun k => by rw [spec_RectanglesOf.l0, e, w64 (by omega) (by omega), if_neg (by omega)]) (Ev.now _)
      · exact Ev.step (f := fun _ => some (out, true)) (fun k => by rw [impl_RectanglesOf.l0, e, w64 (by omega) (by omega), if_neg (by omega)]) (Ev.now _)
theorem impl_root_l0 (n r : Nat) (hn : n ≤ 1000000000000) (h1 : r * r ≤ n) (h2 : n < (r + 1) * (r + 1)) (hr : r ≤ 1000000) (d : Nat) : ∀ x : Nat, x + d = r → Ev (fun k => impl_rootOf.l0 k n x) (r : Int) := by
  induction d with
  | zero =>
    intro x hx
    obtain rfl : x = r := by omega
    refine Ev.step (f := fun _ => some (x : Int)) (fun k => ?_) (Ev.now _)
    have e : ((x : Int) + 1) * ((x : Int) + 1) = (((x + 1) * (x + 1) : Nat) : Int) := by simp
    have hb : (x + 1) * (x + 1) ≤ 1000001 * 1000001 := Nat.mul_le_mul (by omega) (by omega)
    rw [impl_rootOf.l0, w64 (x := (x : Int) + 1) (by omega) (by omega), e, w64 (by omega) (by omega), if_neg (by omega)]
  | succ d ih =>
    intro x hx
    refine Ev.step (f := fun k => impl_rootOf.l0 k n ((x + 1 : Nat) : Int)) (fun k => ?_) (ih (x + 1) (by omega))
    have e : ((x : Int) + 1) * ((x : Int) + 1) = (((x + 1) * (x + 1) : Nat) : Int) := by simp
    have hb : (x + 1) * (x + 1) ≤ r * r := Nat.mul_le_mul (by omega) (by omega)
    rw [impl_rootOf.l0, w64 (x := (x : Int) + 1) (by omega) (by omega), e, w64 (by omega) (by omega), if_pos (by omega)]
    rfl
theorem impl_root_ok {n r : Nat} (hn : n ≤ 1000000000000) (h1 : r * r ≤ n) (h2 : n < (r + 1) * (r + 1)) : Ev (fun k => impl_rootOf.f k n) (r : Int) := by
  have hr : r ≤ 1000000 := by
    refine Nat.le_of_not_lt fun h => ?_
    have : 1000001 * 1000001 ≤ r * r := Nat.mul_le_mul h h
    omega
  exact impl_root_l0 n r hn h1 h2 hr r 0 (by omega)
theorem spec_root_l0 (n r : Nat) (hn : n ≤ 1000000000000) (h1 : r * r ≤ n) (h2 : n < (r + 1) * (r + 1)) (hr : r ≤ 1000000) (d : Nat) : ∀ x : Nat, x + d = r → Ev (fun k => spec_foRoot.l0 k n x) (r : Int) := by
  induction d with
  | zero =>
    intro x hx
    obtain rfl : x = r := by omega
    refine Ev.step (f := fun _ => some (x : Int)) (fun k => ?_) (Ev.now _)
    have e : ((x : Int) + 1) * ((x : Int) + 1) = (((x + 1) * (x + 1) : Nat) : Int) := by simp
    have hb : (x + 1) * (x + 1) ≤ 1000001 * 1000001 := Nat.mul_le_mul (by omega) (by omega)
    rw [spec_foRoot.l0, w64 (x := (x : Int) + 1) (by omega) (by omega), e, w64 (by omega) (by omega), if_neg (by omega)]
  | succ d ih =>
    intro x hx
    refine Ev.step (f := fun k => spec_foRoot.l0 k n ((x + 1 : Nat) : Int)) (fun k => ?_) (ih (x + 1) (by omega))
    have e : ((x : Int) + 1) * ((x : Int) + 1) = (((x + 1) * (x + 1) : Nat) : Int) := by simp
    have hb : (x + 1) * (x + 1) ≤ r * r := Nat.mul_le_mul (by omega) (by omega)
    rw [spec_foRoot.l0, w64 (x := (x : Int) + 1) (by omega) (by omega), e, w64 (by omega) (by omega), if_pos (by omega)]
    rfl
theorem spec_root_ok {n r : Nat} (hn : n ≤ 1000000000000) (h1 : r * r ≤ n) (h2 : n < (r + 1) * (r + 1)) : Ev (fun k => spec_foRoot.f k n) (r : Int) := by
  have hr : r ≤ 1000000 := by
    refine Nat.le_of_not_lt fun h => ?_
    have : 1000001 * 1000001 ≤ r * r := Nat.mul_le_mul h h
    omega
  exact spec_root_l0 n r hn h1 h2 hr r 0 (by omega)
theorem root_exists (n : Nat) : ∃ r : Nat, r * r ≤ n ∧ n < (r + 1) * (r + 1) := by
  induction n with
  | zero => exact ⟨0, by omega, by omega⟩
  | succ n ih =>
    obtain ⟨r, h1, h2⟩ := ih
    by_cases c : (r + 1) * (r + 1) ≤ n + 1
    · refine ⟨r + 1, c, ?_⟩
      have : (r + 1 + 1) * (r + 1 + 1) = (r + 1) * (r + 1) + 2 * (r + 1) + 1 := by rw [Nat.add_mul, Nat.mul_add]; omega
      omega
    · exact ⟨r, by omega, by omega⟩
theorem sq_le {i t : Nat} (h : i * i ≤ t * t) : i ≤ t := by
  refine Nat.le_of_not_lt fun hlt => ?_
  have : (t + 1) * (t + 1) ≤ i * i := Nat.mul_le_mul hlt hlt
  have e : (t + 1) * (t + 1) = t * t + 2 * t + 1 := by rw [Nat.add_mul, Nat.mul_add]; omega
  omega
def TP (n a b : Nat) : Prop := 1 ≤ a ∧ a ≤ b ∧ a * a + b * b = n
theorem two_l0 (n : Nat) (hn : n ≤ 1000000) (d : Nat) : ∀ (i : Nat) (out : List (List Int)), 1 ≤ i → i + d = 1001 → out.length ≤ i → Gd (TP n) out i →
    ∃ r, Ev (fun k => spec_TwoSquares.l0 k n out i) (r, true) ∧ Ev (fun k => impl_TwoSquares.l0 k n out i) (r, true) ∧ r.length ≤ 1001 ∧ ∃ j, Gd (TP n) r j := by
  induction d with
  | zero =>
    intro i out h1 hd ho hr
    obtain rfl : i = 1001 := by omega
    refine ⟨out, ?_, ?_, by omega, _, hr⟩
    · exact Ev.step (f := fun _ => some (out, true)) (fun k => by rw [spec_TwoSquares.l0, w64 (x := 2 * ((1001 : Nat) : Int)) (by omega) (by omega), w64 (by omega) (by omega), if_neg (by omega)]) (Ev.now _)
    · exact Ev.step (f := fun _ => some (out, true)) (fun k => by rw [impl_TwoSquares.l0, w64 (x := 2 * ((1001 : Nat) : Int)) (by omega) (by omega), w64 (by omega) (by omega), if_neg (by omega)]) (Ev.now _)
  | succ d ih =>
    intro i out h1 hd ho hr
    have hb : i * i ≤ 1000 * 1000 := Nat.mul_le_mul (by omega) (by omega)
    have e : (i : Int) * i = ((i * i : Nat) : Int) := by simp
    have e2 : (2 * (i : Int)) * i = ((2 * (i * i) : Nat) : Int) := by rw [Int.mul_assoc, e]; omega
    by_cases c : 2 * (i * i) ≤ n
    · obtain ⟨t, t1, t2⟩ := root_exists (n - i * i)
      have e3 : (n : Int) - ((i * i : Nat) : Int) = ((n - i * i : Nat) : Int) := by omega
      have hs := spec_root_ok (by omega) t1 t2
      have hi := impl_root_ok (by omega) t1 t2
      have e4 : (t : Int) * t = ((t * t : Nat) : Int) := by simp
      have es : ∀ k, spec_TwoSquares.l0 (k + 1) n out i = (spec_foRoot.f k ((n - i * i : Nat) : Int)).bind fun t112 => (if (wrap64 ((wrap64 ((i : Int) * i)) + (wrap64 (t112 * t112)))) = n then (if out.length < 5864062014805 then (spec_TwoSquares.l0 k n (out ++ [(([(i : Int), t112] : List Int))]) (wrap64 ((i : Int) + 1))) else (none)) else (spec_TwoSquares.l0 k n out (wrap64 ((i : Int) + 1)))) := by
        intro k
        rw [spec_TwoSquares.l0, w64 (x := 2 * (i : Int)) (by omega) (by omega), e2, w64 (x := ((2 * (i * i) : Nat) : Int)) (by omega) (by omega), if_pos (by omega), e, w64 (x := ((i * i : Nat) : Int)) (by omega) (by omega), e3, w64 (x := ((n - i * i : Nat) : Int)) (by omega) (by omega)]
      have ei : ∀ k, impl_TwoSquares.l0 (k + 1) n out i = (impl_rootOf.f k ((n - i * i : Nat) : Int)).bind fun t124 => (if (wrap64 (t124 * t124)) = ((n - i * i : Nat) : Int) then (if out.length < 5864062014805 then (impl_TwoSquares.l0 k n (out ++ [(([(i : Int), t124] : List Int))]) (wrap64 ((i : Int) + 1))) else (none)) else (impl_TwoSquares.l0 k n out (wrap64 ((i : Int) + 1)))) := by
        intro k
        rw [impl_TwoSquares.l0, w64 (x := 2 * (i : Int)) (by omega) (by omega), e2, w64 (x := ((2 * (i * i) : Nat) : Int)) (by omega) (by omega), if_pos (by omega), e, w64 (x := ((i * i : Nat) : Int)) (by omega) (by omega), e3, w64 (x := ((n - i * i : Nat) : Int)) (by omega) (by omega)]
      by_cases c2 : t * t = n - i * i
      · obtain ⟨r, a, b, hl, hx⟩ := ih (i + 1) (out ++ [[(i : Int), (t : Int)]]) (by omega) (by omega) (by simp; omega) (Gd.push hr ⟨h1, sq_le (by omega), by omega⟩)
        refine ⟨r, Ev.step es (Ev.bind hs (Ev.congr (fun k => ?_) a)), Ev.step ei (Ev.bind hi (Ev.congr (fun k => ?_) b)), hl, hx⟩
        · rw [e, e4, w64 (x := ((i * i : Nat) : Int)) (by omega) (by omega), w64 (x := ((t * t : Nat) : Int)) (by omega) (by omega), w64 (x := ((i * i : Nat) : Int) + ((t * t : Nat) : Int)) (by omega) (by omega), if_pos (by omega), if_pos (by omega), w64 (x := (i : Int) + 1) (by omega) (by omega)]
          rfl
        · rw [e4, w64 (x := ((t * t : Nat) : Int)) (by omega) (by omega), if_pos (by omega), if_pos (by omega), w64 (x := (i : Int) + 1) (by omega) (by omega)]
          rfl
      · obtain ⟨r, a, b, hl, hx⟩ := ih (i + 1) out (by omega) (by omega) (by omega) hr.skip
        refine ⟨r, Ev.step es (Ev.bind hs (Ev.congr (fun k => ?_) a)), Ev.step ei (Ev.bind hi (Ev.congr (fun k => ?_) b)), hl, hx⟩
        · rw [e, e4, w64 (x := ((i * i : Nat) : Int)) (by omega) (by omega), w64 (x := ((t * t : Nat) : Int)) (by omega) (by omega), w64 (x := ((i * i : Nat) : Int) + ((t * t : Nat) : Int)) (by omega) (by omega), if_neg (by omega), w64 (x := (i : Int) + 1) (by omega) (by omega)]
          rfl
        · rw [e4, w64 (x := ((t * t : Nat) : Int)) (by omega) (by omega), if_neg (by omega), w64 (x := (i : Int) + 1) (by omega) (by omega)]
          rfl
    · refine ⟨out, ?_, ?_, by omega, _, hr⟩
      · exact Ev.step (f := fun _ => some (out, true)) (fun k => by rw [spec_TwoSquares.l0, w64 (x := 2 * (i : Int)) (by omega) (by omega), e2, w64 (x := ((2 * (i * i) : Nat) : Int)) (by omega) (by omega), if_neg (by omega)]) (Ev.now _)
      · exact Ev.step (f := fun _ => some (out, true)) (fun k => by rw [impl_TwoSquares.l0, w64 (x := 2 * (i : Int)) (by omega) (by omega), e2, w64 (x := ((2 * (i * i) : Nat) : Int)) (by omega) (by omega), if_neg (by omega)]) (Ev.now _)
def tri (n : Nat) : Nat := n * (n + 1) / 2
theorem tri_succ (n : Nat) : tri (n + 1) = tri n + (n + 1) := by
  unfold tri
  have : (n + 1) * (n + 1 + 1) = n * (n + 1) + 2 * (n + 1) := by grind
  omega
theorem tri_double (n : Nat) : 2 * tri n = n * (n + 1) := by
  induction n with
  | zero => rfl
  | succ n ih =>
    rw [tri_succ, Nat.mul_add, ih]
    grind
theorem tri_mono {a b : Nat} (h : a ≤ b) : tri a ≤ tri b := by
  induction h with
  | refl => exact Nat.le_refl _
  | step _ ih => rw [tri_succ]; omega
def cand : List Nat := [1, 36, 1225, 41616]
def upto (x : Nat) : List Nat := cand.filter (· < x)
def bs (n : Nat) (g : Nat → Nat) : Nat → Nat → Nat → Nat
  | 0, lo, _ => lo
  | f + 1, lo, hi => if g ((lo + hi) / 2) ≤ n then bs n g f ((lo + hi) / 2) hi else bs n g f lo ((lo + hi) / 2)
def sqRoot (n : Nat) : Nat := bs n (fun x => x * x) 12 0 4096
def triRoot (n : Nat) : Nat := bs n tri 12 0 4096
def checkT (r : Nat) : Bool := decide (sqRoot (tri r) * sqRoot (tri r) ≤ tri r) && decide (tri r < (sqRoot (tri r) + 1) * (sqRoot (tri r) + 1)) && (upto (tri (r + 1)) == upto (tri r) ++ (if sqRoot (tri r) * sqRoot (tri r) = tri r then [tri r] else []))
def checkS (s : Nat) : Bool := decide (tri (triRoot (s * s)) ≤ s * s) && decide (s * s < tri (triRoot (s * s) + 1)) && (upto ((s + 1) * (s + 1)) == upto (s * s) ++ (if tri (triRoot (s * s)) = s * s then [s * s] else []))
theorem checkT_all : ((List.range 1415).all fun r => checkT (r + 1)) = true := by decide +kernel
theorem checkS_all : ((List.range 1001).all fun r => checkS (r + 1)) = true := by decide +kernel
theorem checkT_at {r : Nat} (h1 : 1 ≤ r) (h : r ≤ 1415) : ∃ q, q * q ≤ tri r ∧ tri r < (q + 1) * (q + 1) ∧ upto (tri (r + 1)) = upto (tri r) ++ (if q * q = tri r then [tri r] else []) := by
  have := List.all_eq_true.1 checkT_all (r - 1) (by simp; omega)
  rw [show r - 1 + 1 = r by omega] at this
  unfold checkT at this
  simp only [Bool.and_eq_true, decide_eq_true_eq, beq_iff_eq] at this
  exact ⟨_, this.1.1, this.1.2, this.2⟩
theorem checkS_at {r : Nat} (h1 : 1 ≤ r) (h : r ≤ 1001) : ∃ q, tri q ≤ r * r ∧ r * r < tri (q + 1) ∧ upto ((r + 1) * (r + 1)) = upto (r * r) ++ (if tri q = r * r then [r * r] else []) := by
  have := List.all_eq_true.1 checkS_all (r - 1) (by simp; omega)
  rw [show r - 1 + 1 = r by omega] at this
  unfold checkS at this
  simp only [Bool.and_eq_true, decide_eq_true_eq, beq_iff_eq] at this
  exact ⟨_, this.1.1, this.1.2, this.2⟩
theorem upto_len (x : Nat) : (upto x).length ≤ 4 := by
  have := List.length_filter_le (fun y => decide (y < x)) cand
  simpa [upto, cand] using this
theorem tri_f (r : Nat) (h : r ≤ 2000000) : impl_triangle.f (r : Int) = some ((tri r : Nat) : Int) := by
  unfold impl_triangle.f
  have hb : r * (r + 1) ≤ 2000000 * 2000001 := Nat.mul_le_mul (by omega) (by omega)
  have e : (r : Int) * ((r : Int) + 1) = ((r * (r + 1) : Nat) : Int) := by simp
  have e2 : Int.tdiv ((r * (r + 1) : Nat) : Int) 2 = ((tri r : Nat) : Int) := rfl
  have hd := tri_double r
  rw [w64 (x := (r : Int) + 1) (by omega) (by omega), e, w64 (x := ((r * (r + 1) : Nat) : Int)) (by omega) (by omega), e2, w64 (by omega) (by omega)]
theorem impl_sq_l0 {most : Nat} (hm : most ≤ 1000000) (d : Nat) : ∀ r : Nat, 1 ≤ r → r + d = 1415 → (1 < r → tri (r - 1) ≤ most) →
    Ev (fun k => impl_SquareTriangles.l0 k most ((upto (tri r)).map Int.ofNat) r) ((upto (most + 1)).map Int.ofNat, true) := by
  induction d with
  | zero =>
    intro r h1 hr hlt
    exfalso
    have := hlt (by omega)
    have e : tri (r - 1) = 1000405 := by rw [show r - 1 = 1414 by omega]; rfl
    omega
  | succ d ih =>
    intro r h1 hr hlt
    obtain ⟨q, hq1, hq2, hq3⟩ := checkT_at h1 (by omega)
    have hbt : tri r ≤ tri 1415 := tri_mono (by omega)
    have e1415 : tri 1415 = 1001820 := rfl
    have hq : q ≤ 1001 := by
      refine Nat.le_of_not_lt fun h => ?_
      have : 1002 * 1002 ≤ q * q := Nat.mul_le_mul h h
      omega
    by_cases hc : tri r ≤ most
    · have hrec := ih (r + 1) (by omega) (by omega) (fun _ => by rw [Nat.add_sub_cancel]; exact hc)
      refine Ev.step (f := fun k => (impl_rootOf.f k ((tri r : Nat) : Int)).bind fun t119 => (if (wrap64 (t119 * t119)) = ((tri r : Nat) : Int) then (if ((upto (tri r)).map Int.ofNat).length < 17592186044416 then (impl_SquareTriangles.l0 k most (((upto (tri r)).map Int.ofNat) ++ [((tri r : Nat) : Int)]) (wrap64 ((r : Int) + 1))) else (none)) else (impl_SquareTriangles.l0 k most ((upto (tri r)).map Int.ofNat) (wrap64 ((r : Int) + 1))))) (fun k => ?_) ?_
      · rw [impl_SquareTriangles.l0, tri_f r (by omega)]
        simp only [Option.bind_some]
        rw [if_pos (by omega)]
      · refine Ev.bind (impl_root_ok (by omega) hq1 hq2) ?_
        have e : (q : Int) * (q : Int) = ((q * q : Nat) : Int) := by simp
        have hqq : q * q ≤ 1001 * 1001 := Nat.mul_le_mul hq hq
        have er : wrap64 ((r : Int) + 1) = ((r + 1 : Nat) : Int) := by rw [w64 (by omega) (by omega)]; rfl
        have hlen := upto_len (tri r)
        refine Ev.congr (fun k => ?_) hrec
        rw [e, w64 (by omega) (by omega), er, hq3]
        by_cases hs : q * q = tri r
        · rw [if_pos (by omega), if_pos (by simp; omega), if_pos hs]
          simp
        · rw [if_neg (by omega), if_neg hs]
          simp
    · have e : upto (tri r) = upto (most + 1) := by
        unfold upto
        refine List.filter_congr fun c hcm => ?_
        by_cases h1r : r = 1
        · subst h1r
          have : tri 1 = 1 := rfl
          have h0 : most = 0 := by omega
          subst h0
          rfl
        · have hp := hlt (by omega)
          obtain ⟨q', _, _, h3⟩ := checkT_at (r := r - 1) (by omega) (by omega)
          rw [show r - 1 + 1 = r by omega] at h3
          have iff : c < tri r → c ≤ tri (r - 1) := fun hlt' => by
            have hmem : c ∈ upto (tri r) := List.mem_filter.2 ⟨hcm, by simpa using hlt'⟩
            rw [h3] at hmem
            rcases List.mem_append.1 hmem with h | h
            · have := (List.mem_filter.1 h).2
              simp at this
              omega
            · by_cases hs : q' * q' = tri (r - 1)
              · rw [if_pos hs] at h
                simp at h
                omega
              · rw [if_neg hs] at h
                simp at h
          by_cases h4 : c < tri r
          · have := iff h4
            simp [h4]
            omega
          · simp [h4]
            omega
      refine Ev.step (f := fun _ => some ((upto (tri r)).map Int.ofNat, true)) (fun k => ?_) (by rw [e]; exact Ev.now _)
      rw [impl_SquareTriangles.l0, tri_f r (by omega)]
      simp only [Option.bind_some]
      rw [if_neg (by omega)]
theorem fo_tri_l0 (n r : Nat) (hn : n ≤ 1000000000000) (h1 : tri r ≤ n) (h2 : n < tri (r + 1)) (d : Nat) : ∀ x : Nat, x + d = r → Ev (fun k => spec_foTriangle.l0 k ((n - tri x : Nat) : Int) x) ((r : Int), ((n - tri r : Nat) : Int)) := by
  have hr : r ≤ 2 * n := by
    have := tri_double r
    have : r ≤ r * (r + 1) := Nat.le_mul_of_pos_right r (by omega)
    omega
  induction d with
  | zero =>
    intro x hx
    obtain rfl : x = r := by omega
    refine Ev.step (f := fun _ => some ((x : Int), ((n - tri x : Nat) : Int))) (fun k => ?_) (Ev.now _)
    rw [tri_succ] at h2
    rw [spec_foTriangle.l0, if_neg (by omega)]
  | succ d ih =>
    intro x hx
    have hx2 : tri (x + 1) ≤ tri r := tri_mono (by omega)
    have hts := tri_succ x
    refine Ev.step (f := fun k => spec_foTriangle.l0 k ((n - tri (x + 1) : Nat) : Int) ((x + 1 : Nat) : Int)) (fun k => ?_) (ih (x + 1) (by omega))
    have e : (((n - tri x : Nat) : Int) - ((x : Int) + 1)) = ((n - tri (x + 1) : Nat) : Int) := by omega
    rw [spec_foTriangle.l0, if_pos (by omega), w64 (x := (x : Int) + 1) (by omega) (by omega), e, w64 (by omega) (by omega)]
    rfl
theorem fo_tri_ok {n r : Nat} (hn : n ≤ 1000000000000) (h1 : tri r ≤ n) (h2 : n < tri (r + 1)) : Ev (fun k => spec_foTriangle.f k n) ((r : Int), ((n - tri r : Nat) : Int)) := by
  have := fo_tri_l0 n r hn h1 h2 r 0 (by omega)
  exact this
theorem spec_sq_l0 {most : Nat} (hm : most ≤ 1000000) (d : Nat) : ∀ r : Nat, 1 ≤ r → r + d = 1001 → (1 < r → (r - 1) * (r - 1) ≤ most) →
    Ev (fun k => spec_SquareTriangles.l0 k most ((upto (r * r)).map Int.ofNat) r) ((upto (most + 1)).map Int.ofNat, true) := by
  have hend : ∀ r : Nat, 1 ≤ r → r ≤ 1001 → (1 < r → (r - 1) * (r - 1) ≤ most) → ¬ r * r ≤ most → Ev (fun k => spec_SquareTriangles.l0 k most ((upto (r * r)).map Int.ofNat) r) ((upto (most + 1)).map Int.ofNat, true) := by
    intro r h1 hr hlt hc
    have e : upto (r * r) = upto (most + 1) := by
      unfold upto
      refine List.filter_congr fun c hcm => ?_
      by_cases h1r : r = 1
      · subst h1r
        have h0 : most = 0 := by omega
        subst h0
        rfl
      · have hp := hlt (by omega)
        obtain ⟨q', _, _, h3⟩ := checkS_at (r := r - 1) (by omega) (by omega)
        rw [show r - 1 + 1 = r by omega] at h3
        have iff : c < r * r → c ≤ (r - 1) * (r - 1) := fun hlt' => by
          have hmem : c ∈ upto (r * r) := List.mem_filter.2 ⟨hcm, by simpa using hlt'⟩
          rw [h3] at hmem
          rcases List.mem_append.1 hmem with h | h
          · have := (List.mem_filter.1 h).2
            simp at this
            omega
          · by_cases hs : tri q' = (r - 1) * (r - 1)
            · rw [if_pos hs] at h
              simp at h
              omega
            · rw [if_neg hs] at h
              simp at h
        by_cases h4 : c < r * r
        · have := iff h4
          simp [h4]
          omega
        · simp [h4]
          omega
    refine Ev.step (f := fun _ => some ((upto (r * r)).map Int.ofNat, true)) (fun k => ?_) (by rw [e]; exact Ev.now _)
    have hrr : r * r ≤ 1001 * 1001 := Nat.mul_le_mul hr hr
    have e2 : (r : Int) * (r : Int) = ((r * r : Nat) : Int) := by simp
    rw [spec_SquareTriangles.l0, e2, w64 (by omega) (by omega), if_neg (by omega)]
  induction d with
  | zero =>
    intro r h1 hr hlt
    obtain rfl : r = 1001 := by omega
    exact hend 1001 h1 (by omega) hlt (by omega)
  | succ d ih =>
    intro r h1 hr hlt
    by_cases hc : r * r ≤ most
    · obtain ⟨q, hq1, hq2, hq3⟩ := checkS_at h1 (by omega)
      have hrec := ih (r + 1) (by omega) (by omega) (fun _ => by rw [Nat.add_sub_cancel]; exact hc)
      have e2 : (r : Int) * (r : Int) = ((r * r : Nat) : Int) := by simp
      have er : wrap64 ((r : Int) + 1) = ((r + 1 : Nat) : Int) := by rw [w64 (by omega) (by omega)]; rfl
      refine Ev.step (f := fun k => (spec_foTriangle.f k ((r * r : Nat) : Int)).bind fun bt107 => (if bt107.2 = 0 then (if ((upto (r * r)).map Int.ofNat).length < 17592186044416 then (spec_SquareTriangles.l0 k most (((upto (r * r)).map Int.ofNat) ++ [((r * r : Nat) : Int)]) ((r + 1 : Nat) : Int)) else (none)) else (spec_SquareTriangles.l0 k most ((upto (r * r)).map Int.ofNat) ((r + 1 : Nat) : Int)))) (fun k => ?_) ?_
      · rw [spec_SquareTriangles.l0, e2, w64 (by omega) (by omega), if_pos (by omega), er]
      · refine Ev.bind (fo_tri_ok (by omega) hq1 hq2) ?_
        have hlen := upto_len (r * r)
        refine Ev.congr (fun k => ?_) hrec
        rw [hq3]
        by_cases hs : tri q = r * r
        · rw [if_pos (by simp; omega), if_pos (by simp; omega), if_pos hs]
          simp
        · have hne : ¬ (((r * r - tri q : Nat) : Int) = 0) := by omega
          simp only []
          rw [if_neg hne, if_neg hs]
          simp
    · exact hend r h1 (by omega) hlt hc
theorem l1In_eq (a b c : Int) : spec_l1In.f a b c = some (decide (b ≤ a) && decide (a ≤ c)) := by
  unfold spec_l1In.f
  by_cases h : b ≤ a
  · rw [if_pos h]; simp [h]
  · rw [if_neg (show ¬ a ≥ b from h)]; simp [h]
theorem in_eq (a b c : Int) : impl_in.f a b c = some (decide (b ≤ a) && decide (a ≤ c)) := by
  unfold impl_in.f
  by_cases h : b ≤ a
  · rw [if_pos h]; simp [h]
  · rw [if_neg h]; simp [h]
theorem cast_len {α : Type} (l : List α) : (decide ((1 : Int) ≤ (l.length : Int)) && decide ((l.length : Int) ≤ 6)) = (decide (1 ≤ l.length) && decide (l.length ≤ 6)) := by
  congr 1 <;> exact decide_eq_decide.2 (by omega)
theorem wq {x : Nat} (h : x ≤ 1000000000000) : wrap64 (x : Int) = (x : Int) := w64 (by omega) (by omega)
theorem wqa {x y : Nat} (h : x + y ≤ 1000000000000) : wrap64 ((x : Int) + (y : Int)) = ((x + y : Nat) : Int) := by rw [w64 (by omega) (by omega)]; omega
theorem wqm {x y : Nat} (h : x * y ≤ 1000000000000) : wrap64 ((x : Int) * (y : Int)) = ((x * y : Nat) : Int) := by rw [← Int.natCast_mul]; exact wq h
def hrow (n t : Nat) : List (List Int) := if 4 * t * (t + 1) ≤ n ∧ n % (4 * t) = 0 then [[((n / (4 * t) + t : Nat) : Int), (t : Int)]] else []
def hup (n : Nat) : Nat → List (List Int)
  | 0 => []
  | T + 1 => hup n T ++ hrow n (T + 1)
theorem hrow_len (n t : Nat) : (hrow n t).length ≤ 1 := by
  unfold hrow
  split <;> simp
theorem hrow_rev (n t : Nat) : (hrow n t).reverse = hrow n t := by
  unfold hrow
  split <;> rfl
theorem mem_hrow {n t : Nat} {r : List Int} (h : r ∈ hrow n t) : 4 * t * (t + 1) ≤ n ∧ n % (4 * t) = 0 ∧ r = [((n / (4 * t) + t : Nat) : Int), (t : Int)] := by
  unfold hrow at h
  split at h
  · rename_i c
    exact ⟨c.1, c.2, List.mem_singleton.1 h⟩
  · cases h
theorem hup_len (n T : Nat) : (hup n T).length ≤ T := by
  induction T with
  | zero => simp [hup]
  | succ T ih =>
    have := hrow_len n (T + 1)
    simp only [hup, List.length_append]
    omega
theorem mem_hup {n T : Nat} {r : List Int} (h : r ∈ hup n T) : ∃ t, 1 ≤ t ∧ t ≤ T ∧ 4 * t * (t + 1) ≤ n ∧ n % (4 * t) = 0 ∧ r = [((n / (4 * t) + t : Nat) : Int), (t : Int)] := by
  induction T with
  | zero => cases h
  | succ T ih =>
    rcases List.mem_append.1 h with h | h
    · obtain ⟨t, h1, h2, h3⟩ := ih h
      exact ⟨t, h1, by omega, h3⟩
    · exact ⟨T + 1, by omega, by omega, mem_hrow h⟩
theorem hup_stop {n T : Nat} (h : n < 4 * (T + 1) * (T + 1 + 1)) (d : Nat) : hup n (T + d) = hup n T := by
  induction d with
  | zero => rfl
  | succ d ih =>
    have h1 : 4 * (T + 1) * (T + 1 + 1) ≤ 4 * (T + d + 1) * (T + d + 1 + 1) := Nat.mul_le_mul (by omega) (by omega)
    show hup n (T + d) ++ hrow n (T + d + 1) = _
    have h2 : hrow n (T + d + 1) = [] := by
      unfold hrow
      rw [if_neg (by omega)]
    rw [h2, List.append_nil, ih]
theorem hfall {n t t' : Nat} (h0 : 1 ≤ t) (h1 : t < t') (h2 : 4 * t' * (t' + 1) ≤ n) (h3 : n % (4 * t) = 0) (h4 : n % (4 * t') = 0) : n / (4 * t') + t' < n / (4 * t) + t := by
  obtain ⟨a, ha⟩ := Nat.dvd_of_mod_eq_zero h3
  obtain ⟨b, hb⟩ := Nat.dvd_of_mod_eq_zero h4
  have e1 : n / (4 * t) = a := by rw [ha, Nat.mul_div_cancel_left _ (by omega)]
  have e2 : n / (4 * t') = b := by rw [hb, Nat.mul_div_cancel_left _ (by omega)]
  rw [e1, e2]
  have hb1 : t' + 1 ≤ b := by
    rw [hb] at h2
    exact Nat.le_of_mul_le_mul_left h2 (by omega)
  obtain ⟨e, rfl⟩ : ∃ e, t' = t + e := ⟨t' - t, by omega⟩
  have hab : t * a = t * b + e * b := by
    have : 4 * t * a = 4 * (t + e) * b := by rw [← ha, ← hb]
    rw [Nat.mul_assoc, Nat.mul_assoc] at this
    have := Nat.eq_of_mul_eq_mul_left (by omega : 0 < 4) this
    rw [this, Nat.add_mul]
  rcases Nat.lt_or_ge (b + (t + e)) (a + t) with h | h
  · exact h
  · exfalso
    have h5 : t * a ≤ t * (b + e) := Nat.mul_le_mul_left _ (by omega)
    rw [Nat.mul_add, hab] at h5
    have h6 : e * b ≤ e * t := by rw [Nat.mul_comm e t]; omega
    have := Nat.le_of_mul_le_mul_left h6 (by omega)
    omega
theorem hup_pair (n T : Nat) : (hup n T).Pairwise (fun a b => rd b 0 < rd a 0) := by
  induction T with
  | zero => exact List.Pairwise.nil
  | succ T ih =>
    refine List.pairwise_append.2 ⟨ih, ?_, ?_⟩
    · unfold hrow
      split
      · exact List.pairwise_singleton _ _
      · exact List.Pairwise.nil
    · intro a ha b hb
      obtain ⟨t, h1, h2, h3, h4, rfl⟩ := mem_hup ha
      obtain ⟨h5, h6, rfl⟩ := mem_hrow hb
      have := hfall h1 (by omega) h5 h4 h6
      exact Int.ofNat_lt.2 this
theorem hup_dec (n T : Nat) : holDec (hup n T) = true := by
  unfold holDec
  refine decide_eq_true fun i => ⟨?_, fun j hij => ?_⟩
  · obtain ⟨t, _, _, _, _, e⟩ := mem_hup (List.getElem_mem (l := hup n T) i.isLt)
    show 0 < ((hup n T)[i.val]'i.isLt).length
    rw [e]
    simp
  · exact List.pairwise_iff_getElem.1 (hup_pair n T) i.val j.val i.isLt j.isLt hij
theorem hw4 {x : Nat} (h : x ≤ 1000000) : wrap64 ((4 : Int) * (x : Int)) = ((4 * x : Nat) : Int) := wqm (x := 4) (by omega)
theorem hw2 {x : Nat} (h : x ≤ 1000000) : wrap64 ((2 : Int) * (x : Int)) = ((2 * x : Nat) : Int) := wqm (x := 2) (by omega)
theorem hw1 {x : Nat} (h : x ≤ 1000000) : wrap64 ((x : Int) + 1) = ((x + 1 : Nat) : Int) := wqa (y := 1) (by omega)
theorem hwp {x : Nat} (h : x ≤ 1000000) : wrap64 (((x + 1 : Nat) : Int) - 1) = (x : Int) := by rw [w64 (by omega) (by omega)]; omega
section
variable {n T : Nat} {l : List (List Int)}
theorem impl_hol_out (k : Nat) (hT : T ≤ 500) (p1 : ¬ ((4 * (T + 1) * (T + 1 + 1) : Nat) : Int) ≤ n) (hd : holDec l = true) (hl : l.length < 4611686018427387904) (b : 4 * (T + 1) * (T + 1 + 1) ≤ 1000000000000) :
    impl_HollowsOf.l0 (k + 1) n l ((T + 1 : Nat) : Int) = some (l.reverse, true) := by
  rw [impl_HollowsOf.l0, hw4 (by omega), hw1 (by omega), wqm b, if_neg p1, if_pos ⟨hd, hl⟩]
theorem impl_hol_skip (k : Nat) (hT : T ≤ 500) (p1 : ((4 * (T + 1) * (T + 1 + 1) : Nat) : Int) ≤ n) (p3 : ¬ ((n % (4 * (T + 1)) : Nat) : Int) = 0) (b : 4 * (T + 1) * (T + 1 + 1) ≤ 1000000000000) :
    impl_HollowsOf.l0 (k + 1) n l ((T + 1 : Nat) : Int) = impl_HollowsOf.l0 k n l ((T + 1 + 1 : Nat) : Int) := by
  have t1 : Int.tmod (n : Int) ((4 * (T + 1) : Nat) : Int) = ((n % (4 * (T + 1)) : Nat) : Int) := rfl
  rw [impl_HollowsOf.l0, hw4 (by omega), hw1 (by omega), wqm b, if_pos p1, if_neg (by omega), t1, if_neg p3]
theorem impl_hol_push (k : Nat) (hT : T ≤ 500) (hn : n ≤ 1000000) (p1 : ((4 * (T + 1) * (T + 1 + 1) : Nat) : Int) ≤ n) (p3 : ((n % (4 * (T + 1)) : Nat) : Int) = 0) (p4 : l.length < 5864062014805) (b : 4 * (T + 1) * (T + 1 + 1) ≤ 1000000000000) :
    impl_HollowsOf.l0 (k + 1) n l ((T + 1 : Nat) : Int) = impl_HollowsOf.l0 k n (l ++ [[((n / (4 * (T + 1)) + (T + 1) : Nat) : Int), ((T + 1 : Nat) : Int)]]) ((T + 1 + 1 : Nat) : Int) := by
  have t1 : Int.tmod (n : Int) ((4 * (T + 1) : Nat) : Int) = ((n % (4 * (T + 1)) : Nat) : Int) := rfl
  have t2 : Int.tdiv (n : Int) ((4 * (T + 1) : Nat) : Int) = ((n / (4 * (T + 1)) : Nat) : Int) := rfl
  have hd : n / (4 * (T + 1)) ≤ n := Nat.div_le_self _ _
  have p2 : ¬ (((4 * (T + 1) : Nat) : Int) = 0) := by omega
  have b1 : n / (4 * (T + 1)) ≤ 1000000000000 := Nat.le_trans hd (by omega)
  have b2 : n / (4 * (T + 1)) + (T + 1) ≤ 1000000000000 := Nat.le_trans (Nat.add_le_add_right hd _) (by omega)
  rw [impl_HollowsOf.l0, hw4 (by omega), hw1 (by omega), wqm b, if_pos p1, if_neg p2, t1, if_pos p3, if_pos p4, t2, wq b1, wqa b2]
end
theorem impl_hol_l0 (n M : Nat) (hn : n ≤ 1000000) (hM : M ≤ 500) (hM2 : n < 4 * (M + 1) * (M + 1 + 1)) (d : Nat) : ∀ T : Nat, T + d = M → Ev (fun k => impl_HollowsOf.l0 k n (hup n T) ((T + 1 : Nat) : Int)) ((hup n M).reverse, true) := by
  induction d with
  | zero =>
    intro T hT
    obtain rfl : T = M := by omega
    have hl := hup_len n T
    have hb : 4 * (T + 1) * (T + 1 + 1) ≤ 2004 * 502 := Nat.mul_le_mul (by omega) (by omega)
    exact Ev.step (f := fun _ => some ((hup n T).reverse, true)) (fun k => impl_hol_out k hM (fun h => absurd (Int.ofNat_le.1 h) (by omega)) (hup_dec n T) (by omega) (by omega)) (Ev.now _)
  | succ d ih =>
    intro T hT
    have hl := hup_len n T
    have hb : 4 * (T + 1) * (T + 1 + 1) ≤ 2000 * 501 := Nat.mul_le_mul (by omega) (by omega)
    by_cases c : 4 * (T + 1) * (T + 1 + 1) ≤ n
    · have hr := ih (T + 1) (by omega)
      by_cases c2 : n % (4 * (T + 1)) = 0
      · have er : hup n (T + 1) = hup n T ++ [[((n / (4 * (T + 1)) + (T + 1) : Nat) : Int), ((T + 1 : Nat) : Int)]] := by
          show hup n T ++ hrow n (T + 1) = _
          unfold hrow
          rw [if_pos ⟨c, c2⟩]
        rw [er] at hr
        exact Ev.step (fun k => impl_hol_push k (by omega) hn (Int.ofNat_le.2 c) (by rw [c2]; rfl) (by omega) (by omega)) hr
      · have er : hup n (T + 1) = hup n T := by
          show hup n T ++ hrow n (T + 1) = _
          unfold hrow
          rw [if_neg (fun h => c2 h.2), List.append_nil]
        rw [er] at hr
        exact Ev.step (fun k => impl_hol_skip k (by omega) (Int.ofNat_le.2 c) (fun h => c2 (Int.ofNat_inj.1 h)) (by omega)) hr
    · have e5 : M = T + (d + 1) := by omega
      have es : hup n M = hup n T := by
        rw [e5]
        exact hup_stop (by omega) (d + 1)
      rw [es]
      exact Ev.step (f := fun _ => some ((hup n T).reverse, true)) (fun k => impl_hol_out k (by omega) (fun h => c (Int.ofNat_le.1 h)) (hup_dec n T) (by omega) (by omega)) (Ev.now _)
section
variable {n m T : Nat} {l : List (List Int)}
theorem spec_hol_q (hn : n ≤ 1000000) (hm : n = 4 * m) : wrap64 (Int.tdiv (n : Int) 4) = (m : Int) := by
  have t1 : Int.tdiv (n : Int) 4 = ((n / 4 : Nat) : Int) := rfl
  have e4 : n / 4 = m := by omega
  rw [t1, e4]
  exact wq (by omega)
theorem spec_hol_skip1 (k : Nat) (hn : n ≤ 1000000) (hm : n = 4 * m) (hT : T ≤ 1000000) (p3 : ¬ ((m % (T + 1) : Nat) : Int) = 0) :
    spec_HollowsOf.l0 (k + 1) n l ((T + 1 : Nat) : Int) = spec_HollowsOf.l0 k n l (T : Int) := by
  have t2 : Int.tmod (m : Int) ((T + 1 : Nat) : Int) = ((m % (T + 1) : Nat) : Int) := rfl
  rw [spec_HollowsOf.l0, if_pos (by omega), if_neg (by omega), spec_hol_q hn hm, t2, hwp hT, if_neg p3]
theorem spec_hol_skip2 (k : Nat) (hn : n ≤ 1000000) (hm : n = 4 * m) (hT : T ≤ 1000000) (p3 : ((m % (T + 1) : Nat) : Int) = 0) (p4 : ¬ ((m / (T + 1) + (T + 1) : Nat) : Int) > ((2 * (T + 1) : Nat) : Int)) (hT2 : T + 1 ≤ 1000000) :
    spec_HollowsOf.l0 (k + 1) n l ((T + 1 : Nat) : Int) = spec_HollowsOf.l0 k n l (T : Int) := by
  have t2 : Int.tmod (m : Int) ((T + 1 : Nat) : Int) = ((m % (T + 1) : Nat) : Int) := rfl
  have t3 : Int.tdiv (m : Int) ((T + 1 : Nat) : Int) = ((m / (T + 1) : Nat) : Int) := rfl
  have hd : m / (T + 1) ≤ m := Nat.div_le_self _ _
  have b1 : m / (T + 1) ≤ 1000000000000 := Nat.le_trans hd (by omega)
  have b2 : m / (T + 1) + (T + 1) ≤ 1000000000000 := Nat.le_trans (Nat.add_le_add_right hd _) (by omega)
  have p1 : ((T + 1 : Nat) : Int) > 0 := by omega
  have p2 : ¬ ((T + 1 : Nat) : Int) = 0 := by omega
  rw [spec_HollowsOf.l0, if_pos p1, if_neg p2, spec_hol_q hn hm, t2, t3, wq b1, wqa b2, hw2 hT2, hwp hT, if_pos p3, if_neg p4]
theorem spec_hol_push (k : Nat) (hn : n ≤ 1000000) (hm : n = 4 * m) (hT : T ≤ 1000000) (p3 : ((m % (T + 1) : Nat) : Int) = 0) (p4 : ((m / (T + 1) + (T + 1) : Nat) : Int) > ((2 * (T + 1) : Nat) : Int)) (hT2 : T + 1 ≤ 1000000) (p5 : l.length < 5864062014805) :
    spec_HollowsOf.l0 (k + 1) n l ((T + 1 : Nat) : Int) = spec_HollowsOf.l0 k n (l ++ [[((m / (T + 1) + (T + 1) : Nat) : Int), ((T + 1 : Nat) : Int)]]) (T : Int) := by
  have t2 : Int.tmod (m : Int) ((T + 1 : Nat) : Int) = ((m % (T + 1) : Nat) : Int) := rfl
  have t3 : Int.tdiv (m : Int) ((T + 1 : Nat) : Int) = ((m / (T + 1) : Nat) : Int) := rfl
  have hd : m / (T + 1) ≤ m := Nat.div_le_self _ _
  have b1 : m / (T + 1) ≤ 1000000000000 := Nat.le_trans hd (by omega)
  have b2 : m / (T + 1) + (T + 1) ≤ 1000000000000 := Nat.le_trans (Nat.add_le_add_right hd _) (by omega)
  have p1 : ((T + 1 : Nat) : Int) > 0 := by omega
  have p2 : ¬ ((T + 1 : Nat) : Int) = 0 := by omega
  rw [spec_HollowsOf.l0, if_pos p1, if_neg p2, spec_hol_q hn hm, t2, t3, wq b1, wqa b2, hw2 hT2, hwp hT, if_pos p3, if_pos p4, if_pos p5]
end
theorem spec_hol_l0 (n m : Nat) (hn : n ≤ 1000000) (hm : n = 4 * m) : ∀ (T : Nat) (out : List (List Int)), T ≤ m → out.length + T ≤ 1000000 → Ev (fun k => spec_HollowsOf.l0 k n out (T : Int)) (out ++ (hup n T).reverse, true) := by
  intro T
  induction T with
  | zero =>
    intro out h1 h2
    refine Ev.step (f := fun _ => some (out, true)) (fun k => by rw [spec_HollowsOf.l0, if_neg (by simp)]) ?_
    simpa [hup] using Ev.now (out, true)
  | succ T ih =>
    intro out h1 h2
    have q1 : n % (4 * (T + 1)) = 4 * (m % (T + 1)) := by rw [hm, Nat.mul_mod_mul_left]
    have q2 : n / (4 * (T + 1)) = m / (T + 1) := by rw [hm, Nat.mul_div_mul_left _ _ (by omega)]
    have hrev : ∀ r, hrow n (T + 1) = r → (hup n (T + 1)).reverse = r ++ (hup n T).reverse := fun r hr => by
      show (hup n T ++ hrow n (T + 1)).reverse = _
      rw [List.reverse_append, hrow_rev, hr]
    by_cases c1 : m % (T + 1) = 0
    · have hmd : m = (T + 1) * (m / (T + 1)) := by
        have := Nat.div_add_mod m (T + 1)
        omega
      have p3 : ((m % (T + 1) : Nat) : Int) = 0 := by rw [c1]; rfl
      by_cases c2 : m / (T + 1) + (T + 1) > 2 * (T + 1)
      · have hle : 4 * (T + 1) * (T + 1 + 1) ≤ n := by
          have : (T + 1) * (T + 1 + 1) ≤ (T + 1) * (m / (T + 1)) := Nat.mul_le_mul_left _ (by omega)
          rw [← hmd] at this
          rw [Nat.mul_assoc, hm]
          omega
        have er : hrow n (T + 1) = [[((m / (T + 1) + (T + 1) : Nat) : Int), ((T + 1 : Nat) : Int)]] := by
          unfold hrow
          rw [if_pos ⟨hle, by omega⟩, q2]
        have hr := ih (out ++ [[((m / (T + 1) + (T + 1) : Nat) : Int), ((T + 1 : Nat) : Int)]]) (by omega) (by simp; omega)
        rw [List.append_assoc, ← hrev _ er] at hr
        exact Ev.step (fun k => spec_hol_push k hn hm (by omega) p3 (Int.ofNat_lt.2 c2) (by omega) (by omega)) hr
      · have er : hrow n (T + 1) = [] := by
          unfold hrow
          rw [if_neg]
          rintro ⟨h3, _⟩
          rw [Nat.mul_assoc, hm] at h3
          have h4 : (T + 1) * (T + 1 + 1) ≤ m := by omega
          have h5 : (T + 1) * (T + 1 + 1) ≤ (T + 1) * (m / (T + 1)) := by rw [← hmd]; exact h4
          have := Nat.le_of_mul_le_mul_left h5 (by omega)
          omega
        have hr := ih out (by omega) (by omega)
        have e0 := hrev _ er
        rw [List.nil_append] at e0
        rw [← e0] at hr
        exact Ev.step (fun k => spec_hol_skip2 k hn hm (by omega) p3 (fun h => c2 (Int.ofNat_lt.1 h)) (by omega)) hr
    · have er : hrow n (T + 1) = [] := by
        unfold hrow
        rw [if_neg]
        rintro ⟨_, h3⟩
        omega
      have hr := ih out (by omega) (by omega)
      have e0 := hrev _ er
      rw [List.nil_append] at e0
      rw [← e0] at hr
      exact Ev.step (fun k => spec_hol_skip1 k hn hm (by omega) (fun h => c1 (Int.ofNat_inj.1 h))) hr
theorem hol_list (n M : Nat) (h1 : 1 ≤ n) (h2 : n ≤ 1000000) (hM : M ≤ 500) (hM2 : n < 4 * (M + 1) * (M + 1 + 1)) : Ev (fun k => spec_HollowsOf.f k (n : Int)) ((hup n M).reverse, true) ∧ Ev (fun k => impl_HollowsOf.f k (n : Int)) ((hup n M).reverse, true) := by
  have hb : impl_isSoldiers.f (n : Int) = some true := by
    unfold impl_isSoldiers.f impl_in.f
    rw [if_pos (by omega)]
    simp
    omega
  constructor
  · unfold spec_HollowsOf.f
    simp only [soldiers_eq, hb, Option.bind_some, if_true]
    have t0 : Int.tmod (n : Int) 4 = ((n % 4 : Nat) : Int) := rfl
    by_cases c : n % 4 = 0
    · have hr := spec_hol_l0 n (n / 4) h2 (by omega) (n / 4) [] (by omega) (by simp; omega)
      have e : hup n (n / 4) = hup n M := by
        rcases Nat.lt_or_ge (n / 4) M with h | h
        · have hq : n < 4 * (n / 4 + 1) * (n / 4 + 1 + 1) := by
            have : 4 * (n / 4 + 1) * 1 ≤ 4 * (n / 4 + 1) * (n / 4 + 1 + 1) := Nat.mul_le_mul_left _ (by omega)
            omega
          have e5 : M = n / 4 + (M - n / 4) := by omega
          rw [e5]
          exact (hup_stop hq (M - n / 4)).symm
        · have e5 : n / 4 = M + (n / 4 - M) := by omega
          rw [e5]
          exact hup_stop hM2 (n / 4 - M)
      rw [List.nil_append, e] at hr
      have hq := spec_hol_q (m := n / 4) h2 (by omega)
      have p : ((n % 4 : Nat) : Int) = 0 := by rw [c]; rfl
      refine Ev.congr (fun k => ?_) hr
      rw [t0, if_pos p, hq]
    · have e : hup n M = [] := by
        rcases hh : hup n M with _ | ⟨r, rest⟩
        · rfl
        · exfalso
          have hm : r ∈ hup n M := by rw [hh]; exact List.mem_cons_self ..
          obtain ⟨t, _, _, _, h4, _⟩ := mem_hup hm
          have := Nat.mod_mul_right_mod n 4 t
          rw [h4] at this
          omega
      rw [e]
      have p : ¬ ((n % 4 : Nat) : Int) = 0 := fun h => c (Int.ofNat_inj.1 h)
      refine Ev.congr (f := fun _ => some (([] : List (List Int)).reverse, true)) (fun k => ?_) (Ev.now _)
      rw [t0, if_neg p]
      rfl
  · unfold impl_HollowsOf.f
    simp only [hb, Option.bind_some, if_true]
    exact impl_hol_l0 n M h2 hM hM2 M 0 (by omega)
theorem hol_both (a0 : Int) : ∃ r b, Ev (fun k => spec_HollowsOf.f k a0) (r, b) ∧ Ev (fun k => impl_HollowsOf.f k a0) (r, b) ∧ r.length ≤ 500 ∧ ∀ x ∈ r, x.length = 2 := by
  obtain ⟨b, hb, h⟩ := soldiers_some a0
  cases b with
  | false =>
    unfold spec_HollowsOf.f impl_HollowsOf.f
    simp only [soldiers_eq, hb, Option.bind_some]
    exact ⟨[], false, by simpa using Ev.now _, by simpa using Ev.now _, by simp, by simp⟩
  | true =>
    obtain ⟨n, rfl, h1, h2⟩ := h rfl
    obtain ⟨M, hM⟩ : ∃ M : Nat, M = 500 := ⟨_, rfl⟩
    obtain ⟨hs, hi⟩ := hol_list n M h1 h2 (by omega) (by subst hM; omega)
    have hl := hup_len n M
    refine ⟨_, true, hs, hi, by rw [List.length_reverse]; omega, fun x hx => ?_⟩
    obtain ⟨t, _, _, _, _, rfl⟩ := mem_hup (List.mem_reverse.1 hx)
    rfl
theorem and_dec {p q : Prop} [Decidable p] [Decidable q] (h : (decide p && decide q) = true) : p ∧ q := by
  rw [Bool.and_eq_true, decide_eq_true_eq, decide_eq_true_eq] at h
  exact h
theorem wsub {x y : Nat} (h : y ≤ x) (hx : x ≤ 1000000000000) : wrap64 ((x : Int) - (y : Int)) = ((x - y : Nat) : Int) := by rw [w64 (by omega) (by omega)]; omega
/-- A hollow square's number. -/
theorem ch_both (s t : Int) : ∃ v b, impl_CountHollow.f s t = some (v, b) ∧ spec_CountHollow.f s t = some (v, b) ∧ (b = true → ∃ S T : Nat, s = S ∧ t = T ∧ 2 * T < S ∧ S ≤ 1000 ∧ 1 ≤ T ∧ v = ((4 * T * (S - T) : Nat) : Int)) := by
  unfold impl_CountHollow.f spec_CountHollow.f spec_foHollow.f
  simp only [in_eq, l1In_eq, Option.bind_some]
  by_cases c1 : (decide ((3 : Int) ≤ s) && decide (s ≤ 1000)) = true
  · rw [c1]
    simp only [if_true]
    obtain ⟨a1, a2⟩ := and_dec c1
    obtain ⟨S, rfl⟩ := Int.eq_ofNat_of_zero_le (show 0 ≤ s by omega)
    have e1 : wrap64 ((S : Int) - 1) = ((S - 1 : Nat) : Int) := wsub (y := 1) (by omega) (by omega)
    have t1 : Int.tdiv ((S - 1 : Nat) : Int) 2 = (((S - 1) / 2 : Nat) : Int) := rfl
    rw [e1, t1, wq (by omega)]
    by_cases c2 : (decide ((1 : Int) ≤ t) && decide (t ≤ (((S - 1) / 2 : Nat) : Int))) = true
    · rw [c2]
      simp only [if_true, Option.bind_some]
      obtain ⟨b1, b2⟩ := and_dec c2
      obtain ⟨T, rfl⟩ := Int.eq_ofNat_of_zero_le (show 0 ≤ t by omega)
      refine ⟨_, true, rfl, rfl, fun _ => ⟨S, T, rfl, rfl, by omega, by omega, by omega, ?_⟩⟩
      have hb : 4 * T * (S - T) ≤ 4000 * 1000 := Nat.mul_le_mul (by omega) (by omega)
      rw [hw4 (by omega), wsub (by omega) (by omega), wqm (by omega)]
    · have c2' := Bool.eq_false_iff.mpr c2
      rw [c2']
      simp only [Bool.false_eq_true, if_false, Option.bind_some]
      exact ⟨_, false, rfl, rfl, fun h => by cases h⟩
  · have c1' := Bool.eq_false_iff.mpr c1
    rw [c1']
    simp only [Bool.false_eq_true, if_false, Option.bind_some]
    exact ⟨_, false, rfl, rfl, fun h => by cases h⟩
theorem ch_val {S T : Nat} (h : 2 * T < S) : 4 * T * (S - T) + (S - 2 * T) * (S - 2 * T) = S * S := by
  obtain ⟨d, rfl⟩ : ∃ d, S = 2 * T + d := ⟨S - 2 * T, by omega⟩
  have e1 : 2 * T + d - T = T + d := by omega
  have e2 : 2 * T + d - 2 * T = d := by omega
  rw [e1, e2]
  grind
/-- The greatest hollow square. -/
theorem gh_impl (N T : Nat) (h1 : 1 ≤ N) (h2 : N ≤ 1000000) (h3 : 1 ≤ T) (h4 : T ≤ 1000) : Ev (fun k => impl_GreatestHollow.f k (N : Int) (T : Int)) (if T < N / (4 * T) then (((N / (4 * T) + T : Nat) : Int), ((N % (4 * T) : Nat) : Int), true) else (0, 0, false)) := by
  have hb : impl_isSoldiers.f (N : Int) = some true := by
    unfold impl_isSoldiers.f impl_in.f
    rw [if_pos (by omega)]
    simp
    omega
  have hi : impl_in.f (T : Int) 1 1000 = some true := by
    unfold impl_in.f
    rw [if_pos (by omega)]
    simp
    omega
  have hd : N / (4 * T) ≤ N := Nat.div_le_self _ _
  have p0 : ¬ ((4 * T : Nat) : Int) = 0 := by omega
  have t1 : Int.tdiv (N : Int) ((4 * T : Nat) : Int) = ((N / (4 * T) : Nat) : Int) := rfl
  have t2 : Int.tmod (N : Int) ((4 * T : Nat) : Int) = ((N % (4 * T) : Nat) : Int) := rfl
  obtain ⟨q, hq⟩ : ∃ q, N / (4 * T) = q := ⟨_, rfl⟩
  rw [hq] at hd t1 ⊢
  unfold impl_GreatestHollow.f
  simp only [hb, hi, Option.bind_some, if_true, Bool.not_true]
  by_cases c : T < q
  · rw [if_pos c]
    refine Ev.step (f := fun _ => some (((q + T : Nat) : Int), ((N % (4 * T) : Nat) : Int), true)) (fun k => ?_) (Ev.now _)
    have p1 : ¬ ((q + T : Nat) : Int) ≤ ((2 * T : Nat) : Int) := by omega
    rw [impl_GreatestHollow.j0, if_neg (by decide), hw4 (by omega), if_neg p0, t1, t2, wq (by omega), wqa (by omega), hw2 (by omega), if_neg p1]
  · rw [if_neg c]
    refine Ev.step (f := fun _ => some (0, 0, false)) (fun k => ?_) (Ev.now _)
    have p1 : ((q + T : Nat) : Int) ≤ ((2 * T : Nat) : Int) := by omega
    rw [impl_GreatestHollow.j0, if_neg (by decide), hw4 (by omega), if_neg p0, t1, wq (by omega), wqa (by omega), hw2 (by omega), if_pos p1]
theorem gh_both (p q : Int) : ∃ g r b, Ev (fun k => impl_GreatestHollow.f k p q) (g, r, b) ∧ Ev (fun k => spec_GreatestHollow.f k p q) (g, r, b) ∧ (b = true → ∃ N T Q : Nat, p = N ∧ q = T ∧ 1 ≤ T ∧ T ≤ 1000 ∧ N ≤ 1000000 ∧ g = ((Q + T : Nat) : Int) ∧ r = ((N % (4 * T) : Nat) : Int) ∧ T < Q ∧ 4 * T * Q + N % (4 * T) = N) := by
  obtain ⟨b, hb, h⟩ := soldiers_some p
  cases b with
  | false =>
    refine ⟨0, 0, false, ?_, ?_, fun h => by cases h⟩
    · unfold impl_GreatestHollow.f
      simp only [hb, Option.bind_some, Bool.false_eq_true, if_false]
      exact Ev.step (f := fun _ => some (0, 0, false)) (fun k => by rw [impl_GreatestHollow.j0, if_pos rfl]) (Ev.now _)
    · unfold spec_GreatestHollow.f
      simp only [soldiers_eq, hb, Option.bind_some, Bool.false_eq_true, if_false]
      exact Ev.step (f := fun _ => some (0, 0, false)) (fun k => by rw [spec_GreatestHollow.j0, if_pos rfl]) (Ev.now _)
  | true =>
    obtain ⟨N, rfl, h1, h2⟩ := h rfl
    by_cases c1 : (decide ((1 : Int) ≤ q) && decide (q ≤ 1000)) = true
    · obtain ⟨a1, a2⟩ := and_dec c1
      obtain ⟨T, rfl⟩ := Int.eq_ofNat_of_zero_le (show 0 ≤ q by omega)
      have hi := gh_impl N T h1 h2 (by omega) (by omega)
      have hd4 : N / 4 / T = N / (4 * T) := Nat.div_div_eq_div_mul N 4 T
      have hdm := Nat.div_add_mod N (4 * T)
      have hd : N / (4 * T) ≤ N := Nat.div_le_self _ _
      have t1 : Int.tdiv (N : Int) 4 = ((N / 4 : Nat) : Int) := rfl
      have t2 : Int.tdiv ((N / 4 : Nat) : Int) (T : Int) = ((N / 4 / T : Nat) : Int) := rfl
      obtain ⟨Q, hQ⟩ : ∃ Q, N / (4 * T) = Q := ⟨_, rfl⟩
      rw [hd4, hQ] at t2
      rw [hQ] at hd hdm hi
      have hs : Ev (fun k => spec_GreatestHollow.f k (N : Int) (T : Int)) (if T < Q then (((Q + T : Nat) : Int), ((N % (4 * T) : Nat) : Int), true) else (0, 0, false)) := by
        unfold spec_GreatestHollow.f
        simp only [soldiers_eq, hb, l1In_eq, Option.bind_some, if_true]
        rw [c1]
        have p0 : ¬ (T : Int) = 0 := by omega
        by_cases c : T < Q
        · rw [if_pos c]
          refine Ev.step (f := fun _ => some (((Q + T : Nat) : Int), ((N % (4 * T) : Nat) : Int), true)) (fun k => ?_) (Ev.now _)
          have p1 : ¬ ((Q + T : Nat) : Int) ≤ ((2 * T : Nat) : Int) := by omega
          have e1 : wrap64 (((Q + T : Nat) : Int) - (T : Int)) = (Q : Int) := by rw [wsub (by omega) (by omega), Nat.add_sub_cancel]
          have e2 : 4 * T * Q ≤ N := by omega
          have e3 : wrap64 ((N : Int) - ((4 * T * Q : Nat) : Int)) = ((N % (4 * T) : Nat) : Int) := by
            rw [wsub e2 (by omega)]
            congr 1
            omega
          rw [spec_GreatestHollow.j0, if_neg (by decide), if_neg p0, t1, wq (by omega), t2, wq (by omega), wqa (by omega), hw2 (by omega), if_neg p1, hw4 (by omega), e1, wqm (by omega), e3]
        · rw [if_neg c]
          refine Ev.step (f := fun _ => some (0, 0, false)) (fun k => ?_) (Ev.now _)
          have p1 : ((Q + T : Nat) : Int) ≤ ((2 * T : Nat) : Int) := by omega
          rw [spec_GreatestHollow.j0, if_neg (by decide), if_neg p0, t1, wq (by omega), t2, wq (by omega), wqa (by omega), hw2 (by omega), if_pos p1]
      by_cases c : T < Q
      · rw [if_pos c] at hi hs
        exact ⟨_, _, true, hi, hs, fun _ => ⟨N, T, Q, rfl, rfl, by omega, by omega, h2, rfl, rfl, c, hdm⟩⟩
      · rw [if_neg c] at hi hs
        exact ⟨_, _, false, hi, hs, fun h => by cases h⟩
    · have c1' := Bool.eq_false_iff.mpr c1
      refine ⟨0, 0, false, ?_, ?_, fun h => by cases h⟩
      · unfold impl_GreatestHollow.f
        simp only [hb, in_eq, Option.bind_some, if_true]
        rw [c1']
        exact Ev.step (f := fun _ => some (0, 0, false)) (fun k => by rw [impl_GreatestHollow.j0, if_pos (by decide)]) (Ev.now _)
      · unfold spec_GreatestHollow.f
        simp only [soldiers_eq, hb, l1In_eq, Option.bind_some, if_true]
        rw [c1']
        exact Ev.step (f := fun _ => some (0, 0, false)) (fun k => by rw [spec_GreatestHollow.j0, if_pos (by decide)]) (Ev.now _)
/-- A snake's place in its row. -/
def snk (C r k : Nat) : Nat := if r % 2 = 1 then C - 1 - k else k
theorem snake_impl {C r k : Nat} (h : k < C) (hC : C ≤ 1000) : impl_snake.f (C : Int) (r : Int) (k : Int) = some ((snk C r k : Nat) : Int) := by
  unfold impl_snake.f snk
  have t1 : Int.tmod (r : Int) 2 = ((r % 2 : Nat) : Int) := rfl
  have e1 : wrap64 ((C : Int) - 1) = ((C - 1 : Nat) : Int) := wsub (y := 1) (by omega) (by omega)
  have e2 : wrap64 (((C - 1 : Nat) : Int) - (k : Int)) = ((C - 1 - k : Nat) : Int) := wsub (by omega) (by omega)
  rw [t1, e1, e2]
  by_cases c : r % 2 = 1
  · rw [if_pos c, if_pos (by omega)]
  · rw [if_neg c, if_neg (by omega)]
theorem snake_eq (a b c : Int) : spec_foSnake.f a b c = impl_snake.f a b c := rfl
theorem placed_eq (a b : Int) : spec_foPlaced.f a b = some ((decide ((1 : Int) ≤ a) && decide (a ≤ 1000)) && (decide ((0 : Int) ≤ b) && decide (b ≤ 999999))) := by
  unfold spec_foPlaced.f
  simp only [l1In_eq, Option.bind_some]
  cases (decide ((1 : Int) ≤ a) && decide (a ≤ 1000)) <;> simp
theorem pi_both (c s : Int) : ∃ r k k2 b, impl_PlaceIn.f c s = some (r, k, b) ∧ spec_PlaceIn.f c s = some (r, k, b) ∧ impl_SnakePlace.f c s = some (r, k2, b) ∧ spec_SnakePlace.f c s = some (r, k2, b) ∧ (b = true → ∃ C S : Nat, c = C ∧ s = S ∧ 1 ≤ C ∧ C ≤ 1000 ∧ S ≤ 999999 ∧ r = ((S / C : Nat) : Int) ∧ k = ((S % C : Nat) : Int) ∧ k2 = ((snk C (S / C) (S % C) : Nat) : Int)) := by
  unfold impl_PlaceIn.f spec_PlaceIn.f impl_SnakePlace.f spec_SnakePlace.f impl_placeIn.f
  simp only [placed_eq, in_eq, Option.bind_some]
  by_cases c1 : (decide ((1 : Int) ≤ c) && decide (c ≤ 1000)) = true
  · rw [c1]
    simp only [if_true, Bool.true_and]
    obtain ⟨a1, a2⟩ := and_dec c1
    obtain ⟨C, rfl⟩ := Int.eq_ofNat_of_zero_le (show 0 ≤ c by omega)
    by_cases c2 : (decide ((0 : Int) ≤ s) && decide (s ≤ 999999)) = true
    · rw [c2]
      obtain ⟨b1, b2⟩ := and_dec c2
      obtain ⟨S, rfl⟩ := Int.eq_ofNat_of_zero_le b1
      have p0 : ¬ (C : Int) = 0 := by omega
      have t1 : Int.tdiv (S : Int) (C : Int) = ((S / C : Nat) : Int) := rfl
      have t2 : Int.tmod (S : Int) (C : Int) = ((S % C : Nat) : Int) := rfl
      have hd : S / C ≤ S := Nat.div_le_self _ _
      have hm : S % C < C := Nat.mod_lt _ (by omega)
      have hw : wrap64 ((S / C : Nat) : Int) = ((S / C : Nat) : Int) := wq (Nat.le_trans hd (by omega))
      simp only [if_true, if_neg p0, t1, t2, hw, Option.bind_some, snake_eq, snake_impl hm (by omega : C ≤ 1000)]
      exact ⟨_, _, _, true, rfl, rfl, rfl, rfl, fun _ => ⟨C, S, rfl, rfl, by omega, by omega, by omega, rfl, rfl, rfl⟩⟩
    · have c2' := Bool.eq_false_iff.mpr c2
      rw [c2']
      simp only [Bool.false_eq_true, if_false, Option.bind_some]
      exact ⟨_, _, _, false, rfl, rfl, rfl, rfl, fun h => by cases h⟩
  · have c1' := Bool.eq_false_iff.mpr c1
    rw [c1']
    simp only [Bool.false_eq_true, if_false, Option.bind_some, Bool.false_and]
    exact ⟨_, _, _, false, rfl, rfl, rfl, rfl, fun h => by cases h⟩
theorem at_eq (a b c : Int) : spec_foAt.f a b c = impl_isPlace.f a b c := by
  unfold spec_foAt.f impl_isPlace.f
  simp only [in_eq, l1In_eq]
theorem at_some (a b c : Int) : ∃ v, impl_isPlace.f a b c = some v := by
  unfold impl_isPlace.f
  simp only [in_eq, Option.bind_some]
  cases (decide ((1 : Int) ≤ a) && decide (a ≤ 1000)) <;> simp only [Bool.false_eq_true, if_false, if_true]
  · exact ⟨_, rfl⟩
  · cases (decide ((0 : Int) ≤ b) && decide (b ≤ 1000)) <;> simp only [Bool.false_eq_true, if_false, if_true] <;> exact ⟨_, rfl⟩
theorem snake_some (a b c : Int) : ∃ v, impl_snake.f a b c = some v := by
  unfold impl_snake.f
  split <;> exact ⟨_, rfl⟩
theorem sa_both (w x y : Int) : ∃ v v2 b, impl_SoldierAt.f w x y = some (v, b) ∧ spec_SoldierAt.f w x y = some (v, b) ∧ impl_SoldierOfSnake.f w x y = some (v2, b) ∧ spec_SoldierOfSnake.f w x y = some (v2, b) := by
  unfold impl_SoldierAt.f spec_SoldierAt.f impl_SoldierOfSnake.f spec_SoldierOfSnake.f
  obtain ⟨b, hb⟩ := at_some w x y
  obtain ⟨v, hv⟩ := snake_some w x y
  simp only [at_eq, snake_eq, hb, hv, Option.bind_some]
  cases b <;> exact ⟨_, _, _, rfl, rfl, rfl, rfl⟩
theorem sa_at {C r k : Nat} (h1 : 1 ≤ C) (h2 : C ≤ 1000) (h3 : r ≤ 1000) (h4 : k < C) : impl_SoldierAt.f (C : Int) (r : Int) (k : Int) = some (((r * C + k : Nat) : Int), true) ∧ impl_SoldierOfSnake.f (C : Int) (r : Int) ((snk C r k : Nat) : Int) = some (((r * C + k : Nat) : Int), true) := by
  have hs : snk C r k < C := by unfold snk; split <;> omega
  have hss : snk C r (snk C r k) = k := by unfold snk; split <;> omega
  have hp : ∀ j : Nat, j < C → impl_isPlace.f (C : Int) (r : Int) (j : Int) = some true := fun j hj => by
    have e1 : wrap64 ((C : Int) - 1) = ((C - 1 : Nat) : Int) := wsub (y := 1) (by omega) (by omega)
    have d1 : decide ((1 : Int) ≤ (C : Int)) = true := decide_eq_true (by omega)
    have d2 : decide ((C : Int) ≤ 1000) = true := decide_eq_true (by omega)
    have d3 : decide ((0 : Int) ≤ (r : Int)) = true := decide_eq_true (by omega)
    have d4 : decide ((r : Int) ≤ 1000) = true := decide_eq_true (by omega)
    have d5 : decide ((0 : Int) ≤ (j : Int)) = true := decide_eq_true (by omega)
    have d6 : decide ((j : Int) ≤ ((C - 1 : Nat) : Int)) = true := decide_eq_true (by omega)
    unfold impl_isPlace.f
    simp only [in_eq, Option.bind_some, e1, d1, d2, d3, d4, d5, d6, Bool.and_self, if_true]
  have hb : r * C ≤ 1000 * 1000 := Nat.mul_le_mul h3 h2
  constructor
  · unfold impl_SoldierAt.f
    simp only [hp k h4, Option.bind_some, if_true]
    rw [wqm (by omega), wqa (by omega)]
  · unfold impl_SoldierOfSnake.f
    simp only [hp _ hs, Option.bind_some, if_true, snake_impl hs h2, hss]
    rw [wqm (by omega), wqa (by omega)]
theorem mS_l0 (l : List Int) (hl : l.length ≤ 1000000000) (d : Nat) : ∀ i : Nat, i + d = l.length → Ev (fun k => laws_mSame.l0 k l l (l.length : Int) (i : Int)) true := by
  induction d with
  | zero =>
    intro i hi
    have p : ¬ ((i : Int) < (l.length : Int)) := by omega
    exact Ev.step (f := fun _ => some true) (fun k => by rw [laws_mSame.l0, if_neg p]) (Ev.now true)
  | succ d ih =>
    intro i hi
    have p1 : (i : Int) < (l.length : Int) := by omega
    have p2 : (0 : Int) ≤ (i : Int) := by omega
    refine Ev.step (fun k => ?_) (ih (i + 1) (by omega))
    rw [laws_mSame.l0, if_pos p1, if_pos p2, if_pos p1, if_pos p1, if_pos rfl]
    have : wrap64 ((i : Int) + 1) = ((i + 1 : Nat) : Int) := by rw [w64 (by omega) (by omega)]; omega
    rw [this]
theorem mS_self (l : List Int) (hl : l.length ≤ 1000000000) : Ev (fun k => laws_mSame.f k l l) true := by
  refine Ev.congr (fun k => ?_) (mS_l0 l hl l.length 0 (by omega))
  show (if (l.length : Int) = (l.length : Int) then laws_mSame.l0 k l l (l.length : Int) 0 else some false) = _
  rw [if_pos rfl]
  rfl
theorem rdl_at {L : List (List Int)} {i : Nat} (h : i < L.length) : rd_L1 L (i : Int) = L[i] := by
  unfold rd_L1
  simp [h]
theorem mR_l0 (L : List (List Int)) (hr : ∀ r ∈ L, r.length ≤ 1000000000) (hl : L.length ≤ 1000000) (d : Nat) : ∀ i : Nat, i + d = L.length → Ev (fun k => laws_mRows.l0 k L L (L.length : Int) (i : Int)) true := by
  induction d with
  | zero =>
    intro i hi
    have p : ¬ ((i : Int) < (L.length : Int)) := by omega
    exact Ev.step (f := fun _ => some true) (fun k => by rw [laws_mRows.l0, if_neg p]) (Ev.now true)
  | succ d ih =>
    intro i hi
    have p1 : (i : Int) < (L.length : Int) := by omega
    have p2 : (0 : Int) ≤ (i : Int) := by omega
    have e := rdl_at (L := L) (i := i) (by omega)
    have hm := mS_self L[i] (hr _ (List.getElem_mem (by omega)))
    have es : ∀ k, laws_mRows.l0 (k + 1) L L (L.length : Int) (i : Int) = (laws_mSame.f k L[i] L[i]).bind fun t => (if t = true then (laws_mRows.l0 k L L (L.length : Int) ((i + 1 : Nat) : Int)) else (some false)) := fun k => by
      rw [laws_mRows.l0, if_pos p1, if_pos p2, if_pos p1, if_pos p1, e, hw1 (by omega)]
    exact Ev.step es (Ev.bind hm (Ev.congr (fun k => if_pos rfl) (ih (i + 1) (by omega))))
theorem mR_self (L : List (List Int)) (hr : ∀ r ∈ L, r.length ≤ 1000000000) (hl : L.length ≤ 1000000) : Ev (fun k => laws_mRows.f k L L) true := by
  refine Ev.congr (fun k => ?_) (mR_l0 L hr hl L.length 0 (by omega))
  show (if (L.length : Int) = (L.length : Int) then laws_mRows.l0 k L L (L.length : Int) 0 else some false) = _
  rw [if_pos rfl]
  rfl
theorem mRise_l0 (l : List Int) (hl : l.length ≤ 1000000) (hp : l.Pairwise (· < ·)) (d : Nat) : ∀ i : Nat, 1 ≤ i → i + d = l.length + 1 → Ev (fun k => laws_mRises.l0 k l (i : Int)) true := by
  induction d with
  | zero =>
    intro i h1 hi
    have p : ¬ ((i : Int) < (l.length : Int)) := by omega
    exact Ev.step (f := fun _ => some true) (fun k => by rw [laws_mRises.l0, if_neg p]) (Ev.now true)
  | succ d ih =>
    intro i h1 hi
    by_cases c : i < l.length
    · have p1 : (i : Int) < (l.length : Int) := by omega
      have e1 : wrap64 ((i : Int) - 1) = ((i - 1 : Nat) : Int) := wsub (y := 1) (by omega) (by omega)
      have p2 : (0 : Int) ≤ ((i - 1 : Nat) : Int) := by omega
      have p3 : ((i - 1 : Nat) : Int) < (l.length : Int) := by omega
      have p4 : (0 : Int) ≤ (i : Int) := by omega
      have a1 : rd l ((i - 1 : Nat) : Int) = l[i - 1] := by simp [rd, show i - 1 < l.length by omega]
      have a2 : rd l (i : Int) = l[i] := by simp [rd, c]
      have hlt := List.pairwise_iff_getElem.1 hp (i - 1) i (by omega) c (by omega)
      have p5 : ¬ (l[i - 1] ≥ l[i]) := by omega
      refine Ev.step (fun k => ?_) (ih (i + 1) (by omega) (by omega))
      rw [laws_mRises.l0, if_pos p1, e1, if_pos p2, if_pos p3, if_pos p4, a1, a2, if_neg p5, hw1 (by omega)]
    · have p : ¬ ((i : Int) < (l.length : Int)) := by omega
      exact Ev.step (f := fun _ => some true) (fun k => by rw [laws_mRises.l0, if_neg p]) (Ev.now true)
theorem mRise_ok (l : List Int) (hl : l.length ≤ 1000000) (hp : l.Pairwise (· < ·)) : Ev (fun k => laws_mRises.f k l) true := mRise_l0 l hl hp l.length 1 (by omega) (by omega)
/-- A full square. -/
theorem sq_impl {n r : Nat} (h1 : 1 ≤ n) (h2 : n ≤ 1000000) (h3 : r * r ≤ n) (h4 : n < (r + 1) * (r + 1)) : Ev (fun k => impl_SquareOf.f k (n : Int)) ((r : Int), ((n - r * r : Nat) : Int), true) ∧ Ev (fun k => spec_SquareOf.f k (n : Int)) ((r : Int), ((n - r * r : Nat) : Int), true) := by
  have hb : impl_isSoldiers.f (n : Int) = some true := by
    unfold impl_isSoldiers.f impl_in.f
    rw [if_pos (by omega)]
    simp
    omega
  have hi := impl_root_ok (by omega : n ≤ 1000000000000) h3 h4
  have hs := spec_root_ok (by omega : n ≤ 1000000000000) h3 h4
  have e : wrap64 ((n : Int) - wrap64 ((r : Int) * (r : Int))) = ((n - r * r : Nat) : Int) := by rw [wqm (by omega), wsub h3 (by omega)]
  constructor
  · unfold impl_SquareOf.f
    simp only [hb, Option.bind_some, if_true]
    exact Ev.bind hi (Ev.congr (fun k => by rw [e]) (Ev.now _))
  · unfold spec_SquareOf.f
    simp only [soldiers_eq, hb, Option.bind_some, if_true]
    exact Ev.bind hs (Ev.congr (fun k => by rw [e]) (Ev.now _))
theorem tri_ex (n : Nat) : ∃ r : Nat, tri r ≤ n ∧ n < tri (r + 1) := by
  induction n with
  | zero => exact ⟨0, by decide, by decide⟩
  | succ n ih =>
    obtain ⟨r, h1, h2⟩ := ih
    by_cases c : tri (r + 1) ≤ n + 1
    · refine ⟨r + 1, c, ?_⟩
      rw [tri_succ (r + 1)]
      omega
    · exact ⟨r, by omega, by omega⟩
theorem tri_ge (r : Nat) : r ≤ tri r := by
  induction r with
  | zero => exact Nat.zero_le _
  | succ r ih => rw [tri_succ]; omega
theorem tri_l0 {n r : Nat} (h2 : n ≤ 1000000) (h3 : tri r ≤ n) (h4 : n < tri (r + 1)) (d : Nat) : ∀ x : Nat, x + d = r → Ev (fun k => impl_TriangleOf.l0 k (n : Int) (x : Int)) ((r : Int), ((n - tri r : Nat) : Int), true) := by
  have hr := tri_ge r
  induction d with
  | zero =>
    intro x hx
    obtain rfl : x = r := by omega
    refine Ev.step (f := fun _ => some ((x : Int), ((n - tri x : Nat) : Int), true)) (fun k => ?_) (Ev.now _)
    rw [impl_TriangleOf.l0, hw1 (by omega), tri_f (x + 1) (by omega)]
    simp only [Option.bind_some]
    rw [if_neg (fun h => absurd (Int.ofNat_le.1 h) (by omega)), tri_f x (by omega)]
    simp only [Option.bind_some]
    rw [wsub h3 (by omega)]
  | succ d ih =>
    intro x hx
    have hm : tri (x + 1) ≤ tri r := tri_mono (by omega)
    refine Ev.step (fun k => ?_) (ih (x + 1) (by omega))
    rw [impl_TriangleOf.l0, hw1 (by omega), tri_f (x + 1) (by omega)]
    simp only [Option.bind_some]
    rw [if_pos (Int.ofNat_le.2 (by omega))]
theorem tr_impl {n r : Nat} (h1 : 1 ≤ n) (h2 : n ≤ 1000000) (h3 : tri r ≤ n) (h4 : n < tri (r + 1)) : Ev (fun k => impl_TriangleOf.f k (n : Int)) ((r : Int), ((n - tri r : Nat) : Int), true) ∧ Ev (fun k => spec_TriangleOf.f k (n : Int)) ((r : Int), ((n - tri r : Nat) : Int), true) := by
  have hb : impl_isSoldiers.f (n : Int) = some true := by
    unfold impl_isSoldiers.f impl_in.f
    rw [if_pos (by omega)]
    simp
    omega
  constructor
  · unfold impl_TriangleOf.f
    simp only [hb, Option.bind_some, if_true]
    exact tri_l0 h2 h3 h4 r 0 (by omega)
  · unfold spec_TriangleOf.f
    simp only [soldiers_eq, hb, Option.bind_some, if_true]
    exact Ev.bind (fo_tri_ok (by omega) h3 h4) (Ev.now _)
theorem upto_pair (x : Nat) : ((upto x).map Int.ofNat).Pairwise (· < ·) := by
  have h : cand.Pairwise (· < ·) := by decide
  have h2 : (upto x).Pairwise (· < ·) := h.filter _
  exact h2.map _ (fun a b hab => Int.ofNat_lt.2 hab)
theorem upto_mem {n : Nat} {m : Int} (h : m ∈ (upto (n + 1)).map Int.ofNat) : ∃ M q r : Nat, m = M ∧ 1 ≤ M ∧ M ≤ n ∧ q * q = M ∧ tri r = M := by
  obtain ⟨M, hM, rfl⟩ := List.mem_map.1 h
  obtain ⟨hc, hlt⟩ := List.mem_filter.1 hM
  have hlt := of_decide_eq_true hlt
  have : M = 1 ∨ M = 36 ∨ M = 1225 ∨ M = 41616 := by simpa [cand] using hc
  rcases this with rfl | rfl | rfl | rfl
  · exact ⟨1, 1, 1, rfl, by omega, by omega, rfl, rfl⟩
  · exact ⟨36, 6, 8, rfl, by omega, by omega, rfl, rfl⟩
  · exact ⟨1225, 35, 49, rfl, by omega, by omega, rfl, rfl⟩
  · exact ⟨41616, 204, 288, rfl, by omega, by omega, rfl, rfl⟩
def HP (n a b : Nat) : Prop := ∃ Q, a = Q + b ∧ 1 ≤ b ∧ b ≤ 500 ∧ b < Q ∧ 4 * b * Q = n
def Pairs (P : Nat → Nat → Prop) (L : List (List Int)) : Prop := (∀ i, (h : i < L.length) → ∃ a b : Nat, L[i] = [(a : Int), (b : Int)] ∧ P a b) ∧ ∀ i, (h : i + 1 < L.length) → rd L[i] 0 < rd L[i + 1] 0
theorem Gd.pairs {P : Nat → Nat → Prop} {L : List (List Int)} {j : Nat} (h : Gd P L j) : Pairs P L := ⟨fun i hi => by
  obtain ⟨a, b, e, _, hp⟩ := h.1 _ (List.getElem_mem hi)
  exact ⟨a, b, e, hp⟩, fun i hi => List.pairwise_iff_getElem.1 h.2 i (i + 1) (by omega) hi (by omega)⟩
theorem hup_pairs {n M : Nat} (hM : M ≤ 500) : Pairs (HP n) (hup n M).reverse := by
  constructor
  · intro i hi
    obtain ⟨t, h1, h2, h3, h4, e⟩ := mem_hup (List.mem_reverse.1 (List.getElem_mem hi))
    obtain ⟨Q, hQ⟩ := Nat.dvd_of_mod_eq_zero h4
    have e1 : n / (4 * t) = Q := by rw [hQ, Nat.mul_div_cancel_left _ (by omega)]
    have hlt : t + 1 ≤ Q := by
      rw [hQ] at h3
      exact Nat.le_of_mul_le_mul_left h3 (by omega)
    exact ⟨n / (4 * t) + t, t, e, Q, by rw [e1], h1, by omega, by omega, hQ.symm⟩
  · intro i hi
    have hp : (hup n M).reverse.Pairwise (fun a b => rd a 0 < rd b 0) := List.pairwise_reverse.2 (hup_pair n M)
    exact List.pairwise_iff_getElem.1 hp i (i + 1) (by omega) hi (by omega)
section
variable {n : Nat} {s t p q col sol w x y side over rows left : Int} {shapes hollows squares : List (List Int)} {bth : List Int}
theorem fs_l0 (hL : shapes.length ≤ 100000) (hN : n ≤ 1000000) (hP : Pairs (RP n) shapes) (h : Ev (fun k => laws_FnFormsStandOfAll.l1 k (n : Int) s t p q col sol w x y shapes hollows side over rows left squares bth hollows (hollows.length : Int) 0) true) (d : Nat) : ∀ i : Nat, i + d = shapes.length →
    Ev (fun k => laws_FnFormsStandOfAll.l0 k (n : Int) s t p q col sol w x y shapes hollows side over rows left squares bth shapes (shapes.length : Int) (i : Int)) true := by
  induction d with
  | zero =>
    intro i hi
    have p : ¬ ((i : Int) < (shapes.length : Int)) := by omega
    exact Ev.step (fun k => by rw [laws_FnFormsStandOfAll.l0, if_neg p]) h
  | succ d ih =>
    intro i hi
    have hlt : i < shapes.length := by omega
    have p1 : (i : Int) < (shapes.length : Int) := by omega
    have p2 : (0 : Int) ≤ (i : Int) := by omega
    obtain ⟨a, b, eab, g1, g2, g3⟩ := hP.1 i hlt
    have e := (rdl_at hlt).trans eab
    have hl : (([(a : Int), (b : Int)] : List Int).length : Int) = 2 := rfl
    have r0 : rd [(a : Int), (b : Int)] 0 = (a : Int) := rfl
    have r1 : rd [(a : Int), (b : Int)] 1 = (b : Int) := rfl
    have q1 : ¬ ((a : Int) < 1) := by omega
    have q2 : ¬ ((a : Int) > (b : Int)) := by omega
    have q3 : ((a * b : Nat) : Int) = (n : Int) := by rw [g3]
    have hnext := ih (i + 1) (by omega)
    refine Ev.step (fun k => ?_) hnext
    rw [laws_FnFormsStandOfAll.l0, if_pos p1, if_pos p2, if_pos p1, e, hl, if_pos rfl, if_pos (by decide), r0, if_neg q1, if_pos (by decide), r1, if_neg q2, wqm (by omega), if_pos q3]
    by_cases c : (i : Int) > 0
    · have e1 : wrap64 ((i : Int) - 1) = ((i - 1 : Nat) : Int) := wsub (y := 1) (by omega) (by omega)
      have hlt2 : i - 1 < shapes.length := by omega
      obtain ⟨a', b', eab', _⟩ := hP.1 (i - 1) hlt2
      have e2 := (rdl_at hlt2).trans eab'
      have hr := hP.2 (i - 1) (by omega)
      have hx : shapes[i - 1 + 1] = shapes[i] := by congr 1; omega
      rw [hx, eab, eab'] at hr
      have hr' : (a' : Int) < (a : Int) := hr
      have r2 : rd [(a' : Int), (b' : Int)] 0 = (a' : Int) := rfl
      have hl2 : (([(a' : Int), (b' : Int)] : List Int).length : Int) = 2 := rfl
      have p3 : (0 : Int) ≤ ((i - 1 : Nat) : Int) := by omega
      have p4 : ((i - 1 : Nat) : Int) < (shapes.length : Int) := by omega
      rw [if_pos c, e1, if_pos p3, if_pos p4, e2, hl2, if_pos (by decide), r2, if_neg (by omega), hw1 (by omega)]
    · rw [if_neg c, hw1 (by omega)]
theorem fs_l1 (hL : hollows.length ≤ 100000) (hN : n ≤ 1000000) (hN1 : 1 ≤ n) (hP : Pairs (HP n) hollows) (h : Ev (fun k => laws_FnFormsStandOfAll.l2 k (n : Int) s t p q col sol w x y shapes side over rows left squares bth squares (squares.length : Int) 0) true) (d : Nat) : ∀ i : Nat, i + d = hollows.length →
    Ev (fun k => laws_FnFormsStandOfAll.l1 k (n : Int) s t p q col sol w x y shapes hollows side over rows left squares bth hollows (hollows.length : Int) (i : Int)) true := by
  induction d with
  | zero =>
    intro i hi
    have p : ¬ ((i : Int) < (hollows.length : Int)) := by omega
    exact Ev.step (fun k => by rw [laws_FnFormsStandOfAll.l1, if_neg p]) h
  | succ d ih =>
    intro i hi
    have hlt : i < hollows.length := by omega
    have p1 : (i : Int) < (hollows.length : Int) := by omega
    have p2 : (0 : Int) ≤ (i : Int) := by omega
    obtain ⟨a, b, eab, Q, g1, g2, g3, g4, g5⟩ := hP.1 i hlt
    have hQn : Q ≤ n := by
      have : 1 * Q ≤ 4 * b * Q := Nat.mul_le_mul_right _ (by omega)
      omega
    have e := (rdl_at hlt).trans eab
    have hl : (([(a : Int), (b : Int)] : List Int).length : Int) = 2 := rfl
    have r0 : rd [(a : Int), (b : Int)] 0 = (a : Int) := rfl
    have r1 : rd [(a : Int), (b : Int)] 1 = (b : Int) := rfl
    have q1 : ¬ ((b : Int) < 1) := by omega
    have q2 : ¬ ((a : Int) ≤ ((2 * b : Nat) : Int)) := by omega
    have hdiv : n / (4 * b) = Q := by rw [← g5, Nat.mul_div_cancel_left _ (by omega)]
    have hmod : n % (4 * b) = 0 := by rw [← g5, Nat.mul_mod_right]
    have hgh := gh_impl n b hN1 hN (by omega) (by omega)
    rw [hdiv, hmod, if_pos g4] at hgh
    have hq0 : Q ≤ 250000 := by
      have : 4 * 1 * Q ≤ 4 * b * Q := Nat.mul_le_mul_right _ (by omega)
      omega
    have b1 : a * a ≤ 250500 * 250500 := Nat.mul_le_mul (by omega) (by omega)
    have b2 : (a - 2 * b) * (a - 2 * b) ≤ 250500 * 250500 := Nat.mul_le_mul (by omega) (by omega)
    have hval : (a - 2 * b) * (a - 2 * b) + n = a * a := by
      obtain ⟨z, rfl⟩ : ∃ z, Q = b + z := ⟨Q - b, by omega⟩
      have e1 : a = 2 * b + z := by omega
      have e2 : a - 2 * b = z := by omega
      rw [e2, e1, ← g5]
      grind
    have hv : ((a * a - (a - 2 * b) * (a - 2 * b) : Nat) : Int) = (n : Int) := by
      congr 1
      omega
    have hnext := ih (i + 1) (by omega)
    have hrest : ∀ X : Nat → Option Bool, (∀ k, X k = (impl_GreatestHollow.f k (n : Int) (b : Int)).bind fun bt290 => (if (b : Int) ≤ 1000 then (if bt290.2.2 = true then (if bt290.1 = (a : Int) then (if bt290.2.1 = 0 then (laws_FnFormsStandOfAll.l1 k (n : Int) s t p q col sol w x y shapes hollows side over rows left squares bth hollows (hollows.length : Int) ((i + 1 : Nat) : Int)) else (some false)) else (some false)) else (some false)) else (laws_FnFormsStandOfAll.l1 k (n : Int) s t p q col sol w x y shapes hollows side over rows left squares bth hollows (hollows.length : Int) ((i + 1 : Nat) : Int)))) → Ev X true := fun X hX => by
      refine Ev.congr hX (Ev.bind hgh ?_)
      have p5 : (b : Int) ≤ 1000 := by omega
      have p6 : ((Q + b : Nat) : Int) = (a : Int) := by omega
      exact Ev.congr (fun k => (if_pos p5).trans ((if_pos rfl).trans ((if_pos p6).trans (if_pos rfl)))) hnext
    have hhead : ∀ k, laws_FnFormsStandOfAll.l1 (k + 1) (n : Int) s t p q col sol w x y shapes hollows side over rows left squares bth hollows (hollows.length : Int) (i : Int) = (impl_GreatestHollow.f k (n : Int) (b : Int)).bind fun bt290 => (if (b : Int) ≤ 1000 then (if bt290.2.2 = true then (if bt290.1 = (a : Int) then (if bt290.2.1 = 0 then (laws_FnFormsStandOfAll.l1 k (n : Int) s t p q col sol w x y shapes hollows side over rows left squares bth hollows (hollows.length : Int) ((i + 1 : Nat) : Int)) else (some false)) else (some false)) else (some false)) else (laws_FnFormsStandOfAll.l1 k (n : Int) s t p q col sol w x y shapes hollows side over rows left squares bth hollows (hollows.length : Int) ((i + 1 : Nat) : Int))) := fun k => by
      rw [laws_FnFormsStandOfAll.l1, if_pos p1, if_pos p2, if_pos p1, e, hl, if_pos rfl, if_pos (by decide), r1, if_neg q1, if_pos (by decide), r0, hw2 (by omega), if_neg q2, wqm (by omega), wsub (by omega) (by omega), wqm (by omega), wsub (by omega) (by omega), if_pos hv]
      by_cases c : (i : Int) > 0
      · have e1 : wrap64 ((i : Int) - 1) = ((i - 1 : Nat) : Int) := wsub (y := 1) (by omega) (by omega)
        have hlt2 : i - 1 < hollows.length := by omega
        obtain ⟨a', b', eab', _⟩ := hP.1 (i - 1) hlt2
        have e2 := (rdl_at hlt2).trans eab'
        have hr := hP.2 (i - 1) (by omega)
        have hx : hollows[i - 1 + 1] = hollows[i] := by congr 1; omega
        rw [hx, eab, eab'] at hr
        have hr' : (a' : Int) < (a : Int) := hr
        have r2 : rd [(a' : Int), (b' : Int)] 0 = (a' : Int) := rfl
        have hl2 : (([(a' : Int), (b' : Int)] : List Int).length : Int) = 2 := rfl
        have p3 : (0 : Int) ≤ ((i - 1 : Nat) : Int) := by omega
        have p4 : ((i - 1 : Nat) : Int) < (hollows.length : Int) := by omega
        rw [if_pos c, e1, if_pos p3, if_pos p4, e2, hl2, if_pos (by decide), r2, if_neg (by omega), hw1 (by omega)]
      · rw [if_neg c, hw1 (by omega)]
    exact Ev.step (f := fun k => (impl_GreatestHollow.f k (n : Int) (b : Int)).bind fun bt290 => (if (b : Int) ≤ 1000 then (if bt290.2.2 = true then (if bt290.1 = (a : Int) then (if bt290.2.1 = 0 then (laws_FnFormsStandOfAll.l1 k (n : Int) s t p q col sol w x y shapes hollows side over rows left squares bth hollows (hollows.length : Int) ((i + 1 : Nat) : Int)) else (some false)) else (some false)) else (some false)) else (laws_FnFormsStandOfAll.l1 k (n : Int) s t p q col sol w x y shapes hollows side over rows left squares bth hollows (hollows.length : Int) ((i + 1 : Nat) : Int)))) hhead (hrest _ (fun _ => rfl))
end
section
variable {s t p q col sol w x y : Int}
theorem fs_j10 {C S : Nat} (h1 : 1 ≤ C) (h2 : C ≤ 1000) : Ev (fun k => laws_FnFormsStandOfAll.j10 k (C : Int) (S : Int) ((S / C : Nat) : Int) ((S % C : Nat) : Int) ((S / C : Nat) : Int) ((snk C (S / C) (S % C) : Nat) : Int) false) true := by
  have hm : S % C < C := Nat.mod_lt _ (by omega)
  have hdm := Nat.div_add_mod S C
  rw [Nat.mul_comm] at hdm
  by_cases c : ((S / C : Nat) : Int) ≤ 1000
  · obtain ⟨a1, a2⟩ := sa_at h1 h2 (show S / C ≤ 1000 by omega) hm
    rw [hdm] at a1 a2
    refine Ev.step (f := fun _ => some true) (fun k => ?_) (Ev.now true)
    rw [laws_FnFormsStandOfAll.j10, if_neg (by decide), if_pos c, a1, a2]
    simp
  · exact Ev.step (f := fun _ => some true) (fun k => by rw [laws_FnFormsStandOfAll.j10, if_neg (by decide), if_neg c]) (Ev.now true)
theorem fs_j9 {r kk k2 : Int} {b : Bool} (hb : b = true → ∃ C S : Nat, col = C ∧ sol = S ∧ 1 ≤ C ∧ C ≤ 1000 ∧ S ≤ 999999 ∧ r = ((S / C : Nat) : Int) ∧ kk = ((S % C : Nat) : Int) ∧ k2 = ((snk C (S / C) (S % C) : Nat) : Int)) : Ev (fun k => laws_FnFormsStandOfAll.j9 k col sol r kk b r k2 false) true := by
  cases b with
  | false => exact Ev.step (f := fun _ => some true) (fun k => by rw [laws_FnFormsStandOfAll.j9, if_neg (by decide), if_neg (by decide)]) (Ev.now true)
  | true =>
    obtain ⟨C, S, rfl, rfl, h1, h2, h3, rfl, rfl, rfl⟩ := hb rfl
    have hm : S % C < C := Nat.mod_lt _ (by omega)
    have hdm := Nat.div_add_mod S C
    rw [Nat.mul_comm] at hdm
    have hd : S / C ≤ S := Nat.div_le_self _ _
    have q1 : ((S / C * C + S % C : Nat) : Int) = (S : Int) := by rw [hdm]
    obtain ⟨D, hD⟩ : ∃ D, S / C = D := ⟨_, rfl⟩
    obtain ⟨K, hK⟩ : ∃ K, S % C = K := ⟨_, rfl⟩
    have h10 := fs_j10 (S := S) h1 h2
    rw [hD, hK] at h10 q1
    rw [hD, hK]
    rw [hD] at hd
    rw [hK] at hm
    have hDC : D * C ≤ 1000000 := by
      have : D * C + K = S := by rw [← hD, ← hK]; exact hdm
      omega
    have t1 : Int.tmod (D : Int) 2 = ((D % 2 : Nat) : Int) := rfl
    refine Ev.step (fun k => ?_) h10
    rw [laws_FnFormsStandOfAll.j9, if_neg (by decide), if_pos rfl, if_pos rfl, wqm (by omega), wqa (by omega), if_pos q1, t1]
    have e1 : wrap64 ((C : Int) - 1) = ((C - 1 : Nat) : Int) := wsub (y := 1) (by omega) (by omega)
    by_cases c : D % 2 = 1
    · have hs : snk C D K = C - 1 - K := by unfold snk; rw [if_pos c]
      have e2 : wrap64 (((C - 1 - K : Nat) : Int) + (K : Int)) = ((C - 1 : Nat) : Int) := by rw [wqa (by omega)]; congr 1; omega
      rw [hs, if_neg (by omega), if_pos (by omega), e1, e2, bne_self_eq_false]
    · have hs : snk C D K = K := by unfold snk; rw [if_neg c]
      rw [hs, if_pos (by omega), if_pos rfl, if_neg (by omega)]
theorem fs_j6 : Ev (fun k => laws_FnFormsStandOfAll.j6 k s t p q col sol w x y) true := by
  obtain ⟨hv, hb, hi, hs, hf⟩ := ch_both s t
  obtain ⟨gv, gr, gb, gi, gs, gf⟩ := gh_both p q
  obtain ⟨r, kk, k2, b, pi, ps, ni, ns, pf⟩ := pi_both col sol
  obtain ⟨v, v2, ab, ai, as_, bi, bs⟩ := sa_both w x y
  have h9 := fs_j9 (col := col) (sol := sol) (r := r) (kk := kk) (k2 := k2) (b := b) pf
  have h8 : Ev (fun k => laws_FnFormsStandOfAll.j8 k p q col sol gv gr gb r kk b r k2 false) true := by
    cases gb with
    | false => exact Ev.step (fun k => by rw [laws_FnFormsStandOfAll.j8, if_neg (by decide), if_neg (by decide)]) h9
    | true =>
      obtain ⟨N, T, Q, rfl, rfl, e1, e2, e3, rfl, rfl, e4, e5⟩ := gf rfl
      have hq : Q ≤ 1000000 := by
        have : 1 * Q ≤ 4 * T * Q := Nat.mul_le_mul_right _ (by omega)
        omega
      have hm : N % (4 * T) < 4 * T := Nat.mod_lt _ (by omega)
      have p1 : ¬ ((Q + T : Nat) : Int) ≤ ((2 * T : Nat) : Int) := by omega
      have e6 : wrap64 (((Q + T : Nat) : Int) - (T : Int)) = (Q : Int) := by rw [wsub (by omega) (by omega), Nat.add_sub_cancel]
      have p2 : ((4 * T * Q + N % (4 * T) : Nat) : Int) = (N : Int) := by rw [e5]
      have p3 : ¬ ((N % (4 * T) : Nat) : Int) < 0 := by omega
      have p4 : ¬ (((N % (4 * T) : Nat) : Int) ≥ ((4 * T : Nat) : Int)) := by omega
      refine Ev.step (fun k => ?_) h9
      rw [laws_FnFormsStandOfAll.j8, if_neg (by decide), if_pos rfl, hw2 (by omega), if_neg p1, hw4 (by omega), e6, wqm (by omega), wqa (by omega), if_pos p2, if_neg p3, decide_eq_false p4]
  have h7 : Ev (fun k => laws_FnFormsStandOfAll.j7 k s t p q col sol hv hb gv gr gb r kk b r k2 false) true := by
    cases hb with
    | false => exact Ev.step (fun k => by rw [laws_FnFormsStandOfAll.j7, if_neg (by decide), if_neg (by decide)]) h8
    | true =>
      obtain ⟨S, T, rfl, rfl, e1, e2, e3, rfl⟩ := hf rfl
      have hval := ch_val e1
      have b1 : S * S ≤ 1000 * 1000 := Nat.mul_le_mul (by omega) (by omega)
      have e4 : ((4 * T * (S - T) : Nat) : Int) = ((S * S - (S - 2 * T) * (S - 2 * T) : Nat) : Int) := by congr 1; omega
      refine Ev.step (fun k => ?_) h8
      rw [laws_FnFormsStandOfAll.j7, if_neg (by decide), if_pos rfl, wqm (by omega), hw2 (by omega), wsub (by omega) (by omega), wqm (by omega), wsub (by omega) (by omega), e4, bne_self_eq_false]
  have n1 : ∀ b : Bool, ¬ ((b != b) = true) := fun b => by simp
  refine Ev.step (f := fun k => ((impl_CountHollow.f s t).bind fun bt320 => ((spec_CountHollow.f s t).bind fun bt322 => ((impl_GreatestHollow.f k p q).bind fun bt324 => ((spec_GreatestHollow.f k p q).bind fun bt327 => ((impl_PlaceIn.f col sol).bind fun bt330 => ((spec_PlaceIn.f col sol).bind fun bt333 => ((impl_SnakePlace.f col sol).bind fun bt336 => ((spec_SnakePlace.f col sol).bind fun bt339 => ((impl_SoldierAt.f w x y).bind fun bt342 => ((spec_SoldierAt.f w x y).bind fun bt344 => ((impl_SoldierOfSnake.f w x y).bind fun bt346 => ((spec_SoldierOfSnake.f w x y).bind fun bt348 => (if (bt320.2 != bt322.2) = true then (laws_FnFormsStandOfAll.j7 k s t p q col sol bt320.1 bt320.2 bt324.1 bt324.2.1 bt324.2.2 bt330.1 bt330.2.1 bt330.2.2 bt336.1 bt336.2.1 true) else (if bt320.1 = bt322.1 then (if (bt324.2.2 != bt327.2.2) = true then (laws_FnFormsStandOfAll.j7 k s t p q col sol bt320.1 bt320.2 bt324.1 bt324.2.1 bt324.2.2 bt330.1 bt330.2.1 bt330.2.2 bt336.1 bt336.2.1 true) else (if bt324.1 = bt327.1 then (if bt324.2.1 = bt327.2.1 then (if (bt330.2.2 != bt333.2.2) = true then (laws_FnFormsStandOfAll.j7 k s t p q col sol bt320.1 bt320.2 bt324.1 bt324.2.1 bt324.2.2 bt330.1 bt330.2.1 bt330.2.2 bt336.1 bt336.2.1 true) else (if bt330.1 = bt333.1 then (if bt330.2.1 = bt333.2.1 then (if (bt336.2.2 != bt339.2.2) = true then (laws_FnFormsStandOfAll.j7 k s t p q col sol bt320.1 bt320.2 bt324.1 bt324.2.1 bt324.2.2 bt330.1 bt330.2.1 bt330.2.2 bt336.1 bt336.2.1 true) else (if bt336.1 = bt339.1 then (if bt336.2.1 = bt339.2.1 then (if (bt336.2.2 != bt330.2.2) = true then (laws_FnFormsStandOfAll.j7 k s t p q col sol bt320.1 bt320.2 bt324.1 bt324.2.1 bt324.2.2 bt330.1 bt330.2.1 bt330.2.2 bt336.1 bt336.2.1 true) else (if (bt342.2 != bt344.2) = true then (laws_FnFormsStandOfAll.j7 k s t p q col sol bt320.1 bt320.2 bt324.1 bt324.2.1 bt324.2.2 bt330.1 bt330.2.1 bt330.2.2 bt336.1 bt336.2.1 true) else (if bt342.1 = bt344.1 then (if (bt346.2 != bt348.2) = true then (laws_FnFormsStandOfAll.j7 k s t p q col sol bt320.1 bt320.2 bt324.1 bt324.2.1 bt324.2.2 bt330.1 bt330.2.1 bt330.2.2 bt336.1 bt336.2.1 true) else (if bt346.1 = bt348.1 then (laws_FnFormsStandOfAll.j7 k s t p q col sol bt320.1 bt320.2 bt324.1 bt324.2.1 bt324.2.2 bt330.1 bt330.2.1 bt330.2.2 bt336.1 bt336.2.1 (bt346.2 != bt342.2)) else (laws_FnFormsStandOfAll.j7 k s t p q col sol bt320.1 bt320.2 bt324.1 bt324.2.1 bt324.2.2 bt330.1 bt330.2.1 bt330.2.2 bt336.1 bt336.2.1 true))) else (laws_FnFormsStandOfAll.j7 k s t p q col sol bt320.1 bt320.2 bt324.1 bt324.2.1 bt324.2.2 bt330.1 bt330.2.1 bt330.2.2 bt336.1 bt336.2.1 true)))) else (laws_FnFormsStandOfAll.j7 k s t p q col sol bt320.1 bt320.2 bt324.1 bt324.2.1 bt324.2.2 bt330.1 bt330.2.1 bt330.2.2 bt336.1 bt336.2.1 true)) else (laws_FnFormsStandOfAll.j7 k s t p q col sol bt320.1 bt320.2 bt324.1 bt324.2.1 bt324.2.2 bt330.1 bt330.2.1 bt330.2.2 bt336.1 bt336.2.1 true))) else (laws_FnFormsStandOfAll.j7 k s t p q col sol bt320.1 bt320.2 bt324.1 bt324.2.1 bt324.2.2 bt330.1 bt330.2.1 bt330.2.2 bt336.1 bt336.2.1 true)) else (laws_FnFormsStandOfAll.j7 k s t p q col sol bt320.1 bt320.2 bt324.1 bt324.2.1 bt324.2.2 bt330.1 bt330.2.1 bt330.2.2 bt336.1 bt336.2.1 true))) else (laws_FnFormsStandOfAll.j7 k s t p q col sol bt320.1 bt320.2 bt324.1 bt324.2.1 bt324.2.2 bt330.1 bt330.2.1 bt330.2.2 bt336.1 bt336.2.1 true)) else (laws_FnFormsStandOfAll.j7 k s t p q col sol bt320.1 bt320.2 bt324.1 bt324.2.1 bt324.2.2 bt330.1 bt330.2.1 bt330.2.2 bt336.1 bt336.2.1 true))) else (laws_FnFormsStandOfAll.j7 k s t p q col sol bt320.1 bt320.2 bt324.1 bt324.2.1 bt324.2.2 bt330.1 bt330.2.1 bt330.2.2 bt336.1 bt336.2.1 true)))))))))))))))) (fun k => by rw [laws_FnFormsStandOfAll.j6]) ?_
  have nw : ∀ {α : Type} {o : Option α} {a : α}, o = some a → Ev (fun _ => o) a := fun h => Ev.congr (f := fun _ => some _) (fun _ => h) (Ev.now _)
  refine Ev.bind (nw hi) (Ev.bind (nw hs) (Ev.bind gi (Ev.bind gs (Ev.bind (nw pi) (Ev.bind (nw ps) (Ev.bind (nw ni) (Ev.bind (nw ns) (Ev.bind (nw ai) (Ev.bind (nw as_) (Ev.bind (nw bi) (Ev.bind (nw bs) ?_)))))))))))
  simp only [bne_self_eq_false, Bool.false_eq_true, if_false, if_true]
  exact h7
variable {n : Nat} {bth : List Int}
theorem fs_l3 (hn : n ≤ 1000000) (hb : bth.length ≤ 10) (hm : ∀ m ∈ bth, ∃ M q r : Nat, m = M ∧ 1 ≤ M ∧ M ≤ n ∧ q * q = M ∧ tri r = M) (d : Nat) : ∀ i : Nat, i + d = bth.length →
    Ev (fun k => laws_FnFormsStandOfAll.l3 k (n : Int) s t p q col sol w x y bth (bth.length : Int) (i : Int)) true := by
  induction d with
  | zero =>
    intro i hi
    have p : ¬ ((i : Int) < (bth.length : Int)) := by omega
    exact Ev.step (fun k => by rw [laws_FnFormsStandOfAll.l3, if_neg p]) fs_j6
  | succ d ih =>
    intro i hi
    have hlt : i < bth.length := by omega
    have p1 : (i : Int) < (bth.length : Int) := by omega
    have p2 : (0 : Int) ≤ (i : Int) := by omega
    have e : rd bth (i : Int) = bth[i] := by simp [rd, hlt]
    obtain ⟨M, qq, r, hM, m1, m2, m3, m4⟩ := hm _ (List.getElem_mem hlt)
    rw [hM] at e
    have hsq := (sq_impl (n := M) (r := qq) m1 (by omega) (by omega) (by rw [← m3]; exact Nat.mul_lt_mul_of_lt_of_le (by omega) (by omega) (by omega))).1
    have htr := (tr_impl (n := M) (r := r) m1 (by omega) (by omega) (by rw [tri_succ]; omega)).1
    have z1 : M - qq * qq = 0 := by omega
    have z2 : M - tri r = 0 := by omega
    rw [z1] at hsq
    rw [z2] at htr
    have p3 : ¬ ((M : Int) > (n : Int)) := by omega
    have es : ∀ k, laws_FnFormsStandOfAll.l3 (k + 1) (n : Int) s t p q col sol w x y bth (bth.length : Int) (i : Int) = (impl_SquareOf.f k (M : Int)).bind fun bt314 => ((impl_TriangleOf.f k (M : Int)).bind fun bt317 => (if bt314.2.2 = true then (if bt317.2.2 = true then (if bt314.2.1 = 0 then (if bt317.2.1 = 0 then (if (M : Int) > (n : Int) then (some false) else (laws_FnFormsStandOfAll.l3 k (n : Int) s t p q col sol w x y bth (bth.length : Int) ((i + 1 : Nat) : Int))) else (some false)) else (some false)) else (some false)) else (some false))) := fun k => by
      rw [laws_FnFormsStandOfAll.l3, if_pos p1, if_pos p2, if_pos p1, e, hw1 (by omega)]
    exact Ev.step es (Ev.bind hsq (Ev.bind htr (Ev.congr (fun k => (if_pos rfl).trans ((if_pos rfl).trans ((if_pos rfl).trans ((if_pos rfl).trans (if_neg p3))))) (ih (i + 1) (by omega)))))
variable {side over rows left : Int} {shapes hollows squares : List (List Int)}
theorem fs_l2 {r tr : Nat} (hL : squares.length ≤ 100000) (hN : n ≤ 1000000) (h1s : 1 ≤ shapes.length) (hP : Pairs (TP n) squares) (hr1 : r * r ≤ n) (hr2 : n < (r + 1) * (r + 1)) (ht1 : tri tr ≤ n) (ht2 : n < tri (tr + 1)) (hb : bth.length ≤ 10) (hpw : bth.Pairwise (· < ·)) (hm : ∀ m ∈ bth, ∃ M q r : Nat, m = M ∧ 1 ≤ M ∧ M ≤ n ∧ q * q = M ∧ tri r = M) (d : Nat) : ∀ i : Nat, i + d = squares.length →
    Ev (fun k => laws_FnFormsStandOfAll.l2 k (n : Int) s t p q col sol w x y shapes (r : Int) ((n - r * r : Nat) : Int) (tr : Int) ((n - tri tr : Nat) : Int) squares bth squares (squares.length : Int) (i : Int)) true := by
  induction d with
  | zero =>
    intro i hi
    have pz : ¬ ((i : Int) < (squares.length : Int)) := by omega
    have h4 : Ev (fun k => laws_FnFormsStandOfAll.j4 k (n : Int) s t p q col sol w x y bth false) true := Ev.step (fun k => by rw [laws_FnFormsStandOfAll.j4, if_neg (by decide)]; rfl) (fs_l3 (s := s) (t := t) (p := p) (q := q) (col := col) (sol := sol) (w := w) (x := x) (y := y) hN hb hm bth.length 0 (by omega))
    have hrr : r ≤ r * r := by
      rcases Nat.eq_zero_or_pos r with h | h
      · rw [h]; exact Nat.zero_le _
      · exact Nat.le_mul_of_pos_right _ h
    have hr3 : (r + 1) * (r + 1) = r * r + 2 * r + 1 := by rw [Nat.add_mul, Nat.mul_add]; omega
    have htg := tri_ge tr
    have htd := tri_double tr
    have hts := tri_succ tr
    have q0 : ¬ ((shapes.length : Int) < 1) := by omega
    have q1 : ((r * r + (n - r * r) : Nat) : Int) = (n : Int) := by congr 1; omega
    have q2 : ¬ (((n - r * r : Nat) : Int) < 0) := by omega
    have q3 : ¬ (((n - r * r : Nat) : Int) > ((2 * r : Nat) : Int)) := by omega
    have t1 : Int.tdiv ((tr * (tr + 1) : Nat) : Int) 2 = ((tri tr : Nat) : Int) := rfl
    have q4 : ((tri tr + (n - tri tr) : Nat) : Int) = (n : Int) := by congr 1; omega
    have q5 : ¬ (((n - tri tr : Nat) : Int) < 0) := by omega
    have q6 : ¬ (((n - tri tr : Nat) : Int) > (tr : Int)) := by omega
    have es : ∀ k, laws_FnFormsStandOfAll.l2 (k + 1) (n : Int) s t p q col sol w x y shapes (r : Int) ((n - r * r : Nat) : Int) (tr : Int) ((n - tri tr : Nat) : Int) squares bth squares (squares.length : Int) (i : Int) = (laws_mRises.f k bth).bind fun t312 => (laws_FnFormsStandOfAll.j4 k (n : Int) s t p q col sol w x y bth (!t312)) := fun k => by
      rw [laws_FnFormsStandOfAll.l2, if_neg pz, if_neg q0, wqm (by omega), wqa (by omega), if_pos q1, if_neg q2, hw2 (by omega), if_neg q3, hw1 (by omega), wqm (by omega), t1, wq (by omega), wqa (by omega), if_pos q4, if_neg q5, if_neg q6]
    exact Ev.step es (Ev.bind (mRise_ok bth (by omega) hpw) h4)
  | succ d ih =>
    intro i hi
    have hlt : i < squares.length := by omega
    have p1 : (i : Int) < (squares.length : Int) := by omega
    have p2 : (0 : Int) ≤ (i : Int) := by omega
    obtain ⟨a, b, eab, g1, g2, g3⟩ := hP.1 i hlt
    have e := (rdl_at hlt).trans eab
    have hl : (([(a : Int), (b : Int)] : List Int).length : Int) = 2 := rfl
    have r0 : rd [(a : Int), (b : Int)] 0 = (a : Int) := rfl
    have r1 : rd [(a : Int), (b : Int)] 1 = (b : Int) := rfl
    have q1 : ¬ ((a : Int) < 1) := by omega
    have q2 : ¬ ((a : Int) > (b : Int)) := by omega
    have q3 : ((a * a + b * b : Nat) : Int) = (n : Int) := by rw [g3]
    have hnext := ih (i + 1) (by omega)
    refine Ev.step (fun k => ?_) hnext
    rw [laws_FnFormsStandOfAll.l2, if_pos p1, if_pos p2, if_pos p1, e, hl, if_pos rfl, if_pos (by decide), r0, if_neg q1, if_pos (by decide), r1, if_neg q2, wqm (by omega), wqm (by omega), wqa (by omega), if_pos q3]
    by_cases c : (i : Int) > 0
    · have e1 : wrap64 ((i : Int) - 1) = ((i - 1 : Nat) : Int) := wsub (y := 1) (by omega) (by omega)
      have hlt2 : i - 1 < squares.length := by omega
      obtain ⟨a', b', eab', _⟩ := hP.1 (i - 1) hlt2
      have e2 := (rdl_at hlt2).trans eab'
      have hr := hP.2 (i - 1) (by omega)
      have hx : squares[i - 1 + 1] = squares[i] := by congr 1; omega
      rw [hx, eab, eab'] at hr
      have hr' : (a' : Int) < (a : Int) := hr
      have r2 : rd [(a' : Int), (b' : Int)] 0 = (a' : Int) := rfl
      have hl2 : (([(a' : Int), (b' : Int)] : List Int).length : Int) = 2 := rfl
      have p3 : (0 : Int) ≤ ((i - 1 : Nat) : Int) := by omega
      have p4 : ((i - 1 : Nat) : Int) < (squares.length : Int) := by omega
      rw [if_pos c, e1, if_pos p3, if_pos p4, e2, hl2, if_pos (by decide), r2, if_neg (by omega), hw1 (by omega)]
    · rw [if_neg c, hw1 (by omega)]
end
/-- What the twelve answers are: all alike. -/
theorem fs_all (a : Int) (s t p q col sol w x y : Int) : ∃ (b : Bool) (shapes hollows squares : List (List Int)) (side over rows left : Int) (bth : List Int),
    Ev (fun k => impl_RectanglesOf.f k a) (shapes, b) ∧ Ev (fun k => spec_RectanglesOf.f k a) (shapes, b) ∧ Ev (fun k => impl_HollowsOf.f k a) (hollows, b) ∧ Ev (fun k => spec_HollowsOf.f k a) (hollows, b) ∧ Ev (fun k => impl_SquareOf.f k a) (side, over, b) ∧ Ev (fun k => spec_SquareOf.f k a) (side, over, b) ∧
    Ev (fun k => impl_TriangleOf.f k a) (rows, left, b) ∧ Ev (fun k => spec_TriangleOf.f k a) (rows, left, b) ∧ Ev (fun k => impl_TwoSquares.f k a) (squares, b) ∧ Ev (fun k => spec_TwoSquares.f k a) (squares, b) ∧ Ev (fun k => impl_SquareTriangles.f k a) (bth, b) ∧ Ev (fun k => spec_SquareTriangles.f k a) (bth, b) ∧
    Ev (fun k => laws_mRows.f k shapes shapes) true ∧ Ev (fun k => laws_mRows.f k hollows hollows) true ∧ Ev (fun k => laws_mRows.f k squares squares) true ∧ Ev (fun k => laws_mSame.f k bth bth) true ∧
    Ev (fun k => laws_FnFormsStandOfAll.j0 k a s t p q col sol w x y shapes b hollows side over rows left squares bth false) true := by
  obtain ⟨b, hb, h⟩ := soldiers_some a
  cases b with
  | false =>
    refine ⟨false, [], [], [], 0, 0, 0, 0, [], ?_, ?_, ?_, ?_, ?_, ?_, ?_, ?_, ?_, ?_, ?_, ?_, mR_self [] (fun r h => by cases h) (by simp), mR_self [] (fun r h => by cases h) (by simp), mR_self [] (fun r h => by cases h) (by simp), mS_self [] (by simp), Ev.step (fun k => by rw [laws_FnFormsStandOfAll.j0, if_neg (by decide), if_neg (by decide)]) fs_j6⟩
    · unfold impl_RectanglesOf.f; simp only [hb, Option.bind_some]; exact Ev.now _
    · unfold spec_RectanglesOf.f; simp only [soldiers_eq, hb, Option.bind_some]; exact Ev.now _
    · unfold impl_HollowsOf.f; simp only [hb, Option.bind_some]; exact Ev.now _
    · unfold spec_HollowsOf.f; simp only [soldiers_eq, hb, Option.bind_some]; exact Ev.now _
    · unfold impl_SquareOf.f; simp only [hb, Option.bind_some]; exact Ev.now _
    · unfold spec_SquareOf.f; simp only [soldiers_eq, hb, Option.bind_some]; exact Ev.now _
    · unfold impl_TriangleOf.f; simp only [hb, Option.bind_some]; exact Ev.now _
    · unfold spec_TriangleOf.f; simp only [soldiers_eq, hb, Option.bind_some]; exact Ev.now _
    · unfold impl_TwoSquares.f; simp only [hb, Option.bind_some]; exact Ev.now _
    · unfold spec_TwoSquares.f; simp only [soldiers_eq, hb, Option.bind_some]; exact Ev.now _
    · unfold impl_SquareTriangles.f; simp only [hb, Option.bind_some]; exact Ev.now _
    · unfold spec_SquareTriangles.f; simp only [soldiers_eq, hb, Option.bind_some]; exact Ev.now _
  | true =>
    obtain ⟨n, rfl, h1, h2⟩ := h rfl
    obtain ⟨shapes, rs, ri, rl, rn, _, rg⟩ := rect_l0 n h1 h2 1000 1 [] (by omega) (by omega) (by simp) Gd.nil (by omega)
    obtain ⟨squares, ts, ti, tl, _, tg⟩ := two_l0 n h2 1000 1 [] (by omega) (by omega) (by simp) Gd.nil
    obtain ⟨M, hM⟩ : ∃ M : Nat, M = 500 := ⟨_, rfl⟩
    obtain ⟨hs, hi⟩ := hol_list n M h1 h2 (by omega) (by subst hM; omega)
    obtain ⟨r, hr1, hr2⟩ := root_exists n
    obtain ⟨tr, ht1, ht2⟩ := tri_ex n
    obtain ⟨qi, qs⟩ := sq_impl h1 h2 hr1 hr2
    obtain ⟨ui, us⟩ := tr_impl h1 h2 ht1 ht2
    have bs_ := spec_sq_l0 h2 1000 1 (by omega) (by omega) (by omega)
    have bi_ := impl_sq_l0 h2 1414 1 (by omega) (by omega) (by omega)
    have hul := upto_len (n + 1)
    have hll := hup_len n M
    have hlr : (hup n M).reverse.length ≤ 100000 := by rw [List.length_reverse]; omega
    have hpr := rg.pairs
    have hpt := tg.pairs
    have hph := hup_pairs (n := n) (M := M) (by omega)
    have len2 : ∀ {P : Nat → Nat → Prop} {L : List (List Int)}, Pairs P L → ∀ z ∈ L, z.length ≤ 1000000000 := fun hP z hz => by
      obtain ⟨i, hi, rfl⟩ := List.getElem_of_mem hz
      obtain ⟨a, b, e, _⟩ := hP.1 i hi
      rw [e]
      simp
    have h2' := fs_l2 (n := n) (s := s) (t := t) (p := p) (q := q) (col := col) (sol := sol) (w := w) (x := x) (y := y) (shapes := shapes) (squares := squares) (bth := (upto (n + 1)).map Int.ofNat) (r := r) (tr := tr) (by omega) h2 rn hpt hr1 hr2 ht1 ht2 (by rw [List.length_map]; omega) (upto_pair _) (fun m hm => upto_mem hm) squares.length 0 (by omega)
    have h1' := fs_l1 (shapes := shapes) (hollows := (hup n M).reverse) hlr h2 h1 hph h2' (hup n M).reverse.length 0 (by omega)
    have h0' := fs_l0 (shapes := shapes) (by omega) h2 hpr h1' shapes.length 0 (by omega)
    refine ⟨true, shapes, (hup n M).reverse, squares, r, ((n - r * r : Nat) : Int), tr, ((n - tri tr : Nat) : Int), (upto (n + 1)).map Int.ofNat, ?_, ?_, hi, hs, qi, qs, ui, us, ?_, ?_, ?_, ?_, mR_self _ (len2 hpr) (by omega), mR_self _ (len2 hph) (by omega), mR_self _ (len2 hpt) (by omega), mS_self _ (by rw [List.length_map]; omega), ?_⟩
    · unfold impl_RectanglesOf.f; simp only [hb, Option.bind_some, if_true]; exact ri
    · unfold spec_RectanglesOf.f; simp only [soldiers_eq, hb, Option.bind_some, if_true]; exact rs
    · unfold impl_TwoSquares.f; simp only [hb, Option.bind_some, if_true]; exact ti
    · unfold spec_TwoSquares.f; simp only [soldiers_eq, hb, Option.bind_some, if_true]; exact ts
    · unfold impl_SquareTriangles.f; simp only [hb, Option.bind_some, if_true]; exact bi_
    · unfold spec_SquareTriangles.f; simp only [soldiers_eq, hb, Option.bind_some, if_true]; exact bs_
    · refine Ev.step (fun k => ?_) h0'
      rw [laws_FnFormsStandOfAll.j0, if_neg (by decide), if_pos rfl]
      rfl
theorem fs_core (a s t p q col sol w x y : Int) : Ev (fun k => laws_FnFormsStandOfAll.f k a s t p q col sol w x y) true := by
  obtain ⟨b, shapes, hollows, squares, side, over, rows, left, bth, h1, h2, h3, h4, h5, h6, h7, h8, h9, h10, h11, h12, m1, m2, m3, m4, hj⟩ := fs_all a s t p q col sol w x y
  have n1 : ∀ b : Bool, ¬ ((b != b) = true) := fun b => by simp
  unfold laws_FnFormsStandOfAll.f
  refine Ev.bind h1 (Ev.bind h2 (Ev.bind h3 (Ev.bind h4 (Ev.bind h5 (Ev.bind h6 (Ev.bind h7 (Ev.bind h8 (Ev.bind h9 (Ev.bind h10 (Ev.bind h11 (Ev.bind h12 ?_)))))))))))
  refine Ev.congr (fun k => if_neg (n1 _)) (Ev.bind m1 ?_)
  refine Ev.congr (fun k => (if_pos rfl).trans (if_neg (n1 _))) (Ev.bind m2 ?_)
  refine Ev.congr (fun k => (if_pos rfl).trans ((if_neg (n1 _)).trans ((if_pos rfl).trans ((if_pos rfl).trans ((if_neg (n1 _)).trans ((if_pos rfl).trans ((if_pos rfl).trans (if_neg (n1 _))))))))) (Ev.bind m3 ?_)
  refine Ev.congr (fun k => (if_pos rfl).trans (if_neg (n1 _))) (Ev.bind m4 ?_)
  refine Ev.congr (fun k => (if_pos rfl).trans ((if_neg (n1 _)).trans ((if_neg (n1 _)).trans ((if_neg (n1 _)).trans (if_neg (n1 _)))))) ?_
  simp only [bne_self_eq_false]
  exact hj
theorem FnFormsStandOfAll : laws_FnFormsStandOfAll.Pure := by
  intro a s t p q col sol w x y _ _ _ _ _ _ _ _ _ _
  exact Ev.rounds (fs_core a s t p q col sol w x y)

end Go.Proofs.YtgdmbhldabeelaaR.Pure
