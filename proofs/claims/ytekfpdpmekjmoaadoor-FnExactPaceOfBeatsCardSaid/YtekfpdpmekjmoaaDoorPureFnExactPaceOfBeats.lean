/- For every text, the program's PaceOfBeats answers what the reference's does. -/
import Derived.Test.YtekfpdpmekjmoaaDoorPFnExactPaceOfBeatsx2
namespace Go.Proofs.YtekfpdpmekjmoaaDoor.Pure
open Go.RowKit Go.Proofs.YtekfpdpmekjmoaaDoor.PFnExactPaceOfBeats Go.Proofs.YtekfpdpmekjmoaaDoorW.PrintWords Go.Proofs.YtekfpdpmekjmoaaDoorW.PrintLast
set_option linter.unusedVariables false
set_option linter.unusedSimpArgs false

theorem w64 {x : Int} (h1 : -9223372036854775808 ≤ x) (h2 : x ≤ 9223372036854775807) : wrap64 x = x := by
  unfold wrap64
  omega
theorem wf_lo {a : Int} (h : (Lit.int .i64 a).wf = true) : -9223372036854775808 ≤ a := by
  have h' : IntKind.i64.min ≤ a ∧ a ≤ IntKind.i64.max := by simpa [Lit.wf] using h
  have e : IntKind.i64.min = -9223372036854775808 := by decide
  omega
theorem wf_hi {a : Int} (h : (Lit.int .i64 a).wf = true) : a ≤ 9223372036854775807 := by
  have h' : IntKind.i64.min ≤ a ∧ a ≤ IntKind.i64.max := by simpa [Lit.wf] using h
  have e : IntKind.i64.max = 9223372036854775807 := by decide
  omega
theorem ev_congr_fun {α : Type} {g f : Nat → Option α} {r : α} (h : g = f) (k : Ev f r) : Ev g r := h ▸ k
theorem rd_mid (pre : List Int) (x : Int) (rest : List Int) : rd (pre ++ x :: rest) (pre.length : Int) = x := by
  simp [rd]
theorem bt_eq (s : ByteArray) (i : Nat) (h : i < s.data.toList.length) : bt s (i : Int) = ((s.data.toList[i]'h).toNat : Int) := by
  have h' : i < s.size := by rw [Lib.size_eq]; exact h
  unfold bt
  rw [dif_pos (by simpa using h')]
  simp only [Int.toNat_natCast]
  rw [Array.getElem_toList]
  rfl
theorem dropWhile_nil {α : Type} (p : α → Bool) (l : List α) : l.dropWhile p = [] ↔ l.all p = true := by
  induction l with
  | nil => simp
  | cons x l ih =>
    by_cases h : p x = true
    · simp [List.dropWhile, h, ih]
    · simp [List.dropWhile, h]
theorem dropWhile_all {α : Type} (p : α → Bool) (l : List α) (h : (l.dropWhile p).all p = true) : l.dropWhile p = [] := by
  induction l with
  | nil => rfl
  | cons x l ih =>
    by_cases hx : p x = true
    · simp only [List.dropWhile, hx] at h ⊢
      exact ih h
    · simp [List.dropWhile, hx] at h
theorem trim_nil (l cs : List UInt8) : Lib.trimS l cs = [] ↔ l.all (cs.contains ·) = true := by
  unfold Lib.trimS Lib.trimLeftS Lib.trimRightS
  rw [dropWhile_nil, List.all_reverse]
  constructor
  · intro h
    have := dropWhile_all _ _ h
    rw [dropWhile_nil, List.all_reverse] at this
    exact this
  · intro h
    rw [← List.all_reverse, ← dropWhile_nil] at h
    rw [h]; rfl
theorem trim_f (s c : ByteArray) (hs : s.size ≤ 140737488351232) (hc : c.size ≤ 1000000) (ha : c.data.toList.all (fun b => decide (b.toNat < 128)) = true) :
    strings_Trim.f s c = some ⟨(Lib.trimS s.data.toList c.data.toList).toArray⟩ := by
  unfold strings_Trim.f
  rw [if_pos ⟨by omega, hc, ha⟩]
theorem empty_test (l : List UInt8) : ((⟨l.toArray⟩ : ByteArray).toList == ([] : List UInt8)) = l.isEmpty := by
  rw [Lib.toList_data]
  cases l <;> rfl
theorem trim_test (l cs : List UInt8) : (Lib.trimS l cs).isEmpty = l.all (cs.contains ·) := by
  rw [Bool.eq_iff_iff, List.isEmpty_iff, trim_nil]
theorem l1In_eq (a b c : Int) : spec_l1In.f a b c = some (decide (b ≤ a) && decide (a ≤ c)) := by
  unfold spec_l1In.f
  by_cases h : b ≤ a
  · rw [if_pos h]; simp [h]
  · rw [if_neg (show ¬ a ≥ b from h)]; simp [h]
theorem in_eq (a b c : Int) : impl_in.f a b c = some (decide (b ≤ a) && decide (a ≤ c)) := by
  unfold impl_in.f
  by_cases h : b ≤ a
  · rw [if_pos h]; simp [h]
  · rw [if_neg h]; simp [h]
theorem cast_len {α : Type} (l : List α) : (decide ((1 : Int) ≤ (l.length : Int)) && decide ((l.length : Int) ≤ 6)) = (decide (1 ≤ l.length) && decide (l.length ≤ 6)) := by
  congr 1 <;> exact decide_eq_decide.2 (by omega)
theorem rdP_mid (pre : List S23) (x : S23) (rest : List S23) : rd_T23 (pre ++ x :: rest) (pre.length : Int) = x := by
  simp [rd_T23]
def atFrom (t : Int) : Nat → List S23 → List Int
  | _, [] => []
  | i, p :: rest => if Int.tmod t p.f0 = p.f1 then (i : Int) :: atFrom t (i + 1) rest else atFrom t (i + 1) rest
theorem atFrom_len (t : Int) (l : List S23) : ∀ i, (atFrom t i l).length ≤ l.length := by
  induction l with
  | nil => intro i; simp [atFrom]
  | cons p rest ih =>
    intro i
    have := ih (i + 1)
    rw [atFrom]
    by_cases h : Int.tmod t p.f0 = p.f1
    · rw [if_pos h]; simp only [List.length_cons]; omega
    · rw [if_neg h]; simp only [List.length_cons]; omega
theorem spec_at_l0 (t : Int) (rest : List S23) : ∀ (pre : List S23) (out : List Int), (∀ p ∈ rest, 1 ≤ p.f0 ∧ p.f0 ≤ 60 ∧ 0 ≤ p.f1 ∧ p.f1 < p.f0) → pre.length + rest.length ≤ 6 → out.length + rest.length ≤ 6 →
    Ev (fun k => spec_spAt.l0 k t out (pre ++ rest) ((pre ++ rest).length : Int) pre.length) (out ++ atFrom t pre.length rest) := by
  induction rest with
  | nil =>
    intro pre out hp hl ho
    exact Ev.step (f := fun _ => some out) (fun k => by rw [spec_spAt.l0, if_neg (by simp)]) (by simpa [atFrom] using Ev.now out)
  | cons p rest ih =>
    intro pre out hp hl ho
    simp only [List.length_cons] at hl ho
    have hlen : ((pre ++ p :: rest).length : Int) = pre.length + (rest.length + 1) := by simp
    have hpp := hp p (List.mem_cons_self ..)
    have e : (pre ++ [p]).length = pre.length + 1 := by simp
    by_cases h : Int.tmod t p.f0 = p.f1
    · have hrec := ih (pre ++ [p]) (out ++ [(pre.length : Int)]) (fun q hq => hp q (List.mem_cons_of_mem _ hq)) (by simp; omega) (by simp; omega)
      rw [e] at hrec
      refine Ev.step (f := fun k => spec_spAt.l0 k t (out ++ [(pre.length : Int)]) ((pre ++ [p]) ++ rest) (((pre ++ [p]) ++ rest).length : Int) ((pre.length + 1 : Nat) : Int)) (fun k => ?_) (by rw [atFrom, if_pos h]; simpa using hrec)
      rw [spec_spAt.l0, if_pos (by omega), if_pos (by omega), if_pos (by omega), rdP_mid, if_neg (by omega), if_pos h, if_pos (by omega), w64 (by omega) (by omega)]
      simp
    · have hrec := ih (pre ++ [p]) out (fun q hq => hp q (List.mem_cons_of_mem _ hq)) (by simp; omega) (by omega)
      rw [e] at hrec
      refine Ev.step (f := fun k => spec_spAt.l0 k t out ((pre ++ [p]) ++ rest) (((pre ++ [p]) ++ rest).length : Int) ((pre.length + 1 : Nat) : Int)) (fun k => ?_) (by rw [atFrom, if_neg h]; simpa using hrec)
      rw [spec_spAt.l0, if_pos (by omega), if_pos (by omega), if_pos (by omega), rdP_mid, if_neg (by omega), if_neg h, w64 (by omega) (by omega)]
      simp
theorem spec_at (t : Int) {l : List S23} (hl : l.length ≤ 6) (hp : ∀ p ∈ l, 1 ≤ p.f0 ∧ p.f0 ≤ 60 ∧ 0 ≤ p.f1 ∧ p.f1 < p.f0) : Ev (fun k => spec_spAt.f k l t) (atFrom t 0 l) := by
  have := spec_at_l0 t l [] [] hp (by simpa using hl) (by simpa using hl)
  simpa [spec_spAt.f] using this
theorem strOfNums_append (xs ys : List Int) : strOfNums (xs ++ ys) = strOfNums xs ++ strOfNums ys := by
  apply ByteArray.ext
  simp [strOfNums]
def digitAt (l : List S23) (t : Int) : Int := 48 + ((atFrom t 0 l).length : Int)
def digits (l : List S23) : Int → Nat → List Int
  | _, 0 => []
  | t, n + 1 => digitAt l t :: digits l (t + 1) n
theorem digits_length (l : List S23) (n : Nat) : ∀ t, (digits l t n).length = n := by
  induction n with
  | zero => intro t; rfl
  | succ n ih => intro t; simp [digits, ih]
theorem digit_mod (n : Nat) (h : n ≤ 6) : wrap64 (48 + (n : Int)) % 256 = 48 + n := by
  rw [w64 (by omega) (by omega)]
  omega
theorem l1Num_small (n : Nat) (h : n ≤ 6) : Ev (fun k => spec_l1Num.f k (n : Int)) (strOfNums [48 + (n : Int)]) := by
  refine Ev.step (f := fun _ => some (strOfNums [48 + (n : Int)])) (fun k => ?_) (Ev.now _)
  rw [spec_l1Num.f, if_pos (by omega), digit_mod n h]
theorem spec_beats_l0 {l : List S23} (h6 : l.length ≤ 6) (hp : ∀ p ∈ l, 1 ≤ p.f0 ∧ p.f0 ≤ 60 ∧ 0 ≤ p.f1 ∧ p.f1 < p.f0) (N : Int) (hN : N ≤ 200) (d : Nat) : ∀ (t : Int) (out : List Int), 0 ≤ t → t + d = N → out.length + d ≤ 200 →
    Ev (fun k => spec_spBeats.l0 k l N (strOfNums out) t) (strOfNums (out ++ digits l t d)) := by
  induction d with
  | zero =>
    intro t out h0 hd ho
    exact Ev.step (f := fun _ => some (strOfNums out)) (fun k => by rw [spec_spBeats.l0, if_neg (by omega)]) (by simpa [digits] using Ev.now (strOfNums out))
  | succ d ih =>
    intro t out h0 hd ho
    have hlen := atFrom_len t l 0
    have hrec := ih (t + 1) (out ++ [digitAt l t]) (by omega) (by omega) (by simp; omega)
    refine Ev.step (f := fun k => (spec_spAt.f k l t).bind fun t135 => ((spec_l1Num.f k (t135.length : Int)).bind fun t138 => (if (strOfNums out).size + t138.size ≤ 9223372036854775807 then (spec_spBeats.l0 k l N ((strOfNums out) ++ t138) (wrap64 (t + 1))) else (none)))) (fun k => by rw [spec_spBeats.l0, if_pos (by omega)]) ?_
    refine Ev.bind (spec_at t h6 hp) (Ev.bind (l1Num_small _ (by omega)) ?_)
    refine Ev.congr (fun k => if_pos (by simp only [strOfNums_size, List.length_singleton]; omega)) ?_
    refine Ev.congr (fun k => ?_) (by simpa [digits] using hrec)
    rw [← strOfNums_append, w64 (by omega) (by omega)]
    rfl
theorem spec_beats {l : List S23} (h6 : l.length ≤ 6) (hp : ∀ p ∈ l, 1 ≤ p.f0 ∧ p.f0 ≤ 60 ∧ 0 ≤ p.f1 ∧ p.f1 < p.f0) (n : Nat) (hn : n ≤ 200) : Ev (fun k => spec_spBeats.f k l n) (strOfNums (digits l 0 n)) := by
  have := spec_beats_l0 h6 hp n (by omega) n 0 [] (by omega) (by omega) (by simpa using hn)
  have e : strOfNums [] = (⟨#[]⟩ : ByteArray) := rfl
  rw [e] at this
  simpa [spec_spBeats.f] using this
theorem impl_at_l0 (t : Int) (rest : List S23) : ∀ (pre : List S23) (out : List Int), (∀ p ∈ rest, 1 ≤ p.f0 ∧ p.f0 ≤ 60 ∧ 0 ≤ p.f1 ∧ p.f1 < p.f0) → pre.length + rest.length ≤ 6 → out.length + rest.length ≤ 6 →
    Ev (fun k => impl_stepping.l0 k t out (pre ++ rest) ((pre ++ rest).length : Int) pre.length) (out ++ atFrom t pre.length rest) := by
  induction rest with
  | nil =>
    intro pre out hp hl ho
    exact Ev.step (f := fun _ => some out) (fun k => by rw [impl_stepping.l0, if_neg (by simp)]) (by simpa [atFrom] using Ev.now out)
  | cons p rest ih =>
    intro pre out hp hl ho
    simp only [List.length_cons] at hl ho
    have hlen : ((pre ++ p :: rest).length : Int) = pre.length + (rest.length + 1) := by simp
    have hpp := hp p (List.mem_cons_self ..)
    have e : (pre ++ [p]).length = pre.length + 1 := by simp
    by_cases h : Int.tmod t p.f0 = p.f1
    · have hrec := ih (pre ++ [p]) (out ++ [(pre.length : Int)]) (fun q hq => hp q (List.mem_cons_of_mem _ hq)) (by simp; omega) (by simp; omega)
      rw [e] at hrec
      have hst : impl_Pace_steps.f p.f0 p.f1 t = some true := by unfold impl_Pace_steps.f; rw [if_neg (by omega)]; simp [h]
      refine Ev.step (f := fun k => impl_stepping.l0 k t (out ++ [(pre.length : Int)]) ((pre ++ [p]) ++ rest) (((pre ++ [p]) ++ rest).length : Int) ((pre.length + 1 : Nat) : Int)) (fun k => ?_) (by rw [atFrom, if_pos h]; simpa using hrec)
      rw [impl_stepping.l0, if_pos (by omega), if_pos (by omega), if_pos (by omega), rdP_mid, hst]
      simp only [Option.bind_some, if_true]
      rw [if_pos (by omega), w64 (by omega) (by omega)]
      simp
    · have hrec := ih (pre ++ [p]) out (fun q hq => hp q (List.mem_cons_of_mem _ hq)) (by simp; omega) (by omega)
      rw [e] at hrec
      have hst : impl_Pace_steps.f p.f0 p.f1 t = some false := by unfold impl_Pace_steps.f; rw [if_neg (by omega)]; simp [h]
      refine Ev.step (f := fun k => impl_stepping.l0 k t out ((pre ++ [p]) ++ rest) (((pre ++ [p]) ++ rest).length : Int) ((pre.length + 1 : Nat) : Int)) (fun k => ?_) (by rw [atFrom, if_neg h]; simpa using hrec)
      rw [impl_stepping.l0, if_pos (by omega), if_pos (by omega), if_pos (by omega), rdP_mid, hst]
      simp only [Option.bind_some]
      rw [if_neg (by decide), w64 (by omega) (by omega)]
      simp
theorem impl_at (t : Int) {l : List S23} (hl : l.length ≤ 6) (hp : ∀ p ∈ l, 1 ≤ p.f0 ∧ p.f0 ≤ 60 ∧ 0 ≤ p.f1 ∧ p.f1 < p.f0) : Ev (fun k => impl_stepping.f k l t) (atFrom t 0 l) := by
  have := impl_at_l0 t l [] [] hp (by simpa using hl) (by simpa using hl)
  simpa [impl_stepping.f] using this
theorem impl_beats_l0 {l : List S23} (h6 : l.length ≤ 6) (hp : ∀ p ∈ l, 1 ≤ p.f0 ∧ p.f0 ≤ 60 ∧ 0 ≤ p.f1 ∧ p.f1 < p.f0) (N : Int) (hN : N ≤ 200) (d : Nat) : ∀ (t : Int) (out : List Int), 0 ≤ t → t + d = N → out.length + d ≤ 200 →
    Ev (fun k => impl_beatsOf.l0 k l out N t) (strOfNums (out ++ digits l t d)) := by
  induction d with
  | zero =>
    intro t out h0 hd ho
    exact Ev.step (f := fun _ => some (strOfNums out)) (fun k => by rw [impl_beatsOf.l0, if_neg (by omega)]) (by simpa [digits] using Ev.now (strOfNums out))
  | succ d ih =>
    intro t out h0 hd ho
    have hlen := atFrom_len t l 0
    have hrec := ih (t + 1) (out ++ [digitAt l t]) (by omega) (by omega) (by simp; omega)
    refine Ev.step (f := fun k => (impl_stepping.f k l t).bind fun t165 => (if out.length < 140737488355328 then (impl_beatsOf.l0 k l (out ++ [(wrap64 (48 + (t165.length : Int))) % 256]) N (wrap64 (t + 1))) else (none))) (fun k => by rw [impl_beatsOf.l0, if_pos (by omega)]) ?_
    refine Ev.bind (impl_at t h6 hp) ?_
    refine Ev.congr (fun k => if_pos (by omega)) ?_
    refine Ev.congr (fun k => ?_) (by simpa [digits] using hrec)
    rw [digit_mod _ (by omega), w64 (by omega) (by omega)]
    rfl
theorem impl_beats {l : List S23} (h6 : l.length ≤ 6) (hp : ∀ p ∈ l, 1 ≤ p.f0 ∧ p.f0 ≤ 60 ∧ 0 ≤ p.f1 ∧ p.f1 < p.f0) (n : Nat) (hn : n ≤ 200) : Ev (fun k => impl_beatsOf.f k l n) (strOfNums (digits l 0 n)) := by
  have := impl_beats_l0 h6 hp n (by omega) n 0 [] (by omega) (by omega) (by simpa using hn)
  simpa [impl_beatsOf.f] using this
theorem digit_two (p : S23) (t : Int) : digitAt [p] t = 48 ∨ digitAt [p] t = 49 := by
  have := atFrom_len t [p] 0
  simp only [List.length_singleton] at this
  unfold digitAt
  omega
theorem digits_two (p : S23) (n : Nat) : ∀ t, ∀ x ∈ digits [p] t n, x = 48 ∨ x = 49 := by
  induction n with
  | zero => intro t x hx; cases hx
  | succ n ih =>
    intro t x hx
    rw [digits] at hx
    rcases List.mem_cons.1 hx with rfl | h
    · exact digit_two p t
    · exact ih _ x h
def zeroOne (s : ByteArray) : Bool := s.data.toList.all (([48, 49] : List UInt8).contains ·)
theorem not_beats {s : ByteArray} (p : S23) (n : Nat) (t : Int) (h : (strOfNums (digits [p] t n)).toList = s.toList) : zeroOne s = true := by
  rw [Lib.toList_data, Lib.toList_data, strOfNums_data] at h
  unfold zeroOne
  rw [← h, List.all_map]
  apply List.all_eq_true.2
  intro x hx
  rcases digits_two p n t x hx with rfl | rfl <;> rfl
theorem both_l1 (s : ByteArray) (h1 : 1 ≤ s.size) (h2 : s.size ≤ 200) (e : Nat) (he1 : 1 ≤ e) (he2 : e ≤ 60)
    (next : ∃ r, Ev (fun k => spec_PaceOfBeats.l0 k s ((e : Int) + 1)) r ∧ Ev (fun k => impl_PaceOfBeats.l0 k s ((e : Int) + 1)) r ∧ (zeroOne s = false → r = (0, 0, false))) (d : Nat) : ∀ f : Nat, f + d = e →
    ∃ r, Ev (fun k => spec_PaceOfBeats.l1 k s e f) r ∧ Ev (fun k => impl_PaceOfBeats.l1 k s e e f) r ∧ (zeroOne s = false → r = (0, 0, false)) := by
  induction d with
  | zero =>
    intro f hf
    obtain ⟨r, a, b, c⟩ := next
    refine ⟨r, Ev.step (fun k => ?_) a, Ev.step (fun k => ?_) b, c⟩
    · rw [spec_PaceOfBeats.l1, if_neg (by omega), w64 (x := (e : Int) + 1) (by omega) (by omega)]
    · rw [impl_PaceOfBeats.l1, if_neg (by omega), w64 (x := (e : Int) + 1) (by omega) (by omega)]
  | succ d ih =>
    intro f hf
    have hp : ∀ p ∈ ([(⟨(e : Int), (f : Int)⟩ : S23)] : List S23), 1 ≤ p.f0 ∧ p.f0 ≤ 60 ∧ 0 ≤ p.f1 ∧ p.f1 < p.f0 := by
      intro p hp
      rw [List.mem_singleton] at hp
      subst hp
      refine ⟨?_, ?_, ?_, ?_⟩
      · show (1 : Int) ≤ (e : Int); omega
      · show (e : Int) ≤ 60; omega
      · show (0 : Int) ≤ (f : Int); omega
      · show (f : Int) < (e : Int); omega
    have hs := spec_beats (l := [(⟨(e : Int), (f : Int)⟩ : S23)]) (by simp) hp s.size h2
    have hi := impl_beats (l := [(⟨(e : Int), (f : Int)⟩ : S23)]) (by simp) hp s.size h2
    by_cases c : (strOfNums (digits [(⟨(e : Int), (f : Int)⟩ : S23)] 0 s.size)).toList = s.toList
    · refine ⟨((e : Int), (f : Int), true), ?_, ?_, fun hz => ?_⟩
      · exact Ev.step (fun k => by rw [spec_PaceOfBeats.l1, if_pos (by omega)]) (Ev.bind hs (Ev.congr (fun k => if_pos c) (Ev.now _)))
      · exact Ev.step (fun k => by rw [impl_PaceOfBeats.l1, if_pos (by omega)]) (Ev.bind hi (Ev.congr (fun k => if_pos c) (Ev.now _)))
      · rw [not_beats _ _ _ c] at hz
        cases hz
    · obtain ⟨r, a, b, z⟩ := ih (f + 1) (by omega)
      refine ⟨r, ?_, ?_, z⟩
      · refine Ev.step (fun k => by rw [spec_PaceOfBeats.l1, if_pos (by omega)]) (Ev.bind hs (Ev.congr (fun k => if_neg c) ?_))
        rw [w64 (x := (f : Int) + 1) (by omega) (by omega)]
        exact a
      · refine Ev.step (fun k => by rw [impl_PaceOfBeats.l1, if_pos (by omega)]) (Ev.bind hi (Ev.congr (fun k => if_neg c) ?_))
        rw [w64 (x := (f : Int) + 1) (by omega) (by omega)]
        exact b
theorem both_l0 (s : ByteArray) (h1 : 1 ≤ s.size) (h2 : s.size ≤ 200) (d : Nat) : ∀ e : Nat, 1 ≤ e → e + d = 61 →
    ∃ r, Ev (fun k => spec_PaceOfBeats.l0 k s e) r ∧ Ev (fun k => impl_PaceOfBeats.l0 k s e) r ∧ (zeroOne s = false → r = (0, 0, false)) := by
  induction d with
  | zero =>
    intro e he hd
    exact ⟨(0, 0, false), Ev.step (f := fun _ => some (0, 0, false)) (fun k => by rw [spec_PaceOfBeats.l0, if_neg (by omega)]) (Ev.now _), Ev.step (f := fun _ => some (0, 0, false)) (fun k => by rw [impl_PaceOfBeats.l0, if_neg (by omega)]) (Ev.now _), fun _ => rfl⟩
  | succ d ih =>
    intro e he hd
    obtain ⟨r, a, b, z⟩ := both_l1 s h1 h2 e he (by omega) (ih (e + 1) (by omega) (by omega)) e 0 (by omega)
    exact ⟨r, Ev.step (fun k => by rw [spec_PaceOfBeats.l0, if_pos (by omega)]; rfl) a, Ev.step (fun k => by rw [impl_PaceOfBeats.l0, if_pos (by omega)]; rfl) b, z⟩
theorem both (s : ByteArray) (hs : s.size ≤ 140737488351232) : ∃ r, Ev (fun k => spec_PaceOfBeats.f k s) r ∧ Ev (fun k => impl_PaceOfBeats.f k s) r := by
  unfold spec_PaceOfBeats.f impl_PaceOfBeats.f
  simp only [l1In_eq, in_eq, Option.bind_some]
  have no : Ev (fun k => impl_PaceOfBeats.j0 k s true) (0, 0, false) := Ev.step (f := fun _ => some (0, 0, false)) (fun k => by rw [impl_PaceOfBeats.j0, if_pos rfl]) (Ev.now _)
  by_cases c : (decide (1 ≤ (s.size : Int)) && decide ((s.size : Int) ≤ 200)) = true
  · have c' : 1 ≤ (s.size : Int) ∧ (s.size : Int) ≤ 200 := by simpa using c
    obtain ⟨r, a, b, z⟩ := both_l0 s (by omega) (by omega) 60 1 (by omega) (by omega)
    rw [c]
    refine ⟨r, Ev.congr (fun k => if_pos rfl) a, Ev.congr (fun k => if_pos rfl) ?_⟩
    rw [trim_f s _ hs (by decide) (by decide)]
    simp only [Option.bind_some]
    have e : ((⟨(Lib.trimS s.data.toList (⟨#[48, 49]⟩ : ByteArray).data.toList).toArray⟩ : ByteArray).toList != ([] : List UInt8)) = !zeroOne s := by
      show (!(_ == _)) = _
      rw [empty_test, trim_test]
      rfl
    rw [e]
    cases hz : zeroOne s with
    | true => exact Ev.step (fun k => by rw [impl_PaceOfBeats.j0, if_neg (by decide)]; rfl) b
    | false =>
      rw [z hz]
      exact no
  · have c' : (decide (1 ≤ (s.size : Int)) && decide ((s.size : Int) ≤ 200)) = false := by simpa using c
    rw [c']
    exact ⟨(0, 0, false), Ev.congr (fun k => if_neg (by decide)) (Ev.now _), Ev.congr (fun k => if_neg (by decide)) no⟩
theorem FnExactPaceOfBeats : ∀ (a0 : ByteArray), a0.size ≤ 140737488351232 → ∃ k, laws_FnExactPaceOfBeats.f k a0 = some true := by
  intro a0 w0
  refine Ev.rounds (r := true) ?_
  unfold laws_FnExactPaceOfBeats.f
  by_cases c0 : (a0.size : Int) > 1048576
  · simp only [if_pos c0]; exact Ev.now _
  simp only [if_neg c0]
  obtain ⟨⟨r1, r2, r3⟩, hs, hi⟩ := both a0 w0
  refine Ev.bind hs (Ev.bind hi ?_)
  have e : laws_eqPace.f r1 r2 r1 r2 = some true := by unfold laws_eqPace.f; rw [if_pos rfl, if_pos rfl]
  simp only [e, Option.bind_some, if_true, bne_self_eq_false]
  simpa using Ev.now true

end Go.Proofs.YtekfpdpmekjmoaaDoor.Pure
