/- For all texts, the program's CommandsBetween answers what the reference's does. -/
import Derived.Test.YtekfpdpmekjmoaaDoorPFnExactCommandsBetweenx2
namespace Go.Proofs.YtekfpdpmekjmoaaDoor.Pure
open Go.RowKit Go.Proofs.YtekfpdpmekjmoaaDoor.PFnExactCommandsBetween Go.Proofs.YtekfpdpmekjmoaaDoorW.PrintWords Go.Proofs.YtekfpdpmekjmoaaDoorW.PrintLast
set_option linter.unusedVariables false
set_option linter.unusedSimpArgs false

theorem w64 {x : Int} (h1 : -9223372036854775808 ≤ x) (h2 : x ≤ 9223372036854775807) : wrap64 x = x := by
  unfold wrap64
  omega
theorem wf_lo {a : Int} (h : (Lit.int .i64 a).wf = true) : -9223372036854775808 ≤ a := by
  have h' : IntKind.i64.min ≤ a ∧ a ≤ IntKind.i64.max := by simpa [Lit.wf] using h
  have e : IntKind.i64.min = -9223372036854775808 := by decide
  omega
theorem wf_hi {a : Int} (h : (Lit.int .i64 a).wf = true) : a ≤ 9223372036854775807 := by
  have h' : IntKind.i64.min ≤ a ∧ a ≤ IntKind.i64.max := by simpa [Lit.wf] using h
  have e : IntKind.i64.max = 9223372036854775807 := by decide
  omega
theorem ev_congr_fun {α : Type} {g f : Nat → Option α} {r : α} (h : g = f) (k : Ev f r) : Ev g r := h ▸ k
theorem rd_mid (pre : List Int) (x : Int) (rest : List Int) : rd (pre ++ x :: rest) (pre.length : Int) = x := by
  simp [rd]
theorem bt_eq (s : ByteArray) (i : Nat) (h : i < s.data.toList.length) : bt s (i : Int) = ((s.data.toList[i]'h).toNat : Int) := by
  have h' : i < s.size := by rw [Lib.size_eq]; exact h
  unfold bt
  rw [dif_pos (by simpa using h')]
  simp only [Int.toNat_natCast]
  rw [Array.getElem_toList]
  rfl
theorem dropWhile_nil {α : Type} (p : α → Bool) (l : List α) : l.dropWhile p = [] ↔ l.all p = true := by
  induction l with
  | nil => simp
  | cons x l ih =>
    by_cases h : p x = true
    · simp [List.dropWhile, h, ih]
    · simp [List.dropWhile, h]
theorem dropWhile_all {α : Type} (p : α → Bool) (l : List α) (h : (l.dropWhile p).all p = true) : l.dropWhile p = [] := by
  induction l with
  | nil => rfl
  | cons x l ih =>
    by_cases hx : p x = true
    · simp only [List.dropWhile, hx] at h ⊢
      exact ih h
    · simp [List.dropWhile, hx] at h
theorem trim_nil (l cs : List UInt8) : Lib.trimS l cs = [] ↔ l.all (cs.contains ·) = true := by
  unfold Lib.trimS Lib.trimLeftS Lib.trimRightS
  rw [dropWhile_nil, List.all_reverse]
  constructor
  · intro h
    have := dropWhile_all _ _ h
    rw [dropWhile_nil, List.all_reverse] at this
    exact this
  · intro h
    rw [← List.all_reverse, ← dropWhile_nil] at h
    rw [h]; rfl
theorem trim_f (s c : ByteArray) (hs : s.size ≤ 140737488351232) (hc : c.size ≤ 1000000) (ha : c.data.toList.all (fun b => decide (b.toNat < 128)) = true) :
    strings_Trim.f s c = some ⟨(Lib.trimS s.data.toList c.data.toList).toArray⟩ := by
  unfold strings_Trim.f
  rw [if_pos ⟨by omega, hc, ha⟩]
theorem empty_test (l : List UInt8) : ((⟨l.toArray⟩ : ByteArray).toList == ([] : List UInt8)) = l.isEmpty := by
  rw [Lib.toList_data]
  cases l <;> rfl
theorem trim_test (l cs : List UInt8) : (Lib.trimS l cs).isEmpty = l.all (cs.contains ·) := by
  rw [Bool.eq_iff_iff, List.isEmpty_iff, trim_nil]
theorem l1In_eq (a b c : Int) : spec_l1In.f a b c = some (decide (b ≤ a) && decide (a ≤ c)) := by
  unfold spec_l1In.f
  by_cases h : b ≤ a
  · rw [if_pos h]; simp [h]
  · rw [if_neg (show ¬ a ≥ b from h)]; simp [h]
theorem in_eq (a b c : Int) : impl_in.f a b c = some (decide (b ≤ a) && decide (a ≤ c)) := by
  unfold impl_in.f
  by_cases h : b ≤ a
  · rw [if_pos h]; simp [h]
  · rw [if_neg h]; simp [h]
theorem cast_len {α : Type} (l : List α) : (decide ((1 : Int) ≤ (l.length : Int)) && decide ((l.length : Int) ≤ 6)) = (decide (1 ≤ l.length) && decide (l.length ≤ 6)) := by
  congr 1 <;> exact decide_eq_decide.2 (by omega)
def facB (s : ByteArray) : Bool := (decide (1 ≤ (s.size : Int)) && decide ((s.size : Int) ≤ 30)) && s.data.toList.all (([48, 49, 50, 51] : List UInt8).contains ·)
theorem fac_byte (b : UInt8) : ([48, 49, 50, 51] : List UInt8).contains b = (decide (0 ≤ (b.toNat : Int) - 48) && decide ((b.toNat : Int) - 48 ≤ 3)) := by
  have h : b = UInt8.ofNat b.toNat := by simp
  have hb := b.toNat_lt
  rw [Bool.eq_iff_iff]
  simp only [List.contains_iff_mem, List.mem_cons, List.not_mem_nil, or_false, Bool.and_eq_true, decide_eq_true_eq, ← UInt8.toNat_inj]
  have e1 : (48 : UInt8).toNat = 48 := rfl
  have e2 : (49 : UInt8).toNat = 49 := rfl
  have e3 : (50 : UInt8).toNat = 50 := rfl
  have e4 : (51 : UInt8).toNat = 51 := rfl
  rw [e1, e2, e3, e4]
  omega
theorem spec_fac_l0 (s : ByteArray) (hs : s.data.toList.length ≤ 140737488351232) (d : Nat) : ∀ i : Nat, i + d = s.data.toList.length → Ev (fun k => spec_drFacing.l0 k s i) ((s.data.toList.drop i).all (([48, 49, 50, 51] : List UInt8).contains ·)) := by
  have hz := Lib.size_eq s
  induction d with
  | zero =>
    intro i hi
    rw [List.drop_of_length_le (by omega)]
    exact Ev.step (f := fun _ => some true) (fun k => by rw [spec_drFacing.l0, if_neg (by omega)]) (Ev.now _)
  | succ d ih =>
    intro i hi
    have hil : i < s.data.toList.length := by omega
    have hb := (s.data.toList[i]).toNat_lt
    rw [List.drop_eq_getElem_cons hil, List.all_cons, fac_byte]
    refine Ev.step (f := fun k => if (decide (0 ≤ ((s.data.toList[i]).toNat : Int) - 48) && decide (((s.data.toList[i]).toNat : Int) - 48 ≤ 3)) = true then spec_drFacing.l0 k s ((i + 1 : Nat) : Int) else some false) (fun k => ?_) ?_
    · rw [spec_drFacing.l0, if_pos (by omega), if_pos (by omega), bt_eq s i hil, w64 (x := ((s.data.toList[i]).toNat : Int)) (by omega) (by omega), w64 (x := ((s.data.toList[i]).toNat : Int) - 48) (by omega) (by omega), l1In_eq, w64 (x := (i : Int) + 1) (by omega) (by omega)]
      rfl
    · cases hc : (decide (0 ≤ ((s.data.toList[i]).toNat : Int) - 48) && decide (((s.data.toList[i]).toNat : Int) - 48 ≤ 3)) with
      | true => simpa using ih (i + 1) (by omega)
      | false => simpa using Ev.now false
theorem spec_fac (s : ByteArray) (hs : s.size ≤ 140737488351232) : Ev (fun k => spec_drFacing.f k s) (facB s) := by
  have hz := Lib.size_eq s
  unfold spec_drFacing.f facB
  simp only [l1In_eq, Option.bind_some]
  cases (decide (1 ≤ (s.size : Int)) && decide ((s.size : Int) ≤ 30)) with
  | true => simpa using spec_fac_l0 s (by omega) s.data.toList.length 0 (by omega)
  | false => simpa using Ev.now false
theorem impl_fac (s : ByteArray) (hs : s.size ≤ 140737488351232) : impl_areFacing.f s = some (facB s) := by
  unfold impl_areFacing.f facB
  simp only [in_eq, Option.bind_some]
  rw [trim_f s _ hs (by decide) (by decide)]
  simp only [Option.bind_some, empty_test, trim_test]
  cases (decide (1 ≤ (s.size : Int)) && decide ((s.size : Int) ≤ 30)) <;> rfl
theorem facB_size {s : ByteArray} (h : facB s = true) : 1 ≤ s.size ∧ s.size ≤ 30 := by
  unfold facB at h
  simp only [Bool.and_eq_true, decide_eq_true_eq] at h
  omega
theorem facB_at {s : ByteArray} (h : facB s = true) (i : Nat) (hi : i < s.size) : ∃ v : Nat, v ≤ 3 ∧ bt s (i : Int) = 48 + (v : Int) := by
  have hz := Lib.size_eq s
  unfold facB at h
  simp only [Bool.and_eq_true] at h
  have hm := List.all_eq_true.1 h.2 _ (List.getElem_mem (show i < s.data.toList.length by omega))
  rw [fac_byte] at hm
  simp only [Bool.and_eq_true, decide_eq_true_eq] at hm
  refine ⟨(s.data.toList[i]).toNat - 48, by omega, ?_⟩
  rw [bt_eq s i (by omega)]
  omega
theorem strOfNums_append (xs ys : List Int) : strOfNums (xs ++ ys) = strOfNums xs ++ strOfNums ys := by
  apply ByteArray.ext
  simp [strOfNums]
theorem drSign_eq (t : Int) (h0 : 0 ≤ t) (h3 : t ≤ 3) : spec_drSign.f t = some (strOfNums [bt (⟨#[83, 82, 65, 76]⟩ : ByteArray) t]) := by
  have h : t = 0 ∨ t = 1 ∨ t = 2 ∨ t = 3 := by omega
  rcases h with rfl | rfl | rfl | rfl <;> decide +kernel
theorem both_l0 (s u : ByteArray) (hf : facB s = true) (hu : facB u = true) (he : s.size = u.size) (d : Nat) : ∀ (i : Nat) (out : List Int), i + d = s.size → out.length ≤ i →
    ∃ r, Ev (fun k => spec_CommandsBetween.l0 k s u (strOfNums out) i) (r, true) ∧ Ev (fun k => impl_between.l0 k s u out (s.size : Int) i) r := by
  have hsz := facB_size hf
  induction d with
  | zero =>
    intro i out hi ho
    exact ⟨strOfNums out, Ev.step (f := fun _ => some (strOfNums out, true)) (fun k => by rw [spec_CommandsBetween.l0, if_neg (by omega)]) (Ev.now _), Ev.step (f := fun _ => some (strOfNums out)) (fun k => by rw [impl_between.l0, if_neg (by omega)]) (Ev.now _)⟩
  | succ d ih =>
    intro i out hi ho
    obtain ⟨v, hv, hb⟩ := facB_at hf i (by omega)
    obtain ⟨x, hx, hc⟩ := facB_at hu i (by omega)
    have e1 : Int.tmod (wrap64 (wrap64 (4 + wrap64 (bt u i)) - wrap64 (bt s i))) 4 = (4 + (x : Int) - v) % 4 := by
      rw [hb, hc, w64 (x := 48 + (x : Int)) (by omega) (by omega), w64 (x := 48 + (v : Int)) (by omega) (by omega), w64 (x := 4 + (48 + (x : Int))) (by omega) (by omega), w64 (by omega) (by omega), Int.tmod_eq_emod_of_nonneg (by omega)]
      omega
    have e2 : Int.tmod (wrap64 (wrap64 (wrap64 (bt u i) + 4) - wrap64 (bt s i))) 4 = (4 + (x : Int) - v) % 4 := by
      rw [hb, hc, w64 (x := 48 + (x : Int)) (by omega) (by omega), w64 (x := 48 + (v : Int)) (by omega) (by omega), w64 (x := 48 + (x : Int) + 4) (by omega) (by omega), w64 (by omega) (by omega), Int.tmod_eq_emod_of_nonneg (by omega)]
      omega
    obtain ⟨r, a, b⟩ := ih (i + 1) (out ++ [bt (⟨#[83, 82, 65, 76]⟩ : ByteArray) ((4 + (x : Int) - v) % 4)]) (by omega) (by simp; omega)
    refine ⟨r, Ev.step (fun k => ?_) a, Ev.step (fun k => ?_) b⟩
    · rw [spec_CommandsBetween.l0, if_pos (by omega), if_pos (by omega), if_pos (by omega), e1, drSign_eq _ (by omega) (by omega), Option.bind_some, if_pos (by simp only [strOfNums_size, List.length_singleton]; omega), ← strOfNums_append, w64 (x := (i : Int) + 1) (by omega) (by omega)]
      rfl
    · rw [impl_between.l0, e2, if_pos (by omega), if_pos (by omega), if_pos (by omega), if_pos (by omega), if_pos (by omega), if_pos (by omega), if_pos (by omega), w64 (x := (i : Int) + 1) (by omega) (by omega)]
      rfl
theorem both (s u : ByteArray) (hs : s.size ≤ 140737488351232) (hu : u.size ≤ 140737488351232) : ∃ r b, Ev (fun k => spec_CommandsBetween.f k s u) (r, b) ∧ Ev (fun k => impl_CommandsBetween.f k s u) (r, b) := by
  unfold spec_CommandsBetween.f impl_CommandsBetween.f
  simp only [impl_fac s hs, impl_fac u hu, Option.bind_some]
  have h1 := spec_fac s hs
  have h2 := spec_fac u hu
  have no : ∀ (k : Nat), spec_CommandsBetween.j0 (k + 1) s u true = some (⟨#[]⟩, false) := fun k => by rw [spec_CommandsBetween.j0, if_pos rfl]
  have noE : Ev (fun k => spec_CommandsBetween.j0 k s u true) (⟨#[]⟩, false) := Ev.step no (Ev.now _)
  cases hf : facB s with
  | false =>
    rw [hf] at h1
    exact ⟨⟨#[]⟩, false, Ev.bind h1 (Ev.congr (fun k => if_neg (by decide)) noE), Ev.congr (fun k => if_neg (by decide)) (Ev.now _)⟩
  | true =>
    rw [hf] at h1
    cases hg : facB u with
    | false =>
      rw [hg] at h2
      exact ⟨⟨#[]⟩, false, Ev.bind h1 (Ev.congr (fun k => if_pos rfl) (Ev.bind h2 (Ev.congr (fun k => if_neg (by decide)) noE))), Ev.congr (fun k => (if_pos rfl).trans (if_neg (by decide))) (Ev.now _)⟩
    | true =>
      rw [hg] at h2
      by_cases he : s.size = u.size
      · obtain ⟨r, a, b⟩ := both_l0 s u hf hg he s.size 0 [] (by omega) (by simp)
        have e : ((s.size : Int) != (u.size : Int)) = false := by simp [he]
        refine ⟨r, true, Ev.bind h1 (Ev.congr (fun k => if_pos rfl) (Ev.bind h2 (Ev.congr (fun k => if_pos rfl) ?_))), Ev.congr (fun k => (if_pos rfl).trans ((if_pos rfl).trans (if_pos (by omega)))) ?_⟩
        · rw [e]
          exact Ev.step (fun k => by rw [spec_CommandsBetween.j0, if_neg (by decide)]; rfl) a
        · unfold impl_between.f
          exact Ev.bind b (Ev.now _)
      · have e : ((s.size : Int) != (u.size : Int)) = true := by simp; omega
        refine ⟨⟨#[]⟩, false, Ev.bind h1 (Ev.congr (fun k => if_pos rfl) (Ev.bind h2 (Ev.congr (fun k => if_pos rfl) ?_))), Ev.congr (fun k => (if_pos rfl).trans ((if_pos rfl).trans (if_neg (by omega)))) (Ev.now _)⟩
        rw [e]
        exact noE
theorem FnExactCommandsBetween : ∀ (a0 : ByteArray) (a1 : ByteArray), a0.size ≤ 140737488351232 → a1.size ≤ 140737488351232 → ∃ k, laws_FnExactCommandsBetween.f k a0 a1 = some true := by
  intro a0 a1 w0 w1
  refine Ev.rounds (r := true) ?_
  unfold laws_FnExactCommandsBetween.f
  by_cases c0 : (a0.size : Int) > 1048576
  · simp only [if_pos c0]; exact Ev.now _
  simp only [if_neg c0]
  by_cases c1 : (a1.size : Int) > 1048576
  · simp only [if_pos c1]; exact Ev.now _
  simp only [if_neg c1]
  obtain ⟨r, b, hs, hi⟩ := both a0 a1 w0 w1
  refine Ev.bind hs (Ev.bind hi ?_)
  simp only [if_true, bne_self_eq_false]
  simpa using Ev.now true

end Go.Proofs.YtekfpdpmekjmoaaDoor.Pure
