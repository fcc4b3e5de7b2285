/- For every text, the program's AreFacing answers what the reference's does. -/
import Derived.Test.YtekfpdpmekjmoaaDoorPFnExactAreFacingx1
namespace Go.Proofs.YtekfpdpmekjmoaaDoor.Pure
open Go.RowKit Go.Proofs.YtekfpdpmekjmoaaDoor.PFnExactAreFacing Go.Proofs.YtekfpdpmekjmoaaDoorW.PrintWords Go.Proofs.YtekfpdpmekjmoaaDoorW.PrintLast
set_option linter.unusedVariables false
set_option linter.unusedSimpArgs false

theorem w64 {x : Int} (h1 : -9223372036854775808 ≤ x) (h2 : x ≤ 9223372036854775807) : wrap64 x = x := by
  unfold wrap64
  omega
theorem wf_lo {a : Int} (h : (Lit.int .i64 a).wf = true) : -9223372036854775808 ≤ a := by
  have h' : IntKind.i64.min ≤ a ∧ a ≤ IntKind.i64.max := by simpa [Lit.wf] using h
  have e : IntKind.i64.min = -9223372036854775808 := by decide
  omega
theorem wf_hi {a : Int} (h : (Lit.int .i64 a).wf = true) : a ≤ 9223372036854775807 := by
  have h' : IntKind.i64.min ≤ a ∧ a ≤ IntKind.i64.max := by simpa [Lit.wf] using h
  have e : IntKind.i64.max = 9223372036854775807 := by decide
  omega
theorem ev_congr_fun {α : Type} {g f : Nat → Option α} {r : α} (h : g = f) (k : Ev f r) : Ev g r := h ▸ k
theorem rd_mid (pre : List Int) (x : Int) (rest : List Int) : rd (pre ++ x :: rest) (pre.length : Int) = x := by
  simp [rd]
theorem bt_eq (s : ByteArray) (i : Nat) (h : i < s.data.toList.length) : bt s (i : Int) = ((s.data.toList[i]'h).toNat : Int) := by
  have h' : i < s.size := by rw [Lib.size_eq]; exact h
  unfold bt
  rw [dif_pos (by simpa using h')]
  simp only [Int.toNat_natCast]
  rw [Array.getElem_toList]
  rfl
theorem dropWhile_nil {α : Type} (p : α → Bool) (l : List α) : l.dropWhile p = [] ↔ l.all p = true := by
  induction l with
  | nil => simp
  | cons x l ih =>
    by_cases h : p x = true
    · simp [List.dropWhile, h, ih]
    · simp [List.dropWhile, h]
theorem dropWhile_all {α : Type} (p : α → Bool) (l : List α) (h : (l.dropWhile p).all p = true) : l.dropWhile p = [] := by
  induction l with
  | nil => rfl
  | cons x l ih =>
    by_cases hx : p x = true
    · simp only [List.dropWhile, hx] at h ⊢
      exact ih h
    · simp [List.dropWhile, hx] at h
theorem trim_nil (l cs : List UInt8) : Lib.trimS l cs = [] ↔ l.all (cs.contains ·) = true := by
  unfold Lib.trimS Lib.trimLeftS Lib.trimRightS
  rw [dropWhile_nil, List.all_reverse]
  constructor
  · intro h
    have := dropWhile_all _ _ h
    rw [dropWhile_nil, List.all_reverse] at this
    exact this
  · intro h
    rw [← List.all_reverse, ← dropWhile_nil] at h
    rw [h]; rfl
theorem trim_f (s c : ByteArray) (hs : s.size ≤ 140737488351232) (hc : c.size ≤ 1000000) (ha : c.data.toList.all (fun b => decide (b.toNat < 128)) = true) :
    strings_Trim.f s c = some ⟨(Lib.trimS s.data.toList c.data.toList).toArray⟩ := by
  unfold strings_Trim.f
  rw [if_pos ⟨by omega, hc, ha⟩]
theorem empty_test (l : List UInt8) : ((⟨l.toArray⟩ : ByteArray).toList == ([] : List UInt8)) = l.isEmpty := by
  rw [Lib.toList_data]
  cases l <;> rfl
theorem trim_test (l cs : List UInt8) : (Lib.trimS l cs).isEmpty = l.all (cs.contains ·) := by
  rw [Bool.eq_iff_iff, List.isEmpty_iff, trim_nil]
theorem l1In_eq (a b c : Int) : spec_l1In.f a b c = some (decide (b ≤ a) && decide (a ≤ c)) := by
  unfold spec_l1In.f
  by_cases h : b ≤ a
  · rw [if_pos h]; simp [h]
  · rw [if_neg (show ¬ a ≥ b from h)]; simp [h]
theorem in_eq (a b c : Int) : impl_in.f a b c = some (decide (b ≤ a) && decide (a ≤ c)) := by
  unfold impl_in.f
  by_cases h : b ≤ a
  · rw [if_pos h]; simp [h]
  · rw [if_neg h]; simp [h]
theorem cast_len {α : Type} (l : List α) : (decide ((1 : Int) ≤ (l.length : Int)) && decide ((l.length : Int) ≤ 6)) = (decide (1 ≤ l.length) && decide (l.length ≤ 6)) := by
  congr 1 <;> exact decide_eq_decide.2 (by omega)
def facB (s : ByteArray) : Bool := (decide (1 ≤ (s.size : Int)) && decide ((s.size : Int) ≤ 30)) && s.data.toList.all (([48, 49, 50, 51] : List UInt8).contains ·)
theorem fac_byte (b : UInt8) : ([48, 49, 50, 51] : List UInt8).contains b = (decide (0 ≤ (b.toNat : Int) - 48) && decide ((b.toNat : Int) - 48 ≤ 3)) := by
  have h : b = UInt8.ofNat b.toNat := by simp
  have hb := b.toNat_lt
  rw [Bool.eq_iff_iff]
  simp only [List.contains_iff_mem, List.mem_cons, List.not_mem_nil, or_false, Bool.and_eq_true, decide_eq_true_eq, ← UInt8.toNat_inj]
  have e1 : (48 : UInt8).toNat = 48 := rfl
  have e2 : (49 : UInt8).toNat = 49 := rfl
  have e3 : (50 : UInt8).toNat = 50 := rfl
  have e4 : (51 : UInt8).toNat = 51 := rfl
  rw [e1, e2, e3, e4]
  omega
theorem spec_fac_l0 (s : ByteArray) (hs : s.data.toList.length ≤ 140737488351232) (d : Nat) : ∀ i : Nat, i + d = s.data.toList.length → Ev (fun k => spec_drFacing.l0 k s i) ((s.data.toList.drop i).all (([48, 49, 50, 51] : List UInt8).contains ·)) := by
  have hz := Lib.size_eq s
  induction d with
  | zero =>
    intro i hi
    rw [List.drop_of_length_le (by omega)]
    exact Ev.step (f := fun _ => some true) (fun k => by rw [spec_drFacing.l0, if_neg (by omega)]) (Ev.now _)
  | succ d ih =>
    intro i hi
    have hil : i < s.data.toList.length := by omega
    have hb := (s.data.toList[i]).toNat_lt
    rw [List.drop_eq_getElem_cons hil, List.all_cons, fac_byte]
    refine Ev.step (f := fun k => if (decide (0 ≤ ((s.data.toList[i]).toNat : Int) - 48) && decide (((s.data.toList[i]).toNat : Int) - 48 ≤ 3)) = true then spec_drFacing.l0 k s ((i + 1 : Nat) : Int) else some false) (fun k => ?_) ?_
    · rw [spec_drFacing.l0, if_pos (by omega), if_pos (by omega), bt_eq s i hil, w64 (x := ((s.data.toList[i]).toNat : Int)) (by omega) (by omega), w64 (x := ((s.data.toList[i]).toNat : Int) - 48) (by omega) (by omega), l1In_eq, w64 (x := (i : Int) + 1) (by omega) (by omega)]
      rfl
    · cases hc : (decide (0 ≤ ((s.data.toList[i]).toNat : Int) - 48) && decide (((s.data.toList[i]).toNat : Int) - 48 ≤ 3)) with
      | true => simpa using ih (i + 1) (by omega)
      | false => simpa using Ev.now false
theorem spec_fac (s : ByteArray) (hs : s.size ≤ 140737488351232) : Ev (fun k => spec_drFacing.f k s) (facB s) := by
  have hz := Lib.size_eq s
  unfold spec_drFacing.f facB
  simp only [l1In_eq, Option.bind_some]
  cases (decide (1 ≤ (s.size : Int)) && decide ((s.size : Int) ≤ 30)) with
  | true => simpa using spec_fac_l0 s (by omega) s.data.toList.length 0 (by omega)
  | false => simpa using Ev.now false
theorem impl_fac (s : ByteArray) (hs : s.size ≤ 140737488351232) : impl_areFacing.f s = some (facB s) := by
  unfold impl_areFacing.f facB
  simp only [in_eq, Option.bind_some]
  rw [trim_f s _ hs (by decide) (by decide)]
  simp only [Option.bind_some, empty_test, trim_test]
  cases (decide (1 ≤ (s.size : Int)) && decide ((s.size : Int) ≤ 30)) <;> rfl
theorem facB_size {s : ByteArray} (h : facB s = true) : 1 ≤ s.size ∧ s.size ≤ 30 := by
  unfold facB at h
  simp only [Bool.and_eq_true, decide_eq_true_eq] at h
  omega
theorem facB_at {s : ByteArray} (h : facB s = true) (i : Nat) (hi : i < s.size) : ∃ v : Nat, v ≤ 3 ∧ bt s (i : Int) = 48 + (v : Int) := by
  have hz := Lib.size_eq s
  unfold facB at h
  simp only [Bool.and_eq_true] at h
  have hm := List.all_eq_true.1 h.2 _ (List.getElem_mem (show i < s.data.toList.length by omega))
  rw [fac_byte] at hm
  simp only [Bool.and_eq_true, decide_eq_true_eq] at hm
  refine ⟨(s.data.toList[i]).toNat - 48, by omega, ?_⟩
  rw [bt_eq s i (by omega)]
  omega
theorem FnExactAreFacing : ∀ (a0 : ByteArray), a0.size ≤ 140737488351232 → ∃ k, laws_FnExactAreFacing.f k a0 = some true := by
  intro a0 w0
  refine Ev.rounds (r := true) ?_
  unfold laws_FnExactAreFacing.f
  by_cases c0 : (a0.size : Int) > 1048576
  · simp only [if_pos c0]; exact Ev.now _
  simp only [if_neg c0]
  unfold spec_AreFacing.f impl_AreFacing.f
  refine Ev.bind (Ev.bind (spec_fac a0 w0) (Ev.now _)) ?_
  simp only [impl_fac a0 w0, Option.bind_some, bne_self_eq_false]
  simpa using Ev.now true

end Go.Proofs.YtekfpdpmekjmoaaDoor.Pure
