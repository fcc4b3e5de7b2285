/- For every text, the program's BackCommands answers what the reference's does. -/
import Derived.Test.YtddenfnnnloagaaDoorPFnExactBackCommandsx3
namespace Go.Proofs.YtddenfnnnloagaaDoor.Pure
open Go.RowKit Go.Proofs.YtddenfnnnloagaaDoor.PFnExactBackCommands Go.Proofs.YtddenfnnnloagaaDoorW.PrintWords Go.Proofs.YtddenfnnnloagaaDoorW.PrintLast
set_option linter.unusedVariables false
set_option linter.unusedSimpArgs false

theorem w64 {x : Int} (h1 : -9223372036854775808 ≤ x) (h2 : x ≤ 9223372036854775807) : wrap64 x = x := by
  unfold wrap64
  omega
theorem wf_lo {a : Int} (h : (Lit.int .i64 a).wf = true) : -9223372036854775808 ≤ a := by
  have h' : IntKind.i64.min ≤ a ∧ a ≤ IntKind.i64.max := by simpa [Lit.wf] using h
  have e : IntKind.i64.min = -9223372036854775808 := by decide
  omega
theorem wf_hi {a : Int} (h : (Lit.int .i64 a).wf = true) : a ≤ 9223372036854775807 := by
  have h' : IntKind.i64.min ≤ a ∧ a ≤ IntKind.i64.max := by simpa [Lit.wf] using h
  have e : IntKind.i64.max = 9223372036854775807 := by decide
  omega
theorem ev_congr_fun {α : Type} {g f : Nat → Option α} {r : α} (h : g = f) (k : Ev f r) : Ev g r := h ▸ k
theorem rd_mid (pre : List Int) (x : Int) (rest : List Int) : rd (pre ++ x :: rest) (pre.length : Int) = x := by
  simp [rd]
theorem bt_eq (s : ByteArray) (i : Nat) (h : i < s.data.toList.length) : bt s (i : Int) = ((s.data.toList[i]'h).toNat : Int) := by
  have h' : i < s.size := by rw [Lib.size_eq]; exact h
  unfold bt
  rw [dif_pos (by simpa using h')]
  simp only [Int.toNat_natCast]
  rw [Array.getElem_toList]
  rfl
theorem dropWhile_nil {α : Type} (p : α → Bool) (l : List α) : l.dropWhile p = [] ↔ l.all p = true := by
  induction l with
  | nil => simp
  | cons x l ih =>
    by_cases h : p x = true
    · simp [List.dropWhile, h, ih]
    · simp [List.dropWhile, h]
theorem dropWhile_all {α : Type} (p : α → Bool) (l : List α) (h : (l.dropWhile p).all p = true) : l.dropWhile p = [] := by
  induction l with
  | nil => rfl
  | cons x l ih =>
    by_cases hx : p x = true
    · simp only [List.dropWhile, hx] at h ⊢
      exact ih h
    · simp [List.dropWhile, hx] at h
theorem trim_nil (l cs : List UInt8) : Lib.trimS l cs = [] ↔ l.all (cs.contains ·) = true := by
  unfold Lib.trimS Lib.trimLeftS Lib.trimRightS
  rw [dropWhile_nil, List.all_reverse]
  constructor
  · intro h
    have := dropWhile_all _ _ h
    rw [dropWhile_nil, List.all_reverse] at this
    exact this
  · intro h
    rw [← List.all_reverse, ← dropWhile_nil] at h
    rw [h]; rfl
theorem trim_f (s c : ByteArray) (hs : s.size ≤ 140737488351232) (hc : c.size ≤ 1000000) (ha : c.data.toList.all (fun b => decide (b.toNat < 128)) = true) :
    strings_Trim.f s c = some ⟨(Lib.trimS s.data.toList c.data.toList).toArray⟩ := by
  unfold strings_Trim.f
  rw [if_pos ⟨by omega, hc, ha⟩]
theorem empty_test (l : List UInt8) : ((⟨l.toArray⟩ : ByteArray).toList == ([] : List UInt8)) = l.isEmpty := by
  rw [Lib.toList_data]
  cases l <;> rfl
theorem trim_test (l cs : List UInt8) : (Lib.trimS l cs).isEmpty = l.all (cs.contains ·) := by
  rw [Bool.eq_iff_iff, List.isEmpty_iff, trim_nil]
def wordB (s : ByteArray) : Bool := decide ((s.size : Int) ≤ 60) && s.data.toList.all (([83, 82, 65, 76] : List UInt8).contains ·)
def turnV (a : Int) : Int := if a = 83 then 0 else if a = 82 then 1 else if a = 65 then 2 else if a = 76 then 3 else -1
theorem drTurn_eq (a : Int) : spec_drTurn.f a = some (turnV a) := by
  unfold spec_drTurn.f turnV
  repeat' split
  all_goals rfl
theorem word_byte (b : UInt8) : ([83, 82, 65, 76] : List UInt8).contains b = !decide (turnV (b.toNat : Int) < 0) := by
  have hb := b.toNat_lt
  rw [Bool.eq_iff_iff]
  simp only [List.contains_iff_mem, List.mem_cons, List.not_mem_nil, or_false, Bool.not_eq_true', decide_eq_false_iff_not, ← UInt8.toNat_inj]
  have e1 : (83 : UInt8).toNat = 83 := rfl
  have e2 : (82 : UInt8).toNat = 82 := rfl
  have e3 : (65 : UInt8).toNat = 65 := rfl
  have e4 : (76 : UInt8).toNat = 76 := rfl
  rw [e1, e2, e3, e4]
  unfold turnV
  repeat' split
  all_goals omega
theorem spec_word_l0 (s : ByteArray) (hs : s.data.toList.length ≤ 140737488351232) (d : Nat) : ∀ i : Nat, i + d = s.data.toList.length → Ev (fun k => spec_drWord.l0 k s i) ((s.data.toList.drop i).all (([83, 82, 65, 76] : List UInt8).contains ·)) := by
  have hz := Lib.size_eq s
  induction d with
  | zero =>
    intro i hi
    rw [List.drop_of_length_le (by omega)]
    exact Ev.step (f := fun _ => some true) (fun k => by rw [spec_drWord.l0, if_neg (by omega)]) (Ev.now _)
  | succ d ih =>
    intro i hi
    have hil : i < s.data.toList.length := by omega
    rw [List.drop_eq_getElem_cons hil, List.all_cons, word_byte]
    refine Ev.step (f := fun k => if turnV ((s.data.toList[i]).toNat : Int) < 0 then some false else spec_drWord.l0 k s ((i + 1 : Nat) : Int)) (fun k => ?_) ?_
    · rw [spec_drWord.l0, if_pos (by omega), if_pos (by omega), bt_eq s i hil, drTurn_eq, w64 (x := (i : Int) + 1) (by omega) (by omega)]
      rfl
    · by_cases hc : turnV ((s.data.toList[i]).toNat : Int) < 0
      · rw [decide_eq_true hc]
        exact Ev.congr (fun k => if_pos hc) (Ev.now _)
      · rw [decide_eq_false hc, Bool.not_false, Bool.true_and]
        exact Ev.congr (fun k => if_neg hc) (ih (i + 1) (by omega))
theorem spec_word (s : ByteArray) (hs : s.size ≤ 140737488351232) : Ev (fun k => spec_drWord.f k s) (wordB s) := by
  have hz := Lib.size_eq s
  unfold spec_drWord.f wordB
  by_cases h : (s.size : Int) ≤ 60
  · simpa [h, show ¬ (s.size : Int) > 60 by omega] using spec_word_l0 s (by omega) s.data.toList.length 0 (by omega)
  · simpa [h, show (s.size : Int) > 60 by omega] using Ev.now false
theorem impl_word (s : ByteArray) (hs : s.size ≤ 140737488351232) : impl_areCommands.f s = some (wordB s) := by
  unfold impl_areCommands.f wordB
  rw [trim_f s _ hs (by decide) (by decide)]
  simp only [Option.bind_some, empty_test, trim_test]
  by_cases h : (s.size : Int) ≤ 60
  · rw [if_pos h, decide_eq_true h, Bool.true_and]
  · rw [if_neg h, decide_eq_false h, Bool.false_and]
theorem wordB_size {s : ByteArray} (h : wordB s = true) : s.size ≤ 60 := by
  unfold wordB at h
  simp only [Bool.and_eq_true, decide_eq_true_eq] at h
  omega
theorem wordB_at {s : ByteArray} (h : wordB s = true) (i : Nat) (hi : i < s.size) : bt s (i : Int) = 83 ∨ bt s (i : Int) = 82 ∨ bt s (i : Int) = 65 ∨ bt s (i : Int) = 76 := by
  have hz := Lib.size_eq s
  unfold wordB at h
  simp only [Bool.and_eq_true] at h
  have hm := List.all_eq_true.1 h.2 _ (List.getElem_mem (show i < s.data.toList.length by omega))
  rw [word_byte] at hm
  simp only [Bool.not_eq_true', decide_eq_false_iff_not] at hm
  rw [bt_eq s i (by omega)]
  unfold turnV at hm
  omega
theorem strOfNums_append (xs ys : List Int) : strOfNums (xs ++ ys) = strOfNums xs ++ strOfNums ys := by
  apply ByteArray.ext
  simp [strOfNums]
theorem drOther_eq {b : Int} (h : b = 83 ∨ b = 82 ∨ b = 65 ∨ b = 76) : spec_drOther.f b = some (strOfNums [mbT b.toNat]) := by
  rcases h with rfl | rfl | rfl | rfl <;> decide +kernel
theorem strOfNums_len (l : List Int) : (strOfNums l).size = l.length := by
  simp [strOfNums, ByteArray.size]
def mbAll (s : ByteArray) : List Int := (List.range s.size).map fun (i : Nat) => mbT (bt s (i : Int)).toNat
theorem mbAll_len (s : ByteArray) : (mbAll s).length = s.size := by simp [mbAll]
theorem mbT_range (n : Nat) (h : n < 256) : 0 ≤ mbT n ∧ mbT n < 256 := by
  unfold mbT
  split
  · omega
  · split <;> omega
theorem bt_strOfNums (l : List Int) (h : ∀ x ∈ l, 0 ≤ x ∧ x < 256) (i : Nat) (hi : i < l.length) : bt (strOfNums l) (i : Int) = l[i] := by
  have hz := strOfNums_len l
  have hx := h l[i] (List.getElem_mem hi)
  unfold bt
  rw [dif_pos (by rw [hz]; simpa using hi)]
  simp only [Int.toNat_natCast]
  have e : (strOfNums l)[i]'(by rw [hz]; exact hi) = UInt8.ofNat (l[i]).toNat := by
    show (strOfNums l).data[i]'_ = _
    simp [strOfNums]
  rw [e]
  simp
  omega
theorem mbRev_all (s : ByteArray) : mbRevL (mbStr s) = (mbAll s).reverse := by
  have hz : (mbStr s).size = s.size := by
    show (strOfNums (mbAll s)).size = _
    rw [strOfNums_len, mbAll_len]
  unfold mbRevL
  congr 1
  apply List.ext_getElem
  · simp [mbAll, hz]
  intro i h1 h2
  have hi : i < (mbAll s).length := h2
  rw [List.getElem_map, List.getElem_range]
  exact bt_strOfNums (mbAll s) (fun x hx => by
    obtain ⟨j, _, rfl⟩ := List.mem_map.1 hx
    have := bt_range s (j : Int)
    exact mbT_range _ (by omega)) i hi
/-- The last letters from behind. -/
def bkPre (s : ByteArray) (i : Nat) : ByteArray := strOfNums ((mbAll s).drop i).reverse
theorem bkPre_len (s : ByteArray) (i : Nat) : (bkPre s i).size ≤ s.size := by
  unfold bkPre
  rw [strOfNums_len, List.length_reverse, List.length_drop, mbAll_len]
  omega
theorem bkPre_step (s : ByteArray) (i : Nat) (h : i < s.size) : bkPre s i = bkPre s (i + 1) ++ strOfNums [mbT (bt s (i : Int)).toNat] := by
  unfold bkPre
  rw [List.drop_eq_getElem_cons (show i < (mbAll s).length by rw [mbAll_len]; exact h), List.reverse_cons, strOfNums_append]
  simp [mbAll]
theorem spec_back_l0 (s : ByteArray) (hw : wordB s = true) : ∀ i : Nat, i ≤ s.size → Ev (fun k => spec_BackCommands.l0 k s (bkPre s i) ((i : Int) - 1)) (bkPre s 0, true) := by
  have hs := wordB_size hw
  intro i
  induction i with
  | zero =>
    intro hi
    refine Ev.step (f := fun _ => some (bkPre s 0, true)) (fun k => by rw [spec_BackCommands.l0, if_neg (by simp)]) ?_
    exact Ev.now _
  | succ i ih =>
    intro hi
    refine Ev.step (f := fun k => spec_BackCommands.l0 k s (bkPre s i) ((i : Int) - 1)) (fun k => ?_) (ih (by omega))
    have e : ((i + 1 : Nat) : Int) - 1 = (i : Int) := by omega
    have hl := bkPre_len s (i + 1)
    rw [spec_BackCommands.l0, e, if_pos (by omega), if_pos (by omega), if_pos (by omega), drOther_eq (wordB_at hw i (by omega)), Option.bind_some, strOfNums_len, if_pos (by simp; omega), w64 (by omega) (by omega), bkPre_step s i (by omega)]
theorem spec_back (s : ByteArray) (h : s.size ≤ 140737488351232) : Ev (fun k => spec_BackCommands.f k s) (if wordB s = true then (strOfNums (mbRevL (mbStr s)), true) else ((⟨#[]⟩ : ByteArray), false)) := by
  unfold spec_BackCommands.f
  refine Ev.bind (spec_word s h) ?_
  by_cases hw : wordB s = true
  · simp only [if_pos hw]
    have hs := wordB_size hw
    have := spec_back_l0 s hw s.size (Nat.le_refl _)
    rw [mbRev_all]
    have e : bkPre s s.size = (⟨#[]⟩ : ByteArray) := by
      unfold bkPre
      rw [List.drop_of_length_le (by rw [mbAll_len]; exact Nat.le_refl _)]
      rfl
    rw [e] at this
    rw [w64 (by omega) (by omega)]
    exact this
  · simp only [if_neg hw]
    exact Ev.now _
theorem FnExactBackCommands : ∀ (a0 : ByteArray), a0.size ≤ 140737488351232 → ∃ k, laws_FnExactBackCommands.f k a0 = some true := by
  intro a0 w0
  refine Ev.rounds (r := true) ?_
  unfold laws_FnExactBackCommands.f
  by_cases c0 : (a0.size : Int) > 1048576
  · simp only [if_pos c0]; exact Ev.now _
  simp only [if_neg c0]
  refine Ev.bind (spec_back a0 w0) ?_
  have hi : impl_BackCommands.f a0 = some (if wordB a0 = true then (strOfNums (mbRevL (mbStr a0)), true) else ((⟨#[]⟩ : ByteArray), false)) := by
    unfold impl_BackCommands.f
    rw [impl_word a0 w0, Option.bind_some]
    by_cases hw : wordB a0 = true
    · have := wordB_size hw
      rw [if_pos hw, if_pos hw]
      unfold impl_mirrorCommands.f
      have hz : (mbStr a0).size = a0.size := by
        show (strOfNums (mbAll a0)).size = _
        rw [strOfNums_len, mbAll_len]
      rw [if_pos (by omega), Option.bind_some, if_pos (by omega)]
    · rw [if_neg hw, if_neg hw]
  simp only [hi, Option.bind_some, bne_self_eq_false]
  simpa using Ev.now true

end Go.Proofs.YtddenfnnnloagaaDoor.Pure
