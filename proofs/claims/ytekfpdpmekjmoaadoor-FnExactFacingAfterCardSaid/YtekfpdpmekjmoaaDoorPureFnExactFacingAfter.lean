/- For all texts, the program's FacingAfter answers what the reference's does. -/
import Derived.Test.YtekfpdpmekjmoaaDoorPFnExactFacingAfterx2
namespace Go.Proofs.YtekfpdpmekjmoaaDoor.Pure
open Go.RowKit Go.Proofs.YtekfpdpmekjmoaaDoor.PFnExactFacingAfter Go.Proofs.YtekfpdpmekjmoaaDoorW.PrintWords Go.Proofs.YtekfpdpmekjmoaaDoorW.PrintLast
set_option linter.unusedVariables false
set_option linter.unusedSimpArgs false

theorem w64 {x : Int} (h1 : -9223372036854775808 ≤ x) (h2 : x ≤ 9223372036854775807) : wrap64 x = x := by
  unfold wrap64
  omega
theorem wf_lo {a : Int} (h : (Lit.int .i64 a).wf = true) : -9223372036854775808 ≤ a := by
  have h' : IntKind.i64.min ≤ a ∧ a ≤ IntKind.i64.max := by simpa [Lit.wf] using h
  have e : IntKind.i64.min = -9223372036854775808 := by decide
  omega
theorem wf_hi {a : Int} (h : (Lit.int .i64 a).wf = true) : a ≤ 9223372036854775807 := by
  have h' : IntKind.i64.min ≤ a ∧ a ≤ IntKind.i64.max := by simpa [Lit.wf] using h
  have e : IntKind.i64.max = 9223372036854775807 := by decide
  omega
theorem ev_congr_fun {α : Type} {g f : Nat → Option α} {r : α} (h : g = f) (k : Ev f r) : Ev g r := h ▸ k
theorem rd_mid (pre : List Int) (x : Int) (rest : List Int) : rd (pre ++ x :: rest) (pre.length : Int) = x := by
  simp [rd]
theorem bt_eq (s : ByteArray) (i : Nat) (h : i < s.data.toList.length) : bt s (i : Int) = ((s.data.toList[i]'h).toNat : Int) := by
  have h' : i < s.size := by rw [Lib.size_eq]; exact h
  unfold bt
  rw [dif_pos (by simpa using h')]
  simp only [Int.toNat_natCast]
  rw [Array.getElem_toList]
  rfl
theorem dropWhile_nil {α : Type} (p : α → Bool) (l : List α) : l.dropWhile p = [] ↔ l.all p = true := by
  induction l with
  | nil => simp
  | cons x l ih =>
    by_cases h : p x = true
    · simp [List.dropWhile, h, ih]
    · simp [List.dropWhile, h]
theorem dropWhile_all {α : Type} (p : α → Bool) (l : List α) (h : (l.dropWhile p).all p = true) : l.dropWhile p = [] := by
  induction l with
  | nil => rfl
  | cons x l ih =>
    by_cases hx : p x = true
    · simp only [List.dropWhile, hx] at h ⊢
      exact ih h
    · simp [List.dropWhile, hx] at h
theorem trim_nil (l cs : List UInt8) : Lib.trimS l cs = [] ↔ l.all (cs.contains ·) = true := by
  unfold Lib.trimS Lib.trimLeftS Lib.trimRightS
  rw [dropWhile_nil, List.all_reverse]
  constructor
  · intro h
    have := dropWhile_all _ _ h
    rw [dropWhile_nil, List.all_reverse] at this
    exact this
  · intro h
    rw [← List.all_reverse, ← dropWhile_nil] at h
    rw [h]; rfl
theorem trim_f (s c : ByteArray) (hs : s.size ≤ 140737488351232) (hc : c.size ≤ 1000000) (ha : c.data.toList.all (fun b => decide (b.toNat < 128)) = true) :
    strings_Trim.f s c = some ⟨(Lib.trimS s.data.toList c.data.toList).toArray⟩ := by
  unfold strings_Trim.f
  rw [if_pos ⟨by omega, hc, ha⟩]
theorem empty_test (l : List UInt8) : ((⟨l.toArray⟩ : ByteArray).toList == ([] : List UInt8)) = l.isEmpty := by
  rw [Lib.toList_data]
  cases l <;> rfl
theorem trim_test (l cs : List UInt8) : (Lib.trimS l cs).isEmpty = l.all (cs.contains ·) := by
  rw [Bool.eq_iff_iff, List.isEmpty_iff, trim_nil]
theorem l1In_eq (a b c : Int) : spec_l1In.f a b c = some (decide (b ≤ a) && decide (a ≤ c)) := by
  unfold spec_l1In.f
  by_cases h : b ≤ a
  · rw [if_pos h]; simp [h]
  · rw [if_neg (show ¬ a ≥ b from h)]; simp [h]
theorem in_eq (a b c : Int) : impl_in.f a b c = some (decide (b ≤ a) && decide (a ≤ c)) := by
  unfold impl_in.f
  by_cases h : b ≤ a
  · rw [if_pos h]; simp [h]
  · rw [if_neg h]; simp [h]
theorem cast_len {α : Type} (l : List α) : (decide ((1 : Int) ≤ (l.length : Int)) && decide ((l.length : Int) ≤ 6)) = (decide (1 ≤ l.length) && decide (l.length ≤ 6)) := by
  congr 1 <;> exact decide_eq_decide.2 (by omega)
def facB (s : ByteArray) : Bool := (decide (1 ≤ (s.size : Int)) && decide ((s.size : Int) ≤ 30)) && s.data.toList.all (([48, 49, 50, 51] : List UInt8).contains ·)
theorem fac_byte (b : UInt8) : ([48, 49, 50, 51] : List UInt8).contains b = (decide (0 ≤ (b.toNat : Int) - 48) && decide ((b.toNat : Int) - 48 ≤ 3)) := by
  have h : b = UInt8.ofNat b.toNat := by simp
  have hb := b.toNat_lt
  rw [Bool.eq_iff_iff]
  simp only [List.contains_iff_mem, List.mem_cons, List.not_mem_nil, or_false, Bool.and_eq_true, decide_eq_true_eq, ← UInt8.toNat_inj]
  have e1 : (48 : UInt8).toNat = 48 := rfl
  have e2 : (49 : UInt8).toNat = 49 := rfl
  have e3 : (50 : UInt8).toNat = 50 := rfl
  have e4 : (51 : UInt8).toNat = 51 := rfl
  rw [e1, e2, e3, e4]
  omega
theorem spec_fac_l0 (s : ByteArray) (hs : s.data.toList.length ≤ 140737488351232) (d : Nat) : ∀ i : Nat, i + d = s.data.toList.length → Ev (fun k => spec_drFacing.l0 k s i) ((s.data.toList.drop i).all (([48, 49, 50, 51] : List UInt8).contains ·)) := by
  have hz := Lib.size_eq s
  induction d with
  | zero =>
    intro i hi
    rw [List.drop_of_length_le (by omega)]
    exact Ev.step (f := fun _ => some true) (fun k => by rw [spec_drFacing.l0, if_neg (by omega)]) (Ev.now _)
  | succ d ih =>
    intro i hi
    have hil : i < s.data.toList.length := by omega
    have hb := (s.data.toList[i]).toNat_lt
    rw [List.drop_eq_getElem_cons hil, List.all_cons, fac_byte]
    refine Ev.step (f := fun k => if (decide (0 ≤ ((s.data.toList[i]).toNat : Int) - 48) && decide (((s.data.toList[i]).toNat : Int) - 48 ≤ 3)) = true then spec_drFacing.l0 k s ((i + 1 : Nat) : Int) else some false) (fun k => ?_) ?_
    · rw [spec_drFacing.l0, if_pos (by omega), if_pos (by omega), bt_eq s i hil, w64 (x := ((s.data.toList[i]).toNat : Int)) (by omega) (by omega), w64 (x := ((s.data.toList[i]).toNat : Int) - 48) (by omega) (by omega), l1In_eq, w64 (x := (i : Int) + 1) (by omega) (by omega)]
      rfl
    · cases hc : (decide (0 ≤ ((s.data.toList[i]).toNat : Int) - 48) && decide (((s.data.toList[i]).toNat : Int) - 48 ≤ 3)) with
      | true => simpa using ih (i + 1) (by omega)
      | false => simpa using Ev.now false
theorem spec_fac (s : ByteArray) (hs : s.size ≤ 140737488351232) : Ev (fun k => spec_drFacing.f k s) (facB s) := by
  have hz := Lib.size_eq s
  unfold spec_drFacing.f facB
  simp only [l1In_eq, Option.bind_some]
  cases (decide (1 ≤ (s.size : Int)) && decide ((s.size : Int) ≤ 30)) with
  | true => simpa using spec_fac_l0 s (by omega) s.data.toList.length 0 (by omega)
  | false => simpa using Ev.now false
theorem impl_fac (s : ByteArray) (hs : s.size ≤ 140737488351232) : impl_areFacing.f s = some (facB s) := by
  unfold impl_areFacing.f facB
  simp only [in_eq, Option.bind_some]
  rw [trim_f s _ hs (by decide) (by decide)]
  simp only [Option.bind_some, empty_test, trim_test]
  cases (decide (1 ≤ (s.size : Int)) && decide ((s.size : Int) ≤ 30)) <;> rfl
theorem facB_size {s : ByteArray} (h : facB s = true) : 1 ≤ s.size ∧ s.size ≤ 30 := by
  unfold facB at h
  simp only [Bool.and_eq_true, decide_eq_true_eq] at h
  omega
theorem facB_at {s : ByteArray} (h : facB s = true) (i : Nat) (hi : i < s.size) : ∃ v : Nat, v ≤ 3 ∧ bt s (i : Int) = 48 + (v : Int) := by
  have hz := Lib.size_eq s
  unfold facB at h
  simp only [Bool.and_eq_true] at h
  have hm := List.all_eq_true.1 h.2 _ (List.getElem_mem (show i < s.data.toList.length by omega))
  rw [fac_byte] at hm
  simp only [Bool.and_eq_true, decide_eq_true_eq] at hm
  refine ⟨(s.data.toList[i]).toNat - 48, by omega, ?_⟩
  rw [bt_eq s i (by omega)]
  omega
def wordB (s : ByteArray) : Bool := decide ((s.size : Int) ≤ 60) && s.data.toList.all (([83, 82, 65, 76] : List UInt8).contains ·)
def turnV (a : Int) : Int := if a = 83 then 0 else if a = 82 then 1 else if a = 65 then 2 else if a = 76 then 3 else -1
theorem drTurn_eq (a : Int) : spec_drTurn.f a = some (turnV a) := by
  unfold spec_drTurn.f turnV
  repeat' split
  all_goals rfl
theorem word_byte (b : UInt8) : ([83, 82, 65, 76] : List UInt8).contains b = !decide (turnV (b.toNat : Int) < 0) := by
  have hb := b.toNat_lt
  rw [Bool.eq_iff_iff]
  simp only [List.contains_iff_mem, List.mem_cons, List.not_mem_nil, or_false, Bool.not_eq_true', decide_eq_false_iff_not, ← UInt8.toNat_inj]
  have e1 : (83 : UInt8).toNat = 83 := rfl
  have e2 : (82 : UInt8).toNat = 82 := rfl
  have e3 : (65 : UInt8).toNat = 65 := rfl
  have e4 : (76 : UInt8).toNat = 76 := rfl
  rw [e1, e2, e3, e4]
  unfold turnV
  repeat' split
  all_goals omega
theorem spec_word_l0 (s : ByteArray) (hs : s.data.toList.length ≤ 140737488351232) (d : Nat) : ∀ i : Nat, i + d = s.data.toList.length → Ev (fun k => spec_drWord.l0 k s i) ((s.data.toList.drop i).all (([83, 82, 65, 76] : List UInt8).contains ·)) := by
  have hz := Lib.size_eq s
  induction d with
  | zero =>
    intro i hi
    rw [List.drop_of_length_le (by omega)]
    exact Ev.step (f := fun _ => some true) (fun k => by rw [spec_drWord.l0, if_neg (by omega)]) (Ev.now _)
  | succ d ih =>
    intro i hi
    have hil : i < s.data.toList.length := by omega
    rw [List.drop_eq_getElem_cons hil, List.all_cons, word_byte]
    refine Ev.step (f := fun k => if turnV ((s.data.toList[i]).toNat : Int) < 0 then some false else spec_drWord.l0 k s ((i + 1 : Nat) : Int)) (fun k => ?_) ?_
    · rw [spec_drWord.l0, if_pos (by omega), if_pos (by omega), bt_eq s i hil, drTurn_eq, w64 (x := (i : Int) + 1) (by omega) (by omega)]
      rfl
    · by_cases hc : turnV ((s.data.toList[i]).toNat : Int) < 0
      · rw [decide_eq_true hc]
        exact Ev.congr (fun k => if_pos hc) (Ev.now _)
      · rw [decide_eq_false hc, Bool.not_false, Bool.true_and]
        exact Ev.congr (fun k => if_neg hc) (ih (i + 1) (by omega))
theorem spec_word (s : ByteArray) (hs : s.size ≤ 140737488351232) : Ev (fun k => spec_drWord.f k s) (wordB s) := by
  have hz := Lib.size_eq s
  unfold spec_drWord.f wordB
  by_cases h : (s.size : Int) ≤ 60
  · simpa [h, show ¬ (s.size : Int) > 60 by omega] using spec_word_l0 s (by omega) s.data.toList.length 0 (by omega)
  · simpa [h, show (s.size : Int) > 60 by omega] using Ev.now false
theorem impl_word (s : ByteArray) (hs : s.size ≤ 140737488351232) : impl_areCommands.f s = some (wordB s) := by
  unfold impl_areCommands.f wordB
  rw [trim_f s _ hs (by decide) (by decide)]
  simp only [Option.bind_some, empty_test, trim_test]
  by_cases h : (s.size : Int) ≤ 60
  · rw [if_pos h, decide_eq_true h, Bool.true_and]
  · rw [if_neg h, decide_eq_false h, Bool.false_and]
theorem wordB_size {s : ByteArray} (h : wordB s = true) : s.size ≤ 60 := by
  unfold wordB at h
  simp only [Bool.and_eq_true, decide_eq_true_eq] at h
  omega
theorem wordB_at {s : ByteArray} (h : wordB s = true) (i : Nat) (hi : i < s.size) : bt s (i : Int) = 83 ∨ bt s (i : Int) = 82 ∨ bt s (i : Int) = 65 ∨ bt s (i : Int) = 76 := by
  have hz := Lib.size_eq s
  unfold wordB at h
  simp only [Bool.and_eq_true] at h
  have hm := List.all_eq_true.1 h.2 _ (List.getElem_mem (show i < s.data.toList.length by omega))
  rw [word_byte] at hm
  simp only [Bool.not_eq_true', decide_eq_false_iff_not] at hm
  rw [bt_eq s i (by omega)]
  unfold turnV at hm
  omega
theorem turnOf_eq {b : Int} (h : b = 83 ∨ b = 82 ∨ b = 65 ∨ b = 76) : impl_turnOf.f b = some (turnV b) := by
  rcases h with rfl | rfl | rfl | rfl <;> rfl
theorem turnV_range {b : Int} (h : b = 83 ∨ b = 82 ∨ b = 65 ∨ b = 76) : 0 ≤ turnV b ∧ turnV b ≤ 3 := by
  rcases h with rfl | rfl | rfl | rfl <;> decide
theorem net_l0 (s : ByteArray) (hw : wordB s = true) (d : Nat) : ∀ (i : Nat) (acc : Int), i + d = s.size → 0 ≤ acc → acc ≤ 3 * i →
    ∃ t : Int, 0 ≤ t ∧ t ≤ 3 ∧ Ev (fun k => spec_drNet.l0 k s acc i) t ∧ Ev (fun k => impl_netTurn.l0 k s acc (s.size : Int) i) t := by
  have hz := wordB_size hw
  induction d with
  | zero =>
    intro i acc hi h0 h1
    refine ⟨Int.tmod acc 4, ?_, ?_, ?_, ?_⟩
    · rw [Int.tmod_eq_emod_of_nonneg h0]; omega
    · rw [Int.tmod_eq_emod_of_nonneg h0]; omega
    · exact Ev.step (f := fun _ => some (Int.tmod acc 4)) (fun k => by rw [spec_drNet.l0, if_neg (by omega)]) (Ev.now _)
    · exact Ev.step (f := fun _ => some (Int.tmod acc 4)) (fun k => by rw [impl_netTurn.l0, if_neg (by omega)]) (Ev.now _)
  | succ d ih =>
    intro i acc hi h0 h1
    have hb := wordB_at hw i (by omega)
    obtain ⟨hr1, hr2⟩ := turnV_range hb
    obtain ⟨t, ht0, ht3, a, b⟩ := ih (i + 1) (acc + turnV (bt s i)) (by omega) (by omega) (by omega)
    refine ⟨t, ht0, ht3, Ev.step (fun k => ?_) a, Ev.step (fun k => ?_) b⟩
    · rw [spec_drNet.l0, if_pos (by omega), if_pos (by omega), drTurn_eq, Option.bind_some, w64 (x := acc + turnV (bt s i)) (by omega) (by omega), w64 (x := (i : Int) + 1) (by omega) (by omega)]
      rfl
    · rw [impl_netTurn.l0, if_pos (by omega), if_pos (by omega), if_pos (by omega), turnOf_eq hb, Option.bind_some, w64 (x := acc + turnV (bt s i)) (by omega) (by omega), w64 (x := (i : Int) + 1) (by omega) (by omega)]
      rfl
theorem net_ok (s : ByteArray) (hw : wordB s = true) : ∃ t : Int, 0 ≤ t ∧ t ≤ 3 ∧ Ev (fun k => spec_drNet.f k s) t ∧ Ev (fun k => impl_netTurn.f k s) t :=
  net_l0 s hw s.size 0 0 (by omega) (by omega) (by omega)
theorem strOfNums_append (xs ys : List Int) : strOfNums (xs ++ ys) = strOfNums xs ++ strOfNums ys := by
  apply ByteArray.ext
  simp [strOfNums]
theorem digit_small (v : Int) (h0 : 0 ≤ v) (h9 : v ≤ 9) : Ev (fun k => spec_l1Num.f k v) (strOfNums [48 + v]) := by
  refine Ev.step (f := fun _ => some (strOfNums [48 + v])) (fun k => ?_) (Ev.now _)
  have e : wrap64 (48 + v) % 256 = 48 + v := by rw [w64 (by omega) (by omega)]; omega
  rw [spec_l1Num.f, if_pos (by omega), e]
theorem fac1_eq (v t : Int) (hv0 : 0 ≤ v) (hv3 : v ≤ 3) (ht0 : 0 ≤ t) (ht3 : t ≤ 1000) : fac1 (48 + v) t = 48 + (v + t) % 4 := by
  unfold fac1
  have e : (48 + v - 48) % 256 = v := by omega
  rw [e, w64 (x := v) (by omega) (by omega), w64 (x := v + t) (by omega) (by omega), Int.tmod_eq_emod_of_nonneg (by omega), w64 (by omega) (by omega)]
  omega
theorem facL_succ (s : ByteArray) (T : Int → Int) (n : Nat) : facL s T (n + 1) = facL s T n ++ [fac1 (bt s (n : Int)) (T (n : Int))] := by
  unfold facL
  rw [List.range_succ, List.map_append]
  rfl
theorem facL_len (s : ByteArray) (T : Int → Int) (n : Nat) : (facL s T n).length = n := by simp [facL]
theorem spec_fa_l0 (s u : ByteArray) (hf : facB s = true) (t : Int) (ht0 : 0 ≤ t) (ht3 : t ≤ 3) (hn : Ev (fun k => spec_drNet.f k u) t) (d : Nat) : ∀ i : Nat, i + d = s.size → Ev (fun k => spec_FacingAfter.l0 k s u (strOfNums (facL s (fun _ => t) i)) i) (strOfNums (facL s (fun _ => t) s.size), true) := by
  have hsz := facB_size hf
  induction d with
  | zero =>
    intro i hi
    obtain rfl : i = s.size := by omega
    exact Ev.step (f := fun _ => some (strOfNums (facL s (fun _ => t) s.size), true)) (fun k => by rw [spec_FacingAfter.l0, if_neg (by omega)]) (Ev.now _)
  | succ d ih =>
    intro i hi
    obtain ⟨v, hv, hb⟩ := facB_at hf i (by omega)
    have hrec := ih (i + 1) (by omega)
    rw [facL_succ, strOfNums_append, hb, fac1_eq v t (by omega) (by omega) ht0 (by omega)] at hrec
    have es : ∀ k, spec_FacingAfter.l0 (k + 1) s u (strOfNums (facL s (fun _ => t) i)) i = (spec_drNet.f k u).bind fun t114 => ((spec_l1Num.f k (Int.tmod (wrap64 ((((bt s i) - 48) % 256) + t114)) 4)).bind fun t115 => (if (strOfNums (facL s (fun _ => t) i)).size + t115.size ≤ 9223372036854775807 then (spec_FacingAfter.l0 k s u ((strOfNums (facL s (fun _ => t) i)) ++ t115) (wrap64 ((i : Int) + 1))) else (none))) := by
      intro k
      rw [spec_FacingAfter.l0, if_pos (by omega), if_pos (by omega)]
    have e1 : Int.tmod (wrap64 ((((bt s i) - 48) % 256) + t)) 4 = ((v : Int) + t) % 4 := by
      have e : (bt s (i : Int) - 48) % 256 = v := by rw [hb]; omega
      rw [e, w64 (by omega) (by omega), Int.tmod_eq_emod_of_nonneg (by omega)]
    refine Ev.step es (Ev.bind hn ?_)
    rw [e1]
    refine Ev.bind (digit_small _ (by omega) (by omega)) (Ev.congr (fun k => ?_) hrec)
    rw [if_pos (by simp only [strOfNums_size, facL_len, List.length_singleton]; omega), w64 (x := (i : Int) + 1) (by omega) (by omega)]
    rfl
theorem both (s u : ByteArray) (hs : s.size ≤ 140737488351232) (hu : u.size ≤ 140737488351232) : ∃ r b, Ev (fun k => spec_FacingAfter.f k s u) (r, b) ∧ Ev (fun k => impl_FacingAfter.f k s u) (r, b) := by
  unfold spec_FacingAfter.f impl_FacingAfter.f
  simp only [impl_fac s hs, impl_word u hu, Option.bind_some]
  have h1 := spec_fac s hs
  have h2 := spec_word u hu
  have noE : Ev (fun k => spec_FacingAfter.j0 k s u true) (⟨#[]⟩, false) := Ev.step (f := fun _ => some (⟨#[]⟩, false)) (fun k => by rw [spec_FacingAfter.j0, if_pos rfl]) (Ev.now _)
  cases hf : facB s with
  | false =>
    rw [hf] at h1
    exact ⟨⟨#[]⟩, false, Ev.bind h1 (Ev.congr (fun k => if_neg (by decide)) noE), Ev.congr (fun k => if_neg (by decide)) (Ev.now _)⟩
  | true =>
    rw [hf] at h1
    cases hw : wordB u with
    | false =>
      rw [hw] at h2
      exact ⟨⟨#[]⟩, false, Ev.bind h1 (Ev.congr (fun k => if_pos rfl) (Ev.bind h2 noE)), Ev.congr (fun k => (if_pos rfl).trans (if_neg (by decide))) (Ev.now _)⟩
    | true =>
      rw [hw] at h2
      obtain ⟨t, ht0, ht3, hsn, hin⟩ := net_ok u hw
      have hsz := facB_size hf
      refine ⟨strOfNums (facL s (fun _ => t) s.size), true, Ev.bind h1 (Ev.congr (fun k => if_pos rfl) (Ev.bind h2 ?_)), Ev.congr (fun k => (if_pos rfl).trans (if_pos rfl)) (Ev.bind hin (Ev.congr (fun k => if_pos (by omega)) (Ev.now _)))⟩
      have := spec_fa_l0 s u hf t ht0 ht3 hsn s.size 0 (by omega)
      exact Ev.step (fun k => by rw [Bool.not_true, spec_FacingAfter.j0, if_neg (by decide)]; rfl) this
theorem FnExactFacingAfter : ∀ (a0 : ByteArray) (a1 : ByteArray), a0.size ≤ 140737488351232 → a1.size ≤ 140737488351232 → ∃ k, laws_FnExactFacingAfter.f k a0 a1 = some true := by
  intro a0 a1 w0 w1
  refine Ev.rounds (r := true) ?_
  unfold laws_FnExactFacingAfter.f
  by_cases c0 : (a0.size : Int) > 1048576
  · simp only [if_pos c0]; exact Ev.now _
  simp only [if_neg c0]
  by_cases c1 : (a1.size : Int) > 1048576
  · simp only [if_pos c1]; exact Ev.now _
  simp only [if_neg c1]
  obtain ⟨r, b, hs, hi⟩ := both a0 a1 w0 w1
  refine Ev.bind hs (Ev.bind hi ?_)
  simp only [if_true, bne_self_eq_false]
  simpa using Ev.now true

end Go.Proofs.YtekfpdpmekjmoaaDoor.Pure
