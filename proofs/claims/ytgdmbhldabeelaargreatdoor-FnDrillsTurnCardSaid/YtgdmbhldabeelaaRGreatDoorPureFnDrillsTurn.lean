/- For every two texts of bytes, of the inputs that are drawn from them words turn as their signs do, short ones turn alike, words that undo come back, and words by turns add up to all. -/
import Derived.Test.YtgdmbhldabeelaaRGreatDoorPFnDrillsTurnx17
import Derived.Lib.RuneCount
namespace Go.Proofs.YtgdmbhldabeelaaRGreatDoor.Pure
open Go.RowKit Go.Proofs.YtgdmbhldabeelaaRGreatDoor.PFnDrillsTurn Go.Proofs.YtgdmbhldabeelaaRGreatDoorW.PrintWords Go.Proofs.YtgdmbhldabeelaaRGreatDoorW.PrintLast
set_option linter.unusedVariables false
set_option linter.unusedSimpArgs false

theorem w64 {x : Int} (h1 : -9223372036854775808 ≤ x) (h2 : x ≤ 9223372036854775807) : wrap64 x = x := by
  unfold wrap64
  omega
theorem wf_lo {a : Int} (h : (Lit.int .i64 a).wf = true) : -9223372036854775808 ≤ a := by
  have h' : IntKind.i64.min ≤ a ∧ a ≤ IntKind.i64.max := by simpa [Lit.wf] using h
  have e : IntKind.i64.min = -9223372036854775808 := by decide
  omega
theorem wf_hi {a : Int} (h : (Lit.int .i64 a).wf = true) : a ≤ 9223372036854775807 := by
  have h' : IntKind.i64.min ≤ a ∧ a ≤ IntKind.i64.max := by simpa [Lit.wf] using h
  have e : IntKind.i64.max = 9223372036854775807 := by decide
  omega
theorem ev_congr_fun {α : Type} {g f : Nat → Option α} {r : α} (h : g = f) (k : Ev f r) : Ev g r := h ▸ k
theorem rd_mid (pre : List Int) (x : Int) (rest : List Int) : rd (pre ++ x :: rest) (pre.length : Int) = x := by
  simp [rd]
theorem bt_eq (s : ByteArray) (i : Nat) (h : i < s.data.toList.length) : bt s (i : Int) = ((s.data.toList[i]'h).toNat : Int) := by
  have h' : i < s.size := by rw [Lib.size_eq]; exact h
  unfold bt
  rw [dif_pos (by simpa using h')]
  simp only [Int.toNat_natCast]
  rw [Array.getElem_toList]
  rfl
theorem dropWhile_nil {α : Type} (p : α → Bool) (l : List α) : l.dropWhile p = [] ↔ l.all p = true := by
  induction l with
  | nil => simp
  | cons x l ih =>
    by_cases h : p x = true
    · simp [List.dropWhile, h, ih]
    · simp [List.dropWhile, h]
theorem dropWhile_all {α : Type} (p : α → Bool) (l : List α) (h : (l.dropWhile p).all p = true) : l.dropWhile p = [] := by
  induction l with
  | nil => rfl
  | cons x l ih =>
    by_cases hx : p x = true
    · simp only [List.dropWhile, hx] at h ⊢
      exact ih h
    · simp [List.dropWhile, hx] at h
theorem trim_nil (l cs : List UInt8) : Lib.trimS l cs = [] ↔ l.all (cs.contains ·) = true := by
  unfold Lib.trimS Lib.trimLeftS Lib.trimRightS
  rw [dropWhile_nil, List.all_reverse]
  constructor
  · intro h
    have := dropWhile_all _ _ h
    rw [dropWhile_nil, List.all_reverse] at this
    exact this
  · intro h
    rw [← List.all_reverse, ← dropWhile_nil] at h
    rw [h]; rfl
theorem trim_f (s c : ByteArray) (hs : s.size ≤ 140737488351232) (hc : c.size ≤ 1000000) (ha : c.data.toList.all (fun b => decide (b.toNat < 128)) = true) :
    strings_Trim.f s c = some ⟨(Lib.trimS s.data.toList c.data.toList).toArray⟩ := by
  unfold strings_Trim.f
  rw [if_pos ⟨by omega, hc, ha⟩]
theorem empty_test (l : List UInt8) : ((⟨l.toArray⟩ : ByteArray).toList == ([] : List UInt8)) = l.isEmpty := by
  rw [Lib.toList_data]
  cases l <;> rfl
theorem trim_test (l cs : List UInt8) : (Lib.trimS l cs).isEmpty = l.all (cs.contains ·) := by
  rw [Bool.eq_iff_iff, List.isEmpty_iff, trim_nil]
def wordB (s : ByteArray) : Bool := decide ((s.size : Int) ≤ 60) && s.data.toList.all (([83, 82, 65, 76] : List UInt8).contains ·)
def turnV (a : Int) : Int := if a = 83 then 0 else if a = 82 then 1 else if a = 65 then 2 else if a = 76 then 3 else -1
theorem drTurn_eq (a : Int) : spec_drTurn.f a = some (turnV a) := by
  unfold spec_drTurn.f turnV
  repeat' split
  all_goals rfl
theorem word_byte (b : UInt8) : ([83, 82, 65, 76] : List UInt8).contains b = !decide (turnV (b.toNat : Int) < 0) := by
  have hb := b.toNat_lt
  rw [Bool.eq_iff_iff]
  simp only [List.contains_iff_mem, List.mem_cons, List.not_mem_nil, or_false, Bool.not_eq_true', decide_eq_false_iff_not, ← UInt8.toNat_inj]
  have e1 : (83 : UInt8).toNat = 83 := rfl
  have e2 : (82 : UInt8).toNat = 82 := rfl
  have e3 : (65 : UInt8).toNat = 65 := rfl
  have e4 : (76 : UInt8).toNat = 76 := rfl
  rw [e1, e2, e3, e4]
  unfold turnV
  repeat' split
  all_goals omega
theorem spec_word_l0 (s : ByteArray) (hs : s.data.toList.length ≤ 140737488351232) (d : Nat) : ∀ i : Nat, i + d = s.data.toList.length → Ev (fun k => spec_drWord.l0 k s i) ((s.data.toList.drop i).all (([83, 82, 65, 76] : List UInt8).contains ·)) := by
  have hz := Lib.size_eq s
  induction d with
  | zero =>
    intro i hi
    rw [List.drop_of_length_le (by omega)]
    exact Ev.step (f := fun _ => some true) (fun k => by rw [spec_drWord.l0, if_neg (by omega)]) (Ev.now _)
  | succ d ih =>
    intro i hi
    have hil : i < s.data.toList.length := by omega
    rw [List.drop_eq_getElem_cons hil, List.all_cons, word_byte]
    refine Ev.step (f := fun k => if turnV ((s.data.toList[i]).toNat : Int) < 0 then some false else spec_drWord.l0 k s ((i + 1 : Nat) : Int)) (fun k => ?_) ?_
    · rw [spec_drWord.l0, if_pos (by omega), if_pos (by omega), bt_eq s i hil, drTurn_eq, w64 (x := (i : Int) + 1) (by omega) (by omega)]
      rfl
    · by_cases hc : turnV ((s.data.toList[i]).toNat : Int) < 0
      · rw [decide_eq_true hc]
        exact Ev.congr (fun k => if_pos hc) (Ev.now _)
      · rw [decide_eq_false hc, Bool.not_false, Bool.true_and]
        exact Ev.congr (fun k => if_neg hc) (ih (i + 1) (by omega))
theorem spec_word (s : ByteArray) (hs : s.size ≤ 140737488351232) : Ev (fun k => spec_drWord.f k s) (wordB s) := by
  have hz := Lib.size_eq s
  unfold spec_drWord.f wordB
  by_cases h : (s.size : Int) ≤ 60
  · simpa [h, show ¬ (s.size : Int) > 60 by omega] using spec_word_l0 s (by omega) s.data.toList.length 0 (by omega)
  · simpa [h, show (s.size : Int) > 60 by omega] using Ev.now false
theorem impl_word (s : ByteArray) (hs : s.size ≤ 140737488351232) : impl_areCommands.f s = some (wordB s) := by
  unfold impl_areCommands.f wordB
  rw [trim_f s _ hs (by decide) (by decide)]
  simp only [Option.bind_some, empty_test, trim_test]
  by_cases h : (s.size : Int) ≤ 60
  · rw [if_pos h, decide_eq_true h, Bool.true_and]
  · rw [if_neg h, decide_eq_false h, Bool.false_and]
theorem wordB_size {s : ByteArray} (h : wordB s = true) : s.size ≤ 60 := by
  unfold wordB at h
  simp only [Bool.and_eq_true, decide_eq_true_eq] at h
  omega
theorem wordB_at {s : ByteArray} (h : wordB s = true) (i : Nat) (hi : i < s.size) : bt s (i : Int) = 83 ∨ bt s (i : Int) = 82 ∨ bt s (i : Int) = 65 ∨ bt s (i : Int) = 76 := by
  have hz := Lib.size_eq s
  unfold wordB at h
  simp only [Bool.and_eq_true] at h
  have hm := List.all_eq_true.1 h.2 _ (List.getElem_mem (show i < s.data.toList.length by omega))
  rw [word_byte] at hm
  simp only [Bool.not_eq_true', decide_eq_false_iff_not] at hm
  rw [bt_eq s i (by omega)]
  unfold turnV at hm
  omega
theorem turnOf_eq {b : Int} (h : b = 83 ∨ b = 82 ∨ b = 65 ∨ b = 76) : impl_turnOf.f b = some (turnV b) := by
  rcases h with rfl | rfl | rfl | rfl <;> rfl
theorem turnV_range {b : Int} (h : b = 83 ∨ b = 82 ∨ b = 65 ∨ b = 76) : 0 ≤ turnV b ∧ turnV b ≤ 3 := by
  rcases h with rfl | rfl | rfl | rfl <;> decide
theorem net_l0 (s : ByteArray) (hw : wordB s = true) (d : Nat) : ∀ (i : Nat) (acc : Int), i + d = s.size → 0 ≤ acc → acc ≤ 3 * i →
    ∃ t : Int, 0 ≤ t ∧ t ≤ 3 ∧ Ev (fun k => spec_drNet.l0 k s acc i) t ∧ Ev (fun k => impl_netTurn.l0 k s acc (s.size : Int) i) t := by
  have hz := wordB_size hw
  induction d with
  | zero =>
    intro i acc hi h0 h1
    refine ⟨Int.tmod acc 4, ?_, ?_, ?_, ?_⟩
    · rw [Int.tmod_eq_emod_of_nonneg h0]; omega
    · rw [Int.tmod_eq_emod_of_nonneg h0]; omega
    · exact Ev.step (f := fun _ => some (Int.tmod acc 4)) (fun k => by rw [spec_drNet.l0, if_neg (by omega)]) (Ev.now _)
    · exact Ev.step (f := fun _ => some (Int.tmod acc 4)) (fun k => by rw [impl_netTurn.l0, if_neg (by omega)]) (Ev.now _)
  | succ d ih =>
    intro i acc hi h0 h1
    have hb := wordB_at hw i (by omega)
    obtain ⟨hr1, hr2⟩ := turnV_range hb
    obtain ⟨t, ht0, ht3, a, b⟩ := ih (i + 1) (acc + turnV (bt s i)) (by omega) (by omega) (by omega)
    refine ⟨t, ht0, ht3, Ev.step (fun k => ?_) a, Ev.step (fun k => ?_) b⟩
    · rw [spec_drNet.l0, if_pos (by omega), if_pos (by omega), drTurn_eq, Option.bind_some, w64 (x := acc + turnV (bt s i)) (by omega) (by omega), w64 (x := (i : Int) + 1) (by omega) (by omega)]
      rfl
    · rw [impl_netTurn.l0, if_pos (by omega), if_pos (by omega), if_pos (by omega), turnOf_eq hb, Option.bind_some, w64 (x := acc + turnV (bt s i)) (by omega) (by omega), w64 (x := (i : Int) + 1) (by omega) (by omega)]
      rfl
theorem net_ok (s : ByteArray) (hw : wordB s = true) : ∃ t : Int, 0 ≤ t ∧ t ≤ 3 ∧ Ev (fun k => spec_drNet.f k s) t ∧ Ev (fun k => impl_netTurn.f k s) t :=
  net_l0 s hw s.size 0 0 (by omega) (by omega) (by omega)
theorem l1In_eq (a b c : Int) : spec_l1In.f a b c = some (decide (b ≤ a) && decide (a ≤ c)) := by
  unfold spec_l1In.f
  by_cases h : b ≤ a
  · rw [if_pos h]; simp [h]
  · rw [if_neg (show ¬ a ≥ b from h)]; simp [h]
theorem in_eq (a b c : Int) : impl_in.f a b c = some (decide (b ≤ a) && decide (a ≤ c)) := by
  unfold impl_in.f
  by_cases h : b ≤ a
  · rw [if_pos h]; simp [h]
  · rw [if_neg h]; simp [h]
theorem cast_len {α : Type} (l : List α) : (decide ((1 : Int) ≤ (l.length : Int)) && decide ((l.length : Int) ≤ 6)) = (decide (1 ≤ l.length) && decide (l.length ≤ 6)) := by
  congr 1 <;> exact decide_eq_decide.2 (by omega)
def facB (s : ByteArray) : Bool := (decide (1 ≤ (s.size : Int)) && decide ((s.size : Int) ≤ 30)) && s.data.toList.all (([48, 49, 50, 51] : List UInt8).contains ·)
theorem fac_byte (b : UInt8) : ([48, 49, 50, 51] : List UInt8).contains b = (decide (0 ≤ (b.toNat : Int) - 48) && decide ((b.toNat : Int) - 48 ≤ 3)) := by
  have h : b = UInt8.ofNat b.toNat := by simp
  have hb := b.toNat_lt
  rw [Bool.eq_iff_iff]
  simp only [List.contains_iff_mem, List.mem_cons, List.not_mem_nil, or_false, Bool.and_eq_true, decide_eq_true_eq, ← UInt8.toNat_inj]
  have e1 : (48 : UInt8).toNat = 48 := rfl
  have e2 : (49 : UInt8).toNat = 49 := rfl
  have e3 : (50 : UInt8).toNat = 50 := rfl
  have e4 : (51 : UInt8).toNat = 51 := rfl
  rw [e1, e2, e3, e4]
  omega
theorem spec_fac_l0 (s : ByteArray) (hs : s.data.toList.length ≤ 140737488351232) (d : Nat) : ∀ i : Nat, i + d = s.data.toList.length → Ev (fun k => spec_drFacing.l0 k s i) ((s.data.toList.drop i).all (([48, 49, 50, 51] : List UInt8).contains ·)) := by
  have hz := Lib.size_eq s
  induction d with
  | zero =>
    intro i hi
    rw [List.drop_of_length_le (by omega)]
    exact Ev.step (f := fun _ => some true) (fun k => by rw [spec_drFacing.l0, if_neg (by omega)]) (Ev.now _)
  | succ d ih =>
    intro i hi
    have hil : i < s.data.toList.length := by omega
    have hb := (s.data.toList[i]).toNat_lt
    rw [List.drop_eq_getElem_cons hil, List.all_cons, fac_byte]
    refine Ev.step (f := fun k => if (decide (0 ≤ ((s.data.toList[i]).toNat : Int) - 48) && decide (((s.data.toList[i]).toNat : Int) - 48 ≤ 3)) = true then spec_drFacing.l0 k s ((i + 1 : Nat) : Int) else some false) (fun k => ?_) ?_
    · rw [spec_drFacing.l0, if_pos (by omega), if_pos (by omega), bt_eq s i hil, w64 (x := ((s.data.toList[i]).toNat : Int)) (by omega) (by omega), w64 (x := ((s.data.toList[i]).toNat : Int) - 48) (by omega) (by omega), l1In_eq, w64 (x := (i : Int) + 1) (by omega) (by omega)]
      rfl
    · cases hc : (decide (0 ≤ ((s.data.toList[i]).toNat : Int) - 48) && decide (((s.data.toList[i]).toNat : Int) - 48 ≤ 3)) with
      | true => simpa using ih (i + 1) (by omega)
      | false => simpa using Ev.now false
theorem spec_fac (s : ByteArray) (hs : s.size ≤ 140737488351232) : Ev (fun k => spec_drFacing.f k s) (facB s) := by
  have hz := Lib.size_eq s
  unfold spec_drFacing.f facB
  simp only [l1In_eq, Option.bind_some]
  cases (decide (1 ≤ (s.size : Int)) && decide ((s.size : Int) ≤ 30)) with
  | true => simpa using spec_fac_l0 s (by omega) s.data.toList.length 0 (by omega)
  | false => simpa using Ev.now false
theorem impl_fac (s : ByteArray) (hs : s.size ≤ 140737488351232) : impl_areFacing.f s = some (facB s) := by
  unfold impl_areFacing.f facB
  simp only [in_eq, Option.bind_some]
  rw [trim_f s _ hs (by decide) (by decide)]
  simp only [Option.bind_some, empty_test, trim_test]
  cases (decide (1 ≤ (s.size : Int)) && decide ((s.size : Int) ≤ 30)) <;> rfl
theorem facB_size {s : ByteArray} (h : facB s = true) : 1 ≤ s.size ∧ s.size ≤ 30 := by
  unfold facB at h
  simp only [Bool.and_eq_true, decide_eq_true_eq] at h
  omega
theorem facB_at {s : ByteArray} (h : facB s = true) (i : Nat) (hi : i < s.size) : ∃ v : Nat, v ≤ 3 ∧ bt s (i : Int) = 48 + (v : Int) := by
  have hz := Lib.size_eq s
  unfold facB at h
  simp only [Bool.and_eq_true] at h
  have hm := List.all_eq_true.1 h.2 _ (List.getElem_mem (show i < s.data.toList.length by omega))
  rw [fac_byte] at hm
  simp only [Bool.and_eq_true, decide_eq_true_eq] at hm
  refine ⟨(s.data.toList[i]).toNat - 48, by omega, ?_⟩
  rw [bt_eq s i (by omega)]
  omega
theorem strOfNums_append (xs ys : List Int) : strOfNums (xs ++ ys) = strOfNums xs ++ strOfNums ys := by
  apply ByteArray.ext
  simp [strOfNums]
theorem drSign_eq (t : Int) (h0 : 0 ≤ t) (h3 : t ≤ 3) : spec_drSign.f t = some (strOfNums [bt (⟨#[83, 82, 65, 76]⟩ : ByteArray) t]) := by
  have h : t = 0 ∨ t = 1 ∨ t = 2 ∨ t = 3 := by omega
  rcases h with rfl | rfl | rfl | rfl <;> decide +kernel
/-- Texts of ways and of signs. -/
def facOf (L : List Nat) : ByteArray := strOfNums (L.map fun (v : Nat) => 48 + (v : Int))
def sgn (v : Nat) : Int := if v = 0 then 83 else if v = 1 then 82 else if v = 2 then 65 else 76
def wordOf (M : List Nat) : ByteArray := strOfNums (M.map sgn)
def Sm (L : List Nat) : Prop := ∀ v ∈ L, v < 4
theorem sv_data (l : List Int) : (strOfNums l).data.toList = l.map fun x => UInt8.ofNat x.toNat := by simp [strOfNums]
theorem sv_len (l : List Int) : (strOfNums l).size = l.length := by simp [strOfNums, ByteArray.size]
theorem u8n (x : Int) (h : 0 ≤ x ∧ x ≤ 255) : ((UInt8.ofNat x.toNat).toNat : Int) = x := by
  rw [UInt8.toNat_ofNat']
  omega
theorem sv_bt (l : List Int) (i : Nat) (hi : i < l.length) (h : 0 ≤ l[i] ∧ l[i] ≤ 255) : bt (strOfNums l) (i : Int) = l[i] := by
  have e := sv_data l
  have hi' : i < (strOfNums l).data.toList.length := by rw [e]; simpa using hi
  rw [bt_eq _ i hi']
  have : (strOfNums l).data.toList[i] = UInt8.ofNat (l[i]).toNat := by simp [e]
  exact (congrArg (fun b : UInt8 => ((b.toNat : Nat) : Int)) this).trans (u8n _ h)
theorem sv_self (s : ByteArray) : s = strOfNums ((List.range s.size).map fun (i : Nat) => bt s (i : Int)) := by
  have hz := Lib.size_eq s
  have e : s.data.toList = (strOfNums ((List.range s.size).map fun (i : Nat) => bt s (i : Int))).data.toList := by
    rw [sv_data]
    apply List.ext_getElem
    · rw [List.length_map, List.length_map, List.length_range, hz]
    · intro i h1 h2
      rw [List.getElem_map, List.getElem_map, List.getElem_range, bt_eq s i h1, Int.toNat_natCast, UInt8.ofNat_toNat]
  apply ByteArray.ext
  exact Array.ext' e
theorem sm_sum (L : List Nat) (h : Sm L) : L.sum ≤ 3 * L.length := by
  induction L with
  | nil => simp
  | cons x L ih =>
    have hx := h x (by simp)
    have := ih (fun v hv => h v (by simp [hv]))
    simp only [List.sum_cons, List.length_cons]
    omega
theorem facOf_size (L : List Nat) : (facOf L).size = L.length := by unfold facOf; rw [sv_len, List.length_map]
theorem wordOf_size (L : List Nat) : (wordOf L).size = L.length := by unfold wordOf; rw [sv_len, List.length_map]
theorem facOf_bt (L : List Nat) (h : Sm L) (i : Nat) (hi : i < L.length) : bt (facOf L) (i : Int) = 48 + (L[i] : Int) := by
  have hv := h _ (List.getElem_mem hi)
  unfold facOf
  rw [sv_bt _ i (by simpa using hi) (by simp; omega)]
  simp
theorem sgn_four (v : Nat) : sgn v = 83 ∨ sgn v = 82 ∨ sgn v = 65 ∨ sgn v = 76 := by
  unfold sgn
  repeat' split
  all_goals omega
theorem turnV_sgn (v : Nat) (h : v < 4) : turnV (sgn v) = v := by
  have h' : v = 0 ∨ v = 1 ∨ v = 2 ∨ v = 3 := by omega
  rcases h' with rfl | rfl | rfl | rfl <;> decide
theorem wordOf_bt (L : List Nat) (i : Nat) (hi : i < L.length) : bt (wordOf L) (i : Int) = sgn L[i] := by
  have hv := sgn_four L[i]
  unfold wordOf
  rw [sv_bt _ i (by simpa using hi) (by simp; omega)]
  simp
theorem fac_form (s : ByteArray) (h : facB s = true) : ∃ L, s = facOf L ∧ Sm L ∧ 1 ≤ L.length ∧ L.length ≤ 30 := by
  obtain ⟨h1, h2⟩ := facB_size h
  refine ⟨(List.range s.size).map fun (i : Nat) => (bt s (i : Int) - 48).toNat, ?_, ?_, ?_, ?_⟩
  · have e := sv_self s
    unfold facOf
    rw [List.map_map]
    refine e.trans ?_
    congr 1
    apply List.map_congr_left
    intro i hi
    obtain ⟨v, hv, hb⟩ := facB_at h i (by simpa using hi)
    simp only [Function.comp_apply]
    omega
  · intro v hv
    obtain ⟨i, hi, rfl⟩ := List.mem_map.1 hv
    obtain ⟨v, hv, hb⟩ := facB_at h i (by simpa using hi)
    omega
  · simpa using h1
  · simpa using h2
theorem word_form (s : ByteArray) (h : wordB s = true) : ∃ M, s = wordOf M ∧ Sm M ∧ M.length ≤ 60 := by
  have h1 := wordB_size h
  have hv : ∀ b : Int, (b = 83 ∨ b = 82 ∨ b = 65 ∨ b = 76) → b = sgn (turnV b).toNat ∧ (turnV b).toNat < 4 := by
    intro b hb
    rcases hb with rfl | rfl | rfl | rfl <;> decide
  refine ⟨(List.range s.size).map fun (i : Nat) => (turnV (bt s (i : Int))).toNat, ?_, ?_, ?_⟩
  · have e := sv_self s
    unfold wordOf
    rw [List.map_map]
    refine e.trans ?_
    congr 1
    apply List.map_congr_left
    intro i hi
    exact (hv _ (wordB_at h i (by simpa using hi))).1
  · intro v hv'
    obtain ⟨i, hi, rfl⟩ := List.mem_map.1 hv'
    exact (hv _ (wordB_at h i (by simpa using hi))).2
  · simpa using h1
theorem facOf_good (L : List Nat) (h : Sm L) (h1 : 1 ≤ L.length) (h2 : L.length ≤ 30) : facB (facOf L) = true := by
  unfold facB
  rw [facOf_size]
  simp only [Bool.and_eq_true, decide_eq_true_eq, List.all_eq_true]
  refine ⟨⟨by omega, by omega⟩, fun b hb => ?_⟩
  unfold facOf at hb
  rw [sv_data, List.map_map] at hb
  obtain ⟨v, hv, rfl⟩ := List.mem_map.1 hb
  have := h v hv
  have e : (((((fun x : Int => UInt8.ofNat x.toNat) ∘ fun (v : Nat) => 48 + (v : Int)) v).toNat : Nat) : Int) = 48 + (v : Int) := u8n (48 + (v : Int)) (by omega)
  rw [fac_byte, e]
  simp
  omega
theorem wordOf_good (M : List Nat) (h2 : M.length ≤ 60) : wordB (wordOf M) = true := by
  unfold wordB
  rw [wordOf_size]
  simp only [Bool.and_eq_true, decide_eq_true_eq, List.all_eq_true]
  refine ⟨by omega, fun b hb => ?_⟩
  unfold wordOf at hb
  rw [sv_data, List.map_map] at hb
  obtain ⟨v, hv, rfl⟩ := List.mem_map.1 hb
  have := sgn_four v
  rw [word_byte]
  have e : (((((fun x : Int => UInt8.ofNat x.toNat) ∘ sgn) v).toNat : Nat) : Int) = sgn v := u8n (sgn v) (by omega)
  rw [e]
  unfold turnV
  simp
  omega
theorem wordOf_inj {A B : List Nat} (hA : Sm A) (hB : Sm B) (h : wordOf A = wordOf B) : A = B := by
  have hl : A.length = B.length := by rw [← wordOf_size A, ← wordOf_size B, h]
  apply List.ext_getElem hl
  intro i h1 h2
  have e1 := wordOf_bt A i h1
  have e2 := wordOf_bt B i h2
  rw [h, e2] at e1
  have := turnV_sgn _ (hA _ (List.getElem_mem h1))
  have := turnV_sgn _ (hB _ (List.getElem_mem h2))
  rw [e1] at this
  omega
theorem wn2 (a b : Nat) (h : a + b ≤ 1000000000) : wrap64 ((a : Int) + (b : Int)) = ((a + b : Nat) : Int) := by
  rw [w64 (by omega) (by omega)]
  rfl
theorem wn1 (a : Nat) (h : a ≤ 1000000000) : wrap64 ((a : Int) + 1) = ((a + 1 : Nat) : Int) := by
  rw [w64 (by omega) (by omega)]
  rfl
theorem tn4 (a : Nat) : Int.tmod (a : Int) 4 = ((a % 4 : Nat) : Int) := by rw [Int.tmod_eq_emod_of_nonneg (by omega)]; rfl
theorem net_gen (S : ByteArray) (M : List Nat) (hz : S.size = M.length) (hS : ∀ (i : Nat) (hi : i < M.length), bt S (i : Int) = sgn M[i]) (hM : Sm M) (hl : M.length ≤ 60) (d : Nat) : ∀ i : Nat, i + d = M.length → Ev (fun k => spec_drNet.l0 k S (((M.take i).sum : Nat) : Int) (i : Int)) ((M.sum % 4 : Nat) : Int) ∧ Ev (fun k => impl_netTurn.l0 k S (((M.take i).sum : Nat) : Int) (S.size : Int) (i : Int)) ((M.sum % 4 : Nat) : Int) := by
  induction d with
  | zero =>
    intro i hi
    have e : M.take i = M := List.take_of_length_le (by omega)
    have t := tn4 M.sum
    refine ⟨Ev.step (f := fun _ => some _) (fun k => ?_) (Ev.now _), Ev.step (f := fun _ => some _) (fun k => ?_) (Ev.now _)⟩
    · rw [spec_drNet.l0, if_neg (by omega), e, t]
    · rw [impl_netTurn.l0, if_neg (by omega), e, t]
  | succ d ih =>
    intro i hi
    have hil : i < M.length := by omega
    have hb := hS i hil
    have hv := turnV_sgn _ (hM _ (List.getElem_mem hil))
    have hs : (M.take (i + 1)).sum = (M.take i).sum + M[i] := by rw [List.take_succ_eq_append_getElem hil, List.sum_append]; simp
    have hb2 := sm_sum (M.take (i + 1)) (fun v h => hM v (List.mem_of_mem_take h))
    have hl2 : (M.take (i + 1)).length ≤ 60 := by rw [List.length_take]; omega
    obtain ⟨h1, h2⟩ := ih (i + 1) (by omega)
    obtain ⟨T, hT⟩ : ∃ T, (M.take i).sum = T := ⟨_, rfl⟩
    obtain ⟨x, hx⟩ : ∃ x, M[i] = x := ⟨_, rfl⟩
    rw [hx] at hb hv
    rw [hs, hT, hx] at h1 h2 hb2
    have p1 : (i : Int) < (S.size : Int) := by omega
    have p2 : (0 : Int) ≤ (i : Int) := by omega
    have e1 := wn2 T x (by omega)
    have e2 := wn1 i (by omega)
    rw [hT]
    refine ⟨Ev.step (fun k => ?_) h1, Ev.step (fun k => ?_) h2⟩
    · rw [spec_drNet.l0, if_pos p1, if_pos p2, hb, drTurn_eq, hv, Option.bind_some, e1, e2]
    · rw [impl_netTurn.l0, if_pos p1, if_pos p2, if_pos p1, hb, turnOf_eq (sgn_four _), hv, Option.bind_some, e1, e2]
/-- The turn of a word. -/
theorem net_vals (M : List Nat) (hM : Sm M) (hl : M.length ≤ 60) : Ev (fun k => spec_drNet.f k (wordOf M)) ((M.sum % 4 : Nat) : Int) ∧ Ev (fun k => impl_netTurn.f k (wordOf M)) ((M.sum % 4 : Nat) : Int) :=
  net_gen (wordOf M) M (wordOf_size M) (wordOf_bt M) hM hl M.length 0 (by omega)
def IsW (M : List Nat) (s : ByteArray) : Prop := s = wordOf M ∧ Sm M ∧ M.length ≤ 60
def IsF (L : List Nat) (s : ByteArray) : Prop := s = facOf L ∧ Sm L ∧ 1 ≤ L.length ∧ L.length ≤ 30
theorem IsW.good {M : List Nat} {s : ByteArray} (h : IsW M s) : wordB s = true := by
  rw [h.1]
  exact wordOf_good M h.2.2
theorem IsF.good {M : List Nat} {s : ByteArray} (h : IsF M s) : facB s = true := by
  rw [h.1]
  exact facOf_good M h.2.1 h.2.2.1 h.2.2.2
theorem isw_of {s : ByteArray} (h : wordB s = true) : ∃ M, IsW M s := by
  obtain ⟨M, h1, h2, h3⟩ := word_form s h
  exact ⟨M, h1, h2, h3⟩
theorem isf_of {s : ByteArray} (h : facB s = true) : ∃ M, IsF M s := by
  obtain ⟨M, h1, h2, h3⟩ := fac_form s h
  exact ⟨M, h1, h2, h3⟩
theorem drOther_eq {b : Int} (h : b = 83 ∨ b = 82 ∨ b = 65 ∨ b = 76) : spec_drOther.f b = some (strOfNums [mbT b.toNat]) := by
  rcases h with rfl | rfl | rfl | rfl <;> decide +kernel
/-- The word's first letters with left for right. -/
def mbPre (s : ByteArray) (n : Nat) : ByteArray := strOfNums ((List.range n).map fun (i : Nat) => mbT (bt s (i : Int)).toNat)
theorem mbPre_succ (s : ByteArray) (n : Nat) : mbPre s (n + 1) = mbPre s n ++ strOfNums [mbT (bt s (n : Int)).toNat] := by
  unfold mbPre
  rw [List.range_succ, List.map_append, strOfNums_append]
  rfl
theorem strOfNums_len (l : List Int) : (strOfNums l).size = l.length := by
  simp [strOfNums, ByteArray.size]
theorem mbPre_len (s : ByteArray) (n : Nat) : (mbPre s n).size = n := by
  unfold mbPre
  rw [strOfNums_len]
  simp
theorem spec_mirror_l0 (s : ByteArray) (hw : wordB s = true) (d : Nat) : ∀ i : Nat, i + d = s.size → Ev (fun k => spec_MirrorCommands.l0 k s (mbPre s i) (i : Int)) (mbPre s s.size, true) := by
  have hs := wordB_size hw
  induction d with
  | zero =>
    intro i hi
    refine Ev.step (f := fun _ => some (mbPre s i, true)) (fun k => by rw [spec_MirrorCommands.l0, if_neg (by omega)]) ?_
    rw [show i = s.size by omega]
    exact Ev.now _
  | succ d ih =>
    intro i hi
    refine Ev.step (f := fun k => spec_MirrorCommands.l0 k s (mbPre s (i + 1)) ((i + 1 : Nat) : Int)) (fun k => ?_) (ih (i + 1) (by omega))
    rw [spec_MirrorCommands.l0, if_pos (by omega), if_pos (by omega), drOther_eq (wordB_at hw i (by omega)), Option.bind_some, mbPre_len, strOfNums_len, if_pos (by simp; omega), w64 (by omega) (by omega), mbPre_succ]
    rfl
theorem spec_mirror (s : ByteArray) (h : s.size ≤ 140737488351232) : Ev (fun k => spec_MirrorCommands.f k s) (if wordB s = true then (mbStr s, true) else ((⟨#[]⟩ : ByteArray), false)) := by
  unfold spec_MirrorCommands.f
  refine Ev.bind (spec_word s h) ?_
  by_cases hw : wordB s = true
  · simp only [if_pos hw]
    have := spec_mirror_l0 s hw s.size 0 (by omega)
    exact this
  · simp only [if_neg hw]
    exact Ev.now _
theorem ac_v (s : ByteArray) (hs : s.size ≤ 140737488351232) : impl_AreCommands.f s = some (wordB s) ∧ Ev (fun k => spec_AreCommands.f k s) (wordB s) := by
  refine ⟨?_, ?_⟩
  · unfold impl_AreCommands.f
    rw [impl_word s hs, Option.bind_some]
  · unfold spec_AreCommands.f
    exact Ev.bind (spec_word s hs) (Ev.now _)
theorem af_v (s : ByteArray) (hs : s.size ≤ 140737488351232) : impl_AreFacing.f s = some (facB s) ∧ Ev (fun k => spec_AreFacing.f k s) (facB s) := by
  refine ⟨?_, ?_⟩
  · unfold impl_AreFacing.f
    rw [impl_fac s hs, Option.bind_some]
  · unfold spec_AreFacing.f
    exact Ev.bind (spec_fac s hs) (Ev.now _)
theorem nt_v (s : ByteArray) (hs : s.size ≤ 140737488351232) : ∃ r, Ev (fun k => impl_NetTurn.f k s) (r, wordB s) ∧ Ev (fun k => spec_NetTurn.f k s) (r, wordB s) ∧ ∀ M, IsW M s → r = ((M.sum % 4 : Nat) : Int) := by
  unfold spec_NetTurn.f impl_NetTurn.f
  simp only [impl_word s hs, Option.bind_some]
  have h1 := spec_word s hs
  cases hw : wordB s with
  | true =>
    rw [hw] at h1
    obtain ⟨M, hM⟩ := isw_of hw
    obtain ⟨n1, n2⟩ := net_vals M hM.2.1 hM.2.2
    rw [← hM.1] at n1 n2
    refine ⟨((M.sum % 4 : Nat) : Int), Ev.congr (fun k => if_pos rfl) (Ev.bind n2 (Ev.now _)), Ev.bind h1 (Ev.congr (fun k => if_pos rfl) (Ev.bind n1 (Ev.now _))), fun M' hM' => ?_⟩
    rw [wordOf_inj hM.2.1 hM'.2.1 (hM.1.symm.trans hM'.1)]
  | false =>
    rw [hw] at h1
    refine ⟨0, Ev.congr (fun k => if_neg (by decide)) (Ev.now _), Ev.bind h1 (Ev.congr (fun k => if_neg (by decide)) (Ev.now _)), fun M' hM' => ?_⟩
    rw [hM'.good] at hw
    cases hw
def shortL (t : Nat) : List Nat := if t = 0 then [] else [t]
theorem sc_v (s : ByteArray) (hs : s.size ≤ 140737488351232) : ∃ r, Ev (fun k => impl_ShortCommands.f k s) (r, wordB s) ∧ Ev (fun k => spec_ShortCommands.f k s) (r, wordB s) ∧ ∀ M, IsW M s → r = wordOf (shortL (M.sum % 4)) := by
  unfold spec_ShortCommands.f impl_ShortCommands.f
  simp only [impl_word s hs, Option.bind_some]
  have h1 := spec_word s hs
  cases hw : wordB s with
  | true =>
    rw [hw] at h1
    obtain ⟨M, hM⟩ := isw_of hw
    obtain ⟨n1, n2⟩ := net_vals M hM.2.1 hM.2.2
    rw [← hM.1] at n1 n2
    have hlt : M.sum % 4 < 4 := Nat.mod_lt _ (by omega)
    refine ⟨wordOf (shortL (M.sum % 4)), Ev.congr (fun k => if_pos rfl) (Ev.bind n2 ?_), Ev.bind h1 (Ev.congr (fun k => if_pos rfl) (Ev.bind n1 ?_)), fun M' hM' => ?_⟩
    · obtain ⟨t, ht⟩ : ∃ t, M.sum % 4 = t := ⟨_, rfl⟩
      rw [ht] at hlt ⊢
      have h' : t = 0 ∨ t = 1 ∨ t = 2 ∨ t = 3 := by omega
      rcases h' with rfl | rfl | rfl | rfl
      · exact Ev.congr (fun k => if_pos rfl) (Ev.now _)
      · exact Ev.congr (f := fun _ => some (wordOf (shortL 1), true)) (fun k => by decide +kernel) (Ev.now _)
      · exact Ev.congr (f := fun _ => some (wordOf (shortL 2), true)) (fun k => by decide +kernel) (Ev.now _)
      · exact Ev.congr (f := fun _ => some (wordOf (shortL 3), true)) (fun k => by decide +kernel) (Ev.now _)
    · obtain ⟨t, ht⟩ : ∃ t, M.sum % 4 = t := ⟨_, rfl⟩
      rw [ht] at hlt ⊢
      have h' : t = 0 ∨ t = 1 ∨ t = 2 ∨ t = 3 := by omega
      rcases h' with rfl | rfl | rfl | rfl
      · exact Ev.congr (fun k => if_neg (by decide)) (Ev.now _)
      · exact Ev.congr (f := fun _ => some (wordOf (shortL 1), true)) (fun k => by decide +kernel) (Ev.now _)
      · exact Ev.congr (f := fun _ => some (wordOf (shortL 2), true)) (fun k => by decide +kernel) (Ev.now _)
      · exact Ev.congr (f := fun _ => some (wordOf (shortL 3), true)) (fun k => by decide +kernel) (Ev.now _)
    · rw [wordOf_inj hM.2.1 hM'.2.1 (hM.1.symm.trans hM'.1)]
  | false =>
    rw [hw] at h1
    refine ⟨⟨#[]⟩, Ev.congr (fun k => if_neg (by decide)) (Ev.now _), Ev.bind h1 (Ev.congr (fun k => if_neg (by decide)) (Ev.now _)), fun M' hM' => ?_⟩
    rw [hM'.good] at hw
    cases hw
def frontV (t : Nat) : Int := if t = 0 then 1 else if t = 2 then 2 else 4
theorem gcd_four (t : Int) (h0 : 0 ≤ t) (h3 : t ≤ 3) : Ev (fun k => impl_gcd.f k 4 t) (if t = 0 then 4 else if t = 2 then 2 else 1) := by
  have h : t = 0 ∨ t = 1 ∨ t = 2 ∨ t = 3 := by omega
  have z : ∀ x : Int, Ev (fun k => impl_gcd.l0 k x 0) x := fun x => Ev.step (f := fun _ => some x) (fun k => by rw [impl_gcd.l0, if_pos rfl]) (Ev.now _)
  have o : ∀ x : Int, Int.tmod x 1 = 0 → Ev (fun k => impl_gcd.l0 k x 1) 1 := fun x hx => Ev.step (f := fun k => impl_gcd.l0 k 1 0) (fun k => by rw [impl_gcd.l0, if_neg (by decide), hx]) (z 1)
  unfold impl_gcd.f
  rcases h with rfl | rfl | rfl | rfl
  · exact z 4
  · exact o 4 (by decide)
  · exact Ev.step (f := fun k => impl_gcd.l0 k 2 0) (fun k => by rw [impl_gcd.l0, if_neg (by decide)]; rfl) (z 2)
  · exact Ev.step (f := fun k => impl_gcd.l0 k 3 1) (fun k => by rw [impl_gcd.l0, if_neg (by decide)]; rfl) (o 3 (by decide))
theorem rf_v (s : ByteArray) (hs : s.size ≤ 140737488351232) : ∃ r, Ev (fun k => impl_RepeatsToFront.f k s) (r, wordB s) ∧ Ev (fun k => spec_RepeatsToFront.f k s) (r, wordB s) ∧ ∀ M, IsW M s → r = frontV (M.sum % 4) := by
  unfold spec_RepeatsToFront.f impl_RepeatsToFront.f
  simp only [impl_word s hs, Option.bind_some]
  have h1 := spec_word s hs
  cases hw : wordB s with
  | true =>
    rw [hw] at h1
    obtain ⟨M, hM⟩ := isw_of hw
    obtain ⟨n1, n2⟩ := net_vals M hM.2.1 hM.2.2
    rw [← hM.1] at n1 n2
    have hlt : M.sum % 4 < 4 := Nat.mod_lt _ (by omega)
    refine ⟨frontV (M.sum % 4), Ev.congr (fun k => if_pos rfl) (Ev.bind n2 (Ev.bind (gcd_four _ (by omega) (by omega)) ?_)), Ev.bind h1 (Ev.congr (fun k => if_pos rfl) (Ev.bind n1 ?_)), fun M' hM' => ?_⟩
    · obtain ⟨t, ht⟩ : ∃ t, M.sum % 4 = t := ⟨_, rfl⟩
      rw [ht] at hlt ⊢
      have h' : t = 0 ∨ t = 1 ∨ t = 2 ∨ t = 3 := by omega
      refine Ev.congr (fun k => ?_) (Ev.now _)
      rcases h' with rfl | rfl | rfl | rfl <;> decide +kernel
    · obtain ⟨t, ht⟩ : ∃ t, M.sum % 4 = t := ⟨_, rfl⟩
      rw [ht] at hlt ⊢
      have h' : t = 0 ∨ t = 1 ∨ t = 2 ∨ t = 3 := by omega
      refine Ev.congr (fun k => ?_) (Ev.now _)
      rcases h' with rfl | rfl | rfl | rfl <;> decide +kernel
    · rw [wordOf_inj hM.2.1 hM'.2.1 (hM.1.symm.trans hM'.1)]
  | false =>
    rw [hw] at h1
    refine ⟨0, Ev.congr (fun k => if_neg (by decide)) (Ev.now _), Ev.bind h1 (Ev.congr (fun k => if_neg (by decide)) (Ev.now _)), fun M' hM' => ?_⟩
    rw [hM'.good] at hw
    cases hw
theorem fac1_eq (v t : Int) (hv0 : 0 ≤ v) (hv3 : v ≤ 3) (ht0 : 0 ≤ t) (ht3 : t ≤ 1000) : fac1 (48 + v) t = 48 + (v + t) % 4 := by
  unfold fac1
  have e : (48 + v - 48) % 256 = v := by omega
  rw [e, w64 (x := v) (by omega) (by omega), w64 (x := v + t) (by omega) (by omega), Int.tmod_eq_emod_of_nonneg (by omega), w64 (by omega) (by omega)]
  omega
theorem facL_succ (s : ByteArray) (T : Int → Int) (n : Nat) : facL s T (n + 1) = facL s T n ++ [fac1 (bt s (n : Int)) (T (n : Int))] := by
  unfold facL
  rw [List.range_succ, List.map_append]
  rfl
theorem facL_len (s : ByteArray) (T : Int → Int) (n : Nat) : (facL s T n).length = n := by simp [facL]
theorem range_map_eq {α : Type} (L : List α) (n : Nat) (f : Nat → Int) (g : α → Int) (hn : n = L.length) (h : ∀ (i : Nat) (hi : i < L.length), f i = g L[i]) : (List.range n).map f = L.map g := by
  apply List.ext_getElem
  · simp [hn]
  · intro i h1 h2
    rw [List.getElem_map, List.getElem_map, List.getElem_range]
    exact h i (by simpa using h2)
def addL (t : Nat) (L : List Nat) : List Nat := L.map fun v => (v + t) % 4
theorem sm_add (t : Nat) (L : List Nat) : Sm (addL t L) := fun v hv => by
  obtain ⟨x, _, rfl⟩ := List.mem_map.1 hv
  exact Nat.mod_lt _ (by omega)
theorem facL_of (L : List Nat) (hL : Sm L) (t : Nat) (ht : t ≤ 3) : facL (facOf L) (fun _ => (t : Int)) (facOf L).size = (addL t L).map fun (v : Nat) => 48 + (v : Int) := by
  unfold facL addL
  rw [List.map_map]
  refine range_map_eq L _ _ _ (facOf_size L) (fun i hi => ?_)
  have hv := hL _ (List.getElem_mem hi)
  show fac1 (bt (facOf L) (i : Int)) (t : Int) = _
  rw [facOf_bt L hL i hi, fac1_eq _ _ (by omega) (by omega) (by omega) (by omega)]
  rfl
theorem facOf_inj {A B : List Nat} (hA : Sm A) (hB : Sm B) (h : facOf A = facOf B) : A = B := by
  have hl : A.length = B.length := by rw [← facOf_size A, ← facOf_size B, h]
  apply List.ext_getElem hl
  intro i h1 h2
  have e1 := facOf_bt A hA i h1
  have e2 := facOf_bt B hB i h2
  rw [h, e2] at e1
  omega
def mbAll (s : ByteArray) : List Int := (List.range s.size).map fun (i : Nat) => mbT (bt s (i : Int)).toNat
theorem mbAll_len (s : ByteArray) : (mbAll s).length = s.size := by simp [mbAll]
theorem mbT_range (n : Nat) (h : n < 256) : 0 ≤ mbT n ∧ mbT n < 256 := by
  unfold mbT
  split
  · omega
  · split <;> omega
theorem bk_bt (l : List Int) (h : ∀ x ∈ l, 0 ≤ x ∧ x < 256) (i : Nat) (hi : i < l.length) : bt (strOfNums l) (i : Int) = l[i] := by
  have hz := strOfNums_len l
  have hx := h l[i] (List.getElem_mem hi)
  unfold bt
  rw [dif_pos (by rw [hz]; simpa using hi)]
  simp only [Int.toNat_natCast]
  have e : (strOfNums l)[i]'(by rw [hz]; exact hi) = UInt8.ofNat (l[i]).toNat := by
    show (strOfNums l).data[i]'_ = _
    simp [strOfNums]
  rw [e]
  simp
  omega
theorem mbRev_all (s : ByteArray) : mbRevL (mbStr s) = (mbAll s).reverse := by
  have hz : (mbStr s).size = s.size := by
    show (strOfNums (mbAll s)).size = _
    rw [strOfNums_len, mbAll_len]
  unfold mbRevL
  congr 1
  apply List.ext_getElem
  · simp [mbAll, hz]
  intro i h1 h2
  have hi : i < (mbAll s).length := h2
  rw [List.getElem_map, List.getElem_range]
  exact bk_bt (mbAll s) (fun x hx => by
    obtain ⟨j, _, rfl⟩ := List.mem_map.1 hx
    have := bt_range s (j : Int)
    exact mbT_range _ (by omega)) i hi
/-- The last letters from behind. -/
def bkPre (s : ByteArray) (i : Nat) : ByteArray := strOfNums ((mbAll s).drop i).reverse
theorem bkPre_len (s : ByteArray) (i : Nat) : (bkPre s i).size ≤ s.size := by
  unfold bkPre
  rw [strOfNums_len, List.length_reverse, List.length_drop, mbAll_len]
  omega
theorem bkPre_step (s : ByteArray) (i : Nat) (h : i < s.size) : bkPre s i = bkPre s (i + 1) ++ strOfNums [mbT (bt s (i : Int)).toNat] := by
  unfold bkPre
  rw [List.drop_eq_getElem_cons (show i < (mbAll s).length by rw [mbAll_len]; exact h), List.reverse_cons, strOfNums_append]
  simp [mbAll]
theorem spec_back_l0 (s : ByteArray) (hw : wordB s = true) : ∀ i : Nat, i ≤ s.size → Ev (fun k => spec_BackCommands.l0 k s (bkPre s i) ((i : Int) - 1)) (bkPre s 0, true) := by
  have hs := wordB_size hw
  intro i
  induction i with
  | zero =>
    intro hi
    refine Ev.step (f := fun _ => some (bkPre s 0, true)) (fun k => by rw [spec_BackCommands.l0, if_neg (by simp)]) ?_
    exact Ev.now _
  | succ i ih =>
    intro hi
    refine Ev.step (f := fun k => spec_BackCommands.l0 k s (bkPre s i) ((i : Int) - 1)) (fun k => ?_) (ih (by omega))
    have e : ((i + 1 : Nat) : Int) - 1 = (i : Int) := by omega
    have hl := bkPre_len s (i + 1)
    rw [spec_BackCommands.l0, e, if_pos (by omega), if_pos (by omega), if_pos (by omega), drOther_eq (wordB_at hw i (by omega)), Option.bind_some, strOfNums_len, if_pos (by simp; omega), w64 (by omega) (by omega), bkPre_step s i (by omega)]
theorem spec_back (s : ByteArray) (h : s.size ≤ 140737488351232) : Ev (fun k => spec_BackCommands.f k s) (if wordB s = true then (strOfNums (mbRevL (mbStr s)), true) else ((⟨#[]⟩ : ByteArray), false)) := by
  unfold spec_BackCommands.f
  refine Ev.bind (spec_word s h) ?_
  by_cases hw : wordB s = true
  · simp only [if_pos hw]
    have hs := wordB_size hw
    have := spec_back_l0 s hw s.size (Nat.le_refl _)
    rw [mbRev_all]
    have e : bkPre s s.size = (⟨#[]⟩ : ByteArray) := by
      unfold bkPre
      rw [List.drop_of_length_le (by rw [mbAll_len]; exact Nat.le_refl _)]
      rfl
    rw [e] at this
    rw [w64 (by omega) (by omega)]
    exact this
  · simp only [if_neg hw]
    exact Ev.now _
theorem digit_small (v : Int) (h0 : 0 ≤ v) (h9 : v ≤ 9) : Ev (fun k => spec_l1Num.f k v) (strOfNums [48 + v]) := by
  refine Ev.step (f := fun _ => some (strOfNums [48 + v])) (fun k => ?_) (Ev.now _)
  have e : wrap64 (48 + v) % 256 = 48 + v := by rw [w64 (by omega) (by omega)]; omega
  rw [spec_l1Num.f, if_pos (by omega), e]
theorem spec_fa_l0 (s u : ByteArray) (hf : facB s = true) (t : Int) (ht0 : 0 ≤ t) (ht3 : t ≤ 3) (hn : Ev (fun k => spec_drNet.f k u) t) (d : Nat) : ∀ i : Nat, i + d = s.size → Ev (fun k => spec_FacingAfter.l0 k s u (strOfNums (facL s (fun _ => t) i)) i) (strOfNums (facL s (fun _ => t) s.size), true) := by
  have hsz := facB_size hf
  induction d with
  | zero =>
    intro i hi
    obtain rfl : i = s.size := by omega
    exact Ev.step (f := fun _ => some (strOfNums (facL s (fun _ => t) s.size), true)) (fun k => by rw [spec_FacingAfter.l0, if_neg (by omega)]) (Ev.now _)
  | succ d ih =>
    intro i hi
    obtain ⟨v, hv, hb⟩ := facB_at hf i (by omega)
    have hrec := ih (i + 1) (by omega)
    rw [facL_succ, strOfNums_append, hb, fac1_eq v t (by omega) (by omega) ht0 (by omega)] at hrec
    have es : ∀ k, spec_FacingAfter.l0 (k + 1) s u (strOfNums (facL s (fun _ => t) i)) i = (spec_drNet.f k u).bind fun t114 => ((spec_l1Num.f k (Int.tmod (wrap64 ((((bt s i) - 48) % 256) + t114)) 4)).bind fun t115 => (if (strOfNums (facL s (fun _ => t) i)).size + t115.size ≤ 9223372036854775807 then (spec_FacingAfter.l0 k s u ((strOfNums (facL s (fun _ => t) i)) ++ t115) (wrap64 ((i : Int) + 1))) else (none))) := by
      intro k
      rw [spec_FacingAfter.l0, if_pos (by omega), if_pos (by omega)]
    have e1 : Int.tmod (wrap64 ((((bt s i) - 48) % 256) + t)) 4 = ((v : Int) + t) % 4 := by
      have e : (bt s (i : Int) - 48) % 256 = v := by rw [hb]; omega
      rw [e, w64 (by omega) (by omega), Int.tmod_eq_emod_of_nonneg (by omega)]
    refine Ev.step es (Ev.bind hn ?_)
    rw [e1]
    refine Ev.bind (digit_small _ (by omega) (by omega)) (Ev.congr (fun k => ?_) hrec)
    rw [if_pos (by simp only [strOfNums_size, facL_len, List.length_singleton]; omega), w64 (x := (i : Int) + 1) (by omega) (by omega)]
    rfl
def inv (v : Nat) : Nat := (4 - v) % 4
theorem inv_lt (v : Nat) : inv v < 4 := Nat.mod_lt _ (by omega)
theorem sm_inv (M : List Nat) : Sm (M.map inv) := fun v hv => by
  obtain ⟨x, _, rfl⟩ := List.mem_map.1 hv
  exact inv_lt x
theorem mbT_sgn (v : Nat) (h : v < 4) : mbT (sgn v).toNat = sgn (inv v) := by
  have h' : v = 0 ∨ v = 1 ∨ v = 2 ∨ v = 3 := by omega
  rcases h' with rfl | rfl | rfl | rfl <;> decide
theorem mbAll_of (M : List Nat) (hM : Sm M) : mbAll (wordOf M) = (M.map inv).map sgn := by
  unfold mbAll
  rw [List.map_map]
  refine range_map_eq M _ _ _ (wordOf_size M) (fun i hi => ?_)
  rw [wordOf_bt M i hi, mbT_sgn _ (hM _ (List.getElem_mem hi))]
  rfl
theorem mbStr_of (M : List Nat) (hM : Sm M) : mbStr (wordOf M) = wordOf (M.map inv) := by
  show strOfNums (mbAll (wordOf M)) = _
  rw [mbAll_of M hM]
  rfl
theorem mbRev_of (M : List Nat) (hM : Sm M) : strOfNums (mbRevL (mbStr (wordOf M))) = wordOf (M.map inv).reverse := by
  rw [mbRev_all, mbAll_of M hM, ← List.map_reverse]
  rfl
theorem mi_v (s : ByteArray) (hs : s.size ≤ 140737488351232) : ∃ r, impl_MirrorCommands.f s = some (r, wordB s) ∧ Ev (fun k => spec_MirrorCommands.f k s) (r, wordB s) ∧ ∀ M, IsW M s → r = wordOf (M.map inv) := by
  have h := spec_mirror s hs
  have hi : impl_MirrorCommands.f s = some (if wordB s = true then (mbStr s, true) else ((⟨#[]⟩ : ByteArray), false)) := by
    unfold impl_MirrorCommands.f
    rw [impl_word s hs, Option.bind_some]
    by_cases hw : wordB s = true
    · have := wordB_size hw
      rw [if_pos hw, if_pos hw]
      unfold impl_mirrorCommands.f
      rw [if_pos (by omega)]
      rfl
    · rw [if_neg hw, if_neg hw]
  cases hw : wordB s with
  | true =>
    rw [hw, if_pos rfl] at h hi
    refine ⟨mbStr s, hi, h, fun M hM => ?_⟩
    rw [hM.1]
    exact mbStr_of M hM.2.1
  | false =>
    rw [hw, if_neg (by decide)] at h hi
    refine ⟨⟨#[]⟩, hi, h, fun M hM => ?_⟩
    rw [hM.good] at hw
    cases hw
theorem bk_v (s : ByteArray) (hs : s.size ≤ 140737488351232) : ∃ r, impl_BackCommands.f s = some (r, wordB s) ∧ Ev (fun k => spec_BackCommands.f k s) (r, wordB s) ∧ ∀ M, IsW M s → r = wordOf (M.map inv).reverse := by
  have h := spec_back s hs
  have hi : impl_BackCommands.f s = some (if wordB s = true then (strOfNums (mbRevL (mbStr s)), true) else ((⟨#[]⟩ : ByteArray), false)) := by
    unfold impl_BackCommands.f
    rw [impl_word s hs, Option.bind_some]
    by_cases hw : wordB s = true
    · have := wordB_size hw
      rw [if_pos hw, if_pos hw]
      unfold impl_mirrorCommands.f
      have hz : (mbStr s).size = s.size := by
        show (strOfNums (mbAll s)).size = _
        rw [strOfNums_len, mbAll_len]
      rw [if_pos (by omega), Option.bind_some, if_pos (by omega)]
    · rw [if_neg hw, if_neg hw]
  cases hw : wordB s with
  | true =>
    rw [hw, if_pos rfl] at h hi
    refine ⟨_, hi, h, fun M hM => ?_⟩
    rw [hM.1]
    exact mbRev_of M hM.2.1
  | false =>
    rw [hw, if_neg (by decide)] at h hi
    refine ⟨⟨#[]⟩, hi, h, fun M hM => ?_⟩
    rw [hM.good] at hw
    cases hw
theorem fa_v (s u : ByteArray) (hs : s.size ≤ 140737488351232) (hu : u.size ≤ 140737488351232) : ∃ r, Ev (fun k => impl_FacingAfter.f k s u) (r, facB s && wordB u) ∧ Ev (fun k => spec_FacingAfter.f k s u) (r, facB s && wordB u) ∧ ∀ L M, IsF L s → IsW M u → r = facOf (addL (M.sum % 4) L) := by
  unfold spec_FacingAfter.f impl_FacingAfter.f
  simp only [impl_fac s hs, impl_word u hu, Option.bind_some]
  have h1 := spec_fac s hs
  have h2 := spec_word u hu
  have noE : Ev (fun k => spec_FacingAfter.j0 k s u true) (⟨#[]⟩, false) := Ev.step (f := fun _ => some (⟨#[]⟩, false)) (fun k => by rw [spec_FacingAfter.j0, if_pos rfl]) (Ev.now _)
  cases hf : facB s with
  | false =>
    rw [hf] at h1
    refine ⟨⟨#[]⟩, Ev.congr (fun k => if_neg (by decide)) (Ev.now _), Ev.bind h1 (Ev.congr (fun k => if_neg (by decide)) noE), fun L M hL _ => ?_⟩
    rw [hL.good] at hf
    cases hf
  | true =>
    rw [hf] at h1
    cases hw : wordB u with
    | false =>
      rw [hw] at h2
      refine ⟨⟨#[]⟩, Ev.congr (fun k => (if_pos rfl).trans (if_neg (by decide))) (Ev.now _), Ev.bind h1 (Ev.congr (fun k => if_pos rfl) (Ev.bind h2 noE)), fun L M _ hM => ?_⟩
      rw [hM.good] at hw
      cases hw
    | true =>
      rw [hw] at h2
      obtain ⟨M, hM⟩ := isw_of hw
      obtain ⟨L, hL⟩ := isf_of hf
      obtain ⟨hsn, hin⟩ := net_vals M hM.2.1 hM.2.2
      rw [← hM.1] at hsn hin
      have hlt : M.sum % 4 < 4 := Nat.mod_lt _ (by omega)
      have hsz := facB_size hf
      refine ⟨strOfNums (facL s (fun _ => ((M.sum % 4 : Nat) : Int)) s.size), Ev.congr (fun k => (if_pos rfl).trans (if_pos rfl)) (Ev.bind hin (Ev.congr (fun k => if_pos (by omega)) (Ev.now _))), Ev.bind h1 (Ev.congr (fun k => if_pos rfl) (Ev.bind h2 ?_)), fun L' M' hL' hM' => ?_⟩
      · have := spec_fa_l0 s u hf _ (by omega) (by omega) hsn s.size 0 (by omega)
        exact Ev.step (fun k => by rw [Bool.not_true, spec_FacingAfter.j0, if_neg (by decide)]; rfl) this
      · have e := wordOf_inj hM.2.1 hM'.2.1 (hM.1.symm.trans hM'.1)
        subst e
        rw [hL'.1, facL_of L' hL'.2.1 _ (by omega)]
        rfl
def diffL (L K : List Nat) : List Nat := List.zipWith (fun a b => (4 + b - a) % 4) L K
theorem diffL_len (L K : List Nat) (h : L.length = K.length) : (diffL L K).length = L.length := by
  unfold diffL
  rw [List.length_zipWith]
  omega
theorem diffL_at (L K : List Nat) (i : Nat) (h1 : i < L.length) (h2 : i < K.length) (h3 : i < (diffL L K).length) : (diffL L K)[i] = (4 + K[i] - L[i]) % 4 := List.getElem_zipWith
theorem sm_diff (L K : List Nat) : Sm (diffL L K) := fun v hv => by
  obtain ⟨i, hi, rfl⟩ := List.getElem_of_mem hv
  have hm : (diffL L K).length = min L.length K.length := List.length_zipWith
  have e := diffL_at L K i (by omega) (by omega) hi
  rw [e]
  exact Nat.mod_lt _ (by omega)
theorem bt4 (t : Nat) (h : t < 4) : bt (⟨#[83, 82, 65, 76]⟩ : ByteArray) (t : Int) = sgn t := by
  have h' : t = 0 ∨ t = 1 ∨ t = 2 ∨ t = 3 := by omega
  rcases h' with rfl | rfl | rfl | rfl <;> decide +kernel
theorem emod4 (a b : Nat) (ha : a < 4) (hb : b < 4) : ((4 : Int) + (b : Int) - (a : Int)) % 4 = (((4 + b - a) % 4 : Nat) : Int) := by omega
theorem cb_e1 (v x : Nat) (hv : v < 4) (hx : x < 4) : Int.tmod (wrap64 (wrap64 (4 + wrap64 (48 + (x : Int))) - wrap64 (48 + (v : Int)))) 4 = (((4 + x - v) % 4 : Nat) : Int) := by
  rw [w64 (x := 48 + (x : Int)) (by omega) (by omega), w64 (x := 48 + (v : Int)) (by omega) (by omega), w64 (x := 4 + (48 + (x : Int))) (by omega) (by omega), w64 (by omega) (by omega), Int.tmod_eq_emod_of_nonneg (by omega)]
  omega
theorem cb_e2 (v x : Nat) (hv : v < 4) (hx : x < 4) : Int.tmod (wrap64 (wrap64 (wrap64 (48 + (x : Int)) + 4) - wrap64 (48 + (v : Int)))) 4 = (((4 + x - v) % 4 : Nat) : Int) := by
  rw [w64 (x := 48 + (x : Int)) (by omega) (by omega), w64 (x := 48 + (v : Int)) (by omega) (by omega), w64 (x := 48 + (x : Int) + 4) (by omega) (by omega), w64 (by omega) (by omega), Int.tmod_eq_emod_of_nonneg (by omega)]
  omega
theorem cb_l0 (s u : ByteArray) (L K : List Nat) (hL : Sm L) (hK : Sm K) (hlen : L.length = K.length) (h30 : L.length ≤ 30) (hsz : s.size = L.length) (huz : u.size = K.length) (hs : ∀ (i : Nat) (hi : i < L.length), bt s (i : Int) = 48 + (L[i] : Int)) (hu : ∀ (i : Nat) (hi : i < K.length), bt u (i : Int) = 48 + (K[i] : Int)) (d : Nat) : ∀ (i : Nat), i + d = L.length →
    Ev (fun k => spec_CommandsBetween.l0 k s u (strOfNums (((diffL L K).take i).map sgn)) i) (wordOf (diffL L K), true) ∧ Ev (fun k => impl_between.l0 k s u (((diffL L K).take i).map sgn) (s.size : Int) i) (wordOf (diffL L K)) := by
  have hdl := diffL_len L K hlen
  induction d with
  | zero =>
    intro i hi
    have e : (diffL L K).take i = diffL L K := List.take_of_length_le (by omega)
    rw [e]
    exact ⟨Ev.step (f := fun _ => some (wordOf (diffL L K), true)) (fun k => by rw [spec_CommandsBetween.l0, if_neg (by omega)]; rfl) (Ev.now _), Ev.step (f := fun _ => some (wordOf (diffL L K))) (fun k => by rw [impl_between.l0, if_neg (by omega)]; rfl) (Ev.now _)⟩
  | succ d ih =>
    intro i hi
    have hiL : i < L.length := by omega
    have hiK : i < K.length := by omega
    have hiD : i < (diffL L K).length := by omega
    have hv := hL _ (List.getElem_mem hiL)
    have hx := hK _ (List.getElem_mem hiK)
    have hb := hs i hiL
    have hc := hu i hiK
    have hD := diffL_at L K i hiL hiK hiD
    have hd4 : (4 + K[i] - L[i]) % 4 < 4 := Nat.mod_lt _ (by omega)
    have e1 := cb_e1 L[i] K[i] hv hx
    have e2 := cb_e2 L[i] K[i] hv hx
    have ht : ((diffL L K).take (i + 1)).map sgn = ((diffL L K).take i).map sgn ++ [sgn ((4 + K[i] - L[i]) % 4)] := by
      rw [List.take_succ_eq_append_getElem hiD, List.map_append, hD]
      rfl
    obtain ⟨a, b⟩ := ih (i + 1) (by omega)
    rw [ht] at a b
    have hbt := bt4 _ hd4
    obtain ⟨q, hq⟩ : ∃ q, (4 + K[i] - L[i]) % 4 = q := ⟨_, rfl⟩
    rw [hq] at a b hbt hd4 e1 e2
    have hlt : (((diffL L K).take i).map sgn).length ≤ 30 := by rw [List.length_map, List.length_take]; omega
    obtain ⟨out, hout⟩ : ∃ out, ((diffL L K).take i).map sgn = out := ⟨_, rfl⟩
    rw [hout] at a b hlt ⊢
    have w1 := wn1 i (by omega)
    have p1 : (i : Int) < (s.size : Int) := by clear w1 e1 e2; omega
    have p2 : (0 : Int) ≤ (i : Int) := by clear w1 e1 e2; omega
    have p3 : (i : Int) < (u.size : Int) := by clear w1 e1 e2; omega
    have p4 : (0 : Int) ≤ (q : Int) := by clear w1 e1 e2; omega
    have p5 : (q : Int) < 4 := by clear w1 e1 e2; omega
    have p6 : (strOfNums out).size + (strOfNums [sgn q]).size ≤ 9223372036854775807 := by
      rw [sv_len, sv_len]
      clear w1 e1 e2
      simp only [List.length_singleton]
      omega
    have p7 : out.length < 140737488355328 := by clear w1 e1 e2; omega
    have hsg := drSign_eq (q : Int) p4 (by clear w1 e1 e2; omega)
    rw [hbt] at hsg
    refine ⟨Ev.step (fun k => ?_) a, Ev.step (fun k => ?_) b⟩
    · rw [spec_CommandsBetween.l0, if_pos p1, if_pos p2, if_pos p3, hb, hc, e1, hsg, Option.bind_some, if_pos p6, ← strOfNums_append, w1]
    · rw [impl_between.l0, if_pos p1, if_pos p2, if_pos p3, if_pos p1, hb, hc, e2, if_pos p4, if_pos p5, if_pos p7, hbt, w1]
def cbB (s u : ByteArray) : Bool := facB s && (facB u && decide (s.size = u.size))
theorem cb_v (s u : ByteArray) (hs : s.size ≤ 140737488351232) (hu : u.size ≤ 140737488351232) : ∃ r, Ev (fun k => impl_CommandsBetween.f k s u) (r, cbB s u) ∧ Ev (fun k => spec_CommandsBetween.f k s u) (r, cbB s u) ∧ ∀ L K, IsF L s → IsF K u → L.length = K.length → cbB s u = true ∧ r = wordOf (diffL L K) := by
  unfold spec_CommandsBetween.f impl_CommandsBetween.f cbB
  simp only [impl_fac s hs, impl_fac u hu, Option.bind_some]
  have h1 := spec_fac s hs
  have h2 := spec_fac u hu
  have no : ∀ (k : Nat), spec_CommandsBetween.j0 (k + 1) s u true = some (⟨#[]⟩, false) := fun k => by rw [spec_CommandsBetween.j0, if_pos rfl]
  have noE : Ev (fun k => spec_CommandsBetween.j0 k s u true) (⟨#[]⟩, false) := Ev.step no (Ev.now _)
  cases hf : facB s with
  | false =>
    rw [hf] at h1
    refine ⟨⟨#[]⟩, Ev.congr (fun k => if_neg (by decide)) (Ev.now _), Ev.bind h1 (Ev.congr (fun k => if_neg (by decide)) noE), fun L K hL hK _ => ?_⟩
    rw [hL.good] at hf
    cases hf
  | true =>
    rw [hf] at h1
    cases hg : facB u with
    | false =>
      rw [hg] at h2
      refine ⟨⟨#[]⟩, Ev.congr (fun k => (if_pos rfl).trans (if_neg (by decide))) (Ev.now _), Ev.bind h1 (Ev.congr (fun k => if_pos rfl) (Ev.bind h2 (Ev.congr (fun k => if_neg (by decide)) noE))), fun L K hL hK _ => ?_⟩
      rw [hK.good] at hg
      cases hg
    | true =>
      rw [hg] at h2
      obtain ⟨L, hL⟩ := isf_of hf
      obtain ⟨K, hK⟩ := isf_of hg
      have zL : s.size = L.length := by rw [hL.1]; exact facOf_size L
      have zK : u.size = K.length := by rw [hK.1]; exact facOf_size K
      by_cases he : s.size = u.size
      · have e : ((s.size : Int) != (u.size : Int)) = false := by simp [he]
        obtain ⟨a, b⟩ := cb_l0 s u L K hL.2.1 hK.2.1 (by omega) hL.2.2.2 zL zK (fun i hi => by rw [hL.1]; exact facOf_bt L hL.2.1 i hi) (fun i hi => by rw [hK.1]; exact facOf_bt K hK.2.1 i hi) L.length 0 (by omega)
        rw [decide_eq_true he]
        refine ⟨wordOf (diffL L K), Ev.congr (fun k => (if_pos rfl).trans ((if_pos rfl).trans (if_pos (by omega)))) ?_, Ev.bind h1 (Ev.congr (fun k => if_pos rfl) (Ev.bind h2 (Ev.congr (fun k => if_pos rfl) ?_))), fun L' K' hL' hK' _ => ⟨rfl, ?_⟩⟩
        · unfold impl_between.f
          exact Ev.bind b (Ev.now _)
        · rw [e]
          exact Ev.step (fun k => by rw [spec_CommandsBetween.j0, if_neg (by decide)]; rfl) a
        · rw [facOf_inj hL.2.1 hL'.2.1 (hL.1.symm.trans hL'.1), facOf_inj hK.2.1 hK'.2.1 (hK.1.symm.trans hK'.1)]
      · have e : ((s.size : Int) != (u.size : Int)) = true := by simp; omega
        rw [decide_eq_false he]
        refine ⟨⟨#[]⟩, Ev.congr (fun k => (if_pos rfl).trans ((if_pos rfl).trans (if_neg (by omega)))) (Ev.now _), Ev.bind h1 (Ev.congr (fun k => if_pos rfl) (Ev.bind h2 (Ev.congr (fun k => if_pos rfl) ?_))), fun L' K' hL' hK' hl => ?_⟩
        · rw [e]
          exact noE
        · have e3 : s.size = L'.length := by rw [hL'.1]; exact facOf_size L'
          have e4 : u.size = K'.length := by rw [hK'.1]; exact facOf_size K'
          omega
def cntW (s : ByteArray) (i : Nat) (w : Nat) : Nat := (s.data.toList.drop i).count (UInt8.ofNat (48 + w))
theorem cntW_le (s : ByteArray) (i w : Nat) : cntW s i w ≤ s.size := by
  have hz := Lib.size_eq s
  unfold cntW
  have := List.count_le_length (a := UInt8.ofNat (48 + w)) (l := s.data.toList.drop i)
  rw [List.length_drop] at this
  omega
theorem impl_cnt (s : ByteArray) (w : Nat) (hw : w ≤ 3) : strings_Count.f s (strOfNums [wrap64 (48 + (w : Int)) % 256]) = some (cntW s 0 w : Int) := by
  unfold strings_Count.f
  rw [if_pos (by simp [strOfNums_size]), w64 (by omega) (by omega)]
  have e : (48 + (w : Int)) % 256 = ((48 + w : Nat) : Int) := by omega
  rw [e]
  rfl
theorem cntW_end (s : ByteArray) (i w : Nat) (h : i = s.size) : cntW s i w = 0 := by
  have hz := Lib.size_eq s
  unfold cntW
  rw [List.drop_of_length_le (by omega)]
  rfl
theorem cntW_step {s : ByteArray} (hf : facB s = true) (w : Nat) (hw : w ≤ 3) (i v : Nat) (hi : i < s.size) (hv : v ≤ 3) (hb : bt s (i : Int) = 48 + (v : Int)) : cntW s i w = (if v = w then 1 else 0) + cntW s (i + 1) w := by
  have hz := Lib.size_eq s
  have hil : i < s.data.toList.length := by omega
  have hb2 := bt_eq s i hil
  unfold cntW
  rw [List.drop_eq_getElem_cons hil, List.count_cons]
  have e : s.data.toList[i] = UInt8.ofNat (48 + v) := by
    apply UInt8.toNat_inj.1
    rw [UInt8.toNat_ofNat']
    omega
  rw [e]
  have e2 : (UInt8.ofNat (48 + v) == UInt8.ofNat (48 + w)) = decide (v = w) := by
    rw [Bool.eq_iff_iff, beq_iff_eq, decide_eq_true_eq, ← UInt8.toNat_inj, UInt8.toNat_ofNat', UInt8.toNat_ofNat']
    omega
  rw [e2]
  by_cases c : v = w <;> simp [c] <;> omega
def xsC : List Int := [83, 76, 82, 65]
def bsC : List ByteArray := [(⟨#[83]⟩ : ByteArray), (⟨#[76]⟩ : ByteArray), (⟨#[82]⟩ : ByteArray), (⟨#[65]⟩ : ByteArray)]
theorem spec_bc_l1 (s : ByteArray) (hf : facB s = true) (way w : Nat) (c t : Int) (hway : way ≤ 3) (ht0 : 0 ≤ t) (ht3 : t ≤ 3) (hc : spec_drTurn.f c = some t) (hw : (w : Int) = (way + 4 - t) % 4) (best : ByteArray) (most j : Int) (d : Nat) : ∀ (i : Nat) (n : Nat), i + d = s.size → n ≤ i →
    ∀ r, Ev (fun k => if ((n + cntW s i w : Nat) : Int) > most then (spec_drSign.f t).bind fun t111 => spec_BestCommand.l0 k s way t111 ((n + cntW s i w : Nat) : Int) xsC 4 (wrap64 (j + 1)) else spec_BestCommand.l0 k s way best most xsC 4 (wrap64 (j + 1))) r → Ev (fun k => spec_BestCommand.l1 k s way best most c n i xsC 4 j) r := by
  have hsz := facB_size hf
  induction d with
  | zero =>
    intro i n hi hn r h
    refine Ev.step (fun k => ?_) h
    rw [spec_BestCommand.l1, if_neg (by omega), hc, cntW_end s i w (by omega)]
    rfl
  | succ d ih =>
    intro i n hi hn r h
    obtain ⟨v, hv, hb⟩ := facB_at hf i (by omega)
    have hcn := cntW_step hf w (by omega) i v (by omega) hv hb
    have e : Int.tmod (wrap64 ((bt s (i : Int) - 48) % 256 + t)) 4 = ((v : Int) + t) % 4 := by
      have e1 : (bt s (i : Int) - 48) % 256 = v := by rw [hb]; omega
      rw [e1, w64 (by omega) (by omega), Int.tmod_eq_emod_of_nonneg (by omega)]
    by_cases cc : v = w
    · refine Ev.step (f := fun k => spec_BestCommand.l1 k s way best most c ((n + 1 : Nat) : Int) ((i + 1 : Nat) : Int) xsC 4 j) (fun k => ?_) (ih (i + 1) (n + 1) (by omega) (by omega) r ?_)
      · rw [spec_BestCommand.l1, if_pos (by omega), if_pos (by omega), hc, Option.bind_some, e, if_pos (by omega), w64 (x := (n : Int) + 1) (by omega) (by omega), w64 (x := (i : Int) + 1) (by omega) (by omega)]
        rfl
      · rw [hcn, if_pos cc, ← Nat.add_assoc] at h
        exact h
    · refine Ev.step (f := fun k => spec_BestCommand.l1 k s way best most c (n : Int) ((i + 1 : Nat) : Int) xsC 4 j) (fun k => ?_) (ih (i + 1) n (by omega) (by omega) r ?_)
      · rw [spec_BestCommand.l1, if_pos (by omega), if_pos (by omega), hc, Option.bind_some, e, if_neg (by omega), w64 (x := (i : Int) + 1) (by omega) (by omega)]
        rfl
      · rw [hcn, if_neg cc, Nat.zero_add] at h
        exact h
theorem bc_step (s : ByteArray) (hf : facB s = true) (way : Nat) (hway : way ≤ 3) (j c t : Int) (B : ByteArray) (hj0 : 0 ≤ j) (hj4 : j < 4) (ht0 : 0 ≤ t) (ht3 : t ≤ 3)
    (hx : rd xsC j = c) (hB : rdOf ByteArray.empty bsC j = B) (hB1 : B.size = 1) (hB0 : bt B 0 = c) (hc : spec_drTurn.f c = some t) (hi : impl_turnOf.f c = some t) (hs : spec_drSign.f t = some B)
    (w : Nat) (hw : (w : Int) = ((way : Int) + 4 - t) % 4) (R : ByteArray → Int → ByteArray × Int × Bool) (next : ∀ best most, Ev (fun k => spec_BestCommand.l0 k s way best most xsC 4 (j + 1)) (R best most) ∧ Ev (fun k => impl_BestCommand.l0 k s way best most bsC 4 (j + 1)) (R best most)) (best : ByteArray) (most : Int) :
    Ev (fun k => spec_BestCommand.l0 k s way best most xsC 4 j) (if ((cntW s 0 w : Nat) : Int) > most then R B ((cntW s 0 w : Nat) : Int) else R best most) ∧ Ev (fun k => impl_BestCommand.l0 k s way best most bsC 4 j) (if ((cntW s 0 w : Nat) : Int) > most then R B ((cntW s 0 w : Nat) : Int) else R best most) := by
  have lx : (xsC.length : Int) = 4 := rfl
  have lb : (bsC.length : Int) = 4 := rfl
  have es : ∀ r, Ev (fun k => if ((cntW s 0 w : Nat) : Int) > most then spec_BestCommand.l0 k s way B ((cntW s 0 w : Nat) : Int) xsC 4 (j + 1) else spec_BestCommand.l0 k s way best most xsC 4 (j + 1)) r → Ev (fun k => spec_BestCommand.l0 k s way best most xsC 4 j) r := by
    intro r h
    refine Ev.step (f := fun k => spec_BestCommand.l1 k s way best most c ((0 : Nat) : Int) ((0 : Nat) : Int) xsC 4 j) (fun k => by rw [spec_BestCommand.l0, if_pos hj4, if_pos hj0, if_pos (by omega), hx]; rfl) ?_
    refine spec_bc_l1 s hf way w c t hway ht0 ht3 hc hw best most j s.size 0 0 (by omega) (by omega) r ?_
    refine Ev.congr (fun k => ?_) h
    rw [hs, w64 (x := j + 1) (by omega) (by omega), Nat.zero_add]
    rfl
  have ei : ∀ r, Ev (fun k => if ((cntW s 0 w : Nat) : Int) > most then impl_BestCommand.l0 k s way B ((cntW s 0 w : Nat) : Int) bsC 4 (j + 1) else impl_BestCommand.l0 k s way best most bsC 4 (j + 1)) r → Ev (fun k => impl_BestCommand.l0 k s way best most bsC 4 j) r := by
    intro r h
    have b3 : j < (bsC.length : Int) := by omega
    have b1 : (0 : Int) < (B.size : Int) := by omega
    have bw : w ≤ 3 := by omega
    have bj := w64 (x := j + 1) (by omega) (by omega)
    have e1 : Int.tmod (wrap64 (wrap64 ((way : Int) + 4) - t)) 4 = (w : Int) := by
      clear bj
      rw [w64 (x := (way : Int) + 4) (by omega) (by omega), w64 (by omega) (by omega), Int.tmod_eq_emod_of_nonneg (by omega), hw]
    refine Ev.step (fun k => ?_) h
    rw [impl_BestCommand.l0, if_pos hj4, if_pos hj0, if_pos b3, hB, if_pos b1, hB0, hi, Option.bind_some, e1, impl_cnt s w bw, Option.bind_some, bj]
  by_cases cc : ((cntW s 0 w : Nat) : Int) > most
  · obtain ⟨a, b⟩ := next B (cntW s 0 w : Int)
    rw [if_pos cc]
    exact ⟨es _ (Ev.congr (fun k => if_pos cc) a), ei _ (Ev.congr (fun k => if_pos cc) b)⟩
  · obtain ⟨a, b⟩ := next best most
    rw [if_neg cc]
    exact ⟨es _ (Ev.congr (fun k => if_neg cc) a), ei _ (Ev.congr (fun k => if_neg cc) b)⟩
theorem spec_mf_l1 (s : ByteArray) (hf : facB s = true) (w : Nat) (hw : w ≤ 3) (best most : Int) (d : Nat) : ∀ (i : Nat) (n : Nat), i + d = s.size → n ≤ i →
    ∀ r, Ev (fun k => if ((n + cntW s i w : Nat) : Int) > most then spec_MostFaced.l0 k s w ((n + cntW s i w : Nat) : Int) ((w : Int) + 1) else spec_MostFaced.l0 k s best most ((w : Int) + 1)) r → Ev (fun k => spec_MostFaced.l1 k s best most w n i) r := by
  have hz := Lib.size_eq s
  have hsz := facB_size hf
  induction d with
  | zero =>
    intro i n hi hn r h
    refine Ev.step (fun k => ?_) h
    have e : cntW s i w = 0 := by unfold cntW; rw [List.drop_of_length_le (by omega)]; rfl
    rw [spec_MostFaced.l1, if_neg (by omega), e, w64 (x := (w : Int) + 1) (by omega) (by omega)]
    rfl
  | succ d ih =>
    intro i n hi hn r h
    have hil : i < s.data.toList.length := by omega
    obtain ⟨v, hv, hb⟩ := facB_at hf i (by omega)
    have hb2 := bt_eq s i hil
    have hc := cntW_step hf w hw i v (by omega) hv hb
    by_cases c : v = w
    · refine Ev.step (f := fun k => spec_MostFaced.l1 k s best most w ((n + 1 : Nat) : Int) ((i + 1 : Nat) : Int)) (fun k => ?_) (ih (i + 1) (n + 1) (by omega) (by omega) r ?_)
      · rw [spec_MostFaced.l1, if_pos (by omega), if_pos (by omega), hb, if_pos (by omega), w64 (x := (n : Int) + 1) (by omega) (by omega), w64 (x := (i : Int) + 1) (by omega) (by omega)]
        rfl
      · rw [hc, if_pos c, ← Nat.add_assoc] at h
        exact h
    · refine Ev.step (f := fun k => spec_MostFaced.l1 k s best most w (n : Int) ((i + 1 : Nat) : Int)) (fun k => ?_) (ih (i + 1) n (by omega) (by omega) r ?_)
      · rw [spec_MostFaced.l1, if_pos (by omega), if_pos (by omega), hb, if_neg (by omega), w64 (x := (i : Int) + 1) (by omega) (by omega)]
        rfl
      · rw [hc, if_neg c, Nat.zero_add] at h
        exact h
theorem spec_mf_step (s : ByteArray) (hf : facB s = true) (w : Nat) (hw : w ≤ 3) (best most : Int) (r : Int × Int × Bool)
    (h : Ev (fun k => if (cntW s 0 w : Int) > most then spec_MostFaced.l0 k s w (cntW s 0 w : Int) ((w : Int) + 1) else spec_MostFaced.l0 k s best most ((w : Int) + 1)) r) : Ev (fun k => spec_MostFaced.l0 k s best most w) r := by
  refine Ev.step (f := fun k => spec_MostFaced.l1 k s best most w ((0 : Nat) : Int) ((0 : Nat) : Int)) (fun k => by rw [spec_MostFaced.l0, if_pos (by omega)]; rfl) ?_
  refine spec_mf_l1 s hf w hw best most s.size 0 0 (by omega) (by omega) r ?_
  simpa using h
theorem impl_mf_step (s : ByteArray) (w : Nat) (hw : w ≤ 3) (best most : Int) (r : Int × Int × Bool)
    (h : Ev (fun k => if (cntW s 0 w : Int) > most then impl_MostFaced.l0 k s w (cntW s 0 w : Int) ((w : Int) + 1) else impl_MostFaced.l0 k s best most ((w : Int) + 1)) r) : Ev (fun k => impl_MostFaced.l0 k s best most w) r := by
  refine Ev.step (fun k => ?_) h
  rw [impl_MostFaced.l0, if_pos (by omega), impl_cnt s w hw, Option.bind_some, w64 (x := (w : Int) + 1) (by omega) (by omega)]
/-- The greatest of the four counts. -/
def IsMx (s : ByteArray) (m : Int) : Prop := (∃ w : Nat, w ≤ 3 ∧ m = ((cntW s 0 w : Nat) : Int)) ∧ ∀ w : Nat, w ≤ 3 → ((cntW s 0 w : Nat) : Int) ≤ m
theorem IsMx.eq {s : ByteArray} {a b : Int} (h : IsMx s a) (g : IsMx s b) : a = b := by
  obtain ⟨⟨w, hw, e⟩, h2⟩ := h
  obtain ⟨⟨v, hv, f⟩, g2⟩ := g
  have := h2 v hv
  have := g2 w hw
  omega
theorem cnt_all {s : ByteArray} (hf : facB s = true) (d : Nat) : ∀ i : Nat, i + d = s.size → cntW s i 0 + cntW s i 1 + cntW s i 2 + cntW s i 3 = d := by
  induction d with
  | zero =>
    intro i hi
    rw [cntW_end s i 0 (by omega), cntW_end s i 1 (by omega), cntW_end s i 2 (by omega), cntW_end s i 3 (by omega)]
  | succ d ih =>
    intro i hi
    obtain ⟨v, hv, hb⟩ := facB_at hf i (by omega)
    have := ih (i + 1) (by omega)
    rw [cntW_step hf 0 (by omega) i v (by omega) hv hb, cntW_step hf 1 (by omega) i v (by omega) hv hb, cntW_step hf 2 (by omega) i v (by omega) hv hb, cntW_step hf 3 (by omega) i v (by omega) hv hb]
    have h' : v = 0 ∨ v = 1 ∨ v = 2 ∨ v = 3 := by omega
    rcases h' with rfl | rfl | rfl | rfl <;> simp <;> omega
theorem IsMx.big {s : ByteArray} (hf : facB s = true) {m : Int} (h : IsMx s m) : (s.size : Int) ≤ 4 * m := by
  have := cnt_all hf s.size 0 (by omega)
  have h0 := h.2 0 (by omega)
  have h1 := h.2 1 (by omega)
  have h2 := h.2 2 (by omega)
  have h3 := h.2 3 (by omega)
  omega
theorem mx4 (s : ByteArray) (way : Nat) (hway : way ≤ 3) (w : Nat) (hw : w ≤ 3) : w = way % 4 ∨ w = (way + 1) % 4 ∨ w = (way + 3) % 4 ∨ w = (way + 2) % 4 := by omega
theorem bc_v (s : ByteArray) (a : Int) (hs : s.size ≤ 140737488351232) : ∃ B m b, Ev (fun k => impl_BestCommand.f k s a) (B, m, b) ∧ Ev (fun k => spec_BestCommand.f k s a) (B, m, b) ∧ (b = true → facB s = true ∧ B.size = 1 ∧ IsMx s m) := by
  unfold spec_BestCommand.f impl_BestCommand.f impl_isWay.f
  simp only [impl_fac s hs, l1In_eq, in_eq, Option.bind_some]
  have h1 := spec_fac s hs
  have no1 : Ev (fun k => spec_BestCommand.j0 k s a true) (⟨#[]⟩, 0, false) := Ev.step (f := fun _ => some (⟨#[]⟩, 0, false)) (fun k => by rw [spec_BestCommand.j0, if_pos rfl]) (Ev.now _)
  have no2 : Ev (fun k => impl_BestCommand.j0 k s a true) (⟨#[]⟩, 0, false) := Ev.step (f := fun _ => some (⟨#[]⟩, 0, false)) (fun k => by rw [impl_BestCommand.j0, if_pos rfl]) (Ev.now _)
  cases hf : facB s with
  | false =>
    rw [hf] at h1
    exact ⟨_, _, _, Ev.congr (fun k => if_neg (by decide)) no2, Ev.bind h1 (Ev.congr (fun k => if_neg (by decide)) no1), fun h => by cases h⟩
  | true =>
    rw [hf] at h1
    cases c : (decide (0 ≤ a) && decide (a ≤ 3)) with
    | false => exact ⟨_, _, _, Ev.congr (fun k => if_pos rfl) no2, Ev.bind h1 (Ev.congr (fun k => if_pos rfl) no1), fun h => by cases h⟩
    | true =>
      have c' : 0 ≤ a ∧ a ≤ 3 := by simpa using c
      obtain ⟨way, rfl⟩ := Int.eq_ofNat_of_zero_le c'.1
      have hway : way ≤ 3 := by omega
      have n4 : ∀ best most, Ev (fun k => spec_BestCommand.l0 k s way best most xsC 4 (3 + 1)) (best, most, true) ∧ Ev (fun k => impl_BestCommand.l0 k s way best most bsC 4 (3 + 1)) (best, most, true) := fun best most =>
        ⟨Ev.step (f := fun _ => some (best, most, true)) (fun k => by rw [spec_BestCommand.l0, if_neg (by decide)]) (Ev.now _), Ev.step (f := fun _ => some (best, most, true)) (fun k => by rw [impl_BestCommand.l0, if_neg (by decide)]) (Ev.now _)⟩
      have n3 := bc_step s hf way hway 3 65 2 ⟨#[65]⟩ (by omega) (by omega) (by omega) (by omega) rfl rfl rfl rfl rfl rfl (by decide +kernel) ((way + 2) % 4) (by omega) _ n4
      have n2 := bc_step s hf way hway 2 82 1 ⟨#[82]⟩ (by omega) (by omega) (by omega) (by omega) rfl rfl rfl rfl rfl rfl (by decide +kernel) ((way + 3) % 4) (by omega) _ n3
      have n1 := bc_step s hf way hway 1 76 3 ⟨#[76]⟩ (by omega) (by omega) (by omega) (by omega) rfl rfl rfl rfl rfl rfl (by decide +kernel) ((way + 1) % 4) (by omega) _ n2
      obtain ⟨x, y⟩ := bc_step s hf way hway 0 83 0 ⟨#[83]⟩ (by omega) (by omega) (by omega) (by omega) rfl rfl rfl rfl rfl rfl (by decide +kernel) (way % 4) (by omega) _ n1 ⟨#[]⟩ (-1)
      clear n1 n2 n3 n4
      rw [if_pos (show ((cntW s 0 (way % 4) : Nat) : Int) > -1 by omega)] at x y
      obtain ⟨⟨B, m, b⟩, hR⟩ : ∃ r : ByteArray × Int × Bool, (if ((cntW s 0 ((way + 1) % 4) : Nat) : Int) > ((cntW s 0 (way % 4) : Nat) : Int) then if ((cntW s 0 ((way + 3) % 4) : Nat) : Int) > ((cntW s 0 ((way + 1) % 4) : Nat) : Int) then if ((cntW s 0 ((way + 2) % 4) : Nat) : Int) > ((cntW s 0 ((way + 3) % 4) : Nat) : Int) then ((⟨#[65]⟩ : ByteArray), ((cntW s 0 ((way + 2) % 4) : Nat) : Int), true) else (⟨#[82]⟩, ((cntW s 0 ((way + 3) % 4) : Nat) : Int), true) else if ((cntW s 0 ((way + 2) % 4) : Nat) : Int) > ((cntW s 0 ((way + 1) % 4) : Nat) : Int) then (⟨#[65]⟩, ((cntW s 0 ((way + 2) % 4) : Nat) : Int), true) else (⟨#[76]⟩, ((cntW s 0 ((way + 1) % 4) : Nat) : Int), true) else if ((cntW s 0 ((way + 3) % 4) : Nat) : Int) > ((cntW s 0 (way % 4) : Nat) : Int) then if ((cntW s 0 ((way + 2) % 4) : Nat) : Int) > ((cntW s 0 ((way + 3) % 4) : Nat) : Int) then (⟨#[65]⟩, ((cntW s 0 ((way + 2) % 4) : Nat) : Int), true) else (⟨#[82]⟩, ((cntW s 0 ((way + 3) % 4) : Nat) : Int), true) else if ((cntW s 0 ((way + 2) % 4) : Nat) : Int) > ((cntW s 0 (way % 4) : Nat) : Int) then (⟨#[65]⟩, ((cntW s 0 ((way + 2) % 4) : Nat) : Int), true) else (⟨#[83]⟩, ((cntW s 0 (way % 4) : Nat) : Int), true)) = r := ⟨_, rfl⟩
      rw [hR] at x y
      have e1 : (⟨#[83]⟩ : ByteArray).size = 1 := rfl
      have e2 : (⟨#[76]⟩ : ByteArray).size = 1 := rfl
      have e3 : (⟨#[82]⟩ : ByteArray).size = 1 := rfl
      have e4 : (⟨#[65]⟩ : ByteArray).size = 1 := rfl
      have hX := mx4 s way hway
      refine ⟨_, _, _, Ev.congr (fun k => if_pos rfl) (Ev.step (fun k => by rw [Bool.not_true, impl_BestCommand.j0, if_neg (by decide)]; rfl) y), Ev.bind h1 (Ev.congr (fun k => if_pos rfl) (Ev.step (fun k => by rw [Bool.not_true, spec_BestCommand.j0, if_neg (by decide)]; rfl) x)), fun _ => ⟨rfl, ?_⟩⟩
      clear x y h1 no1 no2 c c'
      obtain ⟨w0, hw0⟩ : ∃ w, way % 4 = w := ⟨_, rfl⟩
      obtain ⟨w1, hw1⟩ : ∃ w, (way + 1) % 4 = w := ⟨_, rfl⟩
      obtain ⟨w3, hw3⟩ : ∃ w, (way + 3) % 4 = w := ⟨_, rfl⟩
      obtain ⟨w2, hw2⟩ : ∃ w, (way + 2) % 4 = w := ⟨_, rfl⟩
      have b0 : w0 ≤ 3 := by omega
      have b1 : w1 ≤ 3 := by omega
      have b2 : w2 ≤ 3 := by omega
      have b3 : w3 ≤ 3 := by omega
      rw [hw0, hw1, hw2, hw3] at hX hR
      have hgo : ∀ m : Int, ((cntW s 0 w0 : Nat) : Int) ≤ m → ((cntW s 0 w1 : Nat) : Int) ≤ m → ((cntW s 0 w3 : Nat) : Int) ≤ m → ((cntW s 0 w2 : Nat) : Int) ≤ m → ∀ w : Nat, w ≤ 3 → ((cntW s 0 w : Nat) : Int) ≤ m := by
        intro m g0 g1 g3 g2 w hw
        rcases hX w hw with rfl | rfl | rfl | rfl <;> assumption
      clear hX hw0 hw1 hw2 hw3
      by_cases p1 : ((cntW s 0 w1 : Nat) : Int) > ((cntW s 0 w0 : Nat) : Int)
      · rw [if_pos p1] at hR
        by_cases p3 : ((cntW s 0 w3 : Nat) : Int) > ((cntW s 0 w1 : Nat) : Int)
        · rw [if_pos p3] at hR
          by_cases p2 : ((cntW s 0 w2 : Nat) : Int) > ((cntW s 0 w3 : Nat) : Int)
          · rw [if_pos p2] at hR
            cases hR
            exact ⟨e4, ⟨w2, b2, rfl⟩, hgo _ (by omega) (by omega) (by omega) (by omega)⟩
          · rw [if_neg p2] at hR
            cases hR
            exact ⟨e3, ⟨w3, b3, rfl⟩, hgo _ (by omega) (by omega) (by omega) (by omega)⟩
        · rw [if_neg p3] at hR
          by_cases p2 : ((cntW s 0 w2 : Nat) : Int) > ((cntW s 0 w1 : Nat) : Int)
          · rw [if_pos p2] at hR
            cases hR
            exact ⟨e4, ⟨w2, b2, rfl⟩, hgo _ (by omega) (by omega) (by omega) (by omega)⟩
          · rw [if_neg p2] at hR
            cases hR
            exact ⟨e2, ⟨w1, b1, rfl⟩, hgo _ (by omega) (by omega) (by omega) (by omega)⟩
      · rw [if_neg p1] at hR
        by_cases p3 : ((cntW s 0 w3 : Nat) : Int) > ((cntW s 0 w0 : Nat) : Int)
        · rw [if_pos p3] at hR
          by_cases p2 : ((cntW s 0 w2 : Nat) : Int) > ((cntW s 0 w3 : Nat) : Int)
          · rw [if_pos p2] at hR
            cases hR
            exact ⟨e4, ⟨w2, b2, rfl⟩, hgo _ (by omega) (by omega) (by omega) (by omega)⟩
          · rw [if_neg p2] at hR
            cases hR
            exact ⟨e3, ⟨w3, b3, rfl⟩, hgo _ (by omega) (by omega) (by omega) (by omega)⟩
        · rw [if_neg p3] at hR
          by_cases p2 : ((cntW s 0 w2 : Nat) : Int) > ((cntW s 0 w0 : Nat) : Int)
          · rw [if_pos p2] at hR
            cases hR
            exact ⟨e4, ⟨w2, b2, rfl⟩, hgo _ (by omega) (by omega) (by omega) (by omega)⟩
          · rw [if_neg p2] at hR
            cases hR
            exact ⟨e1, ⟨w0, b0, rfl⟩, hgo _ (by omega) (by omega) (by omega) (by omega)⟩
theorem mf_v (s : ByteArray) (hs : s.size ≤ 140737488351232) : ∃ a m, Ev (fun k => impl_MostFaced.f k s) (a, m, facB s) ∧ Ev (fun k => spec_MostFaced.f k s) (a, m, facB s) ∧ (facB s = true → IsMx s m ∧ 0 ≤ a ∧ a < 4) := by
  unfold spec_MostFaced.f impl_MostFaced.f
  simp only [impl_fac s hs, Option.bind_some]
  have h1 := spec_fac s hs
  cases hf : facB s with
  | false =>
    rw [hf] at h1
    exact ⟨0, 0, Ev.congr (fun k => if_neg (by decide)) (Ev.now _), Ev.bind h1 (Ev.congr (fun k => if_neg (by decide)) (Ev.now _)), fun h => by cases h⟩
  | true =>
    rw [hf] at h1
    have go : ∀ (d w : Nat) (best most : Int), w + d = 4 → 1 ≤ w → 0 ≤ best → best < 4 → (∃ v : Nat, v ≤ 3 ∧ most = ((cntW s 0 v : Nat) : Int)) → (∀ v : Nat, v < w → ((cntW s 0 v : Nat) : Int) ≤ most) → ∃ a m, Ev (fun k => spec_MostFaced.l0 k s best most w) (a, m, true) ∧ Ev (fun k => impl_MostFaced.l0 k s best most w) (a, m, true) ∧ IsMx s m ∧ 0 ≤ a ∧ a < 4 := by
      intro d
      induction d with
      | zero =>
        intro w best most hw h1 h2 h3 h4 h5
        exact ⟨best, most, Ev.step (f := fun _ => some (best, most, true)) (fun k => by rw [spec_MostFaced.l0, if_neg (by omega)]) (Ev.now _), Ev.step (f := fun _ => some (best, most, true)) (fun k => by rw [impl_MostFaced.l0, if_neg (by omega)]) (Ev.now _), ⟨h4, fun v hv => h5 v (by omega)⟩, h2, h3⟩
      | succ d ih =>
        intro w best most hw h1 h2 h3 h4 h5
        by_cases c : (cntW s 0 w : Int) > most
        · obtain ⟨a, m, x, y, z⟩ := ih (w + 1) w (cntW s 0 w : Int) (by omega) (by omega) (by omega) (by omega) ⟨w, by omega, rfl⟩ (fun v hv => by
            by_cases hvw : v = w
            · subst hvw; exact Int.le_refl _
            · have := h5 v (by omega); omega)
          exact ⟨a, m, spec_mf_step s hf w (by omega) best most _ (Ev.congr (fun k => if_pos c) x), impl_mf_step s w (by omega) best most _ (Ev.congr (fun k => if_pos c) y), z⟩
        · obtain ⟨a, m, x, y, z⟩ := ih (w + 1) best most (by omega) (by omega) h2 h3 h4 (fun v hv => by
            by_cases hvw : v = w
            · subst hvw; omega
            · exact h5 v (by omega))
          exact ⟨a, m, spec_mf_step s hf w (by omega) best most _ (Ev.congr (fun k => if_neg c) x), impl_mf_step s w (by omega) best most _ (Ev.congr (fun k => if_neg c) y), z⟩
    obtain ⟨a, m, x, y, z⟩ := go 3 1 0 (cntW s 0 0 : Int) (by omega) (by omega) (by omega) (by omega) ⟨0, by omega, rfl⟩ (fun v hv => by
      obtain rfl : v = 0 := by omega
      exact Int.le_refl _)
    refine ⟨a, m, Ev.congr (fun k => if_pos rfl) (impl_mf_step s 0 (by omega) 0 (-1) _ (Ev.congr (fun k => if_pos (by omega)) y)), Ev.bind h1 (Ev.congr (fun k => if_pos rfl) ?_), fun _ => z⟩
    by_cases c : (cntW s 0 0 : Int) > 0
    · exact spec_mf_step s hf 0 (by omega) 0 0 _ (Ev.congr (fun k => if_pos c) x)
    · refine spec_mf_step s hf 0 (by omega) 0 0 _ (Ev.congr (fun k => if_neg c) ?_)
      have e : (cntW s 0 0 : Int) = 0 := by omega
      rw [e] at x
      exact x
/-- How many words of a length have a turn. -/
def cwV (n w : Nat) : Nat := if n = 0 then (if w = 0 then 1 else 0) else 4 ^ (n - 1)
theorem cw_shl : ∀ n : Nat, n < 25 → 1 ≤ n → shl .i64 1 (wrap64 (2 * wrap64 ((n : Int) - 1))) = ((4 ^ (n - 1) : Nat) : Int) ∧ 0 ≤ wrap64 (2 * wrap64 ((n : Int) - 1)) := by decide +kernel
def cwB (n w : Int) : Bool := (decide (0 ≤ n) && decide (n ≤ 24)) && (decide (0 ≤ w) && decide (w ≤ 3))
theorem cw_v (n w : Int) : ∃ r, Ev (fun k => impl_CountCommandWords.f k n w) (r, cwB n w) ∧ Ev (fun k => spec_CountCommandWords.f k n w) (r, cwB n w) ∧ (∀ a b : Nat, n = a → w = b → a ≤ 24 → b ≤ 3 → cwB n w = true ∧ r = ((cwV a b : Nat) : Int)) := by
  have no1 : Ev (fun k => spec_CountCommandWords.j0 k n w true) (0, false) := Ev.step (f := fun _ => some (0, false)) (fun k => by rw [spec_CountCommandWords.j0, if_pos rfl]) (Ev.now _)
  have no2 : Ev (fun k => impl_CountCommandWords.j0 k n w true) (0, false) := Ev.step (f := fun _ => some (0, false)) (fun k => by rw [impl_CountCommandWords.j0, if_pos rfl]) (Ev.now _)
  unfold spec_CountCommandWords.f impl_CountCommandWords.f impl_isWay.f cwB
  simp only [l1In_eq, in_eq, Option.bind_some]
  cases c : (decide (0 ≤ n) && decide (n ≤ 24)) with
  | false =>
    refine ⟨0, Ev.congr (fun k => if_neg (by decide)) no2, Ev.congr (fun k => if_neg (by decide)) no1, fun a b ha hb h24 h3 => ?_⟩
    subst ha hb
    simp at c
    omega
  | true =>
    cases e : (decide (0 ≤ w) && decide (w ≤ 3)) with
    | false =>
      refine ⟨0, Ev.congr (fun k => if_pos rfl) no2, Ev.congr (fun k => if_pos rfl) no1, fun a b ha hb h24 h3 => ?_⟩
      subst ha hb
      simp at e
      omega
    | true =>
      have c' : 0 ≤ n ∧ n ≤ 24 := by simpa using c
      have e' : 0 ≤ w ∧ w ≤ 3 := by simpa using e
      obtain ⟨a, rfl⟩ := Int.eq_ofNat_of_zero_le c'.1
      obtain ⟨b, rfl⟩ := Int.eq_ofNat_of_zero_le e'.1
      refine ⟨((cwV a b : Nat) : Int), Ev.congr (fun k => if_pos rfl) (Ev.step (f := fun _ => some (((cwV a b : Nat) : Int), true)) (fun k => ?_) (Ev.now _)), Ev.congr (fun k => if_pos rfl) (Ev.step (f := fun _ => some (((cwV a b : Nat) : Int), true)) (fun k => ?_) (Ev.now _)), fun x y hx hy _ _ => ⟨rfl, ?_⟩⟩
      · rw [Bool.not_true, impl_CountCommandWords.j0, if_neg (by decide)]
        unfold cwV
        by_cases z : a = 0
        · rw [if_neg (by omega), if_pos z]
          by_cases y : b = 0
          · rw [if_pos (by omega), if_pos y]; rfl
          · rw [if_neg (by omega), if_neg y]; rfl
        · obtain ⟨s1, s2⟩ := cw_shl a (by omega) (by omega)
          rw [if_pos (by omega), if_pos s2, s1, if_neg z]
      · rw [Bool.not_true, spec_CountCommandWords.j0, if_neg (by decide)]
        unfold cwV
        by_cases z : a = 0
        · rw [if_pos (by omega), if_pos z]
          by_cases y : b = 0
          · rw [if_pos (by omega), if_pos y]; rfl
          · rw [if_neg (by omega), if_neg y]; rfl
        · obtain ⟨s1, s2⟩ := cw_shl a (by omega) (by omega)
          rw [if_neg (by omega), if_pos s2, s1, if_neg z]
      · obtain rfl : a = x := by omega
        obtain rfl : b = y := by omega
        rfl
theorem cw_sum (n : Nat) : cwV n 0 + cwV n 1 + cwV n 2 + cwV n 3 = 4 ^ n := by
  unfold cwV
  cases n with
  | zero => rfl
  | succ n =>
    rw [if_neg (by omega), if_neg (by omega), if_neg (by omega), if_neg (by omega), Nat.add_sub_cancel, Nat.pow_succ]
    omega
/-! ### the words' laws -/
theorem sum_inv (M : List Nat) (hM : Sm M) : ((M.map inv).sum + M.sum) % 4 = 0 := by
  induction M with
  | nil => rfl
  | cons x M ih =>
    have hx := hM x (by simp)
    have := ih (fun v hv => hM v (by simp [hv]))
    simp only [List.map_cons, List.sum_cons]
    unfold inv at this ⊢
    omega
theorem sum_rev (M : List Nat) : M.reverse.sum = M.sum := List.sum_reverse M
theorem inv_inv (M : List Nat) (hM : Sm M) : (M.map inv).map inv = M := by
  rw [List.map_map]
  have : ∀ v ∈ M, (inv ∘ inv) v = v := fun v hv => by
    have := hM v hv
    simp only [Function.comp_apply, inv]
    omega
  rw [List.map_congr_left this]
  simp
theorem isw_inv {M : List Nat} {s : ByteArray} (h : IsW M s) : IsW (M.map inv) (wordOf (M.map inv)) := ⟨rfl, sm_inv M, by rw [List.length_map]; exact h.2.2⟩
theorem isw_rev {M : List Nat} {s : ByteArray} (h : IsW M s) : IsW (M.map inv).reverse (wordOf (M.map inv).reverse) := ⟨rfl, fun v hv => sm_inv M v (List.mem_reverse.1 hv), by rw [List.length_reverse, List.length_map]; exact h.2.2⟩
theorem isw_short (t : Nat) (h : t < 4) : IsW (shortL t) (wordOf (shortL t)) := by
  refine ⟨rfl, fun v hv => ?_, ?_⟩
  · unfold shortL at hv
    split at hv
    · cases hv
    · simp at hv; omega
  · unfold shortL
    split <;> simp
theorem short_sum (t : Nat) : (shortL t).sum = t := by
  unfold shortL
  split
  · rename_i h; rw [h]; rfl
  · simp
theorem isf_add {L : List Nat} {s : ByteArray} (h : IsF L s) (t : Nat) : IsF (addL t L) (facOf (addL t L)) := ⟨rfl, sm_add t L, by unfold addL; rw [List.length_map]; exact h.2.2.1, by unfold addL; rw [List.length_map]; exact h.2.2.2⟩
theorem add_back {L : List Nat} (hL : Sm L) (a b : Nat) (h : (a + b) % 4 = 0) : addL b (addL a L) = L := by
  unfold addL
  rw [List.map_map]
  have : ∀ v ∈ L, ((fun v => (v + b) % 4) ∘ fun v => (v + a) % 4) v = v := fun v hv => by
    have := hL v hv
    simp only [Function.comp_apply]
    omega
  rw [List.map_congr_left this]
  simp
theorem diff_add (L : List Nat) (hL : Sm L) (t : Nat) (ht : t < 4) : diffL L (addL t L) = List.replicate L.length t := by
  apply List.ext_getElem
  · rw [diffL_len L _ (by unfold addL; rw [List.length_map]), List.length_replicate]
  · intro i h1 h2
    have hi : i < L.length := by simpa using h2
    have hk : i < (addL t L).length := by unfold addL; rw [List.length_map]; exact hi
    rw [diffL_at L _ i hi hk h1, List.getElem_replicate]
    have e : (addL t L)[i] = (L[i] + t) % 4 := by unfold addL; exact List.getElem_map _
    have := hL _ (List.getElem_mem hi)
    rw [e]
    omega
/-! ### the second half: what is told of lengths, ways and facings -/
theorem mx_small {s : ByteArray} (hf : facB s = true) {m : Int} (h : IsMx s m) : 0 ≤ m ∧ m ≤ 30 := by
  obtain ⟨⟨w, hw, e⟩, _⟩ := h
  have h1 := cntW_le s 0 w
  have h2 := facB_size hf
  omega
theorem dt_end {g : ByteArray} {many way1 : Int} {b2 : Bool} (h2 : b2 = true → facB g = true ∧ IsMx g many ∧ 0 ≤ way1 ∧ way1 < 4) : (if b2 = true then (if (wrap64 (4 * many)) ≥ (g.size : Int) then (if way1 ≥ 0 then (some (decide (way1 < 4))) else (some false)) else (some false)) else (some true)) = some true := by
  cases b2 with
  | false => rfl
  | true =>
    obtain ⟨hf, hm, w0, w4⟩ := h2 rfl
    have hs := mx_small hf hm
    have hb := hm.big hf
    have p : wrap64 (4 * many) ≥ (g.size : Int) := by rw [w64 (by omega) (by omega)]; omega
    rw [if_pos rfl, if_pos p, if_pos (show way1 ≥ 0 by omega), decide_eq_true w4]
theorem dt_j8 {f g B : ByteArray} {m many way1 : Int} {b b2 : Bool} (hfs : f.size ≤ 140737488351232) (h1 : b = true → facB f = true ∧ B.size = 1 ∧ IsMx f m) (h2 : b2 = true → facB g = true ∧ IsMx g many ∧ 0 ≤ way1 ∧ way1 < 4) : Ev (fun k => laws_FnDrillsTurn.j7 k f /- -/ B m b g way1 many b2) true := by
  have he := dt_end h2
  cases b with
  | false =>
    refine Ev.step (f := fun _ => some true) (fun k => ?_) (Ev.now _)
    rw [laws_FnDrillsTurn.j7, if_neg (by decide)]
    exact he
  | true =>
    obtain ⟨hf, hB, hm⟩ := h1 rfl
    obtain ⟨a, top, e1, _, e3⟩ := mf_v f hfs
    rw [hf] at e1
    obtain ⟨hm2, _, _⟩ := e3 hf
    have ht : top = m := hm2.eq hm
    subst ht
    have pB : (B.size : Int) = 1 := by omega
    refine Ev.step (f := fun k => (impl_MostFaced.f k f).bind fun bt265 => (if bt265.2.2 = true then (if bt265.2.1 = top then (if (B.size : Int) = 1 then (if b2 = true then (if (wrap64 (4 * many)) ≥ (g.size : Int) then (if way1 ≥ 0 then (some (decide (way1 < 4))) else (some false)) else (some false)) else (some true)) else (some false)) else (some false)) else (some false))) (fun k => by rw [laws_FnDrillsTurn.j7, if_pos rfl]) (Ev.bind e1 (Ev.congr (fun k => (if_pos rfl).trans ((if_pos rfl).trans ((if_pos pB).trans he))) (Ev.now _)))
theorem cw_small (n w : Nat) (h : n ≤ 24) : cwV n w ≤ 70368744177664 := by
  unfold cwV
  split
  · split <;> omega
  · have := Nat.pow_le_pow_right (show 0 < 4 by omega) (show n - 1 ≤ 23 by omega)
    have e : (4 : Nat) ^ 23 = 70368744177664 := by decide
    omega
theorem p4_small (n : Nat) (h : n ≤ 24) : 4 ^ n ≤ 281474976710656 := by
  have := Nat.pow_le_pow_right (show 0 < 4 by omega) h
  have e : (4 : Nat) ^ 24 = 281474976710656 := by decide
  omega
theorem wB2 (a b : Nat) (h : a + b ≤ 1000000000000000000) : wrap64 ((a : Int) + (b : Int)) = ((a + b : Nat) : Int) := by
  rw [w64 (by omega) (by omega)]
  rfl
section
variable {f g B : ByteArray} {m many way1 : Int} {b b2 : Bool}
theorem dt_l1 {n : Nat} (hn : n ≤ 24) (h8 : Ev (fun k => laws_FnDrillsTurn.j7 k f /- -/ B m b g way1 many b2) true) : Ev (fun k => laws_FnDrillsTurn.l1 k (n : Int) f /- -/ B m b g way1 many b2 0 ((4 ^ n : Nat) : Int) 0) true := by
  have hc := fun w => cw_small n w hn
  have step : ∀ (w s : Nat), w < 4 → s ≤ 300000000000000 → Ev (fun k => laws_FnDrillsTurn.l1 k (n : Int) f /- -/ B m b g way1 many b2 ((s + cwV n w : Nat) : Int) ((4 ^ n : Nat) : Int) ((w + 1 : Nat) : Int)) true → Ev (fun k => laws_FnDrillsTurn.l1 k (n : Int) f /- -/ B m b g way1 many b2 (s : Int) ((4 ^ n : Nat) : Int) (w : Int)) true := by
    intro w s hw hs h
    obtain ⟨r, e1, _, e3⟩ := cw_v (n : Int) (w : Int)
    obtain ⟨e4, rfl⟩ := e3 n w rfl rfl hn (by omega)
    rw [e4] at e1
    have hcw := hc w
    have q1 := wB2 s (cwV n w) (by omega)
    have q2 := wn1 w (by omega)
    have p1 : (w : Int) < 4 := by clear q1 q2; omega
    refine Ev.step (f := fun k => (impl_CountCommandWords.f k (n : Int) (w : Int)).bind fun bt263 => (if bt263.2 = true then (laws_FnDrillsTurn.l1 k (n : Int) f /- -/ B m b g way1 many b2 (wrap64 ((s : Int) + bt263.1)) ((4 ^ n : Nat) : Int) (wrap64 ((w : Int) + 1))) else (some false))) (fun k => by rw [laws_FnDrillsTurn.l1, if_pos p1]) (Ev.bind e1 (Ev.congr (fun k => if_pos rfl) ?_))
    rw [q1, q2]
    exact h
  have last : Ev (fun k => laws_FnDrillsTurn.l1 k (n : Int) f /- -/ B m b g way1 many b2 ((0 + cwV n 0 + cwV n 1 + cwV n 2 + cwV n 3 : Nat) : Int) ((4 ^ n : Nat) : Int) ((3 + 1 : Nat) : Int)) true := by
    have e : 0 + cwV n 0 + cwV n 1 + cwV n 2 + cwV n 3 = 4 ^ n := by have := cw_sum n; omega
    rw [e]
    exact Ev.step (fun k => by rw [laws_FnDrillsTurn.l1, if_neg (by decide), if_pos rfl]) h8
  have h0 := hc 0
  have h1 := hc 1
  have h2 := hc 2
  exact step 0 0 (by omega) (by omega) (step 1 _ (by omega) (by omega) (step 2 _ (by omega) (by omega) (step 3 _ (by omega) (by omega) last)))
theorem dt_l0 {n : Nat} (hn : n ≤ 24) (h1 : Ev (fun k => laws_FnDrillsTurn.l1 k (n : Int) f /- -/ B m b g way1 many b2 0 ((4 ^ n : Nat) : Int) 0) true) (d : Nat) : ∀ i : Nat, i + d = n → Ev (fun k => laws_FnDrillsTurn.l0 k (n : Int) f /- -/ B m b g way1 many b2 0 ((4 ^ i : Nat) : Int) (i : Int)) true := by
  induction d with
  | zero =>
    intro i hi
    obtain rfl : i = n := by omega
    exact Ev.step (fun k => by rw [laws_FnDrillsTurn.l0, if_neg (by omega)]) h1
  | succ d ih =>
    intro i hi
    have hp := p4_small i (by omega)
    have h := ih (i + 1) (by omega)
    have e1 : wrap64 (((4 ^ i : Nat) : Int) * 4) = ((4 ^ (i + 1) : Nat) : Int) := by
      rw [Nat.pow_succ]
      generalize 4 ^ i = q at hp ⊢
      clear h ih h1
      rw [w64 (by omega) (by omega)]
      omega
    have p1 : (i : Int) < (n : Int) := by clear e1; omega
    refine Ev.step (fun k => ?_) h
    rw [laws_FnDrillsTurn.l0, if_pos p1, e1, wn1 i (by clear e1; omega)]
end
theorem dt_j5 {f g B : ByteArray} {m many way1 len way : Int} {b b2 : Bool} (hfs : f.size ≤ 140737488351232) (h1 : b = true → facB f = true ∧ B.size = 1 ∧ IsMx f m) (h2 : b2 = true → facB g = true ∧ IsMx g many ∧ 0 ≤ way1 ∧ way1 < 4) : Ev (fun k => laws_FnDrillsTurn.j4 k len /- -/ (cwB len way) f B m b g way1 many b2 false) true := by
  have h8 := dt_j8 (B := B) (m := m) (b := b) (way1 := way1) (many := many) (b2 := b2) hfs h1 h2
  cases hc : cwB len way with
  | false => exact Ev.step (fun k => by rw [laws_FnDrillsTurn.j4, if_neg (by decide), if_neg (by decide)]) h8
  | true =>
    have hb : 0 ≤ len ∧ len ≤ 24 := by
      unfold cwB at hc
      simp only [Bool.and_eq_true, decide_eq_true_eq] at hc
      exact hc.1
    obtain ⟨n, rfl⟩ := Int.eq_ofNat_of_zero_le hb.1
    have h0 := dt_l0 (n := n) (by omega) (dt_l1 (by omega) h8) n 0 (by omega)
    refine Ev.step (fun k => ?_) h0
    rw [laws_FnDrillsTurn.j4, if_neg (by decide), if_pos rfl]
    rfl
/-- The second half's eight answers. -/
theorem dt_second (len way w : Int) (a b f g : ByteArray) (ha : a.size ≤ 140737488351232) (hb : b.size ≤ 140737488351232) (hf : f.size ≤ 140737488351232) (hg : g.size ≤ 140737488351232) : ∃ (c1 : Int × Bool) (c2 : ByteArray × Bool) (c3 : ByteArray × Int × Bool) (c4 : Int × Int × Bool),
    Ev (fun k => impl_CountCommandWords.f k len way) c1 ∧ Ev (fun k => spec_CountCommandWords.f k len way) c1 ∧ Ev (fun k => impl_CommandsBetween.f k a b) c2 ∧ Ev (fun k => spec_CommandsBetween.f k a b) c2 ∧ Ev (fun k => impl_BestCommand.f k f w) c3 ∧ Ev (fun k => spec_BestCommand.f k f w) c3 ∧ Ev (fun k => impl_MostFaced.f k g) c4 ∧ Ev (fun k => spec_MostFaced.f k g) c4 ∧
    Ev (fun k => laws_FnDrillsTurn.j4 k len /- -/ c1.2 f c3.1 c3.2.1 c3.2.2 g c4.1 c4.2.1 c4.2.2 false) true := by
  obtain ⟨r1, i1, s1, _⟩ := cw_v len way
  obtain ⟨r2, i2, s2, _⟩ := cb_v a b ha hb
  obtain ⟨B, m, bb, i3, s3, h3⟩ := bc_v f w hf
  obtain ⟨y, z, i4, s4, h4⟩ := mf_v g hg
  exact ⟨(r1, cwB len way), (r2, cbB a b), (B, m, bb), (y, z, facB g), i1, s1, i2, s2, i3, s3, i4, s4, dt_j5 hf h3 (fun h => ⟨h, h4 h⟩)⟩
theorem sv_extract (l : List Int) (i : Nat) (h : i < l.length) : (strOfNums l).extract i (i + 1) = strOfNums [l[i]] := by
  apply ByteArray.ext
  apply Array.ext'
  rw [sv_data, ByteArray.data_extract, Array.toList_extract, sv_data]
  simp only [List.extract_eq_take_drop, Nat.add_sub_cancel_left, List.map_cons, List.map_nil]
  have hl : i < (l.map fun x => UInt8.ofNat x.toNat).length := by rw [List.length_map]; exact h
  rw [List.drop_eq_getElem_cons hl, List.take_succ_cons, List.take_zero, List.getElem_map]
theorem wordOf_extract (M : List Nat) (i : Nat) (h : i < M.length) : (wordOf M).extract i (i + 1) = wordOf [M[i]] := by
  unfold wordOf
  rw [sv_extract _ i (by rw [List.length_map]; exact h), List.getElem_map]
  rfl
theorem facOf_extract (L : List Nat) (i : Nat) (h : i < L.length) : (facOf L).extract i (i + 1) = facOf [L[i]] := by
  unfold facOf
  rw [sv_extract _ i (by rw [List.length_map]; exact h), List.getElem_map]
  rfl
theorem isw_size {M : List Nat} {s : ByteArray} (h : IsW M s) : s.size ≤ 60 := wordB_size h.good
theorem isf_size {M : List Nat} {s : ByteArray} (h : IsF M s) : s.size ≤ 30 := (facB_size h.good).2
theorem turnLoop_ok (t n : Nat) (ht : t < 4) (hn : n ≤ 30) (d : Nat) : ∀ i : Nat, i + d = n → Ev (fun k => laws_turnLoop.l0 k (wordOf (List.replicate n t)) (t : Int) i) true := by
  have hz : (wordOf (List.replicate n t)).size = n := by rw [wordOf_size, List.length_replicate]
  have hg := sgn_four t
  induction d with
  | zero =>
    intro i hi
    exact Ev.step (f := fun _ => some true) (fun k => by rw [laws_turnLoop.l0, if_neg (by omega)]) (Ev.now _)
  | succ d ih =>
    intro i hi
    have hil : i < (List.replicate n t).length := by rw [List.length_replicate]; omega
    have hb := wordOf_bt _ i hil
    have he := wordOf_extract _ i hil
    rw [List.getElem_replicate] at hb he
    have hw : IsW [t] (wordOf [t]) := ⟨rfl, fun v hv => by simp at hv; omega, by simp⟩
    obtain ⟨r, e1, _, e3⟩ := nt_v (wordOf [t]) (by have := isw_size hw; omega)
    have hr := e3 [t] hw
    rw [hw.good] at e1
    have hs : ([t] : List Nat).sum % 4 = t := by simp; omega
    rw [hs] at hr
    subst hr
    have p1 : i < (wordOf (List.replicate n t)).size := by omega
    have p2 : bt (wordOf (List.replicate n t)) (i : Int) < 128 := by rw [hb]; omega
    refine Ev.step (f := fun k => (impl_NetTurn.f k (wordOf [t])).bind fun y => (if y.2 = true then (if y.1 = (t : Int) then laws_turnLoop.l0 k (wordOf (List.replicate n t)) (t : Int) (i + 1) else some false) else some false)) (fun k => by rw [laws_turnLoop.l0, if_pos p1, if_pos p2, he]) (Ev.bind e1 (Ev.congr (fun k => (if_pos rfl).trans (if_pos rfl)) (ih (i + 1) (by omega))))
theorem turnLoop_f (t n : Nat) (ht : t < 4) (hn : n ≤ 30) : Ev (fun k => laws_turnLoop.f k (wordOf (List.replicate n t)) (t : Int)) true := by
  have hz : (wordOf (List.replicate n t)).size = n := by rw [wordOf_size, List.length_replicate]
  unfold laws_turnLoop.f
  exact Ev.congr (fun k => if_pos (by omega)) (turnLoop_ok t n ht hn n 0 (by omega))
section
variable {x1 : List Int}
theorem dt_j3 (h4 : Ev (fun k => laws_FnDrillsTurn.j3 k x1) true) (t n : Nat) (ht : t < 4) (hn : n ≤ 30) : Ev (fun k => laws_FnDrillsTurn.j2 k x1 (t : Int) (wordOf (List.replicate n t)) false) true := by
  refine Ev.step (f := fun k => (laws_turnLoop.f k (wordOf (List.replicate n t)) (t : Int)).bind fun t242 => (if t242 = true then (laws_FnDrillsTurn.j3 k x1) else (some false))) (fun k => by rw [laws_FnDrillsTurn.j2, if_neg (by decide)]) (Ev.bind (turnLoop_f t n ht hn) (Ev.congr (fun k => if_pos rfl) h4))
theorem dt_j2 (h4 : Ev (fun k => laws_FnDrillsTurn.j3 k x1) true) (fac word : ByteArray) (after sh bk : ByteArray) (t : Int) (hok : (facB fac && wordB word) = true → ∃ L M, IsF L fac ∧ IsW M word ∧ after = facOf (addL (M.sum % 4) L) ∧ sh = wordOf (shortL (M.sum % 4)) ∧ bk = wordOf (M.map inv).reverse ∧ t = ((M.sum % 4 : Nat) : Int)) : Ev (fun k => laws_FnDrillsTurn.j1 k x1 fac after (facB fac && wordB word) t sh bk) true := by
  cases c : (facB fac && wordB word) with
  | false => exact Ev.step (fun k => by rw [laws_FnDrillsTurn.j1, if_neg (by decide)]) h4
  | true =>
    obtain ⟨L, M, hL, hM, ha, hs, hb, ht⟩ := hok c
    have hlt : M.sum % 4 < 4 := Nat.mod_lt _ (by omega)
    have hA : IsF (addL (M.sum % 4) L) after := by rw [ha]; exact isf_add hL (M.sum % 4)
    have hS : IsW (shortL (M.sum % 4)) sh := by rw [hs]; exact isw_short _ hlt
    have hB : IsW (M.map inv).reverse bk := by rw [hb]; exact isw_rev hM
    have hfs := isf_size hL
    have has := isf_size hA
    have hss := isw_size hS
    have hbs := isw_size hB
    obtain ⟨r1, e1, _, f1⟩ := fa_v after bk (by omega) (by omega)
    obtain ⟨r2, e2, _, f2⟩ := fa_v fac sh (by omega) (by omega)
    obtain ⟨r3, e3, _, f3⟩ := cb_v fac after (by omega) (by omega)
    rw [hA.good, hB.good] at e1
    rw [hL.good, hS.good] at e2
    have hlen : L.length = (addL (M.sum % 4) L).length := by unfold addL; rw [List.length_map]
    obtain ⟨g3, h3⟩ := f3 L _ hL hA hlen
    rw [g3] at e3
    have h1 := f1 _ _ hA hB
    have h2 := f2 _ _ hL hS
    have hsum := sum_inv M hM.2.1
    rw [sum_rev, add_back hL.2.1 _ _ (by omega), ← hL.1] at h1
    rw [short_sum, Nat.mod_eq_of_lt hlt, ← ha] at h2
    rw [diff_add L hL.2.1 _ hlt] at h3
    subst h1
    subst h2
    have hz : r3.size = r1.size := by rw [h3, wordOf_size, List.length_replicate, hL.1, facOf_size]
    have hne : (((r3.size : Nat) : Int) != ((r1.size : Nat) : Int)) = false := by rw [hz]; exact bne_self_eq_false _
    have h3' := dt_j3 h4 (M.sum % 4) L.length hlt hL.2.2.2
    rw [← h3, ← ht] at h3'
    refine Ev.step (f := fun k => (impl_FacingAfter.f k r2 bk).bind fun bt236 => ((impl_FacingAfter.f k r1 sh).bind fun bt238 => ((impl_CommandsBetween.f k r1 r2).bind fun bt240 => (if bt236.2 = true then (if bt236.1.toList = r1.toList then (if bt238.2 = true then (if bt238.1.toList = r2.toList then (if bt240.2 = true then (laws_FnDrillsTurn.j2 k x1 t bt240.1 ((bt240.1.size : Int) != (r1.size : Int))) else (laws_FnDrillsTurn.j2 k x1 t bt240.1 true)) else (laws_FnDrillsTurn.j2 k x1 t bt240.1 true)) else (laws_FnDrillsTurn.j2 k x1 t bt240.1 true)) else (laws_FnDrillsTurn.j2 k x1 t bt240.1 true)) else (laws_FnDrillsTurn.j2 k x1 t bt240.1 true))))) (fun k => by rw [laws_FnDrillsTurn.j1, if_pos rfl]) ?_
    refine Ev.bind e1 (Ev.bind e2 (Ev.bind e3 (Ev.congr (fun k => (if_pos rfl).trans ((if_pos rfl).trans ((if_pos rfl).trans ((if_pos rfl).trans (if_pos rfl))))) ?_)))
    simp only [hne]
    exact h3'
theorem dt_j1 (h4 : Ev (fun k => laws_FnDrillsTurn.j3 k x1) true) (fac word : ByteArray) (hword : word.size ≤ 140737488351232) (after sh bk mi : ByteArray) (t times : Int) (hok : (facB fac && wordB word) = true → ∃ L M, IsF L fac ∧ IsW M word ∧ after = facOf (addL (M.sum % 4) L)) (hone : ∀ M, IsW M word → sh = wordOf (shortL (M.sum % 4)) ∧ bk = wordOf (M.map inv).reverse ∧ mi = wordOf (M.map inv) ∧ t = ((M.sum % 4 : Nat) : Int) ∧ times = frontV (M.sum % 4)) : Ev (fun k => laws_FnDrillsTurn.j0 k x1 fac word after (facB fac && wordB word) t (wordB word) sh bk mi times false) true := by
  have h2 := dt_j2 h4 fac word after sh bk t (fun h => by
    obtain ⟨L, M, hL, hM, ha⟩ := hok h
    obtain ⟨a, b, _, d, _⟩ := hone M hM
    exact ⟨L, M, hL, hM, ha, a, b, d⟩)
  obtain ⟨ok, hokv⟩ : ∃ b, (facB fac && wordB word) = b := ⟨_, rfl⟩
  rw [hokv] at h2 ⊢
  cases hw : wordB word with
  | false => exact Ev.step (fun k => by rw [laws_FnDrillsTurn.j0, if_neg (by decide), if_neg (by decide)]) h2
  | true =>
    obtain ⟨M, hM⟩ := isw_of hw
    obtain ⟨hs, hb, hm, ht, htm⟩ := hone M hM
    have hlt : M.sum % 4 < 4 := Nat.mod_lt _ (by omega)
    have hS : IsW (shortL (M.sum % 4)) sh := by rw [hs]; exact isw_short _ hlt
    have hB : IsW (M.map inv).reverse bk := by rw [hb]; exact isw_rev hM
    have hI : IsW (M.map inv) mi := by rw [hm]; exact isw_inv hM
    have hss := isw_size hS
    have hbs := isw_size hB
    have hms := isw_size hI
    obtain ⟨r1, e1, _, f1⟩ := nt_v sh (by omega)
    obtain ⟨r2, e2, _, f2⟩ := nt_v bk (by omega)
    obtain ⟨r3, e3, _, f3⟩ := nt_v mi (by omega)
    obtain ⟨r4, e4, _, f4⟩ := mi_v mi (by omega)
    obtain ⟨r5, e5, _, f5⟩ := bk_v bk (by omega)
    rw [hS.good] at e1
    rw [hB.good] at e2 e5
    rw [hI.good] at e3 e4
    have g1 := f1 _ hS
    have g2 := f2 _ hB
    have g3 := f3 _ hI
    have g4 := f4 _ hI
    have g5 := f5 _ hB
    have hsum := sum_inv M hM.2.1
    rw [short_sum, Nat.mod_eq_of_lt hlt, ← ht] at g1
    rw [sum_rev] at g2
    rw [inv_inv M hM.2.1, ← hM.1] at g4
    rw [List.map_reverse, List.reverse_reverse, inv_inv M hM.2.1, ← hM.1] at g5
    have g6 : r3 = r2 := by rw [g2, g3]
    have hz1 : ¬ ((sh.size : Int) > 1) := by
      rw [hs, wordOf_size]
      unfold shortL
      split <;> simp
    have hz2 : ((bk.size : Nat) : Int) = ((word.size : Nat) : Int) := by rw [hb, hM.1, wordOf_size, wordOf_size, List.length_reverse, List.length_map]
    have ht0 : ¬ (t < 0) := by omega
    have ht3 : ¬ (t > 3) := by omega
    have hmod : Int.tmod (wrap64 (r2 + t)) 4 = 0 := by
      have hlt2 : (M.map inv).sum % 4 < 4 := Nat.mod_lt _ (by omega)
      rw [g2, ht, wn2 _ _ (by omega), tn4]
      omega
    have htv : times = 1 ∧ t = 0 ∨ times = 2 ∧ t = 2 ∨ times = 4 ∧ 0 ≤ t ∧ t ≤ 3 := by
      rw [htm, ht]
      unfold frontV
      split
      · left; omega
      · split
        · right; left; omega
        · right; right; omega
    have hq1 : ¬ (times < 1) := by omega
    have hq2 : Int.tmod (wrap64 (times * t)) 4 = 0 := by
      rcases htv with ⟨a, b⟩ | ⟨a, b⟩ | ⟨a, b, c⟩
      · rw [a, b]; decide +kernel
      · rw [a, b]; decide +kernel
      · have h' : t = 0 ∨ t = 1 ∨ t = 2 ∨ t = 3 := by omega
        rw [a]
        rcases h' with h | h | h | h <;> rw [h] <;> decide +kernel
    have hq3 : ¬ (times > 4) := by omega
    rw [g4] at e4
    rw [g5] at e5
    rw [g6] at e3
    rw [g1] at e1
    refine Ev.step (f := fun k => (impl_NetTurn.f k sh).bind fun bt226 => ((impl_NetTurn.f k bk).bind fun bt228 => ((impl_NetTurn.f k mi).bind fun bt230 => ((impl_MirrorCommands.f mi).bind fun bt232 => ((impl_BackCommands.f bk).bind fun bt234 => (if bt226.2 = true then (if bt226.1 = t then (if bt228.2 = true then (if (Int.tmod (wrap64 (bt228.1 + t)) 4) = 0 then (if bt230.2 = true then (if bt230.1 = bt228.1 then (if bt232.2 = true then (if bt232.1.toList = word.toList then (if bt234.2 = true then (if bt234.1.toList = word.toList then (laws_FnDrillsTurn.j1 k x1 fac after ok t sh bk) else (some false)) else (some false)) else (some false)) else (some false)) else (some false)) else (some false)) else (some false)) else (some false)) else (some false)) else (some false)))))))
      (fun k => by rw [laws_FnDrillsTurn.j0, if_neg (by decide), if_pos rfl]; simp only [if_neg ht0, if_neg ht3, if_neg hz1, if_pos hz2, if_neg hq1, if_pos hq2, if_neg hq3]) ?_
    refine Ev.bind e1 (Ev.bind e2 (Ev.bind e3 ?_))
    simp only [e4, e5, Option.bind_some, if_true, hmod]
    exact h2
end
/-- The first half's answers: all alike. -/
theorem dt_all (fac word : ByteArray) (hf : fac.size ≤ 140737488351232) (hw : word.size ≤ 140737488351232) : ∃ (after sh bk mi : ByteArray) (t times : Int),
    Ev (fun k => impl_FacingAfter.f k fac word) (after, facB fac && wordB word) ∧ Ev (fun k => spec_FacingAfter.f k fac word) (after, facB fac && wordB word) ∧ Ev (fun k => impl_NetTurn.f k word) (t, wordB word) ∧ Ev (fun k => spec_NetTurn.f k word) (t, wordB word) ∧ Ev (fun k => impl_ShortCommands.f k word) (sh, wordB word) ∧ Ev (fun k => spec_ShortCommands.f k word) (sh, wordB word) ∧
    impl_BackCommands.f word = some (bk, wordB word) ∧ Ev (fun k => spec_BackCommands.f k word) (bk, wordB word) ∧ impl_MirrorCommands.f word = some (mi, wordB word) ∧ Ev (fun k => spec_MirrorCommands.f k word) (mi, wordB word) ∧ Ev (fun k => impl_RepeatsToFront.f k word) (times, wordB word) ∧ Ev (fun k => spec_RepeatsToFront.f k word) (times, wordB word) ∧
    ((facB fac && wordB word) = true → ∃ L M, IsF L fac ∧ IsW M word ∧ after = facOf (addL (M.sum % 4) L)) ∧ (∀ M, IsW M word → sh = wordOf (shortL (M.sum % 4)) ∧ bk = wordOf (M.map inv).reverse ∧ mi = wordOf (M.map inv) ∧ t = ((M.sum % 4 : Nat) : Int) ∧ times = frontV (M.sum % 4)) := by
  obtain ⟨after, i1, s1, g1⟩ := fa_v fac word hf hw
  obtain ⟨t, i2, s2, g2⟩ := nt_v word hw
  obtain ⟨sh, i3, s3, g3⟩ := sc_v word hw
  obtain ⟨bk, i4, s4, g4⟩ := bk_v word hw
  obtain ⟨mi, i5, s5, g5⟩ := mi_v word hw
  obtain ⟨times, i6, s6, g6⟩ := rf_v word hw
  refine ⟨after, sh, bk, mi, t, times, i1, s1, i2, s2, i3, s3, i4, s4, i5, s5, i6, s6, fun h => ?_, fun M hM => ⟨g3 M hM, g4 M hM, g5 M hM, g2 M hM, g6 M hM⟩⟩
  have h' : facB fac = true ∧ wordB word = true := by simpa using h
  obtain ⟨L, hL⟩ := isf_of h'.1
  obtain ⟨M, hM⟩ := isw_of h'.2
  exact ⟨L, M, hL, hM, g1 L M hL hM⟩
/-- A byte that is masked. -/
theorem cur_mask (x : Int) : 0 ≤ Go.bits .and .u64 x 255 ∧ Go.bits .and .u64 x 255 ≤ 255 := by
  unfold Go.bits
  simp only []
  have h1 : (BitVec.ofInt IntKind.u64.bits x &&& BitVec.ofInt IntKind.u64.bits 255).toNat ≤ 255 := by
    rw [BitVec.toNat_and]
    have e : (BitVec.ofInt IntKind.u64.bits 255).toNat = 255 := by decide
    rw [e]
    exact Nat.and_le_right
  obtain ⟨n, hn⟩ : ∃ n, (BitVec.ofInt IntKind.u64.bits x &&& BitVec.ofInt IntKind.u64.bits 255).toNat = n := ⟨_, rfl⟩
  rw [hn] at h1 ⊢
  have e2 : IntKind.u64.wrap (n : Int) = n := by
    have e3 : IntKind.u64.wrap (n : Int) = (n : Int) % 18446744073709551616 := rfl
    rw [e3]
    omega
  rw [e2]
  omega
section
variable {code : List Int} (hc : ∀ x ∈ code, 0 ≤ x ∧ x ≤ 255)
include hc
theorem cur_next (at_ seed : Int) (h0 : 0 ≤ at_) (h1 : at_ ≤ 1000000000) : ∃ r s, spec_l1Cur_next.f code at_ seed = some (r, at_ + 1, s) ∧ 0 ≤ r ∧ r ≤ 255 := by
  have w1 : wrap64 (at_ + 1) = at_ + 1 := w64 (by omega) (by omega)
  unfold spec_l1Cur_next.f
  rw [w1]
  by_cases c1 : at_ < (code.length : Int)
  · rw [if_pos c1, if_pos h0]
    have hb : 0 ≤ rd code at_ ∧ rd code at_ ≤ 255 := by
      have hl : at_.toNat < code.length := by omega
      have e : rd code at_ = code[at_.toNat] := by simp [rd, hl]
      rw [e]
      exact hc _ (List.getElem_mem hl)
    by_cases c2 : at_ + 1 ≤ (code.length : Int)
    · rw [if_pos c2]
      refine ⟨_, _, rfl, ?_, ?_⟩ <;> rw [w64 (by omega) (by omega)] <;> omega
    · omega
  · rw [if_neg c1]
    by_cases c2 : at_ + 1 ≤ (code.length : Int)
    · omega
    · rw [if_neg c2]
      obtain ⟨m1, m2⟩ := cur_mask ((IntKind.u64.wrap ((IntKind.u64.wrap ((IntKind.u64.wrap (seed * 6364136223846793005)) + 0)) + 1442695040888963407)) / 1099511627776)
      refine ⟨_, _, rfl, ?_, ?_⟩ <;> rw [w64 (by omega) (by omega)] <;> omega
theorem cur_pick (at_ seed n : Int) (hn : 1 ≤ n) (hn2 : n ≤ 1000000) (h0 : 0 ≤ at_) (h1 : at_ ≤ 900000000) : ∃ r a s, spec_l1Cur_pick.f code at_ seed n = some (r, a, s) ∧ 0 ≤ r ∧ r < n ∧ at_ ≤ a ∧ a ≤ at_ + 2 := by
  unfold spec_l1Cur_pick.f
  by_cases c1 : n ≤ 1
  · rw [if_pos c1]
    exact ⟨0, at_, seed, rfl, by omega, by omega, by omega, by omega⟩
  · rw [if_neg c1]
    obtain ⟨r1, s1, e1, a1, a2⟩ := cur_next hc at_ seed h0 (by omega)
    obtain ⟨m, rfl⟩ := Int.eq_ofNat_of_zero_le (show 0 ≤ n by omega)
    have hm : ∀ x : Int, 0 ≤ x → 0 ≤ Int.tmod x (m : Int) ∧ Int.tmod x (m : Int) < (m : Int) := fun x hx => by
      obtain ⟨y, rfl⟩ := Int.eq_ofNat_of_zero_le hx
      have e : Int.tmod (y : Int) (m : Int) = ((y % m : Nat) : Int) := rfl
      have := Nat.mod_lt y (show m > 0 by omega)
      rw [e]
      omega
    rw [e1]
    simp only [Option.bind_some]
    by_cases c2 : (m : Int) > 200
    · rw [if_pos c2]
      obtain ⟨r2, s2, e2, b1, b2⟩ := cur_next hc (at_ + 1) s1 (by omega) (by omega)
      rw [e2]
      simp only [Option.bind_some]
      rw [if_neg (by omega)]
      have w1 : wrap64 (r1 * 256) = r1 * 256 := w64 (by omega) (by omega)
      rw [w1, w64 (by omega) (by omega)]
      obtain ⟨q1, q2⟩ := hm (r1 * 256 + r2) (by omega)
      exact ⟨_, _, _, rfl, q1, q2, by omega, by omega⟩
    · rw [if_neg c2, if_neg (by omega)]
      obtain ⟨q1, q2⟩ := hm r1 a1
      exact ⟨_, _, _, rfl, q1, q2, by omega, by omega⟩
end
theorem cx_size (s : ByteArray) (a b : Nat) : (s.extract a b).size ≤ s.size := by
  rw [ByteArray.size_extract]
  omega
section
variable {code : List Int} (hc : ∀ x ∈ code, 0 ≤ x ∧ x ≤ 255)
include hc
theorem cur_of (at_ seed : Int) (l : List ByteArray) (hl : 1 ≤ l.length) (hl2 : l.length ≤ 1000000) (h0 : 0 ≤ at_) (h1 : at_ ≤ 900000000) : ∃ r a s, spec_l1Cur_of.f code at_ seed l = some (r, a, s) ∧ r ∈ l ∧ at_ ≤ a ∧ a ≤ at_ + 2 := by
  unfold spec_l1Cur_of.f
  obtain ⟨r, a, s, e, q1, q2, q3, q4⟩ := cur_pick hc at_ seed (l.length : Int) (by omega) (by omega) h0 h1
  rw [e]
  simp only [Option.bind_some]
  rw [if_pos q1, if_pos q2]
  refine ⟨_, _, _, rfl, ?_, q3, q4⟩
  have hlt : r.toNat < l.length := by omega
  have e2 : rdOf ByteArray.empty l r = l[r.toNat] := by simp [rdOf, hlt]
  rw [e2]
  exact List.getElem_mem hlt
theorem spoilt_l0 (with_ : ByteArray) (hw1 : 1 ≤ with_.size) (hw2 : with_.size ≤ 1000) (n : Nat) : ∀ (t : ByteArray) (at_ seed : Int), t.size + n ≤ 1000 → 0 ≤ at_ → at_ + 6 * n ≤ 1000000 → n ≤ 100 → ∃ r a s, Ev (fun k => spec_l1Cur_spoilt.l0 k t with_ (n : Int) code at_ seed) (r, a, s) ∧ r.size ≤ t.size + n ∧ at_ ≤ a ∧ a ≤ at_ + 6 * n := by
  induction n with
  | zero =>
    intro t at_ seed ht h0 h1 hn
    refine ⟨t, at_, seed, Ev.step (f := fun k => spec_l1Cur_spoilt.j1 k t with_ ((0 : Nat) : Int) false code at_ seed) (fun k => ?_) (Ev.step (f := fun _ => some (t, at_, seed)) (fun k => by rw [spec_l1Cur_spoilt.j1, if_neg (by decide)]) (Ev.now _)), by omega, by omega, by omega⟩
    rw [spec_l1Cur_spoilt.l0, if_neg (by decide)]
  | succ n ih =>
    intro t at_ seed ht h0 h1 hn
    have p1 : ((n + 1 : Nat) : Int) > 0 := by omega
    have hdn : wrap64 (((n + 1 : Nat) : Int) - 1) = (n : Int) := by rw [w64 (by omega) (by omega)]; omega
    by_cases hs : (t.size : Int) > 0
    · obtain ⟨i, a1, s1, e1, i1, i2, i3, i4⟩ := cur_pick hc at_ seed (t.size : Int) (by omega) (by omega) h0 (by omega)
      obtain ⟨j, a2, s2, e2, j1, j2, j3, j4⟩ := cur_pick hc a1 s1 (with_.size : Int) (by omega) (by omega) (by omega) (by omega)
      obtain ⟨c, a3, s3, e3, c1, c2, c3, c4⟩ := cur_pick hc a2 s2 3 (by omega) (by omega) (by omega) (by omega)
      have hi1 : wrap64 (i + 1) = i + 1 := w64 (by omega) (by omega)
      have z1 := cx_size t 0 i.toNat
      have z2 := cx_size t i.toNat t.size
      have z3 := cx_size t (i + 1).toNat t.size
      have y1 : (t.extract 0 i.toNat).size = i.toNat := by rw [ByteArray.size_extract]; omega
      have y2 : (t.extract i.toNat t.size).size = t.size - i.toNat := by rw [ByteArray.size_extract]; omega
      have y3 : (t.extract (i + 1).toNat t.size).size = t.size - (i.toNat + 1) := by rw [ByteArray.size_extract]; omega
      have yw : (strOfNums [bt with_ j]).size = 1 := by rw [strOfNums_size]; rfl
      have go : ∃ t2 : ByteArray, t2.size ≤ t.size + 1 ∧ ∀ k, spec_l1Cur_spoilt.j1 (k + 1) t with_ ((n + 1 : Nat) : Int) true code at_ seed = spec_l1Cur_spoilt.l0 k t2 with_ (n : Int) code a3 s3 := by
        by_cases k0 : c = 0
        · refine ⟨((t.extract 0 i.toNat) ++ (strOfNums [bt with_ j])) ++ (t.extract i.toNat t.size), by rw [ByteArray.size_append, ByteArray.size_append]; omega, fun k => ?_⟩
          rw [spec_l1Cur_spoilt.j1, if_pos rfl, e1]
          simp only [Option.bind_some]
          rw [e2]
          simp only [Option.bind_some]
          rw [if_pos j1, if_pos j2, e3]
          simp only [Option.bind_some]
          rw [if_pos k0, if_pos i1, if_pos (by omega), if_pos (by omega), if_pos (by rw [ByteArray.size_append]; omega), hdn]
        · by_cases k1 : c = 1
          · refine ⟨((t.extract 0 i.toNat) ++ (strOfNums [bt with_ j])) ++ (t.extract (i + 1).toNat t.size), by rw [ByteArray.size_append, ByteArray.size_append]; omega, fun k => ?_⟩
            rw [spec_l1Cur_spoilt.j1, if_pos rfl, e1]
            simp only [Option.bind_some]
            rw [e2]
            simp only [Option.bind_some]
            rw [if_pos j1, if_pos j2, e3]
            simp only [Option.bind_some]
            rw [if_neg k0, if_pos k1, if_pos i1, if_pos (by omega), if_pos (by omega), hi1, if_pos (by omega), if_pos (by omega), if_pos (by rw [ByteArray.size_append]; omega), hdn]
          · refine ⟨(t.extract 0 i.toNat) ++ (t.extract (i + 1).toNat t.size), by rw [ByteArray.size_append]; omega, fun k => ?_⟩
            rw [spec_l1Cur_spoilt.j1, if_pos rfl, e1]
            simp only [Option.bind_some]
            rw [e2]
            simp only [Option.bind_some]
            rw [if_pos j1, if_pos j2, e3]
            simp only [Option.bind_some]
            rw [if_neg k0, if_neg k1, if_pos i1, if_pos (by omega), hi1, if_pos (by omega), if_pos (by omega), if_pos (by omega), hdn]
      obtain ⟨t2, ht2, hgo⟩ := go
      obtain ⟨r, a, s, hE, hr, ha1, ha2⟩ := ih t2 a3 s3 (by omega) (by omega) (by omega) (by omega)
      exact ⟨r, a, s, Ev.step (f := fun k => spec_l1Cur_spoilt.j1 k t with_ ((n + 1 : Nat) : Int) true code at_ seed) (fun k => by rw [spec_l1Cur_spoilt.l0, if_pos p1, decide_eq_true hs]) (Ev.step hgo hE), by omega, by omega, by omega⟩
    · refine ⟨t, at_, seed, Ev.step (f := fun k => spec_l1Cur_spoilt.j1 k t with_ ((n + 1 : Nat) : Int) false code at_ seed) (fun k => ?_) (Ev.step (f := fun _ => some (t, at_, seed)) (fun k => by rw [spec_l1Cur_spoilt.j1, if_neg (by decide)]) (Ev.now _)), by omega, by omega, by omega⟩
      rw [spec_l1Cur_spoilt.l0, if_pos p1, decide_eq_false hs]
theorem cur_spoilt (t with_ : ByteArray) (hw1 : 1 ≤ with_.size) (hw2 : with_.size ≤ 1000) (ht : t.size ≤ 900) (at_ seed : Int) (h0 : 0 ≤ at_) (h1 : at_ ≤ 900000) : ∃ r a s, Ev (fun k => spec_l1Cur_spoilt.f k code at_ seed t with_) (r, a, s) ∧ r.size ≤ t.size + 2 ∧ at_ ≤ a ∧ a ≤ at_ + 20 := by
  obtain ⟨i, a1, s1, e1, i1, i2, i3, i4⟩ := cur_pick hc at_ seed 2 (by omega) (by omega) h0 (by omega)
  obtain ⟨n, hn⟩ := Int.eq_ofNat_of_zero_le (show 0 ≤ 1 + i by omega)
  obtain ⟨r, a, s, hE, hr, ha1, ha2⟩ := spoilt_l0 hc with_ hw1 hw2 n t a1 s1 (by omega) (by omega) (by omega) (by omega)
  refine ⟨r, a, s, Ev.congr (fun k => ?_) hE, by omega, by omega, by omega⟩
  unfold spec_l1Cur_spoilt.f
  rw [e1]
  simp only [Option.bind_some]
  rw [w64 (by omega) (by omega), hn]
theorem facing_l0 (n : Nat) : ∀ (t : ByteArray) (at_ seed : Int), t.size + n ≤ 100 → 0 ≤ at_ → at_ + 2 * n ≤ 100000 → n ≤ 100 → ∃ r a s, Ev (fun k => spec_l1Cur_facing.l0 k t (n : Int) code at_ seed) (r, a, s) ∧ r.size ≤ 110 ∧ at_ ≤ a ∧ a ≤ at_ + 2 * n + 40 := by
  induction n with
  | zero =>
    intro t at_ seed ht h0 h1 hn
    obtain ⟨c, a1, s1, e1, c1, c2, c3, c4⟩ := cur_pick hc at_ seed 18 (by omega) (by omega) h0 (by omega)
    by_cases k0 : c = 0
    · obtain ⟨r, a, s, e2, hr, q1, q2⟩ := cur_of hc a1 s1 ([(⟨#[]⟩ : ByteArray), (⟨#[52]⟩ : ByteArray), (⟨#[48, 49, 120]⟩ : ByteArray), (⟨#[48, 48, 48, 48, 48, 48, 48, 48, 48, 48, 48, 48, 48, 48, 48, 48, 48, 48, 48, 48, 48, 48, 48, 48, 48, 48, 48, 48, 48, 48, 48]⟩ : ByteArray), (⟨#[48, 49, 50, 51, 48, 49, 50, 51, 48, 49, 50, 51, 48, 49, 50, 51, 48, 49, 50, 51, 48, 49, 50, 51, 48, 49, 50, 51, 48, 49]⟩ : ByteArray)] : List ByteArray) (by simp) (by simp) (by omega) (by omega)
      have hz : r.size ≤ 31 := by
        simp only [List.mem_cons, List.not_mem_nil, or_false] at hr
        rcases hr with rfl | rfl | rfl | rfl | rfl <;> decide
      refine ⟨r, a, s, Ev.step (f := fun _ => some (r, a, s)) (fun k => ?_) (Ev.now _), by omega, by omega, by omega⟩
      rw [spec_l1Cur_facing.l0, if_neg (by decide), e1]
      simp only [Option.bind_some]
      rw [if_pos k0, e2]
      rfl
    · by_cases k1 : c = 1
      · obtain ⟨r, a, s, hE, hr, q1, q2⟩ := cur_spoilt hc t (⟨#[48, 49, 50, 51, 120]⟩ : ByteArray) (by decide) (by decide) (by omega) a1 s1 (by omega) (by omega)
        refine ⟨r, a, s, Ev.step (f := fun k => (spec_l1Cur_spoilt.f k code a1 s1 t (⟨#[48, 49, 50, 51, 120]⟩ : ByteArray)).bind fun bt238 => (some (bt238.1, bt238.2.1, bt238.2.2))) (fun k => ?_) (Ev.bind hE (Ev.now _)), by omega, by omega, by omega⟩
        rw [spec_l1Cur_facing.l0, if_neg (by decide), e1]
        simp only [Option.bind_some]
        rw [if_neg k0, if_pos k1]
      · refine ⟨t, a1, s1, Ev.step (f := fun _ => some (t, a1, s1)) (fun k => ?_) (Ev.now _), by omega, by omega, by omega⟩
        rw [spec_l1Cur_facing.l0, if_neg (by decide), e1]
        simp only [Option.bind_some]
        rw [if_neg k0, if_neg k1]
  | succ n ih =>
    intro t at_ seed ht h0 h1 hn
    have p1 : ((n + 1 : Nat) : Int) > 0 := by omega
    have hdn : wrap64 (((n + 1 : Nat) : Int) - 1) = (n : Int) := by rw [w64 (by omega) (by omega)]; omega
    obtain ⟨c, a1, s1, e1, hr, q1, q2⟩ := cur_of hc at_ seed ([(⟨#[48]⟩ : ByteArray), (⟨#[49]⟩ : ByteArray), (⟨#[50]⟩ : ByteArray), (⟨#[51]⟩ : ByteArray)] : List ByteArray) (by simp) (by simp) h0 (by omega)
    have hz : c.size = 1 := by
      simp only [List.mem_cons, List.not_mem_nil, or_false] at hr
      rcases hr with rfl | rfl | rfl | rfl <;> decide
    have hts : (t ++ c).size = t.size + 1 := by rw [ByteArray.size_append, hz]
    obtain ⟨r, a, s, hE, h2, h3, h4⟩ := ih (t ++ c) a1 s1 (by omega) (by omega) (by omega) (by omega)
    refine ⟨r, a, s, Ev.step (fun k => ?_) hE, h2, by omega, by omega⟩
    rw [spec_l1Cur_facing.l0, if_pos p1]
    rw [e1]
    simp only [Option.bind_some]
    rw [if_pos (by omega), hdn]
theorem cur_facing (at_ seed : Int) (h0 : 0 ≤ at_) (h1 : at_ ≤ 90000) : ∃ r a s, Ev (fun k => spec_l1Cur_facing.f k code at_ seed) (r, a, s) ∧ r.size ≤ 110 ∧ at_ ≤ a ∧ a ≤ at_ + 100 := by
  obtain ⟨i, a1, s1, e1, i1, i2, i3, i4⟩ := cur_pick hc at_ seed 7 (by omega) (by omega) h0 (by omega)
  obtain ⟨n, hn⟩ := Int.eq_ofNat_of_zero_le (show 0 ≤ 1 + i by omega)
  have hz : (⟨#[]⟩ : ByteArray).size = 0 := rfl
  obtain ⟨r, a, s, hE, hr, ha1, ha2⟩ := facing_l0 hc n (⟨#[]⟩ : ByteArray) a1 s1 (by omega) (by omega) (by omega) (by omega)
  refine ⟨r, a, s, Ev.congr (fun k => ?_) hE, by omega, by omega, by omega⟩
  unfold spec_l1Cur_facing.f
  rw [e1]
  simp only [Option.bind_some]
  rw [w64 (by omega) (by omega), hn]
theorem commands_l1 (d : Nat) : ∀ (t : ByteArray) (at_ seed : Int), 61 ≤ t.size + d → t.size ≤ 100 → 0 ≤ at_ → at_ + 4 * d ≤ 1000000 → ∃ r a s, Ev (fun k => spec_l1Cur_commands.l1 k t code at_ seed) (r, a, s) ∧ r.size ≤ 110 ∧ at_ ≤ a ∧ a ≤ at_ + 4 * d + 4 := by
  induction d with
  | zero =>
    intro t at_ seed ht ht2 h0 h1
    obtain ⟨i, a1, s1, e1, i1, i2, i3, i4⟩ := cur_pick hc at_ seed 2 (by omega) (by omega) h0 (by omega)
    refine ⟨t, a1, s1, Ev.step (f := fun _ => some (t, a1, s1)) (fun k => ?_) (Ev.now _), by omega, by omega, by omega⟩
    rw [spec_l1Cur_commands.l1, e1]
    simp only [Option.bind_some]
    rw [w64 (by omega) (by omega), if_neg (by omega)]
  | succ d ih =>
    intro t at_ seed ht ht2 h0 h1
    obtain ⟨i, a1, s1, e1, i1, i2, i3, i4⟩ := cur_pick hc at_ seed 2 (by omega) (by omega) h0 (by omega)
    by_cases c : (t.size : Int) < 60 + i
    · obtain ⟨x, a2, s2, e2, hr, q1, q2⟩ := cur_of hc a1 s1 ([(⟨#[76]⟩ : ByteArray), (⟨#[82]⟩ : ByteArray)] : List ByteArray) (by simp) (by simp) (by omega) (by omega)
      have hz : x.size = 1 := by
        simp only [List.mem_cons, List.not_mem_nil, or_false] at hr
        rcases hr with rfl | rfl <;> decide
      have hts : (t ++ x).size = t.size + 1 := by rw [ByteArray.size_append, hz]
      obtain ⟨r, a, s, hE, h2, h3, h4⟩ := ih (t ++ x) a2 s2 (by omega) (by omega) (by omega) (by omega)
      refine ⟨r, a, s, Ev.step (fun k => ?_) hE, h2, by omega, by omega⟩
      rw [spec_l1Cur_commands.l1, e1]
      simp only [Option.bind_some]
      rw [w64 (by omega) (by omega), if_pos c, e2]
      simp only [Option.bind_some]
      rw [if_pos (by omega)]
    · refine ⟨t, a1, s1, Ev.step (f := fun _ => some (t, a1, s1)) (fun k => ?_) (Ev.now _), by omega, by omega, by omega⟩
      rw [spec_l1Cur_commands.l1, e1]
      simp only [Option.bind_some]
      rw [w64 (by omega) (by omega), if_neg c]
theorem commands_l0 (n : Nat) : ∀ (t : ByteArray) (at_ seed : Int), t.size + n ≤ 60 → 0 ≤ at_ → at_ + 2 * n ≤ 100000 → n ≤ 60 → ∃ r a s, Ev (fun k => spec_l1Cur_commands.l0 k t (n : Int) code at_ seed) (r, a, s) ∧ r.size ≤ 110 ∧ at_ ≤ a ∧ a ≤ at_ + 2 * n + 300 := by
  induction n with
  | zero =>
    intro t at_ seed ht h0 h1 hn
    obtain ⟨c, a1, s1, e1, c1, c2, c3, c4⟩ := cur_pick hc at_ seed 18 (by omega) (by omega) h0 (by omega)
    by_cases k0 : c = 0
    · obtain ⟨r, a, s, hE, hr, q1, q2⟩ := cur_spoilt hc t (⟨#[76, 82, 65, 83, 120]⟩ : ByteArray) (by decide) (by decide) (by omega) a1 s1 (by omega) (by omega)
      refine ⟨r, a, s, Ev.step (f := fun k => (spec_l1Cur_spoilt.f k code a1 s1 t (⟨#[76, 82, 65, 83, 120]⟩ : ByteArray)).bind fun bt253 => (some (bt253.1, bt253.2.1, bt253.2.2))) (fun k => ?_) (Ev.bind hE (Ev.now _)), by omega, by omega, by omega⟩
      rw [spec_l1Cur_commands.l0, if_neg (by decide), e1]
      simp only [Option.bind_some]
      rw [if_pos k0]
    · by_cases k1 : c = 1
      · obtain ⟨r, a, s, hE, hr, q1, q2⟩ := commands_l1 hc 61 t a1 s1 (by omega) (by omega) (by omega) (by omega)
        refine ⟨r, a, s, Ev.step (fun k => ?_) hE, by omega, by omega, by omega⟩
        rw [spec_l1Cur_commands.l0, if_neg (by decide), e1]
        simp only [Option.bind_some]
        rw [if_neg k0, if_pos k1]
      · refine ⟨t, a1, s1, Ev.step (f := fun _ => some (t, a1, s1)) (fun k => ?_) (Ev.now _), by omega, by omega, by omega⟩
        rw [spec_l1Cur_commands.l0, if_neg (by decide), e1]
        simp only [Option.bind_some]
        rw [if_neg k0, if_neg k1]
  | succ n ih =>
    intro t at_ seed ht h0 h1 hn
    have p1 : ((n + 1 : Nat) : Int) > 0 := by omega
    have hdn : wrap64 (((n + 1 : Nat) : Int) - 1) = (n : Int) := by rw [w64 (by omega) (by omega)]; omega
    obtain ⟨c, a1, s1, e1, hr, q1, q2⟩ := cur_of hc at_ seed ([(⟨#[76]⟩ : ByteArray), (⟨#[82]⟩ : ByteArray), (⟨#[65]⟩ : ByteArray), (⟨#[83]⟩ : ByteArray)] : List ByteArray) (by simp) (by simp) h0 (by omega)
    have hz : c.size = 1 := by
      simp only [List.mem_cons, List.not_mem_nil, or_false] at hr
      rcases hr with rfl | rfl | rfl | rfl <;> decide
    have hts : (t ++ c).size = t.size + 1 := by rw [ByteArray.size_append, hz]
    obtain ⟨r, a, s, hE, h2, h3, h4⟩ := ih (t ++ c) a1 s1 (by omega) (by omega) (by omega) (by omega)
    refine ⟨r, a, s, Ev.step (fun k => ?_) hE, h2, by omega, by omega⟩
    rw [spec_l1Cur_commands.l0, if_pos p1]
    rw [e1]
    simp only [Option.bind_some]
    rw [if_pos (by omega), hdn]
theorem cur_commands (at_ seed : Int) (h0 : 0 ≤ at_) (h1 : at_ ≤ 90000) : ∃ r a s, Ev (fun k => spec_l1Cur_commands.f k code at_ seed) (r, a, s) ∧ r.size ≤ 110 ∧ at_ ≤ a ∧ a ≤ at_ + 400 := by
  obtain ⟨i, a1, s1, e1, i1, i2, i3, i4⟩ := cur_pick hc at_ seed 10 (by omega) (by omega) h0 (by omega)
  obtain ⟨n, hn⟩ := Int.eq_ofNat_of_zero_le i1
  have hz : (⟨#[]⟩ : ByteArray).size = 0 := rfl
  obtain ⟨r, a, s, hE, hr, ha1, ha2⟩ := commands_l0 hc n (⟨#[]⟩ : ByteArray) a1 s1 (by omega) (by omega) (by omega) (by omega)
  refine ⟨r, a, s, Ev.congr (fun k => ?_) hE, by omega, by omega, by omega⟩
  unfold spec_l1Cur_commands.f
  rw [e1]
  simp only [Option.bind_some]
  rw [hn]
end
section
variable {code : List Int} (hc : ∀ x ∈ code, 0 ≤ x ∧ x ≤ 255)
include hc
theorem cur_one' (at_ seed n : Int) (hn : 1 ≤ n) (hn2 : n ≤ 1000000) (h0 : 0 ≤ at_) (h1 : at_ ≤ 900000000) : ∃ r a s, spec_l1Cur_one.f code at_ seed n = some (r, a, s) ∧ at_ ≤ a ∧ a ≤ at_ + 2 := by
  obtain ⟨r, a, s, e, q1, q2, q3, q4⟩ := cur_pick hc at_ seed n hn hn2 h0 h1
  refine ⟨r == 0, a, s, ?_, q3, q4⟩
  unfold spec_l1Cur_one.f
  rw [e]
  rfl
theorem draw_fa : ∃ r, Ev (fun k => spec_DrawFacingAfter.f k code) r ∧ r.1.size ≤ 110 ∧ r.2.size ≤ 110 := by
  obtain ⟨r, a, s, e1, h1, q1, q2⟩ := cur_facing hc 0 0 (by omega) (by omega)
  obtain ⟨r2, a2, s2, e2, h2, _, _⟩ := cur_commands hc a s (by omega) (by omega)
  refine ⟨(r, r2), ?_, h1, h2⟩
  unfold spec_DrawFacingAfter.f
  exact Ev.bind e1 (Ev.bind e2 (Ev.now _))
theorem draw_mf : ∃ r, Ev (fun k => spec_DrawMostFaced.f k code) r ∧ r.size ≤ 110 := by
  obtain ⟨r, a, s, e1, h1, q1, q2⟩ := cur_facing hc 0 0 (by omega) (by omega)
  refine ⟨r, ?_, h1⟩
  unfold spec_DrawMostFaced.f spec_DrawAreFacing.f
  exact Ev.bind (Ev.bind e1 (Ev.now _)) (Ev.now _)
theorem draw_cw : ∃ r, spec_DrawCountCommandWords.f code = some r := by
  obtain ⟨r1, a1, s1, e1, _, _, q1, q2⟩ := cur_pick hc 0 0 27 (by omega) (by omega) (by omega) (by omega)
  obtain ⟨r2, a2, s2, e2, _, _, q3, q4⟩ := cur_pick hc a1 s1 5 (by omega) (by omega) (by omega) (by omega)
  obtain ⟨r3, a3, s3, e3, _, _, _, _⟩ := cur_pick hc a2 s2 9 (by omega) (by omega) (by omega) (by omega)
  refine ⟨(wrap64 (r1 - 1), wrap64 (r2 - wrap64 (Int.tdiv r3 8))), ?_⟩
  unfold spec_DrawCountCommandWords.f
  rw [e1]
  simp only [Option.bind_some]
  rw [e2]
  simp only [Option.bind_some]
  rw [e3]
  rfl
theorem draw_bc : ∃ r, Ev (fun k => spec_DrawBestCommand.f k code) r ∧ r.1.size ≤ 110 := by
  obtain ⟨r, a, s, e1, h1, q1, q2⟩ := cur_facing hc 0 0 (by omega) (by omega)
  obtain ⟨r2, a2, s2, e2, _, _, q3, q4⟩ := cur_pick hc a s 5 (by omega) (by omega) (by omega) (by omega)
  obtain ⟨r3, a3, s3, e3, _, _, _, _⟩ := cur_pick hc a2 s2 9 (by omega) (by omega) (by omega) (by omega)
  refine ⟨(r, wrap64 (r2 - wrap64 (Int.tdiv r3 8))), ?_, h1⟩
  unfold spec_DrawBestCommand.f
  refine Ev.bind e1 ?_
  refine Ev.congr (fun k => ?_) (Ev.now _)
  rw [e2]
  simp only [Option.bind_some]
  rw [e3]
  rfl
theorem dcb_l0 (s : ByteArray) (d : Nat) : ∀ (t : ByteArray) (a b : Int) (i : Nat), s.size ≤ i + d → t.size + d ≤ 1000 → 0 ≤ a → a + 2 * d ≤ 1000000 → ∃ r, Ev (fun k => spec_DrawCommandsBetween.l0 k code s t a b i) (s, r) ∧ r.size ≤ 1000 := by
  induction d with
  | zero =>
    intro t a b i hi ht _ _
    exact ⟨t, Ev.step (f := fun _ => some (s, t)) (fun k => by rw [spec_DrawCommandsBetween.l0, if_neg (by omega)]) (Ev.now _), by omega⟩
  | succ d ih =>
    intro t a b i hi ht h0 h1
    by_cases c : i < s.size
    · obtain ⟨x, a1, s1, e1, hr, q1, q2⟩ := cur_of hc a b ([(⟨#[48]⟩ : ByteArray), (⟨#[49]⟩ : ByteArray), (⟨#[50]⟩ : ByteArray), (⟨#[51]⟩ : ByteArray)] : List ByteArray) (by simp) (by simp) h0 (by omega)
      have hz : x.size = 1 := by
        simp only [List.mem_cons, List.not_mem_nil, or_false] at hr
        rcases hr with rfl | rfl | rfl | rfl <;> decide
      have hts : (t ++ x).size = t.size + 1 := by rw [ByteArray.size_append, hz]
      have hw := Lib.decode_width_pos s i c
      obtain ⟨r, hE, h2⟩ := ih (t ++ x) a1 s1 (i + (Utf8.decode s i).2) (by omega) (by omega) (by omega) (by omega)
      refine ⟨r, Ev.step (fun k => ?_) hE, h2⟩
      rw [spec_DrawCommandsBetween.l0, if_pos c, e1]
      simp only [Option.bind_some]
      rw [if_pos (by omega)]
    · exact ⟨t, Ev.step (f := fun _ => some (s, t)) (fun k => by rw [spec_DrawCommandsBetween.l0, if_neg c]) (Ev.now _), by omega⟩
theorem draw_cb : ∃ r, Ev (fun k => spec_DrawCommandsBetween.f k code) r ∧ r.1.size ≤ 110 ∧ r.2.size ≤ 1000 := by
  obtain ⟨r, a, s, e1, h1, q1, q2⟩ := cur_facing hc 0 0 (by omega) (by omega)
  obtain ⟨b, a2, s2, e2, q3, q4⟩ := cur_one' hc a s 4 (by omega) (by omega) (by omega) (by omega)
  cases b with
  | true =>
    obtain ⟨r3, a3, s3, e3, h3, _, _⟩ := cur_facing hc a2 s2 (by omega) (by omega)
    refine ⟨(r, r3), ?_, h1, by show r3.size ≤ 1000; omega⟩
    unfold spec_DrawCommandsBetween.f
    refine Ev.bind e1 ?_
    refine Ev.congr (f := fun k => (spec_l1Cur_facing.f k code a2 s2).bind fun d => some (r, d.1)) (fun k => ?_) (Ev.bind e3 (Ev.now _))
    rw [e2]
    rfl
  | false =>
    have hz : (⟨#[]⟩ : ByteArray).size = 0 := rfl
    obtain ⟨r3, e3, h3⟩ := dcb_l0 hc r r.size (⟨#[]⟩ : ByteArray) a2 s2 0 (by omega) (by omega) (by omega) (by omega)
    refine ⟨(r, r3), ?_, h1, h3⟩
    unfold spec_DrawCommandsBetween.f
    refine Ev.bind e1 ?_
    refine Ev.congr (f := fun k => spec_DrawCommandsBetween.l0 k code r (⟨#[]⟩ : ByteArray) a2 s2 0) (fun k => ?_) e3
    rw [e2]
    rfl
end
theorem dt_j4 {more : List Int} (hm : ∀ x ∈ more, 0 ≤ x ∧ x ≤ 255) : Ev (fun k => laws_FnDrillsTurn.j3 k more) true := by
  obtain ⟨⟨len, way⟩, dw⟩ := draw_cw hm
  obtain ⟨⟨a, b⟩, db, ha, hb⟩ := draw_cb hm
  obtain ⟨⟨f, w⟩, dc, hf⟩ := draw_bc hm
  obtain ⟨g, dg, hg⟩ := draw_mf hm
  replace ha : a.size ≤ 110 := ha
  replace hb : b.size ≤ 1000 := hb
  replace hf : f.size ≤ 110 := hf
  obtain ⟨c1, c2, c3, c4, i1, s1, i2, s2, i3, s3, i4, s4, h5⟩ := dt_second len way w a b f g (by omega) (by omega) (by omega) (by omega)
  have nb : ∀ b : Bool, ¬ ((b != b) = true) := fun b => by simp
  refine Ev.step (f := fun k => ((spec_DrawCountCommandWords.f more).bind fun bt321 => ((impl_CountCommandWords.f k bt321.1 bt321.2).bind fun bt323 => ((spec_CountCommandWords.f k bt321.1 bt321.2).bind fun bt325 => ((spec_DrawCommandsBetween.f k more).bind fun bt327 => ((impl_CommandsBetween.f k bt327.1 bt327.2).bind fun bt329 => ((spec_CommandsBetween.f k bt327.1 bt327.2).bind fun bt331 => ((spec_DrawBestCommand.f k more).bind fun bt333 => ((impl_BestCommand.f k bt333.1 bt333.2).bind fun bt335 => ((spec_BestCommand.f k bt333.1 bt333.2).bind fun bt338 => ((spec_DrawMostFaced.f k more).bind fun t341 => ((impl_MostFaced.f k t341).bind fun bt342 => ((spec_MostFaced.f k t341).bind fun bt345 => (if (bt323.2 != bt325.2) = true then (laws_FnDrillsTurn.j4 k bt321.1 bt323.2 bt333.1 bt335.1 bt335.2.1 bt335.2.2 t341 bt342.1 bt342.2.1 bt342.2.2 true) else (if bt323.1 = bt325.1 then (if (bt329.2 != bt331.2) = true then (laws_FnDrillsTurn.j4 k bt321.1 bt323.2 bt333.1 bt335.1 bt335.2.1 bt335.2.2 t341 bt342.1 bt342.2.1 bt342.2.2 true) else (if bt329.1.toList = bt331.1.toList then (if (bt335.2.2 != bt338.2.2) = true then (laws_FnDrillsTurn.j4 k bt321.1 bt323.2 bt333.1 bt335.1 bt335.2.1 bt335.2.2 t341 bt342.1 bt342.2.1 bt342.2.2 true) else (if bt335.1.toList = bt338.1.toList then (if bt335.2.1 = bt338.2.1 then (if (bt342.2.2 != bt345.2.2) = true then (laws_FnDrillsTurn.j4 k bt321.1 bt323.2 bt333.1 bt335.1 bt335.2.1 bt335.2.2 t341 bt342.1 bt342.2.1 bt342.2.2 true) else (if bt342.1 = bt345.1 then (laws_FnDrillsTurn.j4 k bt321.1 bt323.2 bt333.1 bt335.1 bt335.2.1 bt335.2.2 t341 bt342.1 bt342.2.1 bt342.2.2 (bt342.2.1 != bt345.2.1)) else (laws_FnDrillsTurn.j4 k bt321.1 bt323.2 bt333.1 bt335.1 bt335.2.1 bt335.2.2 t341 bt342.1 bt342.2.1 bt342.2.2 true))) else (laws_FnDrillsTurn.j4 k bt321.1 bt323.2 bt333.1 bt335.1 bt335.2.1 bt335.2.2 t341 bt342.1 bt342.2.1 bt342.2.2 true)) else (laws_FnDrillsTurn.j4 k bt321.1 bt323.2 bt333.1 bt335.1 bt335.2.1 bt335.2.2 t341 bt342.1 bt342.2.1 bt342.2.2 true))) else (laws_FnDrillsTurn.j4 k bt321.1 bt323.2 bt333.1 bt335.1 bt335.2.1 bt335.2.2 t341 bt342.1 bt342.2.1 bt342.2.2 true))) else (laws_FnDrillsTurn.j4 k bt321.1 bt323.2 bt333.1 bt335.1 bt335.2.1 bt335.2.2 t341 bt342.1 bt342.2.1 bt342.2.2 true)))))))))))))))) (fun k => by rw [laws_FnDrillsTurn.j3]) ?_
  rw [dw]
  simp only [Option.bind_some]
  refine Ev.bind i1 (Ev.bind s1 (Ev.bind db (Ev.bind i2 (Ev.bind s2 (Ev.bind dc (Ev.bind i3 (Ev.bind s3 (Ev.bind dg (Ev.bind i4 (Ev.bind s4 ?_))))))))))
  refine Ev.congr (fun k => (if_neg (nb _)).trans ((if_pos rfl).trans ((if_neg (nb _)).trans ((if_pos rfl).trans ((if_neg (nb _)).trans ((if_pos rfl).trans ((if_pos rfl).trans ((if_neg (nb _)).trans (if_pos rfl))))))))) ?_
  simp only [bne_self_eq_false]
  exact h5
theorem dt_core (code more : List Int) (hcode : ∀ x ∈ code, 0 ≤ x ∧ x ≤ 255) (hmore : ∀ x ∈ more, 0 ≤ x ∧ x ≤ 255) : Ev (fun k => laws_FnDrillsTurn.f k code more) true := by
  have h4 := dt_j4 hmore
  obtain ⟨⟨fac, word⟩, dl, hF, hW⟩ := draw_fa hcode
  replace hF : fac.size ≤ 110 := hF
  replace hW : word.size ≤ 110 := hW
  obtain ⟨after, sh, bk, mi, t, times, i1, s1, i2, s2, i3, s3, i4, s4, i5, s5, i6, s6, hok, hone⟩ := dt_all fac word (by omega) (by omega)
  have h1 := dt_j1 h4 fac word (by omega) after sh bk mi t times hok hone
  obtain ⟨ca, cb⟩ := ac_v word (by omega)
  obtain ⟨fa, fb⟩ := af_v fac (by omega)
  have nb : ∀ b : Bool, ¬ ((b != b) = true) := fun b => by simp
  by_cases hbig : laws_big.f code more = some true
  · refine Ev.congr (f := fun _ => some true) (fun k => ?_) (Ev.now true)
    simp only [laws_FnDrillsTurn.f, hbig, Option.bind_some, if_true]
  have hbig2 : laws_big.f code more = some false := by
    unfold laws_big.f at hbig ⊢
    by_cases c1 : (code.length : Int) > 1048576
    · rw [if_pos c1] at hbig
      exact absurd rfl hbig
    · rw [if_neg c1] at hbig ⊢
      cases hd : decide ((more.length : Int) > wrap64 (1048576 - (code.length : Int))) with
      | true => rw [hd] at hbig; exact absurd rfl hbig
      | false => rfl
  unfold laws_FnDrillsTurn.f
  refine Ev.bind (Ev.congr (f := fun _ => some false) (fun _ => hbig2) (Ev.now false)) ?_
  refine Ev.congr (fun k => if_neg (by decide)) ?_
  refine Ev.bind dl ?_
  refine Ev.bind i1 (Ev.bind s1 (Ev.bind i2 (Ev.bind s2 (Ev.bind i3 (Ev.bind s3 ?_)))))
  simp only [i4, i5, Option.bind_some]
  refine Ev.bind s4 (Ev.bind s5 (Ev.bind i6 (Ev.bind s6 ?_)))
  simp only [bne_self_eq_false, Bool.false_eq_true, if_false, if_true, ca, fa, Option.bind_some]
  refine Ev.bind cb ?_
  simp only [bne_self_eq_false, Bool.false_eq_true, if_false, if_true]
  cases hw : wordB word with
  | true =>
    rw [hw] at h1
    simp only [Bool.and_true, bne_self_eq_false, Bool.false_eq_true, if_false, if_true] at h1 ⊢
    refine Ev.bind fb ?_
    simp only [bne_self_eq_false]
    exact h1
  | false =>
    rw [hw] at h1
    simp only [Bool.and_false, bne_self_eq_false, Bool.false_eq_true, if_false, if_true] at h1 ⊢
    refine Ev.bind fb ?_
    simp only [bne_self_eq_false]
    exact h1
theorem byte_wf {x : Int} (h : (Lit.int .u8 x).wf = true) : 0 ≤ x ∧ x ≤ 255 := by
  have h' : IntKind.u8.min ≤ x ∧ x ≤ IntKind.u8.max := by simpa [Lit.wf] using h
  have e1 : IntKind.u8.min = 0 := by decide
  have e2 : IntKind.u8.max = 255 := by decide
  omega
theorem FnDrillsTurn : ∀ (l0 : List Int) (l1 : List Int), l0.length ≤ maxLen → (∀ x ∈ l0, (Lit.int .u8 x).wf = true) → l1.length ≤ maxLen → (∀ x ∈ l1, (Lit.int .u8 x).wf = true) → ∃ k, laws_FnDrillsTurn.f k l0 l1 = some true := by
  intro l0 l1 _ w0 _ w1
  refine Ev.rounds (r := true) ?_
  exact dt_core l0 l1 (fun x hx => byte_wf (w0 x hx)) (fun x hx => byte_wf (w1 x hx))

end Go.Proofs.YtgdmbhldabeelaaRGreatDoor.Pure
