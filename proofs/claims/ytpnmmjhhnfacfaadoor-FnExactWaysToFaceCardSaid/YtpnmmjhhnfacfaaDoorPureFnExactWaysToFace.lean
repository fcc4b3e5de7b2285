/- For every word and all numbers, the program's WaysToFace answers what the reference's does. -/
import Derived.Test.YtpnmmjhhnfacfaaDoorPFnExactWaysToFacex3
namespace Go.Proofs.YtpnmmjhhnfacfaaDoor.Pure
open Go.RowKit Go.Proofs.YtpnmmjhhnfacfaaDoor.PFnExactWaysToFace Go.Proofs.YtpnmmjhhnfacfaaDoorW.PrintWords Go.Proofs.YtpnmmjhhnfacfaaDoorW.PrintLast
set_option linter.unusedVariables false
set_option linter.unusedSimpArgs false

theorem w64 {x : Int} (h1 : -9223372036854775808 ≤ x) (h2 : x ≤ 9223372036854775807) : wrap64 x = x := by
  unfold wrap64
  omega
theorem wf_lo {a : Int} (h : (Lit.int .i64 a).wf = true) : -9223372036854775808 ≤ a := by
  have h' : IntKind.i64.min ≤ a ∧ a ≤ IntKind.i64.max := by simpa [Lit.wf] using h
  have e : IntKind.i64.min = -9223372036854775808 := by decide
  omega
theorem wf_hi {a : Int} (h : (Lit.int .i64 a).wf = true) : a ≤ 9223372036854775807 := by
  have h' : IntKind.i64.min ≤ a ∧ a ≤ IntKind.i64.max := by simpa [Lit.wf] using h
  have e : IntKind.i64.max = 9223372036854775807 := by decide
  omega
theorem ev_congr_fun {α : Type} {g f : Nat → Option α} {r : α} (h : g = f) (k : Ev f r) : Ev g r := h ▸ k
theorem rd_mid (pre : List Int) (x : Int) (rest : List Int) : rd (pre ++ x :: rest) (pre.length : Int) = x := by
  simp [rd]
theorem bt_eq (s : ByteArray) (i : Nat) (h : i < s.data.toList.length) : bt s (i : Int) = ((s.data.toList[i]'h).toNat : Int) := by
  have h' : i < s.size := by rw [Lib.size_eq]; exact h
  unfold bt
  rw [dif_pos (by simpa using h')]
  simp only [Int.toNat_natCast]
  rw [Array.getElem_toList]
  rfl
theorem dropWhile_nil {α : Type} (p : α → Bool) (l : List α) : l.dropWhile p = [] ↔ l.all p = true := by
  induction l with
  | nil => simp
  | cons x l ih =>
    by_cases h : p x = true
    · simp [List.dropWhile, h, ih]
    · simp [List.dropWhile, h]
theorem dropWhile_all {α : Type} (p : α → Bool) (l : List α) (h : (l.dropWhile p).all p = true) : l.dropWhile p = [] := by
  induction l with
  | nil => rfl
  | cons x l ih =>
    by_cases hx : p x = true
    · simp only [List.dropWhile, hx] at h ⊢
      exact ih h
    · simp [List.dropWhile, hx] at h
theorem trim_nil (l cs : List UInt8) : Lib.trimS l cs = [] ↔ l.all (cs.contains ·) = true := by
  unfold Lib.trimS Lib.trimLeftS Lib.trimRightS
  rw [dropWhile_nil, List.all_reverse]
  constructor
  · intro h
    have := dropWhile_all _ _ h
    rw [dropWhile_nil, List.all_reverse] at this
    exact this
  · intro h
    rw [← List.all_reverse, ← dropWhile_nil] at h
    rw [h]; rfl
theorem trim_f (s c : ByteArray) (hs : s.size ≤ 140737488351232) (hc : c.size ≤ 1000000) (ha : c.data.toList.all (fun b => decide (b.toNat < 128)) = true) :
    strings_Trim.f s c = some ⟨(Lib.trimS s.data.toList c.data.toList).toArray⟩ := by
  unfold strings_Trim.f
  rw [if_pos ⟨by omega, hc, ha⟩]
theorem empty_test (l : List UInt8) : ((⟨l.toArray⟩ : ByteArray).toList == ([] : List UInt8)) = l.isEmpty := by
  rw [Lib.toList_data]
  cases l <;> rfl
theorem trim_test (l cs : List UInt8) : (Lib.trimS l cs).isEmpty = l.all (cs.contains ·) := by
  rw [Bool.eq_iff_iff, List.isEmpty_iff, trim_nil]
def wordB (s : ByteArray) : Bool := decide ((s.size : Int) ≤ 60) && s.data.toList.all (([83, 82, 65, 76] : List UInt8).contains ·)
def turnV (a : Int) : Int := if a = 83 then 0 else if a = 82 then 1 else if a = 65 then 2 else if a = 76 then 3 else -1
theorem drTurn_eq (a : Int) : spec_drTurn.f a = some (turnV a) := by
  unfold spec_drTurn.f turnV
  repeat' split
  all_goals rfl
theorem word_byte (b : UInt8) : ([83, 82, 65, 76] : List UInt8).contains b = !decide (turnV (b.toNat : Int) < 0) := by
  have hb := b.toNat_lt
  rw [Bool.eq_iff_iff]
  simp only [List.contains_iff_mem, List.mem_cons, List.not_mem_nil, or_false, Bool.not_eq_true', decide_eq_false_iff_not, ← UInt8.toNat_inj]
  have e1 : (83 : UInt8).toNat = 83 := rfl
  have e2 : (82 : UInt8).toNat = 82 := rfl
  have e3 : (65 : UInt8).toNat = 65 := rfl
  have e4 : (76 : UInt8).toNat = 76 := rfl
  rw [e1, e2, e3, e4]
  unfold turnV
  repeat' split
  all_goals omega
theorem spec_word_l0 (s : ByteArray) (hs : s.data.toList.length ≤ 140737488351232) (d : Nat) : ∀ i : Nat, i + d = s.data.toList.length → Ev (fun k => spec_drWord.l0 k s i) ((s.data.toList.drop i).all (([83, 82, 65, 76] : List UInt8).contains ·)) := by
  have hz := Lib.size_eq s
  induction d with
  | zero =>
    intro i hi
    rw [List.drop_of_length_le (by omega)]
    exact Ev.step (f := fun _ => some true) (fun k => by rw [spec_drWord.l0, if_neg (by omega)]) (Ev.now _)
  | succ d ih =>
    intro i hi
    have hil : i < s.data.toList.length := by omega
    rw [List.drop_eq_getElem_cons hil, List.all_cons, word_byte]
    refine Ev.step (f := fun k => if turnV ((s.data.toList[i]).toNat : Int) < 0 then some false else spec_drWord.l0 k s ((i + 1 : Nat) : Int)) (fun k => ?_) ?_
    · rw [spec_drWord.l0, if_pos (by omega), if_pos (by omega), bt_eq s i hil, drTurn_eq, w64 (x := (i : Int) + 1) (by omega) (by omega)]
      rfl
    · by_cases hc : turnV ((s.data.toList[i]).toNat : Int) < 0
      · rw [decide_eq_true hc]
        exact Ev.congr (fun k => if_pos hc) (Ev.now _)
      · rw [decide_eq_false hc, Bool.not_false, Bool.true_and]
        exact Ev.congr (fun k => if_neg hc) (ih (i + 1) (by omega))
theorem spec_word (s : ByteArray) (hs : s.size ≤ 140737488351232) : Ev (fun k => spec_drWord.f k s) (wordB s) := by
  have hz := Lib.size_eq s
  unfold spec_drWord.f wordB
  by_cases h : (s.size : Int) ≤ 60
  · simpa [h, show ¬ (s.size : Int) > 60 by omega] using spec_word_l0 s (by omega) s.data.toList.length 0 (by omega)
  · simpa [h, show (s.size : Int) > 60 by omega] using Ev.now false
theorem impl_word (s : ByteArray) (hs : s.size ≤ 140737488351232) : impl_areCommands.f s = some (wordB s) := by
  unfold impl_areCommands.f wordB
  rw [trim_f s _ hs (by decide) (by decide)]
  simp only [Option.bind_some, empty_test, trim_test]
  by_cases h : (s.size : Int) ≤ 60
  · rw [if_pos h, decide_eq_true h, Bool.true_and]
  · rw [if_neg h, decide_eq_false h, Bool.false_and]
theorem wordB_size {s : ByteArray} (h : wordB s = true) : s.size ≤ 60 := by
  unfold wordB at h
  simp only [Bool.and_eq_true, decide_eq_true_eq] at h
  omega
theorem wordB_at {s : ByteArray} (h : wordB s = true) (i : Nat) (hi : i < s.size) : bt s (i : Int) = 83 ∨ bt s (i : Int) = 82 ∨ bt s (i : Int) = 65 ∨ bt s (i : Int) = 76 := by
  have hz := Lib.size_eq s
  unfold wordB at h
  simp only [Bool.and_eq_true] at h
  have hm := List.all_eq_true.1 h.2 _ (List.getElem_mem (show i < s.data.toList.length by omega))
  rw [word_byte] at hm
  simp only [Bool.not_eq_true', decide_eq_false_iff_not] at hm
  rw [bt_eq s i (by omega)]
  unfold turnV at hm
  omega
theorem l1In_eq (a b c : Int) : spec_l1In.f a b c = some (decide (b ≤ a) && decide (a ≤ c)) := by
  unfold spec_l1In.f
  by_cases h : b ≤ a
  · rw [if_pos h]; simp [h]
  · rw [if_neg (show ¬ a ≥ b from h)]; simp [h]
theorem in_eq (a b c : Int) : impl_in.f a b c = some (decide (b ≤ a) && decide (a ≤ c)) := by
  unfold impl_in.f
  by_cases h : b ≤ a
  · rw [if_pos h]; simp [h]
  · rw [if_neg h]; simp [h]
theorem cast_len {α : Type} (l : List α) : (decide ((1 : Int) ≤ (l.length : Int)) && decide ((l.length : Int) ≤ 6)) = (decide (1 ≤ l.length) && decide (l.length ≤ 6)) := by
  congr 1 <;> exact decide_eq_decide.2 (by omega)
theorem turnV_range {b : Int} (h : b = 83 ∨ b = 82 ∨ b = 65 ∨ b = 76) : 0 ≤ turnV b ∧ turnV b ≤ 3 := by
  rcases h with rfl | rfl | rfl | rfl <;> decide
theorem rd_nat (L : List Int) (j : Nat) : rd L (j : Int) = L.getD j 0 := by simp [rd]
theorem gs_self (T : List Int) (a : Nat) (v : Int) (h : a < T.length) : (T.set a v).getD a 0 = v := by simp [List.getD, h]
theorem gs_ne (T : List Int) (a i : Nat) (v : Int) (h : ¬ a = i) : (T.set a v).getD i 0 = T.getD i 0 := by simp [List.getD, h]
theorem tnV_eq {b : Int} (h : b = 83 ∨ b = 82 ∨ b = 65 ∨ b = 76) : tnV b = turnV b := by
  rcases h with rfl | rfl | rfl | rfl <;> decide +kernel
def wMn (x : Int) : Int := if x < 1000000000000001 then x else 1000000000000001
theorem mn_wMn (x : Int) : mn x 1000000000000001 = wMn x := by
  unfold mn wMn
  by_cases h : x < 1000000000000001
  · rw [if_pos h, if_neg (by omega)]
  · rw [if_neg h]
    by_cases h2 : (1000000000000001 : Int) < x
    · rw [if_pos h2]
    · rw [if_neg h2]; omega
theorem least_wMn (x : Int) : spec_l1Least.f x 1000000000000001 = some (wMn x) := by
  unfold spec_l1Least.f wMn
  split <;> rfl
def wIdx (t : Int) (a b : Nat) : Nat := (a / 4 + (if (b : Int) = t then 0 else 1)) * 4 + (a + b) % 4
def wPut (t n : Int) (a : Nat) (G : Nat → Int) (b : Nat) : Nat → Int := fun k => if k = wIdx t a b then wMn (G k + n) else G k
def wBs (t n : Int) (a : Nat) (G : Nat → Int) : Nat → (Nat → Int)
  | 0 => G
  | b + 1 => wPut t n a (wBs t n a G b) b
def wAs (t : Int) (now : Nat → Int) : Nat → (Nat → Int)
  | 0 => fun _ => 0
  | a + 1 => wBs t (now a) a (wAs t now a) 4
def wAll (s : ByteArray) : Nat → (Nat → Int)
  | 0 => fun k => if k = 0 then 1 else 0
  | i + 1 => wAs (turnV (bt s (i : Int))) (wAll s i) ((i + 1) * 4)
def Bd (G : Nat → Int) : Prop := ∀ k, 0 ≤ G k ∧ G k ≤ 1000000000000001
theorem wMn_bd (x : Int) (h : 0 ≤ x) : 0 ≤ wMn x ∧ wMn x ≤ 1000000000000001 := by
  unfold wMn
  split <;> omega
theorem wPut_bd (t n : Int) (a : Nat) (G : Nat → Int) (b : Nat) (hG : Bd G) (hn : 0 ≤ n) : Bd (wPut t n a G b) := by
  intro k
  have h := hG k
  unfold wPut
  split
  · exact wMn_bd _ (by omega)
  · exact h
theorem wBs_bd (t n : Int) (a : Nat) (G : Nat → Int) (hG : Bd G) (hn : 0 ≤ n) (b : Nat) : Bd (wBs t n a G b) := by
  induction b with
  | zero => exact hG
  | succ b ih => exact wPut_bd t n a _ b ih hn
theorem wAs_bd (t : Int) (now : Nat → Int) (hn : Bd now) (a : Nat) : Bd (wAs t now a) := by
  induction a with
  | zero => intro k; exact ⟨Int.le_refl _, by show (0 : Int) ≤ _; omega⟩
  | succ a ih => exact wBs_bd t _ a _ ih (hn a).1 4
theorem wAll_bd (s : ByteArray) (i : Nat) : Bd (wAll s i) := by
  induction i with
  | zero =>
    intro k
    show 0 ≤ (if k = 0 then (1 : Int) else 0) ∧ (if k = 0 then (1 : Int) else 0) ≤ 1000000000000001
    split <;> omega
  | succ i ih => exact wAs_bd _ _ ih _
theorem wIdx_lt (t : Int) (a b : Nat) : wIdx t a b < (a / 4 + 2) * 4 := by
  unfold wIdx
  split <;> omega
theorem wBs_sup (t n : Int) (a : Nat) (G : Nat → Int) (c : Nat) (hc : (a / 4 + 2) * 4 ≤ c) (hG : ∀ k, c ≤ k → G k = 0) (b : Nat) : ∀ k, c ≤ k → wBs t n a G b k = 0 := by
  induction b with
  | zero => exact hG
  | succ b ih =>
    intro k hk
    have := wIdx_lt t a b
    show (if k = wIdx t a b then _ else _) = _
    rw [if_neg (by omega)]
    exact ih k hk
theorem wAs_sup (t : Int) (now : Nat → Int) (i : Nat) (a : Nat) (ha : a ≤ (i + 1) * 4) : ∀ k, (i + 2) * 4 ≤ k → wAs t now a k = 0 := by
  induction a with
  | zero => intro k _; rfl
  | succ a ih => exact wBs_sup t _ a _ ((i + 2) * 4) (by omega) (ih (by omega)) 4
theorem wAll_sup (s : ByteArray) (i : Nat) : ∀ k, (i + 1) * 4 ≤ k → wAll s i k = 0 := by
  cases i with
  | zero => intro k hk; show (if k = 0 then (1 : Int) else 0) = 0; rw [if_neg (by omega)]
  | succ i => exact wAs_sup _ _ i _ (Nat.le_refl _)
theorem wBs_zero (t : Int) (a : Nat) (G : Nat → Int) (hG : Bd G) (b : Nat) : wBs t 0 a G b = G := by
  induction b with
  | zero => rfl
  | succ b ih =>
    rw [wBs, ih]
    funext k
    unfold wPut
    split
    · have := hG k
      unfold wMn
      split <;> omega
    · rfl
theorem wAs_stay (t : Int) (now : Nat → Int) (hb : Bd now) (c : Nat) (hc : ∀ k, c ≤ k → now k = 0) (d : Nat) : wAs t now (c + d) = wAs t now c := by
  induction d with
  | zero => rfl
  | succ d ih =>
    show wBs t (now (c + d)) (c + d) (wAs t now (c + d)) 4 = _
    rw [hc (c + d) (by omega), wBs_zero t _ _ (wAs_bd t now hb _), ih]
/-- A list and a function say the same numbers. -/
def Rel (N : Nat) (L : List Int) (G : Nat → Int) : Prop := L.length = N ∧ ∀ k, L.getD k 0 = G k
theorem Rel_set {N : Nat} {L : List Int} {G : Nat → Int} (h : Rel N L G) (t n : Int) (a b : Nat) (hi : wIdx t a b < N) : Rel N (L.set (wIdx t a b) (wMn (L.getD (wIdx t a b) 0 + n))) (wPut t n a G b) := by
  refine ⟨by rw [List.length_set]; exact h.1, fun k => ?_⟩
  have hl := h.1
  unfold wPut
  by_cases c : k = wIdx t a b
  · subst c
    rw [if_pos rfl, ← h.2, gs_self _ _ _ (by omega)]
  · rw [if_neg c, ← h.2, gs_ne _ _ _ _ (fun e => c e.symm)]
theorem wfB_rel (t : Int) (m h : Nat) (hm : m < 60) (hh : h < 4) (n : Int) (hn : 0 ≤ n) (hn2 : n ≤ 1000000000000001) (X : List Int) (G : Nat → Int) (hX : Rel 244 X G) (hG : Bd G) (b : Nat) : Rel 244 (wfB t m h n X b) (wBs t n (m * 4 + h) G b) := by
  induction b with
  | zero => exact hX
  | succ b ih =>
    have e : wfMore t m b * 4 + (h + b) % 4 = wIdx t (m * 4 + h) b := by
      unfold wfMore wIdx
      split <;> omega
    have hlt : wIdx t (m * 4 + h) b < 244 := by
      have := wIdx_lt t (m * 4 + h) b
      omega
    have hbd := wBs_bd t n (m * 4 + h) G hG hn b (wIdx t (m * 4 + h) b)
    have hr := Rel_set ih t n (m * 4 + h) b hlt
    show Rel 244 (wfPut t m h n (wfB t m h n X b) b) _
    unfold wfPut
    rw [e, w64 (by rw [ih.2]; omega) (by rw [ih.2]; omega), mn_wMn]
    exact hr
theorem wfH_rel (t : Int) (m : Nat) (hm : m < 60) (now X : List Int) (F G : Nat → Int) (hnow : Rel 244 now F) (hF : Bd F) (hX : Rel 244 X (wAs t F (m * 4))) (h : Nat) (hh : h ≤ 4) : Rel 244 (wfH t m now X h) (wAs t F (m * 4 + h)) := by
  induction h with
  | zero => exact hX
  | succ h ih =>
    show Rel 244 (wfB t m h (now.getD (m * 4 + h) 0) (wfH t m now X h) 4) (wBs t (F (m * 4 + h)) (m * 4 + h) (wAs t F (m * 4 + h)) 4)
    rw [hnow.2]
    exact wfB_rel t m h hm (by omega) _ (hF _).1 (hF _).2 _ _ (ih (by omega)) (wAs_bd t F hF _) 4
theorem wfM_rel (t : Int) (now : List Int) (F : Nat → Int) (hnow : Rel 244 now F) (hF : Bd F) (m : Nat) (hm : m ≤ 60) : Rel 244 (wfM t now wfZs m) (wAs t F (m * 4)) := by
  induction m with
  | zero =>
    refine ⟨List.length_replicate, fun k => ?_⟩
    show (List.replicate 244 (0 : Int)).getD k 0 = 0
    rw [List.getD_eq_getElem?_getD, List.getElem?_replicate]
    split <;> rfl
  | succ m ih =>
    have e : (m + 1) * 4 = m * 4 + 4 := by omega
    rw [e]
    exact wfH_rel t m (by omega) now _ F (wAs t F (m * 4)) hnow hF (ih (by omega)) 4 (Nat.le_refl _)
theorem wfAll_rel (s : ByteArray) (hw : wordB s = true) (i : Nat) (hi : i ≤ s.size) : Rel 244 (wfAll s i) (wAll s i) := by
  have hz := wordB_size hw
  induction i with
  | zero =>
    refine ⟨(List.length_set).trans List.length_replicate, fun k => ?_⟩
    show ((List.replicate 244 (0 : Int)).set 0 1).getD k 0 = if k = 0 then 1 else 0
    by_cases c : k = 0
    · subst c; rfl
    · rw [if_neg c, gs_ne _ _ _ _ (fun e => c e.symm), List.getD_eq_getElem?_getD, List.getElem?_replicate]
      split <;> rfl
  | succ i ih =>
    show Rel 244 (wfM (tnV (bt s (i : Int))) (wfAll s i) wfZs (i + 1)) (wAs (turnV (bt s (i : Int))) (wAll s i) ((i + 1) * 4))
    rw [tnV_eq (wordB_at hw i (by omega))]
    exact wfM_rel _ _ _ (ih (by omega)) (wAll_bd s i) (i + 1) (by omega)
theorem sp_ed (a : Nat) (h : a ≤ 1000) : wrap64 (Int.tdiv (a : Int) 4) = ((a / 4 : Nat) : Int) := by
  rw [Int.tdiv_eq_ediv_of_nonneg (by omega), w64 (by omega) (by omega)]
  rfl
theorem sp_em (a b : Nat) (h : a ≤ 1000) (hb : b ≤ 4) : Int.tmod (wrap64 ((a : Int) + (b : Int))) 4 = (((a + b) % 4 : Nat) : Int) := by
  rw [w64 (by omega) (by omega)]
  rfl
theorem sp_eb (b : Nat) (hb : b ≤ 4) : wrap64 ((b : Int) + 1) = ((b + 1 : Nat) : Int) := by
  rw [w64 (by omega) (by omega)]
  rfl
theorem sp_ei1 (t : Int) (a b : Nat) (c : (b : Int) = t) (h : a ≤ 1000) : wrap64 (wrap64 (4 * ((a / 4 : Nat) : Int)) + (((a + b) % 4 : Nat) : Int)) = ((wIdx t a b : Nat) : Int) := by
  have e : wIdx t a b = (a / 4) * 4 + (a + b) % 4 := by unfold wIdx; rw [if_pos c, Nat.add_zero]
  rw [e, w64 (x := 4 * ((a / 4 : Nat) : Int)) (by omega) (by omega), w64 (by omega) (by omega)]
  omega
theorem sp_ei2 (t : Int) (a b : Nat) (c : ¬ (b : Int) = t) (h : a ≤ 1000) : wrap64 (wrap64 (4 * wrap64 (((a / 4 : Nat) : Int) + 1)) + (((a + b) % 4 : Nat) : Int)) = ((wIdx t a b : Nat) : Int) := by
  have e : wIdx t a b = (a / 4 + 1) * 4 + (a + b) % 4 := by unfold wIdx; rw [if_neg c]
  rw [e, w64 (x := ((a / 4 : Nat) : Int) + 1) (by omega) (by omega), w64 (x := 4 * (((a / 4 : Nat) : Int) + 1)) (by omega) (by omega), w64 (by omega) (by omega)]
  omega
theorem sp_ew (L : List Int) (j : Nat) (n : Int) (h0 : 0 ≤ L.getD j 0) (h1 : L.getD j 0 ≤ 1000000000000001) (hn : 0 < n) (hn2 : n ≤ 1000000000000001) : wrap64 (rd L (j : Int) + n) = L.getD j 0 + n := by
  rw [rd_nat, w64 (by omega) (by omega)]
section
variable (s : ByteArray) (x1 x2 : Int) (N : Nat) (hN : N ≤ 1000) (i : Nat) (hi : i < s.size) (t : Int) (ht : turnV (bt s (i : Int)) = t)
include hN hi ht
theorem spec_l2 (nowL : List Int) (a : Nat) (ha : a < N) (n : Int) (hn : 0 < n) (hn2 : n ≤ 1000000000000001) (G : Nat → Int) (hG : Bd G) (hlt : ∀ b, wIdx t a b < N) (R : Int × Bool) (hR : ∀ L', Rel N L' (wBs t n a G 4) → Ev (fun k => spec_WaysToFace.l1 k s x1 x2 i L' nowL (N : Int) ((a + 1 : Nat) : Int)) R) (d : Nat) :
    ∀ (b : Nat) (L : List Int), b + d = 4 → Rel N L (wBs t n a G b) → Ev (fun k => spec_WaysToFace.l2 k s x1 x2 i L a n b nowL (N : Int) a) R := by
  have ea : wrap64 ((a : Int) + 1) = ((a + 1 : Nat) : Int) := by rw [w64 (by omega) (by omega)]; rfl
  have EA : Option.some (wrap64 ((a : Int) + 1)) = some ((a + 1 : Nat) : Int) := congrArg some ea
  clear ea
  induction d with
  | zero =>
    intro b L hb hL
    obtain rfl : b = 4 := by omega
    refine Ev.step (f := fun k => spec_WaysToFace.j4 k s x1 x2 i L a n 4 nowL (N : Int) a false) (fun k => ?_) (Ev.step (fun k => ?_) (hR L hL))
    · rw [spec_WaysToFace.l2, if_neg (by omega)]
      rfl
    · rw [spec_WaysToFace.j4, if_neg (by decide), Option.some.inj EA]
  | succ d ih =>
    intro b L hb hL
    have hbd := wBs_bd t n a G hG (by omega) b (wIdx t a b)
    have hx := hlt b
    have hset := Rel_set hL t n a b hx
    have hrec := ih (b + 1) _ (by omega) hset
    refine Ev.step (f := fun k => spec_WaysToFace.j4 k s x1 x2 i L a n b nowL (N : Int) a true) (fun k => ?_) (Ev.step (fun k => ?_) hrec)
    · rw [spec_WaysToFace.l2, if_pos (by omega), decide_eq_true (by omega)]
    · have hlen := hL.1
      have hb0 : 0 ≤ L.getD (wIdx t a b) 0 ∧ L.getD (wIdx t a b) 0 ≤ 1000000000000001 := by rw [hL.2]; exact hbd
      have ha1 : a ≤ 1000 := by omega
      have hb1 : b ≤ 4 := by omega
      have q1 : (0 : Int) ≤ (i : Int) := by omega
      have q2 : (i : Int) < (s.size : Int) := by omega
      have q3 : (0 : Int) ≤ ((wIdx t a b : Nat) : Int) := by omega
      have q4 : ((wIdx t a b : Nat) : Int) < (L.length : Int) := by omega
      rw [spec_WaysToFace.j4, if_pos rfl, if_pos q1, if_pos q2, drTurn_eq, ht, Option.bind_some, sp_ed a ha1, sp_em a b ha1 hb1, sp_eb b hb1]
      by_cases c : (b : Int) = t
      · rw [if_pos c, sp_ei1 t a b c ha1, sp_ew L _ n hb0.1 hb0.2 hn hn2, if_pos q3, if_pos q4, least_wMn, Option.bind_some, Int.toNat_natCast]
      · rw [if_neg c, sp_ei2 t a b c ha1, sp_ew L _ n hb0.1 hb0.2 hn hn2, if_pos q3, if_pos q4, least_wMn, Option.bind_some, Int.toNat_natCast]
theorem spec_l1 (nowL : List Int) (F : Nat → Int) (hnow : Rel N nowL F) (hF : Bd F) (hsup : ∀ k, (i + 1) * 4 ≤ k → F k = 0) (hNi : (i + 2) * 4 ≤ N) (R : Int × Bool) (d : Nat) :
    ∀ (a : Nat) (L : List Int), a + d = N → Rel N L (wAs t F a) → (∀ L', Rel N L' (wAs t F N) → Ev (fun k => spec_WaysToFace.l0 k s x1 x2 L' ((i + 1 : Nat) : Int)) R) → Ev (fun k => spec_WaysToFace.l1 k s x1 x2 i L nowL (N : Int) a) R := by
  have ei : wrap64 ((i : Int) + 1) = ((i + 1 : Nat) : Int) := by
    have : s.size ≤ s.size := Nat.le_refl _
    rw [w64 (by omega) (by omega)]
    rfl
  have EI : Option.some (wrap64 ((i : Int) + 1)) = some ((i + 1 : Nat) : Int) := congrArg some ei
  clear ei
  induction d with
  | zero =>
    intro a L ha hL hR
    obtain rfl : a = N := by omega
    refine Ev.step (fun k => ?_) (hR L hL)
    rw [spec_WaysToFace.l1, if_neg (by omega), Option.some.inj EI]
  | succ d ih =>
    intro a L ha hL hR
    have hlt : a < N := by omega
    have hr : rd nowL (a : Int) = F a := by rw [← hnow.2, rd_nat]
    have hb := hF a
    have hnl := hnow.1
    have es : ∀ k, spec_WaysToFace.l1 (k + 1) s x1 x2 i L nowL (N : Int) a = spec_WaysToFace.l2 k s x1 x2 i L a (F a) ((0 : Nat) : Int) nowL (N : Int) a := by
      intro k
      rw [spec_WaysToFace.l1, if_pos (by omega), if_pos (by omega), if_pos (by rw [hnl]; omega), hr]
      rfl
    refine Ev.step es ?_
    by_cases c : 0 < F a
    · have hai : a < (i + 1) * 4 := by
        by_cases h : a < (i + 1) * 4
        · exact h
        · have := hsup a (by omega)
          omega
      refine spec_l2 s x1 x2 N hN i hi t ht nowL a hlt (F a) c hb.2 (wAs t F a) (wAs_bd t F hF a) (fun b => ?_) R (fun L' hL' => ih (a + 1) L' (by omega) hL' hR) 4 0 L (by omega) hL
      have := wIdx_lt t a b
      omega
    · have h0 : F a = 0 := by omega
      have hsame : wAs t F (a + 1) = wAs t F a := by
        show wBs t (F a) a (wAs t F a) 4 = _
        rw [h0, wBs_zero t a _ (wAs_bd t F hF a)]
      have hrec := ih (a + 1) L (by omega) (by rw [hsame]; exact hL) hR
      have ea : Option.some (wrap64 ((a : Int) + 1)) = some ((a + 1 : Nat) : Int) := by rw [w64 (by omega) (by omega)]; rfl
      rw [h0]
      refine Ev.step (f := fun k => spec_WaysToFace.j4 k s x1 x2 i L a 0 ((0 : Nat) : Int) nowL (N : Int) a false) (fun k => ?_) (Ev.step (fun k => ?_) hrec)
      · rw [spec_WaysToFace.l2, if_pos (by omega)]
        rfl
      · rw [spec_WaysToFace.j4, if_neg (by decide), Option.some.inj ea]
end
theorem zeros_rel (N : Nat) (G : Nat → Int) (hG : ∀ k, G k = 0) : Rel N (List.replicate N 0) G := ⟨List.length_replicate, fun k => by
  rw [hG, List.getD_eq_getElem?_getD, List.getElem?_replicate]
  split <;> rfl⟩
def wRes (s : ByteArray) (p q : Nat) : Int × Bool := if wAll s s.size (p * 4 + q) > 1000000000000000 then (0, false) else (wAll s s.size (p * 4 + q), true)
theorem spec_l0 (s : ByteArray) (hw : wordB s = true) (p q : Nat) (hp : p ≤ 60) (hq : q ≤ 3) (N : Nat) (hN : N = (s.size + 2) * 4) (d : Nat) : ∀ (i : Nat) (L : List Int), i + d = s.size → Rel N L (wAll s i) → Ev (fun k => spec_WaysToFace.l0 k s p q L i) (wRes s p q) := by
  have hz := wordB_size hw
  induction d with
  | zero =>
    intro i L hi hL
    obtain rfl : i = s.size := by omega
    have hlen := hL.1
    refine Ev.step (f := fun _ => some (wRes s p q)) (fun k => ?_) (Ev.now _)
    rw [spec_WaysToFace.l0, if_neg (by omega)]
    by_cases c : (p : Int) > (s.size : Int)
    · rw [if_pos c]
      unfold wRes
      rw [wAll_sup s s.size _ (by omega)]
      rfl
    · have ei : wrap64 (wrap64 (4 * (p : Int)) + (q : Int)) = ((p * 4 + q : Nat) : Int) := by
        rw [w64 (x := 4 * (p : Int)) (by omega) (by omega), w64 (by omega) (by omega)]
        omega
      have hr : rd L ((p * 4 + q : Nat) : Int) = wAll s s.size (p * 4 + q) := by rw [← hL.2, rd_nat]
      rw [if_neg c, ei, if_pos (by omega), if_pos (by rw [hlen]; omega), hr]
      unfold wRes
      split <;> rfl
  | succ d ih =>
    intro i L hi hL
    have hlen := hL.1
    have hil : i < s.size := by omega
    have es : ∀ k, spec_WaysToFace.l0 (k + 1) s p q L i = spec_WaysToFace.l1 k s p q i (List.replicate N 0) L (N : Int) ((0 : Nat) : Int) := by
      intro k
      rw [spec_WaysToFace.l0, if_pos (by omega), if_pos (by omega), hlen, Int.toNat_natCast, if_pos (by omega)]
      rfl
    refine Ev.step es (spec_l1 s p q N (by omega) i hil _ rfl L (wAll s i) hL (wAll_bd s i) (wAll_sup s i) (by omega) _ N 0 _ (by omega) (zeros_rel N _ (fun _ => rfl)) (fun L' hL' => ih (i + 1) L' (by omega) ?_))
    have hstay := wAs_stay (turnV (bt s (i : Int))) (wAll s i) (wAll_bd s i) ((i + 1) * 4) (wAll_sup s i) (N - (i + 1) * 4)
    rw [show (i + 1) * 4 + (N - (i + 1) * 4) = N by omega] at hstay
    rw [hstay] at hL'
    exact hL'
theorem both (s : ByteArray) (x1 x2 : Int) (hs : s.size ≤ 140737488351232) : ∃ r, Ev (fun k => spec_WaysToFace.f k s x1 x2) r ∧ Ev (fun k => impl_WaysToFace.f k s x1 x2) r := by
  have h1 := spec_word s hs
  have no : Ev (fun k => spec_WaysToFace.j0 k s x1 x2 true) (0, false) := Ev.step (f := fun _ => some (0, false)) (fun k => by rw [spec_WaysToFace.j0, if_pos rfl]) (Ev.now _)
  unfold spec_WaysToFace.f impl_WaysToFace.f impl_isWay.f
  simp only [impl_word s hs, l1In_eq, in_eq, Option.bind_some]
  cases hw : wordB s with
  | false =>
    rw [hw] at h1
    exact ⟨(0, false), Ev.bind h1 (Ev.congr (fun k => if_neg (by decide)) no), Ev.congr (fun k => if_neg (by decide)) (Ev.now _)⟩
  | true =>
    rw [hw] at h1
    have hz := wordB_size hw
    cases ha : (decide (0 ≤ x1) && decide (x1 ≤ 60)) with
    | false => exact ⟨(0, false), Ev.bind h1 (Ev.congr (fun k => (if_pos rfl).trans (if_neg (by decide))) no), Ev.congr (fun k => (if_pos rfl).trans (if_neg (by decide))) (Ev.now _)⟩
    | true =>
      cases hb : (decide (0 ≤ x2) && decide (x2 ≤ 3)) with
      | false => exact ⟨(0, false), Ev.bind h1 (Ev.congr (fun k => (if_pos rfl).trans (if_pos rfl)) no), Ev.congr (fun k => (if_pos rfl).trans ((if_pos rfl).trans (if_neg (by decide)))) (Ev.now _)⟩
      | true =>
        simp only [Bool.and_eq_true, decide_eq_true_eq] at ha hb
        obtain ⟨p, rfl⟩ : ∃ p : Nat, x1 = p := ⟨x1.toNat, by omega⟩
        obtain ⟨q, rfl⟩ : ∃ q : Nat, x2 = q := ⟨x2.toNat, by omega⟩
        refine ⟨wRes s p q, Ev.bind h1 (Ev.congr (fun k => (if_pos rfl).trans (if_pos rfl)) ?_), Ev.congr (fun k => (if_pos rfl).trans ((if_pos rfl).trans ((if_pos rfl).trans (if_pos ⟨hz, ha.1, ha.2, hb.1, hb.2⟩)))) ?_⟩
        · have hrel : Rel ((s.size + 2) * 4) ((List.replicate ((s.size + 2) * 4) (0 : Int)).set 0 1) (wAll s 0) := by
            refine ⟨(List.length_set).trans List.length_replicate, fun k => ?_⟩
            show _ = if k = 0 then (1 : Int) else 0
            by_cases c : k = 0
            · subst c; rw [if_pos rfl, gs_self _ _ _ (by rw [List.length_replicate]; omega)]
            · rw [if_neg c, gs_ne _ _ _ _ (fun e => c e.symm), List.getD_eq_getElem?_getD, List.getElem?_replicate]
              split <;> rfl
          have := spec_l0 s hw p q (by omega) (by omega) _ rfl s.size 0 _ (by omega) hrel
          have ew : wrap64 (4 * wrap64 ((s.size : Int) + 2)) = (((s.size + 2) * 4 : Nat) : Int) := by
            rw [w64 (x := (s.size : Int) + 2) (by omega) (by omega), w64 (by omega) (by omega)]
            omega
          have EW : Option.some (wrap64 (4 * wrap64 ((s.size : Int) + 2))) = some (((s.size + 2) * 4 : Nat) : Int) := congrArg some ew
          clear ew
          refine Ev.step (fun k => ?_) this
          rw [Bool.not_true, spec_WaysToFace.j0, if_neg (by decide), Option.some.inj EW, Int.toNat_natCast, if_pos (by omega), if_pos (by omega), Option.bind_some, if_pos (by rw [List.length_replicate]; omega)]
          rfl
        · have hrel := wfAll_rel s hw s.size (Nat.le_refl _)
          simp only [Int.toNat_natCast]
          rw [hrel.2]
          unfold wRes
          by_cases c : wAll s s.size (p * 4 + q) > 1000000000000000
          · rw [if_pos c, if_pos c]
            exact Ev.now _
          · rw [if_neg c, if_neg c]
            exact Ev.now _
theorem FnExactWaysToFace : ∀ (a0 : ByteArray) (a1 : Int) (a2 : Int), a0.size ≤ 140737488351232 → (Lit.int .i64 a1).wf = true → (Lit.int .i64 a2).wf = true → ∃ k, laws_FnExactWaysToFace.f k a0 a1 a2 = some true := by
  intro a0 a1 a2 w0 w1 w2
  refine Ev.rounds (r := true) ?_
  unfold laws_FnExactWaysToFace.f
  by_cases c0 : (a0.size : Int) > 1048576
  · simp only [if_pos c0]; exact Ev.now _
  simp only [if_neg c0]
  obtain ⟨r, hs, hi⟩ := both a0 a1 a2 w0
  refine Ev.bind hs (Ev.bind hi ?_)
  simp only [if_true, bne_self_eq_false]
  simpa using Ev.now true

end Go.Proofs.YtpnmmjhhnfacfaaDoor.Pure
