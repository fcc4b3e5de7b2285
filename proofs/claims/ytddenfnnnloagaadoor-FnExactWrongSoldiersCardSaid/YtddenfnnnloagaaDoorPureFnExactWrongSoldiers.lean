/- For all texts and lists of mistakes, the program's WrongSoldiers answers what the reference's does, and leaves its argument alone. -/
import Derived.Test.YtddenfnnnloagaaDoorPFnExactWrongSoldiersx8
namespace Go.Proofs.YtddenfnnnloagaaDoor.Pure
open Go.RowKit Go.Proofs.YtddenfnnnloagaaDoor.PFnExactWrongSoldiers Go.Proofs.YtddenfnnnloagaaDoorW.PrintWords Go.Proofs.YtddenfnnnloagaaDoorW.PrintLast
set_option linter.unusedVariables false
set_option linter.unusedSimpArgs false

theorem w64 {x : Int} (h1 : -9223372036854775808 ≤ x) (h2 : x ≤ 9223372036854775807) : wrap64 x = x := by
  unfold wrap64
  omega
theorem wf_lo {a : Int} (h : (Lit.int .i64 a).wf = true) : -9223372036854775808 ≤ a := by
  have h' : IntKind.i64.min ≤ a ∧ a ≤ IntKind.i64.max := by simpa [Lit.wf] using h
  have e : IntKind.i64.min = -9223372036854775808 := by decide
  omega
theorem wf_hi {a : Int} (h : (Lit.int .i64 a).wf = true) : a ≤ 9223372036854775807 := by
  have h' : IntKind.i64.min ≤ a ∧ a ≤ IntKind.i64.max := by simpa [Lit.wf] using h
  have e : IntKind.i64.max = 9223372036854775807 := by decide
  omega
theorem ev_congr_fun {α : Type} {g f : Nat → Option α} {r : α} (h : g = f) (k : Ev f r) : Ev g r := h ▸ k
theorem rd_mid (pre : List Int) (x : Int) (rest : List Int) : rd (pre ++ x :: rest) (pre.length : Int) = x := by
  simp [rd]
theorem bt_eq (s : ByteArray) (i : Nat) (h : i < s.data.toList.length) : bt s (i : Int) = ((s.data.toList[i]'h).toNat : Int) := by
  have h' : i < s.size := by rw [Lib.size_eq]; exact h
  unfold bt
  rw [dif_pos (by simpa using h')]
  simp only [Int.toNat_natCast]
  rw [Array.getElem_toList]
  rfl
theorem dropWhile_nil {α : Type} (p : α → Bool) (l : List α) : l.dropWhile p = [] ↔ l.all p = true := by
  induction l with
  | nil => simp
  | cons x l ih =>
    by_cases h : p x = true
    · simp [List.dropWhile, h, ih]
    · simp [List.dropWhile, h]
theorem dropWhile_all {α : Type} (p : α → Bool) (l : List α) (h : (l.dropWhile p).all p = true) : l.dropWhile p = [] := by
  induction l with
  | nil => rfl
  | cons x l ih =>
    by_cases hx : p x = true
    · simp only [List.dropWhile, hx] at h ⊢
      exact ih h
    · simp [List.dropWhile, hx] at h
theorem trim_nil (l cs : List UInt8) : Lib.trimS l cs = [] ↔ l.all (cs.contains ·) = true := by
  unfold Lib.trimS Lib.trimLeftS Lib.trimRightS
  rw [dropWhile_nil, List.all_reverse]
  constructor
  · intro h
    have := dropWhile_all _ _ h
    rw [dropWhile_nil, List.all_reverse] at this
    exact this
  · intro h
    rw [← List.all_reverse, ← dropWhile_nil] at h
    rw [h]; rfl
theorem trim_f (s c : ByteArray) (hs : s.size ≤ 140737488351232) (hc : c.size ≤ 1000000) (ha : c.data.toList.all (fun b => decide (b.toNat < 128)) = true) :
    strings_Trim.f s c = some ⟨(Lib.trimS s.data.toList c.data.toList).toArray⟩ := by
  unfold strings_Trim.f
  rw [if_pos ⟨by omega, hc, ha⟩]
theorem empty_test (l : List UInt8) : ((⟨l.toArray⟩ : ByteArray).toList == ([] : List UInt8)) = l.isEmpty := by
  rw [Lib.toList_data]
  cases l <;> rfl
theorem trim_test (l cs : List UInt8) : (Lib.trimS l cs).isEmpty = l.all (cs.contains ·) := by
  rw [Bool.eq_iff_iff, List.isEmpty_iff, trim_nil]
def wordB (s : ByteArray) : Bool := decide ((s.size : Int) ≤ 60) && s.data.toList.all (([83, 82, 65, 76] : List UInt8).contains ·)
def turnV (a : Int) : Int := if a = 83 then 0 else if a = 82 then 1 else if a = 65 then 2 else if a = 76 then 3 else -1
theorem drTurn_eq (a : Int) : spec_drTurn.f a = some (turnV a) := by
  unfold spec_drTurn.f turnV
  repeat' split
  all_goals rfl
theorem word_byte (b : UInt8) : ([83, 82, 65, 76] : List UInt8).contains b = !decide (turnV (b.toNat : Int) < 0) := by
  have hb := b.toNat_lt
  rw [Bool.eq_iff_iff]
  simp only [List.contains_iff_mem, List.mem_cons, List.not_mem_nil, or_false, Bool.not_eq_true', decide_eq_false_iff_not, ← UInt8.toNat_inj]
  have e1 : (83 : UInt8).toNat = 83 := rfl
  have e2 : (82 : UInt8).toNat = 82 := rfl
  have e3 : (65 : UInt8).toNat = 65 := rfl
  have e4 : (76 : UInt8).toNat = 76 := rfl
  rw [e1, e2, e3, e4]
  unfold turnV
  repeat' split
  all_goals omega
theorem spec_word_l0 (s : ByteArray) (hs : s.data.toList.length ≤ 140737488351232) (d : Nat) : ∀ i : Nat, i + d = s.data.toList.length → Ev (fun k => spec_drWord.l0 k s i) ((s.data.toList.drop i).all (([83, 82, 65, 76] : List UInt8).contains ·)) := by
  have hz := Lib.size_eq s
  induction d with
  | zero =>
    intro i hi
    rw [List.drop_of_length_le (by omega)]
    exact Ev.step (f := fun _ => some true) (fun k => by rw [spec_drWord.l0, if_neg (by omega)]) (Ev.now _)
  | succ d ih =>
    intro i hi
    have hil : i < s.data.toList.length := by omega
    rw [List.drop_eq_getElem_cons hil, List.all_cons, word_byte]
    refine Ev.step (f := fun k => if turnV ((s.data.toList[i]).toNat : Int) < 0 then some false else spec_drWord.l0 k s ((i + 1 : Nat) : Int)) (fun k => ?_) ?_
    · rw [spec_drWord.l0, if_pos (by omega), if_pos (by omega), bt_eq s i hil, drTurn_eq, w64 (x := (i : Int) + 1) (by omega) (by omega)]
      rfl
    · by_cases hc : turnV ((s.data.toList[i]).toNat : Int) < 0
      · rw [decide_eq_true hc]
        exact Ev.congr (fun k => if_pos hc) (Ev.now _)
      · rw [decide_eq_false hc, Bool.not_false, Bool.true_and]
        exact Ev.congr (fun k => if_neg hc) (ih (i + 1) (by omega))
theorem spec_word (s : ByteArray) (hs : s.size ≤ 140737488351232) : Ev (fun k => spec_drWord.f k s) (wordB s) := by
  have hz := Lib.size_eq s
  unfold spec_drWord.f wordB
  by_cases h : (s.size : Int) ≤ 60
  · simpa [h, show ¬ (s.size : Int) > 60 by omega] using spec_word_l0 s (by omega) s.data.toList.length 0 (by omega)
  · simpa [h, show (s.size : Int) > 60 by omega] using Ev.now false
theorem impl_word (s : ByteArray) (hs : s.size ≤ 140737488351232) : impl_areCommands.f s = some (wordB s) := by
  unfold impl_areCommands.f wordB
  rw [trim_f s _ hs (by decide) (by decide)]
  simp only [Option.bind_some, empty_test, trim_test]
  by_cases h : (s.size : Int) ≤ 60
  · rw [if_pos h, decide_eq_true h, Bool.true_and]
  · rw [if_neg h, decide_eq_false h, Bool.false_and]
theorem wordB_size {s : ByteArray} (h : wordB s = true) : s.size ≤ 60 := by
  unfold wordB at h
  simp only [Bool.and_eq_true, decide_eq_true_eq] at h
  omega
theorem wordB_at {s : ByteArray} (h : wordB s = true) (i : Nat) (hi : i < s.size) : bt s (i : Int) = 83 ∨ bt s (i : Int) = 82 ∨ bt s (i : Int) = 65 ∨ bt s (i : Int) = 76 := by
  have hz := Lib.size_eq s
  unfold wordB at h
  simp only [Bool.and_eq_true] at h
  have hm := List.all_eq_true.1 h.2 _ (List.getElem_mem (show i < s.data.toList.length by omega))
  rw [word_byte] at hm
  simp only [Bool.not_eq_true', decide_eq_false_iff_not] at hm
  rw [bt_eq s i (by omega)]
  unfold turnV at hm
  omega
theorem l1In_eq (a b c : Int) : spec_l1In.f a b c = some (decide (b ≤ a) && decide (a ≤ c)) := by
  unfold spec_l1In.f
  by_cases h : b ≤ a
  · rw [if_pos h]; simp [h]
  · rw [if_neg (show ¬ a ≥ b from h)]; simp [h]
theorem in_eq (a b c : Int) : impl_in.f a b c = some (decide (b ≤ a) && decide (a ≤ c)) := by
  unfold impl_in.f
  by_cases h : b ≤ a
  · rw [if_pos h]; simp [h]
  · rw [if_neg h]; simp [h]
theorem cast_len {α : Type} (l : List α) : (decide ((1 : Int) ≤ (l.length : Int)) && decide ((l.length : Int) ≤ 6)) = (decide (1 ≤ l.length) && decide (l.length ≤ 6)) := by
  congr 1 <;> exact decide_eq_decide.2 (by omega)
def sameM (f0 f1 : Int) (o : S53) : Bool := decide (o.f0 = f0) && decide (o.f1 = f1)
def chkM (a0 : Int) (s : ByteArray) (p : S53) : Bool := (decide (0 ≤ p.f0) && decide (p.f0 ≤ wrap64 (a0 - 1))) && ((decide (0 ≤ p.f1) && decide (p.f1 ≤ wrap64 ((s.size : Int) - 1))) && (decide ((p.f2.size : Int) = 1) && (!decide (turnV (bt p.f2 0) < 0) && !(bt p.f2 0 == bt s p.f1))))
def okM (a0 : Int) (s : ByteArray) (l : List S53) (i : Nat) : Bool := chkM a0 s (rd_T53 l (i : Int)) && !((l.take i).any (sameM (rd_T53 l (i : Int)).f0 (rd_T53 l (i : Int)).f1))
def allM (a0 : Int) (s : ByteArray) (l : List S53) : Nat → Nat → Bool
  | 0, _ => true
  | d + 1, i => okM a0 s l i && allM a0 s l d (i + 1)
theorem w64n (i : Nat) (h : i ≤ 1000000000) : wrap64 ((i : Int) + 1) = ((i + 1 : Nat) : Int) := by rw [w64 (by omega) (by omega)]; rfl
theorem rdM_at (t : List S53) (j : Nat) (h : j < t.length) : rd_T53 t (j : Int) = t[j] := by
  unfold rd_T53
  rw [Int.toNat_natCast, List.getD_eq_getElem?_getD, List.getElem?_eq_getElem h]; rfl
theorem spec_dup (a0 : Int) (s : ByteArray) (l t : List S53) (len i : Int) (f0 f1 : Int) (f2 : ByteArray) (R : Bool) (ht : t.length ≤ 1000000000) (hR : Ev (fun k => spec_drMistakes.l0 k a0 s l l len (wrap64 (i + 1))) R) (d : Nat) : ∀ j : Nat, j + d = t.length →
    Ev (fun k => spec_drMistakes.l1 k a0 s l l len i t (t.length : Int) j f0 f1 f2) (!((t.drop j).any (sameM f0 f1)) && R) := by
  induction d with
  | zero =>
    intro j hj
    rw [List.drop_of_length_le (by omega)]
    refine Ev.step (fun k => ?_) (by simpa using hR)
    rw [spec_drMistakes.l1, if_neg (by omega)]
  | succ d ih =>
    intro j hj
    have hjl : j < t.length := by omega
    have hr := rdM_at t j hjl
    rw [List.drop_eq_getElem_cons hjl, List.any_cons]
    have es : ∀ k, spec_drMistakes.l1 (k + 1) a0 s l l len i t (t.length : Int) j f0 f1 f2 = if t[j].f0 = f0 then (if t[j].f1 = f1 then some false else spec_drMistakes.l1 k a0 s l l len i t (t.length : Int) ((j + 1 : Nat) : Int) f0 f1 f2) else spec_drMistakes.l1 k a0 s l l len i t (t.length : Int) ((j + 1 : Nat) : Int) f0 f1 f2 := by
      intro k
      rw [spec_drMistakes.l1, if_pos (by omega), if_pos (by omega), if_pos (by omega), hr, w64n j (by omega)]
    refine Ev.step es ?_
    have hrec := ih (j + 1) (by omega)
    by_cases c0 : t[j].f0 = f0
    · by_cases c1 : t[j].f1 = f1
      · have e : sameM f0 f1 t[j] = true := by unfold sameM; simp [c0, c1]
        rw [e]
        exact Ev.congr (fun k => (if_pos c0).trans (if_pos c1)) (Ev.now _)
      · have e : sameM f0 f1 t[j] = false := by unfold sameM; simp [c1]
        rw [e, Bool.false_or]
        exact Ev.congr (fun k => (if_pos c0).trans (if_neg c1)) hrec
    · have e : sameM f0 f1 t[j] = false := by unfold sameM; simp [c0]
      rw [e, Bool.false_or]
      exact Ev.congr (fun k => if_neg c0) hrec
theorem spec_j3 (a0 : Int) (s : ByteArray) (l : List S53) (len : Int) (i : Nat) (hi : i ≤ l.length) (hl : l.length ≤ 1000000000) (x : Bool) (f0 f1 : Int) (f2 : ByteArray) (R : Bool) (hR : Ev (fun k => spec_drMistakes.l0 k a0 s l l len (wrap64 ((i : Int) + 1))) R) :
    Ev (fun k => spec_drMistakes.j3 k a0 s l i l len i x f0 f1 f2) (!x && (!((l.take i).any (sameM f0 f1)) && R)) := by
  cases x with
  | true => exact Ev.step (f := fun _ => some false) (fun k => by rw [spec_drMistakes.j3, if_pos rfl]) (Ev.now _)
  | false =>
    have hd := spec_dup a0 s l (l.take i) len i f0 f1 f2 R (by rw [List.length_take]; omega) hR (l.take i).length 0 (by omega)
    rw [List.drop_zero] at hd
    refine Ev.step (fun k => ?_) (by simpa using hd)
    rw [spec_drMistakes.j3, if_neg (by decide), if_pos (by omega), if_pos (by omega)]
    simp
theorem spec_j2 (a0 : Int) (s : ByteArray) (l : List S53) (len : Int) (i : Nat) (hi : i ≤ l.length) (hl : l.length ≤ 1000000000) (x : Bool) (f0 f1 : Int) (f2 : ByteArray) (R : Bool) (hx : x = false → (f2.size : Int) = 1 ∧ 0 ≤ f1 ∧ f1 < (s.size : Int)) (hR : Ev (fun k => spec_drMistakes.l0 k a0 s l l len (wrap64 ((i : Int) + 1))) R) :
    Ev (fun k => spec_drMistakes.j2 k a0 s l i l len i x f0 f1 f2) (!x && ((!decide (turnV (bt f2 0) < 0) && !(bt f2 0 == bt s f1)) && (!((l.take i).any (sameM f0 f1)) && R))) := by
  cases x with
  | true => exact Ev.step (f := fun _ => some false) (fun k => by rw [spec_drMistakes.j2, if_pos rfl]) (Ev.now _)
  | false =>
    obtain ⟨h1, h2, h3⟩ := hx rfl
    by_cases c : turnV (bt f2 0) < 0
    · have := spec_j3 a0 s l len i hi hl true f0 f1 f2 R hR
      refine Ev.step (fun k => ?_) (by simpa [c] using this)
      rw [spec_drMistakes.j2, if_neg (by decide), if_pos (by omega), drTurn_eq, Option.bind_some, if_pos c]
    · have := spec_j3 a0 s l len i hi hl (bt f2 0 == bt s f1) f0 f1 f2 R hR
      refine Ev.step (fun k => ?_) (by rw [decide_eq_false c, Bool.not_false, Bool.true_and, Bool.true_and]; exact this)
      rw [spec_drMistakes.j2, if_neg (by decide), if_pos (by omega), drTurn_eq, Option.bind_some, if_neg c, if_pos h2, if_pos h3]
theorem spec_mist_l0 (a0 : Int) (s : ByteArray) (l : List S53) (hs : s.size ≤ 60) (hl : l.length ≤ 1000000000) (d : Nat) : ∀ i : Nat, i + d = l.length → Ev (fun k => spec_drMistakes.l0 k a0 s l l (l.length : Int) i) (allM a0 s l d i) := by
  induction d with
  | zero =>
    intro i hi
    exact Ev.step (f := fun _ => some true) (fun k => by rw [spec_drMistakes.l0, if_neg (by omega)]) (Ev.now _)
  | succ d ih =>
    intro i hi
    have hR := ih (i + 1) (by omega)
    rw [← w64n i (by omega)] at hR
    rw [allM]
    unfold okM chkM
    have es : ∀ k, spec_drMistakes.l0 (k + 1) a0 s l l (l.length : Int) i = (spec_l1In.f ((rd_T53 l i).f0) 0 (wrap64 (a0 - 1))).bind fun t109 => (if t109 = true then ((spec_l1In.f ((rd_T53 l i).f1) 0 (wrap64 ((s.size : Int) - 1))).bind fun t110 => (if t110 = true then (spec_drMistakes.j2 k a0 s l i l (l.length : Int) i ((((rd_T53 l i).f2).size : Int) != 1) ((rd_T53 l i).f0) ((rd_T53 l i).f1) ((rd_T53 l i).f2)) else (spec_drMistakes.j2 k a0 s l i l (l.length : Int) i true ((rd_T53 l i).f0) ((rd_T53 l i).f1) ((rd_T53 l i).f2)))) else (spec_drMistakes.j2 k a0 s l i l (l.length : Int) i true ((rd_T53 l i).f0) ((rd_T53 l i).f1) ((rd_T53 l i).f2))) := by
      intro k
      rw [spec_drMistakes.l0, if_pos (by omega), if_pos (by omega), if_pos (by omega)]
    refine Ev.step es ?_
    generalize rd_T53 l (i : Int) = p
    have hil : i ≤ l.length := by omega
    simp only [l1In_eq, Option.bind_some]
    cases c0 : (decide (0 ≤ p.f0) && decide (p.f0 ≤ wrap64 (a0 - 1))) with
    | false =>
      have := spec_j2 a0 s l (l.length : Int) i hil hl true p.f0 p.f1 p.f2 _ (by intro h; cases h) hR
      exact Ev.congr (fun k => if_neg (by decide)) (by simpa using this)
    | true =>
      cases c1 : (decide (0 ≤ p.f1) && decide (p.f1 ≤ wrap64 ((s.size : Int) - 1))) with
      | false =>
        have := spec_j2 a0 s l (l.length : Int) i hil hl true p.f0 p.f1 p.f2 _ (by intro h; cases h) hR
        exact Ev.congr (fun k => (if_pos rfl).trans (if_neg (by decide))) (by simpa using this)
      | true =>
        have hb : 0 ≤ p.f1 ∧ p.f1 < (s.size : Int) := by
          rw [w64 (by omega) (by omega)] at c1
          simp only [Bool.and_eq_true, decide_eq_true_eq] at c1
          omega
        have := spec_j2 a0 s l (l.length : Int) i hil hl ((p.f2.size : Int) != 1) p.f0 p.f1 p.f2 _ (by intro h; have h' : (p.f2.size : Int) = 1 := by simpa using h
                                                                                                       exact ⟨h', hb.1, hb.2⟩) hR
        refine Ev.congr (fun k => (if_pos rfl).trans (if_pos rfl)) ?_
        have e : (!((p.f2.size : Int) != 1)) = decide ((p.f2.size : Int) = 1) := by by_cases h : (p.f2.size : Int) = 1 <;> simp [h]
        rw [e] at this
        simpa [Bool.and_assoc] using this
def mistB (a0 : Int) (s : ByteArray) (l : List S53) : Bool := (decide (1 ≤ a0) && decide (a0 ≤ 30)) && (wordB s && (decide (l.length ≤ 20) && allM a0 s l l.length 0))
theorem spec_mist (a0 : Int) (s : ByteArray) (l : List S53) (hs : s.size ≤ 140737488351232) (hl : l.length ≤ 1000000000) : Ev (fun k => spec_drMistakes.f k a0 s l) (mistB a0 s l) := by
  have h2 := spec_word s hs
  have no : Ev (fun k => spec_drMistakes.j0 k a0 s l true) false := Ev.step (f := fun _ => some false) (fun k => by rw [spec_drMistakes.j0, if_pos rfl]) (Ev.now _)
  unfold spec_drMistakes.f mistB
  simp only [l1In_eq, Option.bind_some]
  cases c : (decide (1 ≤ a0) && decide (a0 ≤ 30)) with
  | false => exact Ev.congr (fun k => if_neg (by decide)) no
  | true =>
    refine Ev.congr (fun k => if_pos rfl) ?_
    cases hw : wordB s with
    | false =>
      rw [hw] at h2
      exact Ev.bind h2 (Ev.congr (fun k => if_neg (by decide)) no)
    | true =>
      rw [hw] at h2
      refine Ev.bind h2 (Ev.congr (fun k => if_pos rfl) ?_)
      by_cases h20 : l.length ≤ 20
      · have e : decide ((l.length : Int) > 20) = false := decide_eq_false (by omega)
        rw [e, decide_eq_true h20]
        have := spec_mist_l0 a0 s l (wordB_size hw) hl l.length 0 (by omega)
        exact Ev.step (f := fun k => spec_drMistakes.l0 k a0 s l l (l.length : Int) ((0 : Nat) : Int)) (fun k => by rw [spec_drMistakes.j0, if_neg (by decide)]; rfl) (by simpa using this)
      · have e : decide ((l.length : Int) > 20) = true := decide_eq_true (by omega)
        rw [e, decide_eq_false h20]
        exact no
theorem contains_eq (f2 : ByteArray) (h : f2.size = 1) : strings_Contains.f (⟨#[83, 82, 65, 76]⟩ : ByteArray) f2 = some (!decide (turnV (bt f2 0) < 0)) := by
  unfold strings_Contains.f
  rw [if_pos h]
  obtain ⟨⟨t⟩⟩ := f2
  match t, h with
  | [b], _ =>
    have e : bt (⟨#[b]⟩ : ByteArray) 0 = (b.toNat : Int) := rfl
    show some (decide (0 ≤ Lib.indexByte [83, 82, 65, 76] b)) = some (!decide (turnV (bt (⟨#[b]⟩ : ByteArray) 0) < 0))
    rw [e, ← word_byte]
    congr 1
    by_cases h1 : b = 83
    · subst h1; decide
    · by_cases h2 : b = 82
      · subst h2; decide
      · by_cases h3 : b = 65
        · subst h3; decide
        · by_cases h4 : b = 76
          · subst h4; decide
          · have g1 : (83 == b) = false := by simpa using fun h => h1 h.symm
            have g2 : (82 == b) = false := by simpa using fun h => h2 h.symm
            have g3 : (65 == b) = false := by simpa using fun h => h3 h.symm
            have g4 : (76 == b) = false := by simpa using fun h => h4 h.symm
            simp [Lib.indexByte, g1, g2, g3, g4, h1, h2, h3, h4]
theorem impl_j1 (a0 : Int) (s : ByteArray) (l : List S53) (len : Int) (i : Nat) (hi : i ≤ l.length) (hl : l.length ≤ 1000000000) (x : Bool) (f0 f1 : Int) (f2 : ByteArray) (R : Bool) (hR : Ev (fun k => impl_areMistakes.l0 k a0 s l l len (wrap64 ((i : Int) + 1))) R) :
    Ev (fun k => impl_areMistakes.j1 k a0 s l i l len i x f0 f1 f2) (!x && (!((l.take i).any (sameM f0 f1)) && R)) := by
  cases x with
  | true => exact Ev.step (f := fun _ => some false) (fun k => by rw [impl_areMistakes.j1, if_pos rfl]) (Ev.now _)
  | false =>
    have es : ∀ k, impl_areMistakes.j1 (k + 1) a0 s l i l len i false f0 f1 f2 = if (l.take i).any (sameM f0 f1) = true then some false else impl_areMistakes.l0 k a0 s l l len (wrap64 ((i : Int) + 1)) := by
      intro k
      rw [impl_areMistakes.j1, if_neg (by decide), if_pos (by omega), if_pos (by omega)]
      rfl
    refine Ev.step es ?_
    cases c : (l.take i).any (sameM f0 f1) with
    | true => exact Ev.congr (fun k => if_pos rfl) (Ev.now _)
    | false => exact Ev.congr (fun k => if_neg (by decide)) (by simpa using hR)
def finM (a0 : Int) (s : ByteArray) (l : List S53) : Bool := decide (l.length ≤ 20) && ((decide (1 ≤ a0) && decide (a0 ≤ 30)) && wordB s)
theorem impl_mist_l0 (a0 : Int) (s : ByteArray) (l : List S53) (hs : s.size ≤ 140737488351232) (hl : l.length ≤ 1000000000) (d : Nat) : ∀ i : Nat, i + d = l.length → Ev (fun k => impl_areMistakes.l0 k a0 s l l (l.length : Int) i) (allM a0 s l d i && finM a0 s l) := by
  induction d with
  | zero =>
    intro i hi
    rw [allM, Bool.true_and]
    unfold finM
    refine Ev.step (f := fun _ => if (l.length : Int) ≤ 20 then ((impl_in.f a0 1 30).bind fun t132 => (if t132 = true then ((impl_areCommands.f s).bind fun t133 => (some t133)) else (some false))) else (some false)) (fun k => by rw [impl_areMistakes.l0, if_neg (by omega)]) ?_
    simp only [in_eq, impl_word s hs, Option.bind_some]
    by_cases h20 : l.length ≤ 20
    · rw [decide_eq_true h20, Bool.true_and]
      refine Ev.congr (fun k => if_pos (by omega)) ?_
      cases (decide (1 ≤ a0) && decide (a0 ≤ 30)) with
      | true => exact Ev.now _
      | false => exact Ev.now _
    · rw [decide_eq_false h20, Bool.false_and]
      exact Ev.congr (fun k => if_neg (by omega)) (Ev.now _)
  | succ d ih =>
    intro i hi
    have hR := ih (i + 1) (by omega)
    rw [← w64n i (by omega)] at hR
    rw [allM]
    unfold okM chkM
    have hil : i ≤ l.length := by omega
    have es : ∀ k, impl_areMistakes.l0 (k + 1) a0 s l l (l.length : Int) i = ((impl_in.f ((rd_T53 l i).f0) 0 (wrap64 (a0 - 1))).bind fun t136 => (if t136 = true then ((impl_in.f ((rd_T53 l i).f1) 0 (wrap64 ((s.size : Int) - 1))).bind fun t137 => (if t137 = true then (if (((rd_T53 l i).f2).size : Int) = 1 then ((strings_Contains.f (⟨#[83, 82, 65, 76]⟩ : ByteArray) ((rd_T53 l i).f2)).bind fun t138 => (if t138 = true then (if 0 < (((rd_T53 l i).f2).size : Int) then (if 0 ≤ ((rd_T53 l i).f1) then (if ((rd_T53 l i).f1) < (s.size : Int) then (impl_areMistakes.j1 k a0 s l i l (l.length : Int) i ((bt ((rd_T53 l i).f2) 0) == (bt s ((rd_T53 l i).f1))) ((rd_T53 l i).f0) ((rd_T53 l i).f1) ((rd_T53 l i).f2)) else (none)) else (none)) else (none)) else (impl_areMistakes.j1 k a0 s l i l (l.length : Int) i true ((rd_T53 l i).f0) ((rd_T53 l i).f1) ((rd_T53 l i).f2)))) else (impl_areMistakes.j1 k a0 s l i l (l.length : Int) i true ((rd_T53 l i).f0) ((rd_T53 l i).f1) ((rd_T53 l i).f2))) else (impl_areMistakes.j1 k a0 s l i l (l.length : Int) i true ((rd_T53 l i).f0) ((rd_T53 l i).f1) ((rd_T53 l i).f2)))) else (impl_areMistakes.j1 k a0 s l i l (l.length : Int) i true ((rd_T53 l i).f0) ((rd_T53 l i).f1) ((rd_T53 l i).f2)))) := by
      intro k
      rw [impl_areMistakes.l0, if_pos (by omega), if_pos (by omega), if_pos (by omega)]
    refine Ev.step es ?_
    generalize rd_T53 l (i : Int) = p
    have bad := impl_j1 a0 s l (l.length : Int) i hil hl true p.f0 p.f1 p.f2 _ hR
    simp only [in_eq, Option.bind_some]
    cases c0 : (decide (0 ≤ p.f0) && decide (p.f0 ≤ wrap64 (a0 - 1))) with
    | false => exact Ev.congr (fun k => if_neg (by decide)) (by simpa using bad)
    | true =>
      cases c1 : (decide (0 ≤ p.f1) && decide (p.f1 ≤ wrap64 ((s.size : Int) - 1))) with
      | false => exact Ev.congr (fun k => (if_pos rfl).trans (if_neg (by decide))) (by simpa using bad)
      | true =>
        have hb : 0 ≤ p.f1 ∧ p.f1 < (s.size : Int) := by
          rw [w64 (by omega) (by omega)] at c1
          simp only [Bool.and_eq_true, decide_eq_true_eq] at c1
          omega
        refine Ev.congr (fun k => (if_pos rfl).trans (if_pos rfl)) ?_
        by_cases h1 : (p.f2.size : Int) = 1
        · rw [contains_eq p.f2 (by omega)]
          simp only [Option.bind_some]
          refine Ev.congr (fun k => if_pos h1) ?_
          by_cases c2 : turnV (bt p.f2 0) < 0
          · refine Ev.congr (fun k => if_neg (by simp [c2])) (by simpa [c2] using bad)
          · have := impl_j1 a0 s l (l.length : Int) i hil hl (bt p.f2 0 == bt s p.f1) p.f0 p.f1 p.f2 _ hR
            refine Ev.congr (fun k => ?_) (by simpa [c2, h1, Bool.and_assoc] using this)
            rw [if_pos (by simp [c2]), if_pos (by omega), if_pos hb.1, if_pos hb.2]
        · exact Ev.congr (fun k => if_neg h1) (by simpa [h1] using bad)
theorem impl_mist (a0 : Int) (s : ByteArray) (l : List S53) (hs : s.size ≤ 140737488351232) (hl : l.length ≤ 1000000000) : Ev (fun k => impl_areMistakes.f k a0 s l) (mistB a0 s l) := by
  have := impl_mist_l0 a0 s l hs hl l.length 0 (by omega)
  have e : mistB a0 s l = (allM a0 s l l.length 0 && finM a0 s l) := by
    unfold mistB finM
    cases allM a0 s l l.length 0 <;> cases (decide (1 ≤ a0) && decide (a0 ≤ 30)) <;> cases wordB s <;> cases decide (l.length ≤ 20) <;> rfl
  rw [e]
  exact this
def convM (z : S52) : S53 := ⟨z.f0, z.f1, z.f2⟩
theorem rdLM_mid (pre : List S52) (x : S52) (rest : List S52) : rd_T52 (pre ++ x :: rest) (pre.length : Int) = x := by
  simp [rd_T52]
theorem toMist_l0 (rest : List S52) : ∀ (pre : List S52), pre.length + rest.length ≤ 100000000 →
    Ev (fun k => laws_toMistakeS.l0 k (pre ++ rest) (pre.map convM ++ List.replicate rest.length z53) pre.length) ((pre ++ rest).map convM) := by
  induction rest with
  | nil =>
    intro pre hl
    exact Ev.step (f := fun _ => some (pre.map convM)) (fun k => by rw [laws_toMistakeS.l0]; rw [if_neg (by simp)]; simp) (by simpa using Ev.now (pre.map convM))
  | cons x rest ih =>
    intro pre hl
    simp only [List.length_cons] at hl
    refine Ev.step (f := fun k => laws_toMistakeS.l0 k ((pre ++ [x]) ++ rest) ((pre ++ [x]).map convM ++ List.replicate rest.length z53) ((pre ++ [x]).length : Nat)) (fun k => ?_) ?_
    · rw [laws_toMistakeS.l0]
      rw [if_pos (by simp; omega), if_pos (by omega), rdLM_mid]
      unfold laws_toMistake.f
      simp only [Option.bind_some]
      rw [if_pos (by simp; omega), w64 (by omega) (by omega)]
      simp [List.replicate_succ, convM]
    · have := ih (pre ++ [x]) (by simp; omega)
      simpa using this
theorem toMist_ok (l : List S52) (hl : l.length ≤ 100000000) : Ev (fun k => laws_toMistakeS.f k l) (l.map convM) := by
  have := toMist_l0 l [] (by simpa using hl)
  refine Ev.congr (fun k => ?_) (by simpa using this)
  unfold laws_toMistakeS.f
  rw [if_pos (by omega), if_pos (by simp; omega)]
  simp
theorem eqMist_l0 (l : List S53) (hl : l.length ≤ 1000000000000000000) (d : Nat) : ∀ i : Int, 0 ≤ i → (l.length : Int) - i = d → Ev (fun k => laws_eqMistakeS.l0 k l l i) true := by
  induction d with
  | zero =>
    intro i h0 hd
    exact Ev.step (f := fun _ => some true) (fun k => by rw [laws_eqMistakeS.l0]; rw [if_neg (by omega)]) (Ev.now _)
  | succ d ih =>
    intro i h0 hd
    refine Ev.step (f := fun k => laws_eqMistakeS.l0 k l l (i + 1)) (fun k => ?_) (ih (i + 1) (by omega) (by omega))
    have he : ∀ (a b : Int) (c : ByteArray), laws_eqMistake.f a b c a b c = some true := fun a b c => by unfold laws_eqMistake.f; rw [if_pos rfl, if_pos rfl, if_pos rfl]
    rw [laws_eqMistakeS.l0, if_pos (by omega), if_pos h0, if_pos (by omega), he]
    simp only [Option.bind_some, if_true]
    rw [w64 (by omega) (by omega)]
theorem eqMist_self (l : List S53) (hl : l.length ≤ 1000000000000000000) : Ev (fun k => laws_eqMistakeS.f k l l) true :=
  Ev.congr (fun k => by unfold laws_eqMistakeS.f; rw [if_pos rfl]) (eqMist_l0 l hl l.length 0 (by omega) (by omega))
theorem szMist_l0 (l : List S52) (hl : l.length ≤ 9223372036854775807) (d : Nat) : ∀ (i : Nat) (x : Int), i + d = l.length → ∃ z, Ev (fun k => laws_szMistakeS.l0 k l x i) z := by
  induction d with
  | zero =>
    intro i x hi
    exact ⟨x, Ev.step (f := fun _ => some x) (fun k => by rw [laws_szMistakeS.l0, if_neg (by omega)]) (Ev.now _)⟩
  | succ d ih =>
    intro i x hi
    have hsz : ∃ y, laws_szMistake.f ((rd_T52 l i).f0) ((rd_T52 l i).f1) ((rd_T52 l i).f2) x = some y := by
      unfold laws_szMistake.f
      split
      · exact ⟨_, rfl⟩
      · exact ⟨_, rfl⟩
    obtain ⟨y, hy⟩ := hsz
    have es : ∀ k, laws_szMistakeS.l0 (k + 1) l x i = if y < 0 then some (-1) else laws_szMistakeS.l0 k l y ((i + 1 : Nat) : Int) := by
      intro k
      rw [laws_szMistakeS.l0, if_pos (by omega), if_pos (by omega), hy, w64 (x := (i : Int) + 1) (by omega) (by omega)]
      rfl
    by_cases c : y < 0
    · exact ⟨-1, Ev.step es (Ev.congr (fun k => if_pos c) (Ev.now _))⟩
    · obtain ⟨z, hz⟩ := ih (i + 1) y (by omega)
      exact ⟨z, Ev.step es (Ev.congr (fun k => if_neg c) hz)⟩
theorem szMist_ok (l : List S52) (hl : l.length ≤ 9223372036854775807) : ∃ z, Ev (fun k => laws_szMistakeS.f k l 1048576) z ∧ (¬ z < 0 → l.length ≤ 1048576) := by
  by_cases c : (1048576 - (l.length : Int)) < 0
  · refine ⟨-1, Ev.congr (fun k => ?_) (Ev.now _), by intro h; omega⟩
    unfold laws_szMistakeS.f
    rw [w64 (by omega) (by omega), if_pos c]
  · obtain ⟨z, hz⟩ := szMist_l0 l hl l.length 0 (1048576 - (l.length : Int)) (by omega)
    refine ⟨z, Ev.congr (fun k => ?_) hz, by intro _; omega⟩
    unfold laws_szMistakeS.f
    rw [w64 (by omega) (by omega), if_neg c]
    rfl
theorem turnOf_eq {b : Int} (h : b = 83 ∨ b = 82 ∨ b = 65 ∨ b = 76) : impl_turnOf.f b = some (turnV b) := by
  rcases h with rfl | rfl | rfl | rfl <;> rfl
theorem turnV_range {b : Int} (h : b = 83 ∨ b = 82 ∨ b = 65 ∨ b = 76) : 0 ≤ turnV b ∧ turnV b ≤ 3 := by
  rcases h with rfl | rfl | rfl | rfl <;> decide
theorem net_l0 (s : ByteArray) (hw : wordB s = true) (d : Nat) : ∀ (i : Nat) (acc : Int), i + d = s.size → 0 ≤ acc → acc ≤ 3 * i →
    ∃ t : Int, 0 ≤ t ∧ t ≤ 3 ∧ Ev (fun k => spec_drNet.l0 k s acc i) t ∧ Ev (fun k => impl_netTurn.l0 k s acc (s.size : Int) i) t := by
  have hz := wordB_size hw
  induction d with
  | zero =>
    intro i acc hi h0 h1
    refine ⟨Int.tmod acc 4, ?_, ?_, ?_, ?_⟩
    · rw [Int.tmod_eq_emod_of_nonneg h0]; omega
    · rw [Int.tmod_eq_emod_of_nonneg h0]; omega
    · exact Ev.step (f := fun _ => some (Int.tmod acc 4)) (fun k => by rw [spec_drNet.l0, if_neg (by omega)]) (Ev.now _)
    · exact Ev.step (f := fun _ => some (Int.tmod acc 4)) (fun k => by rw [impl_netTurn.l0, if_neg (by omega)]) (Ev.now _)
  | succ d ih =>
    intro i acc hi h0 h1
    have hb := wordB_at hw i (by omega)
    obtain ⟨hr1, hr2⟩ := turnV_range hb
    obtain ⟨t, ht0, ht3, a, b⟩ := ih (i + 1) (acc + turnV (bt s i)) (by omega) (by omega) (by omega)
    refine ⟨t, ht0, ht3, Ev.step (fun k => ?_) a, Ev.step (fun k => ?_) b⟩
    · rw [spec_drNet.l0, if_pos (by omega), if_pos (by omega), drTurn_eq, Option.bind_some, w64 (x := acc + turnV (bt s i)) (by omega) (by omega), w64 (x := (i : Int) + 1) (by omega) (by omega)]
      rfl
    · rw [impl_netTurn.l0, if_pos (by omega), if_pos (by omega), if_pos (by omega), turnOf_eq hb, Option.bind_some, w64 (x := acc + turnV (bt s i)) (by omega) (by omega), w64 (x := (i : Int) + 1) (by omega) (by omega)]
      rfl
theorem net_ok (s : ByteArray) (hw : wordB s = true) : ∃ t : Int, 0 ≤ t ∧ t ≤ 3 ∧ Ev (fun k => spec_drNet.f k s) t ∧ Ev (fun k => impl_netTurn.f k s) t :=
  net_l0 s hw s.size 0 0 (by omega) (by omega) (by omega)
def facB (s : ByteArray) : Bool := (decide (1 ≤ (s.size : Int)) && decide ((s.size : Int) ≤ 30)) && s.data.toList.all (([48, 49, 50, 51] : List UInt8).contains ·)
theorem fac_byte (b : UInt8) : ([48, 49, 50, 51] : List UInt8).contains b = (decide (0 ≤ (b.toNat : Int) - 48) && decide ((b.toNat : Int) - 48 ≤ 3)) := by
  have h : b = UInt8.ofNat b.toNat := by simp
  have hb := b.toNat_lt
  rw [Bool.eq_iff_iff]
  simp only [List.contains_iff_mem, List.mem_cons, List.not_mem_nil, or_false, Bool.and_eq_true, decide_eq_true_eq, ← UInt8.toNat_inj]
  have e1 : (48 : UInt8).toNat = 48 := rfl
  have e2 : (49 : UInt8).toNat = 49 := rfl
  have e3 : (50 : UInt8).toNat = 50 := rfl
  have e4 : (51 : UInt8).toNat = 51 := rfl
  rw [e1, e2, e3, e4]
  omega
theorem spec_fac_l0 (s : ByteArray) (hs : s.data.toList.length ≤ 140737488351232) (d : Nat) : ∀ i : Nat, i + d = s.data.toList.length → Ev (fun k => spec_drFacing.l0 k s i) ((s.data.toList.drop i).all (([48, 49, 50, 51] : List UInt8).contains ·)) := by
  have hz := Lib.size_eq s
  induction d with
  | zero =>
    intro i hi
    rw [List.drop_of_length_le (by omega)]
    exact Ev.step (f := fun _ => some true) (fun k => by rw [spec_drFacing.l0, if_neg (by omega)]) (Ev.now _)
  | succ d ih =>
    intro i hi
    have hil : i < s.data.toList.length := by omega
    have hb := (s.data.toList[i]).toNat_lt
    rw [List.drop_eq_getElem_cons hil, List.all_cons, fac_byte]
    refine Ev.step (f := fun k => if (decide (0 ≤ ((s.data.toList[i]).toNat : Int) - 48) && decide (((s.data.toList[i]).toNat : Int) - 48 ≤ 3)) = true then spec_drFacing.l0 k s ((i + 1 : Nat) : Int) else some false) (fun k => ?_) ?_
    · rw [spec_drFacing.l0, if_pos (by omega), if_pos (by omega), bt_eq s i hil, w64 (x := ((s.data.toList[i]).toNat : Int)) (by omega) (by omega), w64 (x := ((s.data.toList[i]).toNat : Int) - 48) (by omega) (by omega), l1In_eq, w64 (x := (i : Int) + 1) (by omega) (by omega)]
      rfl
    · cases hc : (decide (0 ≤ ((s.data.toList[i]).toNat : Int) - 48) && decide (((s.data.toList[i]).toNat : Int) - 48 ≤ 3)) with
      | true => simpa using ih (i + 1) (by omega)
      | false => simpa using Ev.now false
theorem spec_fac (s : ByteArray) (hs : s.size ≤ 140737488351232) : Ev (fun k => spec_drFacing.f k s) (facB s) := by
  have hz := Lib.size_eq s
  unfold spec_drFacing.f facB
  simp only [l1In_eq, Option.bind_some]
  cases (decide (1 ≤ (s.size : Int)) && decide ((s.size : Int) ≤ 30)) with
  | true => simpa using spec_fac_l0 s (by omega) s.data.toList.length 0 (by omega)
  | false => simpa using Ev.now false
theorem impl_fac (s : ByteArray) (hs : s.size ≤ 140737488351232) : impl_areFacing.f s = some (facB s) := by
  unfold impl_areFacing.f facB
  simp only [in_eq, Option.bind_some]
  rw [trim_f s _ hs (by decide) (by decide)]
  simp only [Option.bind_some, empty_test, trim_test]
  cases (decide (1 ≤ (s.size : Int)) && decide ((s.size : Int) ≤ 30)) <;> rfl
theorem facB_size {s : ByteArray} (h : facB s = true) : 1 ≤ s.size ∧ s.size ≤ 30 := by
  unfold facB at h
  simp only [Bool.and_eq_true, decide_eq_true_eq] at h
  omega
theorem facB_at {s : ByteArray} (h : facB s = true) (i : Nat) (hi : i < s.size) : ∃ v : Nat, v ≤ 3 ∧ bt s (i : Int) = 48 + (v : Int) := by
  have hz := Lib.size_eq s
  unfold facB at h
  simp only [Bool.and_eq_true] at h
  have hm := List.all_eq_true.1 h.2 _ (List.getElem_mem (show i < s.data.toList.length by omega))
  rw [fac_byte] at hm
  simp only [Bool.and_eq_true, decide_eq_true_eq] at hm
  refine ⟨(s.data.toList[i]).toNat - 48, by omega, ?_⟩
  rw [bt_eq s i (by omega)]
  omega
theorem strOfNums_append (xs ys : List Int) : strOfNums (xs ++ ys) = strOfNums xs ++ strOfNums ys := by
  apply ByteArray.ext
  simp [strOfNums]
def goodM (n : Int) (s : ByteArray) (m : S53) : Prop := 0 ≤ m.f0 ∧ m.f0 < n ∧ m.f2.size = 1 ∧ 0 ≤ m.f1 ∧ m.f1 < (s.size : Int) ∧ 0 ≤ turnV (bt m.f2 0)
theorem turnV_four {b : Int} (h : 0 ≤ turnV b) : b = 83 ∨ b = 82 ∨ b = 65 ∨ b = 76 := by
  unfold turnV at h
  omega
theorem tnV_eq {b : Int} (h : b = 83 ∨ b = 82 ∨ b = 65 ∨ b = 76) : tnV b = turnV b := by
  rcases h with rfl | rfl | rfl | rfl <;> decide +kernel
theorem allM_good (n : Int) (s : ByteArray) (l : List S53) (hn0 : 1 ≤ n) (hn : n ≤ 30) (hs : s.size ≤ 60) (d : Nat) : ∀ i : Nat, i + d = l.length → allM n s l d i = true → ∀ m ∈ l.drop i, goodM n s m := by
  induction d with
  | zero =>
    intro i hi _ m hm
    rw [List.drop_of_length_le (by omega)] at hm
    cases hm
  | succ d ih =>
    intro i hi h m hm
    have hil : i < l.length := by omega
    rw [allM, Bool.and_eq_true] at h
    rw [List.drop_eq_getElem_cons hil, List.mem_cons] at hm
    rcases hm with rfl | hm
    · have ho := h.1
      unfold okM at ho
      rw [Bool.and_eq_true, rdM_at l i hil] at ho
      have hc := ho.1
      unfold chkM at hc
      rw [w64 (x := n - 1) (by omega) (by omega), w64 (x := (s.size : Int) - 1) (by omega) (by omega)] at hc
      simp only [Bool.and_eq_true, decide_eq_true_eq, Bool.not_eq_true', decide_eq_false_iff_not] at hc
      obtain ⟨⟨h1, h2⟩, ⟨h3, h4⟩, h5, h6, _⟩ := hc
      exact ⟨h1, by omega, by omega, h3, by omega, by omega⟩
    · exact ih (i + 1) (by omega) h.2 m hm
theorem mistB_good (n : Int) (s : ByteArray) (l : List S53) (h : mistB n s l = true) : 1 ≤ n ∧ n ≤ 30 ∧ wordB s = true ∧ l.length ≤ 20 ∧ ∀ m ∈ l, goodM n s m := by
  unfold mistB at h
  simp only [Bool.and_eq_true, decide_eq_true_eq] at h
  obtain ⟨⟨h1, h2⟩, hw, h20, ha⟩ := h
  exact ⟨h1, h2, hw, h20, fun m hm => allM_good n s l h1 h2 (wordB_size hw) l.length 0 (by omega) ha m (by simpa using hm)⟩
/-- How far a mistake turns its soldier besides. -/
def byM (s : ByteArray) (m : S53) : Int := 4 + turnV (bt m.f2 0) - turnV (bt s m.f1)
/-- How far a soldier turns with the mistakes of a list. -/
def doneM (s : ByteArray) (i : Int) : List S53 → Int → Int
  | [], t => t
  | m :: l, t => doneM s i l (if m.f0 = i then t + byM s m else t)
theorem byM_range (n : Int) (s : ByteArray) (hw : wordB s = true) (m : S53) (h : goodM n s m) : 1 ≤ byM s m ∧ byM s m ≤ 7 ∧ dr_by s m = byM s m ∧ spec_drTurn.f (bt m.f2 0) = some (turnV (bt m.f2 0)) := by
  obtain ⟨h1, h2, h3, h4, h5, h6⟩ := h
  have ha := turnV_four h6
  have hb := wordB_at hw m.f1.toNat (by omega)
  rw [show ((m.f1.toNat : Nat) : Int) = m.f1 by omega] at hb
  obtain ⟨a1, a2⟩ := turnV_range ha
  obtain ⟨b1, b2⟩ := turnV_range hb
  unfold byM dr_by
  rw [tnV_eq ha, tnV_eq hb, drTurn_eq]
  refine ⟨by omega, by omega, ?_, rfl⟩
  rw [w64 (x := turnV (bt m.f2 0) + 4) (by omega) (by omega), w64 (by omega) (by omega)]
  omega
theorem doneM_range (n : Int) (s : ByteArray) (hw : wordB s = true) (i : Int) : ∀ (l : List S53) (t : Int), (∀ m ∈ l, goodM n s m) → t ≤ doneM s i l t ∧ doneM s i l t ≤ t + 7 * l.length := by
  intro l
  induction l with
  | nil => intro t _; exact ⟨Int.le_refl _, by simp [doneM]⟩
  | cons m l ih =>
    intro t h
    have hm := byM_range n s hw m (h m (by simp))
    have := ih (if m.f0 = i then t + byM s m else t) (fun x hx => h x (by simp [hx]))
    rw [doneM]
    simp only [List.length_cons]
    split at this
    · rename_i c; rw [if_pos c] ; omega
    · rename_i c; rw [if_neg c]; omega
theorem dr_getD_set (T : List Int) (a i : Nat) (v : Int) (h : a < T.length) : (T.set a v).getD i 0 = if a = i then v else T.getD i 0 := by
  by_cases c : a = i
  · subst c; rw [if_pos rfl, dr_set_self _ _ _ h]
  · rw [if_neg c, dr_set_ne _ _ _ _ c]
theorem dr_all_ok (n : Nat) (s : ByteArray) (hw : wordB s = true) : ∀ (l : List S53) (T : List Int) (B : Int), (∀ m ∈ l, goodM n s m) → T.length = n → (∀ i : Nat, 0 ≤ T.getD i 0 ∧ T.getD i 0 ≤ B) → B + 7 * l.length ≤ 1000000 →
    ∃ T', dr_all s l T = some T' ∧ T'.length = n ∧ ∀ i : Nat, i < n → T'.getD i 0 = doneM s i l (T.getD i 0) := by
  intro l
  induction l with
  | nil => intro T B _ hT _ _; exact ⟨T, rfl, hT, fun i _ => rfl⟩
  | cons m l ih =>
    intro T B h hT hR hB
    have hg := h m (by simp)
    obtain ⟨b1, b2, b3, _⟩ := byM_range n s hw m hg
    obtain ⟨h1, h2, h3, h4, h5, h6⟩ := hg
    simp only [List.length_cons] at hB
    have hr := hR m.f0.toNat
    have hlt : m.f0.toNat < T.length := by omega
    have hv : wrap64 (T.getD m.f0.toNat 0 + dr_by s m) = T.getD m.f0.toNat 0 + byM s m := by
      rw [b3]
      exact w64 (by omega) (by omega)
    have hget := dr_getD_set T m.f0.toNat
    obtain ⟨T', e, hl, hi⟩ := ih (T.set m.f0.toNat (T.getD m.f0.toNat 0 + byM s m)) (B + 7) (fun x hx => h x (by simp [hx])) (by rw [List.length_set]; exact hT)
      (fun i => by
        rw [hget i _ hlt]
        have := hR i
        split <;> omega) (by omega)
    refine ⟨T', ?_, hl, fun i hin => ?_⟩
    · rw [dr_all, if_pos ⟨h1, by omega, by omega, h4, h5⟩, hv]
      exact e
    · rw [hi i hin, hget i _ hlt, doneM]
      congr 1
      by_cases c : m.f0.toNat = i
      · rw [if_pos c, if_pos (by omega), c]
      · rw [if_neg c, if_neg (by omega)]
theorem drDone_l1 (n : Int) (hn0 : 1 ≤ n) (hn : n ≤ 30) (s : ByteArray) (hw : wordB s = true) (l : List S53) (h20 : l.length ≤ 20) (hg : ∀ m ∈ l, goodM n s m) (out : List Int) (ho : out.length ≤ 1000) (x : Int) (R : List Int) (d : Nat) :
    ∀ (j : Nat) (t : Int), j + d = l.length → 0 ≤ t → t ≤ 3 + 7 * j → Ev (fun k => spec_drDone.l0 k n s l (out ++ [doneM s x (l.drop j) t % 4]) (wrap64 (x + 1))) R →
    Ev (fun k => spec_drDone.l1 k n s l out x t l (l.length : Int) j) R := by
  induction d with
  | zero =>
    intro j t hj h0 h1 hR
    rw [List.drop_of_length_le (by omega)] at hR
    refine Ev.step (fun k => ?_) hR
    rw [spec_drDone.l1, if_neg (by omega), if_pos (by omega), Int.tmod_eq_emod_of_nonneg h0]
    rfl
  | succ d ih =>
    intro j t hj h0 h1 hR
    have hjl : j < l.length := by omega
    rw [List.drop_eq_getElem_cons hjl, doneM] at hR
    obtain ⟨b1, b2, b3, b4⟩ := byM_range n s hw l[j] (hg _ (List.getElem_mem hjl))
    obtain ⟨h1', h2', h3', h4', h5', h6'⟩ := hg _ (List.getElem_mem hjl)
    have hr := rdM_at l j hjl
    have es : ∀ k, spec_drDone.l1 (k + 1) n s l out x t l (l.length : Int) j = if l[j].f0 = x then (if 0 < ((l[j].f2.size : Nat) : Int) then ((spec_drTurn.f (bt l[j].f2 0)).bind fun t145 => (if 0 ≤ l[j].f1 then (if l[j].f1 < (s.size : Int) then ((spec_drTurn.f (bt s l[j].f1)).bind fun t146 => (spec_drDone.l1 k n s l out x (wrap64 (t + (wrap64 ((wrap64 (4 + t145)) - t146)))) l (l.length : Int) ((j + 1 : Nat) : Int))) else (none)) else (none))) else (none)) else (spec_drDone.l1 k n s l out x t l (l.length : Int) ((j + 1 : Nat) : Int)) := by
      intro k
      rw [spec_drDone.l1, if_pos (by omega), if_pos (by omega), if_pos (by omega), hr, w64n j (by omega)]
    refine Ev.step es ?_
    by_cases c : l[j].f0 = x
    · rw [if_pos c] at hR
      have hrec := ih (j + 1) (t + byM s l[j]) (by omega) (by omega) (by omega) hR
      have ha := turnV_range (turnV_four h6')
      have hb4 := wordB_at hw l[j].f1.toNat (by omega)
      rw [show ((l[j].f1.toNat : Nat) : Int) = l[j].f1 by omega] at hb4
      have hb := turnV_range hb4
      have e : wrap64 (t + wrap64 (wrap64 (4 + turnV (bt l[j].f2 0)) - turnV (bt s l[j].f1))) = t + byM s l[j] := by
        unfold byM at b1 b2 ⊢
        rw [w64 (x := 4 + turnV (bt l[j].f2 0)) (by omega) (by omega), w64 (x := 4 + turnV (bt l[j].f2 0) - turnV (bt s l[j].f1)) (by omega) (by omega), w64 (by omega) (by omega)]
      refine Ev.congr (fun k => ?_) hrec
      rw [if_pos c, if_pos (by omega), drTurn_eq, drTurn_eq, Option.bind_some, if_pos h4', if_pos h5', Option.bind_some, e]
    · rw [if_neg c] at hR
      have hrec := ih (j + 1) t (by omega) h0 (by omega) hR
      exact Ev.congr (fun k => if_neg c) hrec
def doneL (n : Nat) (s : ByteArray) (l : List S53) (t : Int) : List Int := (List.range n).map fun (i : Nat) => doneM s (i : Int) l t % 4
theorem doneL_succ (n : Nat) (s : ByteArray) (l : List S53) (t : Int) : doneL (n + 1) s l t = doneL n s l t ++ [doneM s (n : Int) l t % 4] := by
  unfold doneL
  rw [List.range_succ, List.map_append]
  rfl
theorem doneL_len (n : Nat) (s : ByteArray) (l : List S53) (t : Int) : (doneL n s l t).length = n := by simp [doneL]
theorem doneL_at (n : Nat) (s : ByteArray) (l : List S53) (t : Int) (i : Nat) (h : i < n) : rd (doneL n s l t) (i : Int) = doneM s (i : Int) l t % 4 := by
  simp [rd, doneL, h]
theorem drDone_l0 (n : Nat) (hn0 : 1 ≤ n) (hn : n ≤ 30) (s : ByteArray) (hw : wordB s = true) (l : List S53) (h20 : l.length ≤ 20) (hg : ∀ m ∈ l, goodM n s m) (t : Int) (ht0 : 0 ≤ t) (ht3 : t ≤ 3) (hnet : Ev (fun k => spec_drNet.f k s) t) (d : Nat) :
    ∀ i : Nat, i + d = n → Ev (fun k => spec_drDone.l0 k n s l (doneL i s l t) i) (doneL n s l t) := by
  induction d with
  | zero =>
    intro i hi
    obtain rfl : i = n := by omega
    exact Ev.step (f := fun _ => some (doneL i s l t)) (fun k => by rw [spec_drDone.l0, if_neg (by omega)]) (Ev.now _)
  | succ d ih =>
    intro i hi
    have hrec := ih (i + 1) (by omega)
    rw [doneL_succ, ← w64n i (by omega)] at hrec
    have es : ∀ k, spec_drDone.l0 (k + 1) n s l (doneL i s l t) i = (spec_drNet.f k s).bind fun t139 => (spec_drDone.l1 k n s l (doneL i s l t) i t139 l (l.length : Int) ((0 : Nat) : Int)) := by
      intro k
      rw [spec_drDone.l0, if_pos (by omega)]
      rfl
    refine Ev.step es (Ev.bind hnet ?_)
    exact drDone_l1 n (by omega) (by omega) s hw l h20 hg (doneL i s l t) (by rw [doneL_len]; omega) i _ l.length 0 t (by omega) ht0 (by omega) (by simpa using hrec)
/-- What the program's drilled answers, and what the reference computes, if all are right. -/
theorem drill_ok (a0 a1 : ByteArray) (l : List S53) (hs : a0.size ≤ 140737488351232) (hu : a1.size ≤ 140737488351232) (hl : l.length ≤ 1000000000) :
    (Ev (fun k => spec_drAsked.f k a0 a1 l) false ∧ Ev (fun k => impl_drilled.f k a0 a1 l) (⟨#[]⟩, ⟨#[]⟩, false)) ∨
    (Ev (fun k => spec_drAsked.f k a0 a1 l) true ∧ facB a0 = true ∧ wordB a1 = true ∧ l.length ≤ 20 ∧ mistB (a0.size : Int) a1 l = true ∧ (∀ m ∈ l, goodM (a0.size : Int) a1 m) ∧ ∃ (t : Int) (T : List Int), 0 ≤ t ∧ t ≤ 3 ∧ Ev (fun k => spec_drNet.f k a1) t ∧ Ev (fun k => impl_netTurn.f k a1) t ∧ Ev (fun k => spec_drDone.f k (a0.size : Int) a1 l) (doneL a0.size a1 l t) ∧ T.length = a0.size ∧ (∀ i : Nat, i < a0.size → T.getD i 0 = doneM a1 i l t ∧ t ≤ T.getD i 0 ∧ T.getD i 0 ≤ 200) ∧
      Ev (fun k => impl_drilled.f k a0 a1 l) (strOfNums (dr_facL a0 (fun _ => t) a0.size), strOfNums (dr_facL a0 (fun i => T.getD i.toNat 0) a0.size), true)) := by
  unfold spec_drAsked.f impl_drilled.f
  simp only [impl_fac a0 hs, impl_word a1 hu, Option.bind_some]
  have h1 := spec_fac a0 hs
  cases hf : facB a0 with
  | false =>
    rw [hf] at h1
    exact Or.inl ⟨Ev.bind h1 (Ev.congr (fun k => if_neg (by decide)) (Ev.now _)), Ev.congr (fun k => if_neg (by decide)) (Ev.now _)⟩
  | true =>
    rw [hf] at h1
    have hsz := facB_size hf
    have hsm := spec_mist (a0.size : Int) a1 l hu hl
    have him := impl_mist (a0.size : Int) a1 l hu hl
    cases hm : mistB (a0.size : Int) a1 l with
    | false =>
      rw [hm] at hsm him
      refine Or.inl ⟨Ev.bind h1 (Ev.congr (fun k => if_pos rfl) (Ev.bind hsm (Ev.now _))), ?_⟩
      cases hw : wordB a1 with
      | false => exact Ev.congr (fun k => (if_pos rfl).trans (if_neg (by decide))) (Ev.now _)
      | true => exact Ev.congr (fun k => (if_pos rfl).trans (if_pos rfl)) (Ev.bind him (Ev.congr (fun k => if_neg (by decide)) (Ev.now _)))
    | true =>
      rw [hm] at hsm him
      obtain ⟨g1, g2, hw, h20, hg⟩ := mistB_good _ a1 l hm
      obtain ⟨t, ht0, ht3, hsn, hin⟩ := net_ok a1 hw
      have hrep : ∀ i : Nat, i < a0.size → (List.replicate a0.size t).getD i 0 = t := fun i hi => by simp [List.getD, hi]
      obtain ⟨T, e, hT, hv⟩ := dr_all_ok a0.size a1 hw l (List.replicate a0.size t) 3 hg List.length_replicate (fun i => by
        by_cases hi : i < a0.size
        · rw [hrep i hi]; omega
        · rw [List.getD_eq_getElem?_getD, List.getElem?_eq_none (by rw [List.length_replicate]; omega)]
          exact ⟨Int.le_refl _, by decide⟩) (by omega)
      refine Or.inr ⟨Ev.bind h1 (Ev.congr (fun k => if_pos rfl) (Ev.bind hsm (Ev.now _))), rfl, hw, h20, rfl, hg, t, T, ht0, ht3, hsn, hin, ?_, hT, fun i hi => ?_, ?_⟩
      · exact drDone_l0 a0.size hsz.1 hsz.2 a1 hw l h20 hg t ht0 ht3 hsn a0.size 0 (by omega)
      · have hr := doneM_range (a0.size : Int) a1 hw i l t hg
        rw [hv i hi, hrep i hi]
        exact ⟨rfl, hr.1, by omega⟩
      · rw [hw]
        refine Ev.congr (fun k => (if_pos rfl).trans (if_pos rfl)) (Ev.bind him (Ev.congr (fun k => if_pos rfl) (Ev.bind hin (Ev.congr (fun k => if_pos hsz) ?_))))
        rw [e]
        exact Ev.now _
theorem dr_fac1_eq (v t : Int) (hv0 : 0 ≤ v) (hv3 : v ≤ 3) (ht0 : 0 ≤ t) (ht3 : t ≤ 1000) : dr_fac1 (48 + v) t = 48 + (v + t) % 4 := by
  unfold dr_fac1
  have e : (48 + v - 48) % 256 = v := by omega
  rw [e, w64 (x := v) (by omega) (by omega), w64 (x := v + t) (by omega) (by omega), Int.tmod_eq_emod_of_nonneg (by omega), w64 (by omega) (by omega)]
  omega
theorem dr_facL_succ (s : ByteArray) (T : Int → Int) (n : Nat) : dr_facL s T (n + 1) = dr_facL s T n ++ [dr_fac1 (bt s (n : Int)) (T (n : Int))] := by
  unfold dr_facL
  rw [List.range_succ, List.map_append]
  rfl
theorem dr_facL_len (s : ByteArray) (T : Int → Int) (n : Nat) : (dr_facL s T n).length = n := by simp [dr_facL]
theorem bt_strOfNums (l : List Int) (i : Nat) (hi : i < l.length) (h : 0 ≤ l.getD i 0 ∧ l.getD i 0 ≤ 255) : bt (strOfNums l) (i : Int) = l.getD i 0 := by
  have e : (strOfNums l).data.toList = l.map fun x => UInt8.ofNat x.toNat := by simp [strOfNums]
  have hi' : i < (strOfNums l).data.toList.length := by rw [e]; simpa using hi
  rw [bt_eq _ i hi']
  have : (strOfNums l).data.toList[i] = UInt8.ofNat (l[i]).toNat := by simp [e]
  rw [this]
  have hg : l.getD i 0 = l[i] := by simp [List.getD, hi]
  rw [hg] at h ⊢
  simp
  omega
/-- One sign of a facing behind turns. -/
theorem dr_bt (s : ByteArray) (hf : facB s = true) (T : Int → Int) (hT : ∀ i : Nat, i < s.size → 0 ≤ T (i : Int) ∧ T (i : Int) ≤ 1000) (i : Nat) (hi : i < s.size) (v : Nat) (hv : v ≤ 3) (hb : bt s (i : Int) = 48 + (v : Int)) : bt (strOfNums (dr_facL s T s.size)) (i : Int) = 48 + ((v : Int) + T (i : Int)) % 4 := by
  have h := hT i hi
  have e : (dr_facL s T s.size).getD i 0 = 48 + ((v : Int) + T (i : Int)) % 4 := by
    rw [← dr_fac1_eq v (T (i : Int)) (by omega) (by omega) h.1 h.2, ← hb]
    simp [dr_facL, List.getD, hi]
  rw [bt_strOfNums _ i (by rw [dr_facL_len]; exact hi) (by rw [e]; omega), e]
theorem mText_l0 (d : Nat) : ∀ (v : Int) (s : ByteArray), 0 ≤ v → v ≤ d → (s.size : Int) + d ≤ 4000000000000000000 → ∃ r, Ev (fun k => laws_markText.l0 k v s) r := by
  induction d with
  | zero =>
    intro v s h0 h1 h2
    refine ⟨(⟨#[109]⟩ : ByteArray) ++ s, Ev.step (f := fun _ => some ((⟨#[109]⟩ : ByteArray) ++ s)) (fun k => ?_) (Ev.now _)⟩
    rw [laws_markText.l0, if_neg (by omega), if_pos (by omega)]
  | succ d ih =>
    intro v s h0 h1 h2
    by_cases c : v > 0
    · have e : wrap64 (Int.tdiv v 10) = v / 10 := by rw [Int.tdiv_eq_ediv_of_nonneg h0, w64 (by omega) (by omega)]
      have hz : (strOfNums [wrap64 (48 + Int.tmod v 10) % 256] ++ s).size = 1 + s.size := by simp [strOfNums_size]
      obtain ⟨r, hr⟩ := ih (v / 10) (strOfNums [wrap64 (48 + Int.tmod v 10) % 256] ++ s) (by omega) (by omega) (by rw [hz]; omega)
      refine ⟨r, Ev.step (fun k => ?_) hr⟩
      rw [laws_markText.l0, if_pos c, Option.bind_some, e, if_pos (by simp only [strOfNums_size, List.length_singleton]; omega)]
    · refine ⟨(⟨#[109]⟩ : ByteArray) ++ s, Ev.step (f := fun _ => some ((⟨#[109]⟩ : ByteArray) ++ s)) (fun k => ?_) (Ev.now _)⟩
      rw [laws_markText.l0, if_neg c, if_pos (by omega)]
theorem mText_ok (v : Int) (h0 : 0 ≤ v) (h1 : v ≤ 2000000000000000000) : ∃ r, Ev (fun k => laws_markText.f k v) r := by
  unfold laws_markText.f
  by_cases c : v ≤ 0
  · exact ⟨_, Ev.congr (fun k => if_pos c) (Ev.now _)⟩
  · obtain ⟨r, hr⟩ := mText_l0 v.toNat v ⟨#[]⟩ h0 (by omega) (by rw [show (⟨#[]⟩ : ByteArray).size = 0 from rfl]; omega)
    exact ⟨r, Ev.congr (fun k => if_neg c) hr⟩
theorem markM_l0 (d : Nat) : ∀ (l : List S53) (i : Nat) (v : Int), i + d = l.length → 0 ≤ v → v + 3 * d ≤ 1000000000000000000 → l.length ≤ 1000000000000000000 → ∃ l', Ev (fun k => laws_markMistakeS.l0 k l v i) (v + 3 * d, l') := by
  induction d with
  | zero =>
    intro l i v hi h0 h1 hl
    refine ⟨l, Ev.step (f := fun _ => some (v, l)) (fun k => by rw [laws_markMistakeS.l0, if_neg (by omega)]) ?_⟩
    simpa using Ev.now (v, l)
  | succ d ih =>
    intro l i v hi h0 h1 hl
    obtain ⟨r, hr⟩ := mText_ok (v + 2) (by omega) (by omega)
    have w1 : wrap64 (v + 1) = v + 1 := w64 (by omega) (by omega)
    have w2 : wrap64 (v + 1 + 1) = v + 2 := by rw [w64 (by omega) (by omega)]; omega
    have w3 : wrap64 (v + 2 + 1) = v + 3 := by rw [w64 (by omega) (by omega)]; omega
    have w4 : wrap64 ((i : Int) + 1) = ((i + 1 : Nat) : Int) := by rw [w64 (by omega) (by omega)]; rfl
    have es : ∀ k, laws_markMistakeS.l0 (k + 1) l v i = (laws_markText.f k (v + 2)).bind fun t => laws_markMistakeS.l0 k (((l.set i (⟨v, (rd_T53 l (i : Int)).f1, (rd_T53 l (i : Int)).f2⟩ : S53)).set i (⟨(rd_T53 (l.set i (⟨v, (rd_T53 l (i : Int)).f1, (rd_T53 l (i : Int)).f2⟩ : S53)) (i : Int)).f0, v + 1, (rd_T53 (l.set i (⟨v, (rd_T53 l (i : Int)).f1, (rd_T53 l (i : Int)).f2⟩ : S53)) (i : Int)).f2⟩ : S53)).set i (⟨(rd_T53 ((l.set i (⟨v, (rd_T53 l (i : Int)).f1, (rd_T53 l (i : Int)).f2⟩ : S53)).set i (⟨(rd_T53 (l.set i (⟨v, (rd_T53 l (i : Int)).f1, (rd_T53 l (i : Int)).f2⟩ : S53)) (i : Int)).f0, v + 1, (rd_T53 (l.set i (⟨v, (rd_T53 l (i : Int)).f1, (rd_T53 l (i : Int)).f2⟩ : S53)) (i : Int)).f2⟩ : S53)) (i : Int)).f0, (rd_T53 ((l.set i (⟨v, (rd_T53 l (i : Int)).f1, (rd_T53 l (i : Int)).f2⟩ : S53)).set i (⟨(rd_T53 (l.set i (⟨v, (rd_T53 l (i : Int)).f1, (rd_T53 l (i : Int)).f2⟩ : S53)) (i : Int)).f0, v + 1, (rd_T53 (l.set i (⟨v, (rd_T53 l (i : Int)).f1, (rd_T53 l (i : Int)).f2⟩ : S53)) (i : Int)).f2⟩ : S53)) (i : Int)).f1, t⟩ : S53)) (v + 3) ((i + 1 : Nat) : Int) := by
      intro k
      rw [laws_markMistakeS.l0, if_pos (by omega), if_pos (by omega), Option.bind_some, Option.bind_some, w1, w2, w3, w4]
      rfl
    clear w1 w2 w3 w4
    have hn : ∀ L : List S53, L.length = l.length → ∃ l', Ev (fun k => laws_markMistakeS.l0 k L (v + 3) ((i + 1 : Nat) : Int)) (v + 3 * ((d + 1 : Nat) : Int), l') := fun L hL => by
      have e : v + 3 * ((d + 1 : Nat) : Int) = v + 3 + 3 * (d : Int) := by omega
      rw [e]
      exact ih L (i + 1) (v + 3) (by omega) (by omega) (by omega) (by omega)
    obtain ⟨l', hl'⟩ := hn _ ((List.length_set).trans ((List.length_set).trans (List.length_set)))
    exact ⟨l', Ev.step es (Ev.bind hr hl')⟩
theorem markM_ok (l : List S53) (hl : l.length ≤ 100000000000000000) : ∃ l', Ev (fun k => laws_markMistakeS.f k l 1) (1 + 3 * (l.length : Int), l') :=
  markM_l0 l.length l 0 1 (by omega) (by omega) (by omega) (by omega)
def marksFrom (v : Int) : Nat → List Int
  | 0 => []
  | n + 1 => v :: marksFrom (v + 1) n
theorem marksFrom_length (n : Nat) : ∀ v, (marksFrom v n).length = n := by
  induction n with
  | zero => intro v; rfl
  | succ n ih => intro v; simp [marksFrom, ih]
theorem mark_l0 (rest : List Int) : ∀ (pre : List Int) (v : Int), 0 ≤ v → v + rest.length ≤ 1000000000000000000 → pre.length + rest.length ≤ 1000000000000000000 →
    Ev (fun k => laws_markIntS.l0 k (pre ++ rest) v pre.length) (v + rest.length, pre ++ marksFrom v rest.length) := by
  induction rest with
  | nil =>
    intro pre v h0 hv hl
    exact Ev.step (f := fun _ => some (v, pre)) (fun k => by rw [laws_markIntS.l0]; rw [if_neg (by simp)]; simp) (by simpa [marksFrom] using Ev.now (v, pre))
  | cons x rest ih =>
    intro pre v h0 hv hl
    simp only [List.length_cons] at hv hl
    refine Ev.step (f := fun k => laws_markIntS.l0 k ((pre ++ [v]) ++ rest) (v + 1) ((pre ++ [v]).length : Nat)) (fun k => ?_) ?_
    · rw [laws_markIntS.l0]
      rw [if_pos (by simp; omega), if_pos (by omega), w64 (by omega) (by omega), w64 (by omega) (by omega)]
      simp
    · have := ih (pre ++ [v]) (v + 1) (by omega) (by omega) (by simp; omega)
      have e1 : v + 1 + (rest.length : Int) = v + ((x :: rest).length : Nat) := by simp; omega
      have e2 : (pre ++ [v]) ++ marksFrom (v + 1) rest.length = pre ++ marksFrom v (x :: rest).length := by simp [marksFrom]
      rw [e1, e2] at this
      exact this
theorem held_l0 (n : Nat) : ∀ (pre : List Int) (v : Int), 0 ≤ v → v + n ≤ 1000000000000000000 → pre.length + n ≤ 1000000000000000000 →
    Ev (fun k => laws_heldIntS.l0 k (pre ++ marksFrom v n) v pre.length) (v + n) := by
  induction n with
  | zero =>
    intro pre v h0 hv hl
    exact Ev.step (f := fun _ => some v) (fun k => by rw [laws_heldIntS.l0, marksFrom]; rw [if_neg (by simp)]) (by simpa using Ev.now v)
  | succ n ih =>
    intro pre v h0 hv hl
    refine Ev.step (f := fun k => laws_heldIntS.l0 k ((pre ++ [v]) ++ marksFrom (v + 1) n) (v + 1) ((pre ++ [v]).length : Nat)) (fun k => ?_) ?_
    · rw [laws_heldIntS.l0, marksFrom]
      rw [if_pos (by simp; omega), if_pos (by omega), if_pos (rd_mid _ _ _), w64 (by omega) (by omega), w64 (by omega) (by omega)]
      simp
    · have := ih (pre ++ [v]) (v + 1) (by omega) (by omega) (by simp; omega)
      have e1 : v + 1 + (n : Int) = v + ((n + 1 : Nat) : Int) := by omega
      rw [e1] at this
      exact this
theorem mark_ok (l : List Int) (hl : l.length ≤ 100000000000000000) : Ev (fun k => laws_markIntS.f k l 1) (1 + (l.length : Int), marksFrom 1 l.length) := by
  have := mark_l0 l [] 1 (by omega) (by omega) (by simp; omega)
  simpa [laws_markIntS.f] using this
theorem held_ok (n : Nat) (hl : n ≤ 100000000000000000) : Ev (fun k => laws_heldIntS.f k (marksFrom 1 n) 1) (1 + (n : Int)) := by
  have := held_l0 n [] 1 (by omega) (by omega) (by simp; omega)
  simpa [laws_heldIntS.f] using this
theorem eqIntS_l0 (l : List Int) (hl : l.length ≤ 1000000000000000000) (d : Nat) : ∀ i : Int, 0 ≤ i → (l.length : Int) - i = d → Ev (fun k => laws_eqIntS.l0 k l l i) true := by
  induction d with
  | zero =>
    intro i h0 hd
    exact Ev.step (f := fun _ => some true) (fun k => by rw [laws_eqIntS.l0]; rw [if_neg (by omega)]) (Ev.now _)
  | succ d ih =>
    intro i h0 hd
    refine Ev.step (f := fun k => laws_eqIntS.l0 k l l (i + 1)) (fun k => ?_) (ih (i + 1) (by omega) (by omega))
    rw [laws_eqIntS.l0]
    rw [if_pos (by omega), if_pos h0, if_pos (by omega), if_pos rfl, w64 (by omega) (by omega)]
theorem eqIntS_self (l : List Int) (hl : l.length ≤ 1000000000000000000) : Ev (fun k => laws_eqIntS.f k l l) true :=
  Ev.congr (fun k => by unfold laws_eqIntS.f; rw [if_pos rfl]) (eqIntS_l0 l hl l.length 0 (by omega) (by omega))
theorem both_l0 (s u : ByteArray) (l : List S53) (t : Int) (T : List Int) (hf : facB s = true) (hT : ∀ i : Nat, i < s.size → T.getD i 0 = doneM u i l t ∧ t ≤ T.getD i 0 ∧ T.getD i 0 ≤ 200) (ht0 : 0 ≤ t) (ht3 : t ≤ 3) (hnet : Ev (fun k => spec_drNet.f k u) t) (d : Nat) : ∀ (i : Nat) (out : List Int), i + d = s.size → out.length ≤ i →
    ∃ r : List Int, r.length ≤ s.size ∧ Ev (fun k => spec_WrongSoldiers.l0 k u out (doneL s.size u l t) (s.size : Int) i) (r, true) ∧ Ev (fun k => impl_WrongSoldiers.l0 k (strOfNums (dr_facL s (fun _ => t) s.size)) (strOfNums (dr_facL s (fun i => T.getD i.toNat 0) s.size)) out (s.size : Int) i) (r, true) := by
  have hsz := facB_size hf
  induction d with
  | zero =>
    intro i out hi ho
    exact ⟨out, by omega, Ev.step (f := fun _ => some (out, true)) (fun k => by rw [spec_WrongSoldiers.l0, if_neg (by omega)]) (Ev.now _), Ev.step (f := fun _ => some (out, true)) (fun k => by rw [impl_WrongSoldiers.l0, if_neg (by omega)]) (Ev.now _)⟩
  | succ d ih =>
    intro i out hi ho
    obtain ⟨v, hv, hb⟩ := facB_at hf i (by omega)
    obtain ⟨hTe, hT0, hT2⟩ := hT i (by omega)
    have hown := dr_bt s hf (fun i => T.getD i.toNat 0) (fun i hi => by
      have := hT i hi
      simp only [Int.toNat_natCast]
      omega) i (by omega) v hv hb
    have hdue := dr_bt s hf (fun _ => t) (fun i hi => by
      show 0 ≤ t ∧ t ≤ 1000
      omega) i (by omega) v hv hb
    simp only [Int.toNat_natCast] at hown
    have hrd := doneL_at s.size u l t i (by omega)
    rw [← hTe] at hrd
    have es : ∀ k, spec_WrongSoldiers.l0 (k + 1) u out (doneL s.size u l t) (s.size : Int) i = (spec_drNet.f k u).bind fun t152 => (if T.getD i 0 % 4 = t152 then (spec_WrongSoldiers.l0 k u out (doneL s.size u l t) (s.size : Int) ((i + 1 : Nat) : Int)) else (if out.length < 17592186044416 then (spec_WrongSoldiers.l0 k u (out ++ [(i : Int)]) (doneL s.size u l t) (s.size : Int) ((i + 1 : Nat) : Int)) else (none))) := by
      intro k
      rw [spec_WrongSoldiers.l0, if_pos (by omega), if_pos (by omega), if_pos (by rw [doneL_len]; omega), hrd, w64n i (by omega)]
    have ei : ∀ k, impl_WrongSoldiers.l0 (k + 1) (strOfNums (dr_facL s (fun _ => t) s.size)) (strOfNums (dr_facL s (fun i => T.getD i.toNat 0) s.size)) out (s.size : Int) i = (if T.getD i 0 % 4 = t then (impl_WrongSoldiers.l0 k (strOfNums (dr_facL s (fun _ => t) s.size)) (strOfNums (dr_facL s (fun i => T.getD i.toNat 0) s.size)) out (s.size : Int) ((i + 1 : Nat) : Int)) else (if out.length < 17592186044416 then (impl_WrongSoldiers.l0 k (strOfNums (dr_facL s (fun _ => t) s.size)) (strOfNums (dr_facL s (fun i => T.getD i.toNat 0) s.size)) (out ++ [(i : Int)]) (s.size : Int) ((i + 1 : Nat) : Int)) else (none))) := by
      intro k
      rw [impl_WrongSoldiers.l0, if_pos (by omega), if_pos (by omega), if_pos (by rw [strOfNums_size, dr_facL_len]; omega), if_pos (by rw [strOfNums_size, dr_facL_len]; omega), hown, hdue, w64n i (by omega)]
      by_cases c : T.getD i 0 % 4 = t
      · rw [if_pos c, if_pos (by omega)]
      · rw [if_neg c, if_neg (by omega)]
    by_cases c : T.getD i 0 % 4 = t
    · obtain ⟨r, hr, a, b⟩ := ih (i + 1) out (by omega) (by omega)
      exact ⟨r, hr, Ev.step es (Ev.bind hnet (Ev.congr (fun k => if_pos c) a)), Ev.step ei (Ev.congr (fun k => if_pos c) b)⟩
    · obtain ⟨r, hr, a, b⟩ := ih (i + 1) (out ++ [(i : Int)]) (by omega) (by simp; omega)
      exact ⟨r, hr, Ev.step es (Ev.bind hnet (Ev.congr (fun k => (if_neg c).trans (if_pos (by omega))) a)), Ev.step ei (Ev.congr (fun k => (if_neg c).trans (if_pos (by omega))) b)⟩
theorem both (a0 a1 : ByteArray) (l : List S53) (hs : a0.size ≤ 140737488351232) (hu : a1.size ≤ 140737488351232) (hl : l.length ≤ 1000000000) : ∃ r b, r.length ≤ 30 ∧ Ev (fun k => spec_WrongSoldiers.f k a0 a1 l) (r, b) ∧ Ev (fun k => impl_WrongSoldiers.f k a0 a1 l) (r, b) := by
  unfold spec_WrongSoldiers.f impl_WrongSoldiers.f
  rcases drill_ok a0 a1 l hs hu hl with ⟨h1, h2⟩ | ⟨h1, hf, hw, h20, hm, hg, t, T, ht0, ht3, hsn, hin, hd, hT, hv, hi⟩
  · exact ⟨[], false, by simp, Ev.bind h1 (Ev.congr (fun k => if_neg (by decide)) (Ev.now _)), Ev.bind h2 (Ev.congr (fun k => if_neg (by decide)) (Ev.now _))⟩
  · obtain ⟨r, hr, ha, hb⟩ := both_l0 a0 a1 l t T hf hv ht0 ht3 hsn a0.size 0 [] (by omega) (by simp)
    have hsz := facB_size hf
    refine ⟨r, true, by omega, Ev.bind h1 (Ev.congr (fun k => if_pos rfl) (Ev.bind hd ?_)), Ev.bind hi (Ev.congr (fun k => if_pos rfl) ?_)⟩
    · rw [doneL_len]
      exact ha
    · simp only [strOfNums_size, dr_facL_len]
      exact hb
theorem FnExactWrongSoldiers : ∀ (a0 : ByteArray) (a1 : ByteArray) (l2 : List S52), a0.size ≤ 140737488351232 → a1.size ≤ 140737488351232 → l2.length ≤ maxLen → (∀ z ∈ l2, (Lit.int .i64 z.f0).wf = true ∧ (Lit.int .i64 z.f1).wf = true ∧ z.f2.size ≤ maxLen) → ∃ k, laws_FnExactWrongSoldiers.f k a0 a1 l2 = some true := by
  intro a0 a1 l2 w0 w1 m2 w2
  unfold maxLen at m2
  refine Ev.rounds (r := true) ?_
  unfold laws_FnExactWrongSoldiers.f
  by_cases c0 : (a0.size : Int) > 1048576
  · simp only [if_pos c0]; exact Ev.now _
  simp only [if_neg c0]
  by_cases c1 : (a1.size : Int) > 1048576
  · simp only [if_pos c1]; exact Ev.now _
  simp only [if_neg c1]
  obtain ⟨z, hz, hzl⟩ := szMist_ok l2 (by omega)
  refine Ev.bind hz ?_
  by_cases cz : z < 0
  · exact Ev.congr (fun k => if_pos cz) (Ev.now _)
  refine Ev.congr (fun k => if_neg cz) ?_
  have hl2 := hzl cz
  have t0 := toMist_ok l2 (by omega)
  have hl : (l2.map convM).length ≤ 1000000000 := by rw [List.length_map]; omega
  obtain ⟨r, b, hr, hs, hi⟩ := both a0 a1 (l2.map convM) w0 w1 hl
  have he := eqIntS_self r (by omega)
  have hm := mark_ok r (by omega)
  have hh := held_ok r.length (by omega)
  obtain ⟨l', hmm⟩ := markM_ok (l2.map convM) (by omega)
  refine Ev.bind t0 (Ev.bind hs (Ev.bind t0 (Ev.bind hi (Ev.bind he ?_))))
  simp only [if_true, bne_self_eq_false]
  refine Ev.step (fun k => by rw [laws_FnExactWrongSoldiers.j0, if_neg (by decide)]) ?_
  refine Ev.bind t0 (Ev.bind (eqMist_self _ (by omega)) ?_)
  simp only [if_true]
  refine Ev.bind hmm ?_
  refine Ev.congr (fun k => if_neg (show ¬ (1 + 3 * ((l2.map convM).length : Int) < 0) by omega)) ?_
  refine Ev.bind he ?_
  simp only [if_true, bne_self_eq_false]
  refine Ev.step (fun k => by rw [laws_FnExactWrongSoldiers.j1, if_neg (by decide)]) ?_
  refine Ev.bind hm (Ev.bind hh ?_)
  refine Ev.congr (fun k => (if_neg (show ¬ (1 + (r.length : Int) < 0) by omega)).trans (if_pos rfl)) ?_
  refine Ev.bind t0 (Ev.bind hi (Ev.bind he ?_))
  simp only [if_true, bne_self_eq_false]
  refine Ev.step (fun k => by rw [laws_FnExactWrongSoldiers.j2, if_neg (by decide)]) ?_
  refine Ev.bind hh ?_
  exact Ev.congr (fun k => (if_neg (show ¬ (1 + (r.length : Int) < 0) by omega)).trans (if_pos rfl)) (Ev.now _)

end Go.Proofs.YtddenfnnnloagaaDoor.Pure
