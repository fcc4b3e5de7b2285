/- For every number, text and list of mistakes, the program's AreMistakes answers what the reference's does, and leaves its argument alone. -/
import Derived.Test.YtddenfnnnloagaaDoorPFnExactAreMistakesx5
namespace Go.Proofs.YtddenfnnnloagaaDoor.Pure
open Go.RowKit Go.Proofs.YtddenfnnnloagaaDoor.PFnExactAreMistakes Go.Proofs.YtddenfnnnloagaaDoorW.PrintWords Go.Proofs.YtddenfnnnloagaaDoorW.PrintLast
set_option linter.unusedVariables false
set_option linter.unusedSimpArgs false

theorem w64 {x : Int} (h1 : -9223372036854775808 ≤ x) (h2 : x ≤ 9223372036854775807) : wrap64 x = x := by
  unfold wrap64
  omega
theorem wf_lo {a : Int} (h : (Lit.int .i64 a).wf = true) : -9223372036854775808 ≤ a := by
  have h' : IntKind.i64.min ≤ a ∧ a ≤ IntKind.i64.max := by simpa [Lit.wf] using h
  have e : IntKind.i64.min = -9223372036854775808 := by decide
  omega
theorem wf_hi {a : Int} (h : (Lit.int .i64 a).wf = true) : a ≤ 9223372036854775807 := by
  have h' : IntKind.i64.min ≤ a ∧ a ≤ IntKind.i64.max := by simpa [Lit.wf] using h
  have e : IntKind.i64.max = 9223372036854775807 := by decide
  omega
theorem ev_congr_fun {α : Type} {g f : Nat → Option α} {r : α} (h : g = f) (k : Ev f r) : Ev g r := h ▸ k
theorem rd_mid (pre : List Int) (x : Int) (rest : List Int) : rd (pre ++ x :: rest) (pre.length : Int) = x := by
  simp [rd]
theorem bt_eq (s : ByteArray) (i : Nat) (h : i < s.data.toList.length) : bt s (i : Int) = ((s.data.toList[i]'h).toNat : Int) := by
  have h' : i < s.size := by rw [Lib.size_eq]; exact h
  unfold bt
  rw [dif_pos (by simpa using h')]
  simp only [Int.toNat_natCast]
  rw [Array.getElem_toList]
  rfl
theorem dropWhile_nil {α : Type} (p : α → Bool) (l : List α) : l.dropWhile p = [] ↔ l.all p = true := by
  induction l with
  | nil => simp
  | cons x l ih =>
    by_cases h : p x = true
    · simp [List.dropWhile, h, ih]
    · simp [List.dropWhile, h]
theorem dropWhile_all {α : Type} (p : α → Bool) (l : List α) (h : (l.dropWhile p).all p = true) : l.dropWhile p = [] := by
  induction l with
  | nil => rfl
  | cons x l ih =>
    by_cases hx : p x = true
    · simp only [List.dropWhile, hx] at h ⊢
      exact ih h
    · simp [List.dropWhile, hx] at h
theorem trim_nil (l cs : List UInt8) : Lib.trimS l cs = [] ↔ l.all (cs.contains ·) = true := by
  unfold Lib.trimS Lib.trimLeftS Lib.trimRightS
  rw [dropWhile_nil, List.all_reverse]
  constructor
  · intro h
    have := dropWhile_all _ _ h
    rw [dropWhile_nil, List.all_reverse] at this
    exact this
  · intro h
    rw [← List.all_reverse, ← dropWhile_nil] at h
    rw [h]; rfl
theorem trim_f (s c : ByteArray) (hs : s.size ≤ 140737488351232) (hc : c.size ≤ 1000000) (ha : c.data.toList.all (fun b => decide (b.toNat < 128)) = true) :
    strings_Trim.f s c = some ⟨(Lib.trimS s.data.toList c.data.toList).toArray⟩ := by
  unfold strings_Trim.f
  rw [if_pos ⟨by omega, hc, ha⟩]
theorem empty_test (l : List UInt8) : ((⟨l.toArray⟩ : ByteArray).toList == ([] : List UInt8)) = l.isEmpty := by
  rw [Lib.toList_data]
  cases l <;> rfl
theorem trim_test (l cs : List UInt8) : (Lib.trimS l cs).isEmpty = l.all (cs.contains ·) := by
  rw [Bool.eq_iff_iff, List.isEmpty_iff, trim_nil]
def wordB (s : ByteArray) : Bool := decide ((s.size : Int) ≤ 60) && s.data.toList.all (([83, 82, 65, 76] : List UInt8).contains ·)
def turnV (a : Int) : Int := if a = 83 then 0 else if a = 82 then 1 else if a = 65 then 2 else if a = 76 then 3 else -1
theorem drTurn_eq (a : Int) : spec_drTurn.f a = some (turnV a) := by
  unfold spec_drTurn.f turnV
  repeat' split
  all_goals rfl
theorem word_byte (b : UInt8) : ([83, 82, 65, 76] : List UInt8).contains b = !decide (turnV (b.toNat : Int) < 0) := by
  have hb := b.toNat_lt
  rw [Bool.eq_iff_iff]
  simp only [List.contains_iff_mem, List.mem_cons, List.not_mem_nil, or_false, Bool.not_eq_true', decide_eq_false_iff_not, ← UInt8.toNat_inj]
  have e1 : (83 : UInt8).toNat = 83 := rfl
  have e2 : (82 : UInt8).toNat = 82 := rfl
  have e3 : (65 : UInt8).toNat = 65 := rfl
  have e4 : (76 : UInt8).toNat = 76 := rfl
  rw [e1, e2, e3, e4]
  unfold turnV
  repeat' split
  all_goals omega
theorem spec_word_l0 (s : ByteArray) (hs : s.data.toList.length ≤ 140737488351232) (d : Nat) : ∀ i : Nat, i + d = s.data.toList.length → Ev (fun k => spec_drWord.l0 k s i) ((s.data.toList.drop i).all (([83, 82, 65, 76] : List UInt8).contains ·)) := by
  have hz := Lib.size_eq s
  induction d with
  | zero =>
    intro i hi
    rw [List.drop_of_length_le (by omega)]
    exact Ev.step (f := fun _ => some true) (fun k => by rw [spec_drWord.l0, if_neg (by omega)]) (Ev.now _)
  | succ d ih =>
    intro i hi
    have hil : i < s.data.toList.length := by omega
    rw [List.drop_eq_getElem_cons hil, List.all_cons, word_byte]
    refine Ev.step (f := fun k => if turnV ((s.data.toList[i]).toNat : Int) < 0 then some false else spec_drWord.l0 k s ((i + 1 : Nat) : Int)) (fun k => ?_) ?_
    · rw [spec_drWord.l0, if_pos (by omega), if_pos (by omega), bt_eq s i hil, drTurn_eq, w64 (x := (i : Int) + 1) (by omega) (by omega)]
      rfl
    · by_cases hc : turnV ((s.data.toList[i]).toNat : Int) < 0
      · rw [decide_eq_true hc]
        exact Ev.congr (fun k => if_pos hc) (Ev.now _)
      · rw [decide_eq_false hc, Bool.not_false, Bool.true_and]
        exact Ev.congr (fun k => if_neg hc) (ih (i + 1) (by omega))
theorem spec_word (s : ByteArray) (hs : s.size ≤ 140737488351232) : Ev (fun k => spec_drWord.f k s) (wordB s) := by
  have hz := Lib.size_eq s
  unfold spec_drWord.f wordB
  by_cases h : (s.size : Int) ≤ 60
  · simpa [h, show ¬ (s.size : Int) > 60 by omega] using spec_word_l0 s (by omega) s.data.toList.length 0 (by omega)
  · simpa [h, show (s.size : Int) > 60 by omega] using Ev.now false
theorem impl_word (s : ByteArray) (hs : s.size ≤ 140737488351232) : impl_areCommands.f s = some (wordB s) := by
  unfold impl_areCommands.f wordB
  rw [trim_f s _ hs (by decide) (by decide)]
  simp only [Option.bind_some, empty_test, trim_test]
  by_cases h : (s.size : Int) ≤ 60
  · rw [if_pos h, decide_eq_true h, Bool.true_and]
  · rw [if_neg h, decide_eq_false h, Bool.false_and]
theorem wordB_size {s : ByteArray} (h : wordB s = true) : s.size ≤ 60 := by
  unfold wordB at h
  simp only [Bool.and_eq_true, decide_eq_true_eq] at h
  omega
theorem wordB_at {s : ByteArray} (h : wordB s = true) (i : Nat) (hi : i < s.size) : bt s (i : Int) = 83 ∨ bt s (i : Int) = 82 ∨ bt s (i : Int) = 65 ∨ bt s (i : Int) = 76 := by
  have hz := Lib.size_eq s
  unfold wordB at h
  simp only [Bool.and_eq_true] at h
  have hm := List.all_eq_true.1 h.2 _ (List.getElem_mem (show i < s.data.toList.length by omega))
  rw [word_byte] at hm
  simp only [Bool.not_eq_true', decide_eq_false_iff_not] at hm
  rw [bt_eq s i (by omega)]
  unfold turnV at hm
  omega
theorem l1In_eq (a b c : Int) : spec_l1In.f a b c = some (decide (b ≤ a) && decide (a ≤ c)) := by
  unfold spec_l1In.f
  by_cases h : b ≤ a
  · rw [if_pos h]; simp [h]
  · rw [if_neg (show ¬ a ≥ b from h)]; simp [h]
theorem in_eq (a b c : Int) : impl_in.f a b c = some (decide (b ≤ a) && decide (a ≤ c)) := by
  unfold impl_in.f
  by_cases h : b ≤ a
  · rw [if_pos h]; simp [h]
  · rw [if_neg h]; simp [h]
theorem cast_len {α : Type} (l : List α) : (decide ((1 : Int) ≤ (l.length : Int)) && decide ((l.length : Int) ≤ 6)) = (decide (1 ≤ l.length) && decide (l.length ≤ 6)) := by
  congr 1 <;> exact decide_eq_decide.2 (by omega)
def sameM (f0 f1 : Int) (o : S53) : Bool := decide (o.f0 = f0) && decide (o.f1 = f1)
def chkM (a0 : Int) (s : ByteArray) (p : S53) : Bool := (decide (0 ≤ p.f0) && decide (p.f0 ≤ wrap64 (a0 - 1))) && ((decide (0 ≤ p.f1) && decide (p.f1 ≤ wrap64 ((s.size : Int) - 1))) && (decide ((p.f2.size : Int) = 1) && (!decide (turnV (bt p.f2 0) < 0) && !(bt p.f2 0 == bt s p.f1))))
def okM (a0 : Int) (s : ByteArray) (l : List S53) (i : Nat) : Bool := chkM a0 s (rd_T53 l (i : Int)) && !((l.take i).any (sameM (rd_T53 l (i : Int)).f0 (rd_T53 l (i : Int)).f1))
def allM (a0 : Int) (s : ByteArray) (l : List S53) : Nat → Nat → Bool
  | 0, _ => true
  | d + 1, i => okM a0 s l i && allM a0 s l d (i + 1)
theorem w64n (i : Nat) (h : i ≤ 1000000000) : wrap64 ((i : Int) + 1) = ((i + 1 : Nat) : Int) := by rw [w64 (by omega) (by omega)]; rfl
theorem rdM_at (t : List S53) (j : Nat) (h : j < t.length) : rd_T53 t (j : Int) = t[j] := by
  unfold rd_T53
  rw [Int.toNat_natCast, List.getD_eq_getElem?_getD, List.getElem?_eq_getElem h]; rfl
theorem spec_dup (a0 : Int) (s : ByteArray) (l t : List S53) (len i : Int) (f0 f1 : Int) (f2 : ByteArray) (R : Bool) (ht : t.length ≤ 1000000000) (hR : Ev (fun k => spec_drMistakes.l0 k a0 s l l len (wrap64 (i + 1))) R) (d : Nat) : ∀ j : Nat, j + d = t.length →
    Ev (fun k => spec_drMistakes.l1 k a0 s l l len i t (t.length : Int) j f0 f1 f2) (!((t.drop j).any (sameM f0 f1)) && R) := by
  induction d with
  | zero =>
    intro j hj
    rw [List.drop_of_length_le (by omega)]
    refine Ev.step (fun k => ?_) (by simpa using hR)
    rw [spec_drMistakes.l1, if_neg (by omega)]
  | succ d ih =>
    intro j hj
    have hjl : j < t.length := by omega
    have hr := rdM_at t j hjl
    rw [List.drop_eq_getElem_cons hjl, List.any_cons]
    have es : ∀ k, spec_drMistakes.l1 (k + 1) a0 s l l len i t (t.length : Int) j f0 f1 f2 = if t[j].f0 = f0 then (if t[j].f1 = f1 then some false else spec_drMistakes.l1 k a0 s l l len i t (t.length : Int) ((j + 1 : Nat) : Int) f0 f1 f2) else spec_drMistakes.l1 k a0 s l l len i t (t.length : Int) ((j + 1 : Nat) : Int) f0 f1 f2 := by
      intro k
      rw [spec_drMistakes.l1, if_pos (by omega), if_pos (by omega), if_pos (by omega), hr, w64n j (by omega)]
    refine Ev.step es ?_
    have hrec := ih (j + 1) (by omega)
    by_cases c0 : t[j].f0 = f0
    · by_cases c1 : t[j].f1 = f1
      · have e : sameM f0 f1 t[j] = true := by unfold sameM; simp [c0, c1]
        rw [e]
        exact Ev.congr (fun k => (if_pos c0).trans (if_pos c1)) (Ev.now _)
      · have e : sameM f0 f1 t[j] = false := by unfold sameM; simp [c1]
        rw [e, Bool.false_or]
        exact Ev.congr (fun k => (if_pos c0).trans (if_neg c1)) hrec
    · have e : sameM f0 f1 t[j] = false := by unfold sameM; simp [c0]
      rw [e, Bool.false_or]
      exact Ev.congr (fun k => if_neg c0) hrec
theorem spec_j3 (a0 : Int) (s : ByteArray) (l : List S53) (len : Int) (i : Nat) (hi : i ≤ l.length) (hl : l.length ≤ 1000000000) (x : Bool) (f0 f1 : Int) (f2 : ByteArray) (R : Bool) (hR : Ev (fun k => spec_drMistakes.l0 k a0 s l l len (wrap64 ((i : Int) + 1))) R) :
    Ev (fun k => spec_drMistakes.j3 k a0 s l i l len i x f0 f1 f2) (!x && (!((l.take i).any (sameM f0 f1)) && R)) := by
  cases x with
  | true => exact Ev.step (f := fun _ => some false) (fun k => by rw [spec_drMistakes.j3, if_pos rfl]) (Ev.now _)
  | false =>
    have hd := spec_dup a0 s l (l.take i) len i f0 f1 f2 R (by rw [List.length_take]; omega) hR (l.take i).length 0 (by omega)
    rw [List.drop_zero] at hd
    refine Ev.step (fun k => ?_) (by simpa using hd)
    rw [spec_drMistakes.j3, if_neg (by decide), if_pos (by omega), if_pos (by omega)]
    simp
theorem spec_j2 (a0 : Int) (s : ByteArray) (l : List S53) (len : Int) (i : Nat) (hi : i ≤ l.length) (hl : l.length ≤ 1000000000) (x : Bool) (f0 f1 : Int) (f2 : ByteArray) (R : Bool) (hx : x = false → (f2.size : Int) = 1 ∧ 0 ≤ f1 ∧ f1 < (s.size : Int)) (hR : Ev (fun k => spec_drMistakes.l0 k a0 s l l len (wrap64 ((i : Int) + 1))) R) :
    Ev (fun k => spec_drMistakes.j2 k a0 s l i l len i x f0 f1 f2) (!x && ((!decide (turnV (bt f2 0) < 0) && !(bt f2 0 == bt s f1)) && (!((l.take i).any (sameM f0 f1)) && R))) := by
  cases x with
  | true => exact Ev.step (f := fun _ => some false) (fun k => by rw [spec_drMistakes.j2, if_pos rfl]) (Ev.now _)
  | false =>
    obtain ⟨h1, h2, h3⟩ := hx rfl
    by_cases c : turnV (bt f2 0) < 0
    · have := spec_j3 a0 s l len i hi hl true f0 f1 f2 R hR
      refine Ev.step (fun k => ?_) (by simpa [c] using this)
      rw [spec_drMistakes.j2, if_neg (by decide), if_pos (by omega), drTurn_eq, Option.bind_some, if_pos c]
    · have := spec_j3 a0 s l len i hi hl (bt f2 0 == bt s f1) f0 f1 f2 R hR
      refine Ev.step (fun k => ?_) (by rw [decide_eq_false c, Bool.not_false, Bool.true_and, Bool.true_and]; exact this)
      rw [spec_drMistakes.j2, if_neg (by decide), if_pos (by omega), drTurn_eq, Option.bind_some, if_neg c, if_pos h2, if_pos h3]
theorem spec_mist_l0 (a0 : Int) (s : ByteArray) (l : List S53) (hs : s.size ≤ 60) (hl : l.length ≤ 1000000000) (d : Nat) : ∀ i : Nat, i + d = l.length → Ev (fun k => spec_drMistakes.l0 k a0 s l l (l.length : Int) i) (allM a0 s l d i) := by
  induction d with
  | zero =>
    intro i hi
    exact Ev.step (f := fun _ => some true) (fun k => by rw [spec_drMistakes.l0, if_neg (by omega)]) (Ev.now _)
  | succ d ih =>
    intro i hi
    have hR := ih (i + 1) (by omega)
    rw [← w64n i (by omega)] at hR
    rw [allM]
    unfold okM chkM
    have es : ∀ k, spec_drMistakes.l0 (k + 1) a0 s l l (l.length : Int) i = (spec_l1In.f ((rd_T53 l i).f0) 0 (wrap64 (a0 - 1))).bind fun t109 => (if t109 = true then ((spec_l1In.f ((rd_T53 l i).f1) 0 (wrap64 ((s.size : Int) - 1))).bind fun t110 => (if t110 = true then (spec_drMistakes.j2 k a0 s l i l (l.length : Int) i ((((rd_T53 l i).f2).size : Int) != 1) ((rd_T53 l i).f0) ((rd_T53 l i).f1) ((rd_T53 l i).f2)) else (spec_drMistakes.j2 k a0 s l i l (l.length : Int) i true ((rd_T53 l i).f0) ((rd_T53 l i).f1) ((rd_T53 l i).f2)))) else (spec_drMistakes.j2 k a0 s l i l (l.length : Int) i true ((rd_T53 l i).f0) ((rd_T53 l i).f1) ((rd_T53 l i).f2))) := by
      intro k
      rw [spec_drMistakes.l0, if_pos (by omega), if_pos (by omega), if_pos (by omega)]
    refine Ev.step es ?_
    generalize rd_T53 l (i : Int) = p
    have hil : i ≤ l.length := by omega
    simp only [l1In_eq, Option.bind_some]
    cases c0 : (decide (0 ≤ p.f0) && decide (p.f0 ≤ wrap64 (a0 - 1))) with
    | false =>
      have := spec_j2 a0 s l (l.length : Int) i hil hl true p.f0 p.f1 p.f2 _ (by intro h; cases h) hR
      exact Ev.congr (fun k => if_neg (by decide)) (by simpa using this)
    | true =>
      cases c1 : (decide (0 ≤ p.f1) && decide (p.f1 ≤ wrap64 ((s.size : Int) - 1))) with
      | false =>
        have := spec_j2 a0 s l (l.length : Int) i hil hl true p.f0 p.f1 p.f2 _ (by intro h; cases h) hR
        exact Ev.congr (fun k => (if_pos rfl).trans (if_neg (by decide))) (by simpa using this)
      | true =>
        have hb : 0 ≤ p.f1 ∧ p.f1 < (s.size : Int) := by
          rw [w64 (by omega) (by omega)] at c1
          simp only [Bool.and_eq_true, decide_eq_true_eq] at c1
          omega
        have := spec_j2 a0 s l (l.length : Int) i hil hl ((p.f2.size : Int) != 1) p.f0 p.f1 p.f2 _ (by intro h; have h' : (p.f2.size : Int) = 1 := by simpa using h
                                                                                                       exact ⟨h', hb.1, hb.2⟩) hR
        refine Ev.congr (fun k => (if_pos rfl).trans (if_pos rfl)) ?_
        have e : (!((p.f2.size : Int) != 1)) = decide ((p.f2.size : Int) = 1) := by by_cases h : (p.f2.size : Int) = 1 <;> simp [h]
        rw [e] at this
        simpa [Bool.and_assoc] using this
def mistB (a0 : Int) (s : ByteArray) (l : List S53) : Bool := (decide (1 ≤ a0) && decide (a0 ≤ 30)) && (wordB s && (decide (l.length ≤ 20) && allM a0 s l l.length 0))
theorem spec_mist (a0 : Int) (s : ByteArray) (l : List S53) (hs : s.size ≤ 140737488351232) (hl : l.length ≤ 1000000000) : Ev (fun k => spec_drMistakes.f k a0 s l) (mistB a0 s l) := by
  have h2 := spec_word s hs
  have no : Ev (fun k => spec_drMistakes.j0 k a0 s l true) false := Ev.step (f := fun _ => some false) (fun k => by rw [spec_drMistakes.j0, if_pos rfl]) (Ev.now _)
  unfold spec_drMistakes.f mistB
  simp only [l1In_eq, Option.bind_some]
  cases c : (decide (1 ≤ a0) && decide (a0 ≤ 30)) with
  | false => exact Ev.congr (fun k => if_neg (by decide)) no
  | true =>
    refine Ev.congr (fun k => if_pos rfl) ?_
    cases hw : wordB s with
    | false =>
      rw [hw] at h2
      exact Ev.bind h2 (Ev.congr (fun k => if_neg (by decide)) no)
    | true =>
      rw [hw] at h2
      refine Ev.bind h2 (Ev.congr (fun k => if_pos rfl) ?_)
      by_cases h20 : l.length ≤ 20
      · have e : decide ((l.length : Int) > 20) = false := decide_eq_false (by omega)
        rw [e, decide_eq_true h20]
        have := spec_mist_l0 a0 s l (wordB_size hw) hl l.length 0 (by omega)
        exact Ev.step (f := fun k => spec_drMistakes.l0 k a0 s l l (l.length : Int) ((0 : Nat) : Int)) (fun k => by rw [spec_drMistakes.j0, if_neg (by decide)]; rfl) (by simpa using this)
      · have e : decide ((l.length : Int) > 20) = true := decide_eq_true (by omega)
        rw [e, decide_eq_false h20]
        exact no
theorem contains_eq (f2 : ByteArray) (h : f2.size = 1) : strings_Contains.f (⟨#[83, 82, 65, 76]⟩ : ByteArray) f2 = some (!decide (turnV (bt f2 0) < 0)) := by
  unfold strings_Contains.f
  rw [if_pos h]
  obtain ⟨⟨t⟩⟩ := f2
  match t, h with
  | [b], _ =>
    have e : bt (⟨#[b]⟩ : ByteArray) 0 = (b.toNat : Int) := rfl
    show some (decide (0 ≤ Lib.indexByte [83, 82, 65, 76] b)) = some (!decide (turnV (bt (⟨#[b]⟩ : ByteArray) 0) < 0))
    rw [e, ← word_byte]
    congr 1
    by_cases h1 : b = 83
    · subst h1; decide
    · by_cases h2 : b = 82
      · subst h2; decide
      · by_cases h3 : b = 65
        · subst h3; decide
        · by_cases h4 : b = 76
          · subst h4; decide
          · have g1 : (83 == b) = false := by simpa using fun h => h1 h.symm
            have g2 : (82 == b) = false := by simpa using fun h => h2 h.symm
            have g3 : (65 == b) = false := by simpa using fun h => h3 h.symm
            have g4 : (76 == b) = false := by simpa using fun h => h4 h.symm
            simp [Lib.indexByte, g1, g2, g3, g4, h1, h2, h3, h4]
theorem impl_j1 (a0 : Int) (s : ByteArray) (l : List S53) (len : Int) (i : Nat) (hi : i ≤ l.length) (hl : l.length ≤ 1000000000) (x : Bool) (f0 f1 : Int) (f2 : ByteArray) (R : Bool) (hR : Ev (fun k => impl_areMistakes.l0 k a0 s l l len (wrap64 ((i : Int) + 1))) R) :
    Ev (fun k => impl_areMistakes.j1 k a0 s l i l len i x f0 f1 f2) (!x && (!((l.take i).any (sameM f0 f1)) && R)) := by
  cases x with
  | true => exact Ev.step (f := fun _ => some false) (fun k => by rw [impl_areMistakes.j1, if_pos rfl]) (Ev.now _)
  | false =>
    have es : ∀ k, impl_areMistakes.j1 (k + 1) a0 s l i l len i false f0 f1 f2 = if (l.take i).any (sameM f0 f1) = true then some false else impl_areMistakes.l0 k a0 s l l len (wrap64 ((i : Int) + 1)) := by
      intro k
      rw [impl_areMistakes.j1, if_neg (by decide), if_pos (by omega), if_pos (by omega)]
      rfl
    refine Ev.step es ?_
    cases c : (l.take i).any (sameM f0 f1) with
    | true => exact Ev.congr (fun k => if_pos rfl) (Ev.now _)
    | false => exact Ev.congr (fun k => if_neg (by decide)) (by simpa using hR)
def finM (a0 : Int) (s : ByteArray) (l : List S53) : Bool := decide (l.length ≤ 20) && ((decide (1 ≤ a0) && decide (a0 ≤ 30)) && wordB s)
theorem impl_mist_l0 (a0 : Int) (s : ByteArray) (l : List S53) (hs : s.size ≤ 140737488351232) (hl : l.length ≤ 1000000000) (d : Nat) : ∀ i : Nat, i + d = l.length → Ev (fun k => impl_areMistakes.l0 k a0 s l l (l.length : Int) i) (allM a0 s l d i && finM a0 s l) := by
  induction d with
  | zero =>
    intro i hi
    rw [allM, Bool.true_and]
    unfold finM
    refine Ev.step (f := fun _ => if (l.length : Int) ≤ 20 then ((impl_in.f a0 1 30).bind fun t132 => (if t132 = true then ((impl_areCommands.f s).bind fun t133 => (some t133)) else (some false))) else (some false)) (fun k => by rw [impl_areMistakes.l0, if_neg (by omega)]) ?_
    simp only [in_eq, impl_word s hs, Option.bind_some]
    by_cases h20 : l.length ≤ 20
    · rw [decide_eq_true h20, Bool.true_and]
      refine Ev.congr (fun k => if_pos (by omega)) ?_
      cases (decide (1 ≤ a0) && decide (a0 ≤ 30)) with
      | true => exact Ev.now _
      | false => exact Ev.now _
    · rw [decide_eq_false h20, Bool.false_and]
      exact Ev.congr (fun k => if_neg (by omega)) (Ev.now _)
  | succ d ih =>
    intro i hi
    have hR := ih (i + 1) (by omega)
    rw [← w64n i (by omega)] at hR
    rw [allM]
    unfold okM chkM
    have hil : i ≤ l.length := by omega
    have es : ∀ k, impl_areMistakes.l0 (k + 1) a0 s l l (l.length : Int) i = ((impl_in.f ((rd_T53 l i).f0) 0 (wrap64 (a0 - 1))).bind fun t136 => (if t136 = true then ((impl_in.f ((rd_T53 l i).f1) 0 (wrap64 ((s.size : Int) - 1))).bind fun t137 => (if t137 = true then (if (((rd_T53 l i).f2).size : Int) = 1 then ((strings_Contains.f (⟨#[83, 82, 65, 76]⟩ : ByteArray) ((rd_T53 l i).f2)).bind fun t138 => (if t138 = true then (if 0 < (((rd_T53 l i).f2).size : Int) then (if 0 ≤ ((rd_T53 l i).f1) then (if ((rd_T53 l i).f1) < (s.size : Int) then (impl_areMistakes.j1 k a0 s l i l (l.length : Int) i ((bt ((rd_T53 l i).f2) 0) == (bt s ((rd_T53 l i).f1))) ((rd_T53 l i).f0) ((rd_T53 l i).f1) ((rd_T53 l i).f2)) else (none)) else (none)) else (none)) else (impl_areMistakes.j1 k a0 s l i l (l.length : Int) i true ((rd_T53 l i).f0) ((rd_T53 l i).f1) ((rd_T53 l i).f2)))) else (impl_areMistakes.j1 k a0 s l i l (l.length : Int) i true ((rd_T53 l i).f0) ((rd_T53 l i).f1) ((rd_T53 l i).f2))) else (impl_areMistakes.j1 k a0 s l i l (l.length : Int) i true ((rd_T53 l i).f0) ((rd_T53 l i).f1) ((rd_T53 l i).f2)))) else (impl_areMistakes.j1 k a0 s l i l (l.length : Int) i true ((rd_T53 l i).f0) ((rd_T53 l i).f1) ((rd_T53 l i).f2)))) := by
      intro k
      rw [impl_areMistakes.l0, if_pos (by omega), if_pos (by omega), if_pos (by omega)]
    refine Ev.step es ?_
    generalize rd_T53 l (i : Int) = p
    have bad := impl_j1 a0 s l (l.length : Int) i hil hl true p.f0 p.f1 p.f2 _ hR
    simp only [in_eq, Option.bind_some]
    cases c0 : (decide (0 ≤ p.f0) && decide (p.f0 ≤ wrap64 (a0 - 1))) with
    | false => exact Ev.congr (fun k => if_neg (by decide)) (by simpa using bad)
    | true =>
      cases c1 : (decide (0 ≤ p.f1) && decide (p.f1 ≤ wrap64 ((s.size : Int) - 1))) with
      | false => exact Ev.congr (fun k => (if_pos rfl).trans (if_neg (by decide))) (by simpa using bad)
      | true =>
        have hb : 0 ≤ p.f1 ∧ p.f1 < (s.size : Int) := by
          rw [w64 (by omega) (by omega)] at c1
          simp only [Bool.and_eq_true, decide_eq_true_eq] at c1
          omega
        refine Ev.congr (fun k => (if_pos rfl).trans (if_pos rfl)) ?_
        by_cases h1 : (p.f2.size : Int) = 1
        · rw [contains_eq p.f2 (by omega)]
          simp only [Option.bind_some]
          refine Ev.congr (fun k => if_pos h1) ?_
          by_cases c2 : turnV (bt p.f2 0) < 0
          · refine Ev.congr (fun k => if_neg (by simp [c2])) (by simpa [c2] using bad)
          · have := impl_j1 a0 s l (l.length : Int) i hil hl (bt p.f2 0 == bt s p.f1) p.f0 p.f1 p.f2 _ hR
            refine Ev.congr (fun k => ?_) (by simpa [c2, h1, Bool.and_assoc] using this)
            rw [if_pos (by simp [c2]), if_pos (by omega), if_pos hb.1, if_pos hb.2]
        · exact Ev.congr (fun k => if_neg h1) (by simpa [h1] using bad)
theorem impl_mist (a0 : Int) (s : ByteArray) (l : List S53) (hs : s.size ≤ 140737488351232) (hl : l.length ≤ 1000000000) : Ev (fun k => impl_areMistakes.f k a0 s l) (mistB a0 s l) := by
  have := impl_mist_l0 a0 s l hs hl l.length 0 (by omega)
  have e : mistB a0 s l = (allM a0 s l l.length 0 && finM a0 s l) := by
    unfold mistB finM
    cases allM a0 s l l.length 0 <;> cases (decide (1 ≤ a0) && decide (a0 ≤ 30)) <;> cases wordB s <;> cases decide (l.length ≤ 20) <;> rfl
  rw [e]
  exact this
def convM (z : S52) : S53 := ⟨z.f0, z.f1, z.f2⟩
theorem rdLM_mid (pre : List S52) (x : S52) (rest : List S52) : rd_T52 (pre ++ x :: rest) (pre.length : Int) = x := by
  simp [rd_T52]
theorem toMist_l0 (rest : List S52) : ∀ (pre : List S52), pre.length + rest.length ≤ 100000000 →
    Ev (fun k => laws_toMistakeS.l0 k (pre ++ rest) (pre.map convM ++ List.replicate rest.length z53) pre.length) ((pre ++ rest).map convM) := by
  induction rest with
  | nil =>
    intro pre hl
    exact Ev.step (f := fun _ => some (pre.map convM)) (fun k => by rw [laws_toMistakeS.l0]; rw [if_neg (by simp)]; simp) (by simpa using Ev.now (pre.map convM))
  | cons x rest ih =>
    intro pre hl
    simp only [List.length_cons] at hl
    refine Ev.step (f := fun k => laws_toMistakeS.l0 k ((pre ++ [x]) ++ rest) ((pre ++ [x]).map convM ++ List.replicate rest.length z53) ((pre ++ [x]).length : Nat)) (fun k => ?_) ?_
    · rw [laws_toMistakeS.l0]
      rw [if_pos (by simp; omega), if_pos (by omega), rdLM_mid]
      unfold laws_toMistake.f
      simp only [Option.bind_some]
      rw [if_pos (by simp; omega), w64 (by omega) (by omega)]
      simp [List.replicate_succ, convM]
    · have := ih (pre ++ [x]) (by simp; omega)
      simpa using this
theorem toMist_ok (l : List S52) (hl : l.length ≤ 100000000) : Ev (fun k => laws_toMistakeS.f k l) (l.map convM) := by
  have := toMist_l0 l [] (by simpa using hl)
  refine Ev.congr (fun k => ?_) (by simpa using this)
  unfold laws_toMistakeS.f
  rw [if_pos (by omega), if_pos (by simp; omega)]
  simp
theorem eqMist_l0 (l : List S53) (hl : l.length ≤ 1000000000000000000) (d : Nat) : ∀ i : Int, 0 ≤ i → (l.length : Int) - i = d → Ev (fun k => laws_eqMistakeS.l0 k l l i) true := by
  induction d with
  | zero =>
    intro i h0 hd
    exact Ev.step (f := fun _ => some true) (fun k => by rw [laws_eqMistakeS.l0]; rw [if_neg (by omega)]) (Ev.now _)
  | succ d ih =>
    intro i h0 hd
    refine Ev.step (f := fun k => laws_eqMistakeS.l0 k l l (i + 1)) (fun k => ?_) (ih (i + 1) (by omega) (by omega))
    have he : ∀ (a b : Int) (c : ByteArray), laws_eqMistake.f a b c a b c = some true := fun a b c => by unfold laws_eqMistake.f; rw [if_pos rfl, if_pos rfl, if_pos rfl]
    rw [laws_eqMistakeS.l0, if_pos (by omega), if_pos h0, if_pos (by omega), he]
    simp only [Option.bind_some, if_true]
    rw [w64 (by omega) (by omega)]
theorem eqMist_self (l : List S53) (hl : l.length ≤ 1000000000000000000) : Ev (fun k => laws_eqMistakeS.f k l l) true :=
  Ev.congr (fun k => by unfold laws_eqMistakeS.f; rw [if_pos rfl]) (eqMist_l0 l hl l.length 0 (by omega) (by omega))
theorem szMist_l0 (l : List S52) (hl : l.length ≤ 9223372036854775807) (d : Nat) : ∀ (i : Nat) (x : Int), i + d = l.length → ∃ z, Ev (fun k => laws_szMistakeS.l0 k l x i) z := by
  induction d with
  | zero =>
    intro i x hi
    exact ⟨x, Ev.step (f := fun _ => some x) (fun k => by rw [laws_szMistakeS.l0, if_neg (by omega)]) (Ev.now _)⟩
  | succ d ih =>
    intro i x hi
    have hsz : ∃ y, laws_szMistake.f ((rd_T52 l i).f0) ((rd_T52 l i).f1) ((rd_T52 l i).f2) x = some y := by
      unfold laws_szMistake.f
      split
      · exact ⟨_, rfl⟩
      · exact ⟨_, rfl⟩
    obtain ⟨y, hy⟩ := hsz
    have es : ∀ k, laws_szMistakeS.l0 (k + 1) l x i = if y < 0 then some (-1) else laws_szMistakeS.l0 k l y ((i + 1 : Nat) : Int) := by
      intro k
      rw [laws_szMistakeS.l0, if_pos (by omega), if_pos (by omega), hy, w64 (x := (i : Int) + 1) (by omega) (by omega)]
      rfl
    by_cases c : y < 0
    · exact ⟨-1, Ev.step es (Ev.congr (fun k => if_pos c) (Ev.now _))⟩
    · obtain ⟨z, hz⟩ := ih (i + 1) y (by omega)
      exact ⟨z, Ev.step es (Ev.congr (fun k => if_neg c) hz)⟩
theorem szMist_ok (l : List S52) (hl : l.length ≤ 9223372036854775807) : ∃ z, Ev (fun k => laws_szMistakeS.f k l 1048576) z ∧ (¬ z < 0 → l.length ≤ 1048576) := by
  by_cases c : (1048576 - (l.length : Int)) < 0
  · refine ⟨-1, Ev.congr (fun k => ?_) (Ev.now _), by intro h; omega⟩
    unfold laws_szMistakeS.f
    rw [w64 (by omega) (by omega), if_pos c]
  · obtain ⟨z, hz⟩ := szMist_l0 l hl l.length 0 (1048576 - (l.length : Int)) (by omega)
    refine ⟨z, Ev.congr (fun k => ?_) hz, by intro _; omega⟩
    unfold laws_szMistakeS.f
    rw [w64 (by omega) (by omega), if_neg c]
    rfl
theorem FnExactAreMistakes : ∀ (a0 : Int) (a1 : ByteArray) (l2 : List S52), (Lit.int .i64 a0).wf = true → a1.size ≤ 140737488351232 → l2.length ≤ maxLen → (∀ z ∈ l2, (Lit.int .i64 z.f0).wf = true ∧ (Lit.int .i64 z.f1).wf = true ∧ z.f2.size ≤ maxLen) → ∃ k, laws_FnExactAreMistakes.f k a0 a1 l2 = some true := by
  intro a0 a1 l2 w0 w1 m2 w2
  unfold maxLen at m2
  refine Ev.rounds (r := true) ?_
  unfold laws_FnExactAreMistakes.f
  by_cases c0 : (a1.size : Int) > 1048576
  · simp only [if_pos c0]; exact Ev.now _
  simp only [if_neg c0]
  obtain ⟨z, hz, hzl⟩ := szMist_ok l2 (by omega)
  refine Ev.bind hz ?_
  by_cases cz : z < 0
  · exact Ev.congr (fun k => if_pos cz) (Ev.now _)
  refine Ev.congr (fun k => if_neg cz) ?_
  have hl2 := hzl cz
  have t0 := toMist_ok l2 (by omega)
  have hl : (l2.map convM).length ≤ 1000000000 := by rw [List.length_map]; omega
  have hs : Ev (fun k => spec_AreMistakes.f k a0 a1 (l2.map convM)) (mistB a0 a1 (l2.map convM)) := by
    unfold spec_AreMistakes.f
    exact Ev.bind (spec_mist a0 a1 _ w1 hl) (Ev.now _)
  have hi : Ev (fun k => impl_AreMistakes.f k a0 a1 (l2.map convM)) (mistB a0 a1 (l2.map convM)) := by
    unfold impl_AreMistakes.f
    exact Ev.bind (impl_mist a0 a1 _ w1 hl) (Ev.now _)
  refine Ev.bind t0 (Ev.bind hs (Ev.bind t0 (Ev.bind hi ?_)))
  refine Ev.congr (fun k => if_neg (by simp)) ?_
  refine Ev.bind t0 (Ev.bind (eqMist_self _ (by omega)) ?_)
  exact Ev.congr (fun k => if_pos rfl) (Ev.now _)

end Go.Proofs.YtddenfnnnloagaaDoor.Pure
