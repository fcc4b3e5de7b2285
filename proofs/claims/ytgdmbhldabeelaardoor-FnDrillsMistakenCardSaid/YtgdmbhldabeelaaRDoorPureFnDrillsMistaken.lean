/- For every two texts of bytes, of the inputs that are drawn from them mistakes leave soldiers as told, corrections put them right, and ways with mistakes add up to all words. -/
import Derived.Test.YtgdmbhldabeelaaRDoorPFnDrillsMistakenx19
namespace Go.Proofs.YtgdmbhldabeelaaRDoor.Pure
open Go.RowKit Go.Proofs.YtgdmbhldabeelaaRDoor.PFnDrillsMistaken Go.Proofs.YtgdmbhldabeelaaRDoorW.PrintWords Go.Proofs.YtgdmbhldabeelaaRDoorW.PrintLast
set_option linter.unusedVariables false
set_option linter.unusedSimpArgs false

theorem w64 {x : Int} (h1 : -9223372036854775808 ≤ x) (h2 : x ≤ 9223372036854775807) : wrap64 x = x := by
  unfold wrap64
  omega
theorem wf_lo {a : Int} (h : (Lit.int .i64 a).wf = true) : -9223372036854775808 ≤ a := by
  have h' : IntKind.i64.min ≤ a ∧ a ≤ IntKind.i64.max := by simpa [Lit.wf] using h
  have e : IntKind.i64.min = -9223372036854775808 := by decide
  omega
theorem wf_hi {a : Int} (h : (Lit.int .i64 a).wf = true) : a ≤ 9223372036854775807 := by
  have h' : IntKind.i64.min ≤ a ∧ a ≤ IntKind.i64.max := by simpa [Lit.wf] using h
  have e : IntKind.i64.max = 9223372036854775807 := by decide
  omega
theorem ev_congr_fun {α : Type} {g f : Nat → Option α} {r : α} (h : g = f) (k : Ev f r) : Ev g r := h ▸ k
theorem rd_mid (pre : List Int) (x : Int) (rest : List Int) : rd (pre ++ x :: rest) (pre.length : Int) = x := by
  simp [rd]
theorem bt_eq (s : ByteArray) (i : Nat) (h : i < s.data.toList.length) : bt s (i : Int) = ((s.data.toList[i]'h).toNat : Int) := by
  have h' : i < s.size := by rw [Lib.size_eq]; exact h
  unfold bt
  rw [dif_pos (by simpa using h')]
  simp only [Int.toNat_natCast]
  rw [Array.getElem_toList]
  rfl
theorem dropWhile_nil {α : Type} (p : α → Bool) (l : List α) : l.dropWhile p = [] ↔ l.all p = true := by
  induction l with
  | nil => simp
  | cons x l ih =>
    by_cases h : p x = true
    · simp [List.dropWhile, h, ih]
    · simp [List.dropWhile, h]
theorem dropWhile_all {α : Type} (p : α → Bool) (l : List α) (h : (l.dropWhile p).all p = true) : l.dropWhile p = [] := by
  induction l with
  | nil => rfl
  | cons x l ih =>
    by_cases hx : p x = true
    · simp only [List.dropWhile, hx] at h ⊢
      exact ih h
    · simp [List.dropWhile, hx] at h
theorem trim_nil (l cs : List UInt8) : Lib.trimS l cs = [] ↔ l.all (cs.contains ·) = true := by
  unfold Lib.trimS Lib.trimLeftS Lib.trimRightS
  rw [dropWhile_nil, List.all_reverse]
  constructor
  · intro h
    have := dropWhile_all _ _ h
    rw [dropWhile_nil, List.all_reverse] at this
    exact this
  · intro h
    rw [← List.all_reverse, ← dropWhile_nil] at h
    rw [h]; rfl
theorem trim_f (s c : ByteArray) (hs : s.size ≤ 140737488351232) (hc : c.size ≤ 1000000) (ha : c.data.toList.all (fun b => decide (b.toNat < 128)) = true) :
    strings_Trim.f s c = some ⟨(Lib.trimS s.data.toList c.data.toList).toArray⟩ := by
  unfold strings_Trim.f
  rw [if_pos ⟨by omega, hc, ha⟩]
theorem empty_test (l : List UInt8) : ((⟨l.toArray⟩ : ByteArray).toList == ([] : List UInt8)) = l.isEmpty := by
  rw [Lib.toList_data]
  cases l <;> rfl
theorem trim_test (l cs : List UInt8) : (Lib.trimS l cs).isEmpty = l.all (cs.contains ·) := by
  rw [Bool.eq_iff_iff, List.isEmpty_iff, trim_nil]
def wordB (s : ByteArray) : Bool := decide ((s.size : Int) ≤ 60) && s.data.toList.all (([83, 82, 65, 76] : List UInt8).contains ·)
def turnV (a : Int) : Int := if a = 83 then 0 else if a = 82 then 1 else if a = 65 then 2 else if a = 76 then 3 else -1
theorem drTurn_eq (a : Int) : spec_drTurn.f a = some (turnV a) := by
  unfold spec_drTurn.f turnV
  repeat' split
  all_goals rfl
theorem word_byte (b : UInt8) : ([83, 82, 65, 76] : List UInt8).contains b = !decide (turnV (b.toNat : Int) < 0) := by
  have hb := b.toNat_lt
  rw [Bool.eq_iff_iff]
  simp only [List.contains_iff_mem, List.mem_cons, List.not_mem_nil, or_false, Bool.not_eq_true', decide_eq_false_iff_not, ← UInt8.toNat_inj]
  have e1 : (83 : UInt8).toNat = 83 := rfl
  have e2 : (82 : UInt8).toNat = 82 := rfl
  have e3 : (65 : UInt8).toNat = 65 := rfl
  have e4 : (76 : UInt8).toNat = 76 := rfl
  rw [e1, e2, e3, e4]
  unfold turnV
  repeat' split
  all_goals omega
theorem spec_word_l0 (s : ByteArray) (hs : s.data.toList.length ≤ 140737488351232) (d : Nat) : ∀ i : Nat, i + d = s.data.toList.length → Ev (fun k => spec_drWord.l0 k s i) ((s.data.toList.drop i).all (([83, 82, 65, 76] : List UInt8).contains ·)) := by
  have hz := Lib.size_eq s
  induction d with
  | zero =>
    intro i hi
    rw [List.drop_of_length_le (by omega)]
    exact Ev.step (f := fun _ => some true) (fun k => by rw [spec_drWord.l0, if_neg (by omega)]) (Ev.now _)
  | succ d ih =>
    intro i hi
    have hil : i < s.data.toList.length := by omega
    rw [List.drop_eq_getElem_cons hil, List.all_cons, word_byte]
    refine Ev.step (f := fun k => if turnV ((s.data.toList[i]).toNat : Int) < 0 then some false else spec_drWord.l0 k s ((i + 1 : Nat) : Int)) (fun k => ?_) ?_
    · rw [spec_drWord.l0, if_pos (by omega), if_pos (by omega), bt_eq s i hil, drTurn_eq, w64 (x := (i : Int) + 1) (by omega) (by omega)]
      rfl
    · by_cases hc : turnV ((s.data.toList[i]).toNat : Int) < 0
      · rw [decide_eq_true hc]
        exact Ev.congr (fun k => if_pos hc) (Ev.now _)
      · rw [decide_eq_false hc, Bool.not_false, Bool.true_and]
        exact Ev.congr (fun k => if_neg hc) (ih (i + 1) (by omega))
theorem spec_word (s : ByteArray) (hs : s.size ≤ 140737488351232) : Ev (fun k => spec_drWord.f k s) (wordB s) := by
  have hz := Lib.size_eq s
  unfold spec_drWord.f wordB
  by_cases h : (s.size : Int) ≤ 60
  · simpa [h, show ¬ (s.size : Int) > 60 by omega] using spec_word_l0 s (by omega) s.data.toList.length 0 (by omega)
  · simpa [h, show (s.size : Int) > 60 by omega] using Ev.now false
theorem impl_word (s : ByteArray) (hs : s.size ≤ 140737488351232) : impl_areCommands.f s = some (wordB s) := by
  unfold impl_areCommands.f wordB
  rw [trim_f s _ hs (by decide) (by decide)]
  simp only [Option.bind_some, empty_test, trim_test]
  by_cases h : (s.size : Int) ≤ 60
  · rw [if_pos h, decide_eq_true h, Bool.true_and]
  · rw [if_neg h, decide_eq_false h, Bool.false_and]
theorem wordB_size {s : ByteArray} (h : wordB s = true) : s.size ≤ 60 := by
  unfold wordB at h
  simp only [Bool.and_eq_true, decide_eq_true_eq] at h
  omega
theorem wordB_at {s : ByteArray} (h : wordB s = true) (i : Nat) (hi : i < s.size) : bt s (i : Int) = 83 ∨ bt s (i : Int) = 82 ∨ bt s (i : Int) = 65 ∨ bt s (i : Int) = 76 := by
  have hz := Lib.size_eq s
  unfold wordB at h
  simp only [Bool.and_eq_true] at h
  have hm := List.all_eq_true.1 h.2 _ (List.getElem_mem (show i < s.data.toList.length by omega))
  rw [word_byte] at hm
  simp only [Bool.not_eq_true', decide_eq_false_iff_not] at hm
  rw [bt_eq s i (by omega)]
  unfold turnV at hm
  omega
theorem l1In_eq (a b c : Int) : spec_l1In.f a b c = some (decide (b ≤ a) && decide (a ≤ c)) := by
  unfold spec_l1In.f
  by_cases h : b ≤ a
  · rw [if_pos h]; simp [h]
  · rw [if_neg (show ¬ a ≥ b from h)]; simp [h]
theorem in_eq (a b c : Int) : impl_in.f a b c = some (decide (b ≤ a) && decide (a ≤ c)) := by
  unfold impl_in.f
  by_cases h : b ≤ a
  · rw [if_pos h]; simp [h]
  · rw [if_neg h]; simp [h]
theorem cast_len {α : Type} (l : List α) : (decide ((1 : Int) ≤ (l.length : Int)) && decide ((l.length : Int) ≤ 6)) = (decide (1 ≤ l.length) && decide (l.length ≤ 6)) := by
  congr 1 <;> exact decide_eq_decide.2 (by omega)
def sameM (f0 f1 : Int) (o : S34) : Bool := decide (o.f0 = f0) && decide (o.f1 = f1)
def chkM (a0 : Int) (s : ByteArray) (p : S34) : Bool := (decide (0 ≤ p.f0) && decide (p.f0 ≤ wrap64 (a0 - 1))) && ((decide (0 ≤ p.f1) && decide (p.f1 ≤ wrap64 ((s.size : Int) - 1))) && (decide ((p.f2.size : Int) = 1) && (!decide (turnV (bt p.f2 0) < 0) && !(bt p.f2 0 == bt s p.f1))))
def okM (a0 : Int) (s : ByteArray) (l : List S34) (i : Nat) : Bool := chkM a0 s (rd_T34 l (i : Int)) && !((l.take i).any (sameM (rd_T34 l (i : Int)).f0 (rd_T34 l (i : Int)).f1))
def allM (a0 : Int) (s : ByteArray) (l : List S34) : Nat → Nat → Bool
  | 0, _ => true
  | d + 1, i => okM a0 s l i && allM a0 s l d (i + 1)
theorem w64n (i : Nat) (h : i ≤ 1000000000) : wrap64 ((i : Int) + 1) = ((i + 1 : Nat) : Int) := by rw [w64 (by omega) (by omega)]; rfl
theorem rdM_at (t : List S34) (j : Nat) (h : j < t.length) : rd_T34 t (j : Int) = t[j] := by
  unfold rd_T34
  rw [Int.toNat_natCast, List.getD_eq_getElem?_getD, List.getElem?_eq_getElem h]; rfl
theorem spec_dup (a0 : Int) (s : ByteArray) (l t : List S34) (len i : Int) (f0 f1 : Int) (f2 : ByteArray) (R : Bool) (ht : t.length ≤ 1000000000) (hR : Ev (fun k => spec_drMistakes.l0 k a0 s l l len (wrap64 (i + 1))) R) (d : Nat) : ∀ j : Nat, j + d = t.length →
    Ev (fun k => spec_drMistakes.l1 k a0 s l l len i t (t.length : Int) j f0 f1 f2) (!((t.drop j).any (sameM f0 f1)) && R) := by
  induction d with
  | zero =>
    intro j hj
    rw [List.drop_of_length_le (by omega)]
    refine Ev.step (fun k => ?_) (by simpa using hR)
    rw [spec_drMistakes.l1, if_neg (by omega)]
  | succ d ih =>
    intro j hj
    have hjl : j < t.length := by omega
    have hr := rdM_at t j hjl
    rw [List.drop_eq_getElem_cons hjl, List.any_cons]
    have es : ∀ k, spec_drMistakes.l1 (k + 1) a0 s l l len i t (t.length : Int) j f0 f1 f2 = if t[j].f0 = f0 then (if t[j].f1 = f1 then some false else spec_drMistakes.l1 k a0 s l l len i t (t.length : Int) ((j + 1 : Nat) : Int) f0 f1 f2) else spec_drMistakes.l1 k a0 s l l len i t (t.length : Int) ((j + 1 : Nat) : Int) f0 f1 f2 := by
      intro k
      rw [spec_drMistakes.l1, if_pos (by omega), if_pos (by omega), if_pos (by omega), hr, w64n j (by omega)]
    refine Ev.step es ?_
    have hrec := ih (j + 1) (by omega)
    by_cases c0 : t[j].f0 = f0
    · by_cases c1 : t[j].f1 = f1
      · have e : sameM f0 f1 t[j] = true := by unfold sameM; simp [c0, c1]
        rw [e]
        exact Ev.congr (fun k => (if_pos c0).trans (if_pos c1)) (Ev.now _)
      · have e : sameM f0 f1 t[j] = false := by unfold sameM; simp [c1]
        rw [e, Bool.false_or]
        exact Ev.congr (fun k => (if_pos c0).trans (if_neg c1)) hrec
    · have e : sameM f0 f1 t[j] = false := by unfold sameM; simp [c0]
      rw [e, Bool.false_or]
      exact Ev.congr (fun k => if_neg c0) hrec
theorem spec_j3 (a0 : Int) (s : ByteArray) (l : List S34) (len : Int) (i : Nat) (hi : i ≤ l.length) (hl : l.length ≤ 1000000000) (x : Bool) (f0 f1 : Int) (f2 : ByteArray) (R : Bool) (hR : Ev (fun k => spec_drMistakes.l0 k a0 s l l len (wrap64 ((i : Int) + 1))) R) :
    Ev (fun k => spec_drMistakes.j3 k a0 s l i l len i x f0 f1 f2) (!x && (!((l.take i).any (sameM f0 f1)) && R)) := by
  cases x with
  | true => exact Ev.step (f := fun _ => some false) (fun k => by rw [spec_drMistakes.j3, if_pos rfl]) (Ev.now _)
  | false =>
    have hd := spec_dup a0 s l (l.take i) len i f0 f1 f2 R (by rw [List.length_take]; omega) hR (l.take i).length 0 (by omega)
    rw [List.drop_zero] at hd
    refine Ev.step (fun k => ?_) (by simpa using hd)
    rw [spec_drMistakes.j3, if_neg (by decide), if_pos (by omega), if_pos (by omega)]
    simp
theorem spec_j2 (a0 : Int) (s : ByteArray) (l : List S34) (len : Int) (i : Nat) (hi : i ≤ l.length) (hl : l.length ≤ 1000000000) (x : Bool) (f0 f1 : Int) (f2 : ByteArray) (R : Bool) (hx : x = false → (f2.size : Int) = 1 ∧ 0 ≤ f1 ∧ f1 < (s.size : Int)) (hR : Ev (fun k => spec_drMistakes.l0 k a0 s l l len (wrap64 ((i : Int) + 1))) R) :
    Ev (fun k => spec_drMistakes.j2 k a0 s l i l len i x f0 f1 f2) (!x && ((!decide (turnV (bt f2 0) < 0) && !(bt f2 0 == bt s f1)) && (!((l.take i).any (sameM f0 f1)) && R))) := by
  cases x with
  | true => exact Ev.step (f := fun _ => some false) (fun k => by rw [spec_drMistakes.j2, if_pos rfl]) (Ev.now _)
  | false =>
    obtain ⟨h1, h2, h3⟩ := hx rfl
    by_cases c : turnV (bt f2 0) < 0
    · have := spec_j3 a0 s l len i hi hl true f0 f1 f2 R hR
      refine Ev.step (fun k => ?_) (by simpa [c] using this)
      rw [spec_drMistakes.j2, if_neg (by decide), if_pos (by omega), drTurn_eq, Option.bind_some, if_pos c]
    · have := spec_j3 a0 s l len i hi hl (bt f2 0 == bt s f1) f0 f1 f2 R hR
      refine Ev.step (fun k => ?_) (by rw [decide_eq_false c, Bool.not_false, Bool.true_and, Bool.true_and]; exact this)
      rw [spec_drMistakes.j2, if_neg (by decide), if_pos (by omega), drTurn_eq, Option.bind_some, if_neg c, if_pos h2, if_pos h3]
theorem spec_mist_l0 (a0 : Int) (s : ByteArray) (l : List S34) (hs : s.size ≤ 60) (hl : l.length ≤ 1000000000) (d : Nat) : ∀ i : Nat, i + d = l.length → Ev (fun k => spec_drMistakes.l0 k a0 s l l (l.length : Int) i) (allM a0 s l d i) := by
  induction d with
  | zero =>
    intro i hi
    exact Ev.step (f := fun _ => some true) (fun k => by rw [spec_drMistakes.l0, if_neg (by omega)]) (Ev.now _)
  | succ d ih =>
    intro i hi
    have hR := ih (i + 1) (by omega)
    rw [← w64n i (by omega)] at hR
    rw [allM]
    unfold okM chkM
    have es : ∀ k, spec_drMistakes.l0 (k + 1) a0 s l l (l.length : Int) i = (spec_l1In.f ((rd_T34 l i).f0) 0 (wrap64 (a0 - 1))).bind fun t109 => (if t109 = true then ((spec_l1In.f ((rd_T34 l i).f1) 0 (wrap64 ((s.size : Int) - 1))).bind fun t110 => (if t110 = true then (spec_drMistakes.j2 k a0 s l i l (l.length : Int) i ((((rd_T34 l i).f2).size : Int) != 1) ((rd_T34 l i).f0) ((rd_T34 l i).f1) ((rd_T34 l i).f2)) else (spec_drMistakes.j2 k a0 s l i l (l.length : Int) i true ((rd_T34 l i).f0) ((rd_T34 l i).f1) ((rd_T34 l i).f2)))) else (spec_drMistakes.j2 k a0 s l i l (l.length : Int) i true ((rd_T34 l i).f0) ((rd_T34 l i).f1) ((rd_T34 l i).f2))) := by
      intro k
      rw [spec_drMistakes.l0, if_pos (by omega), if_pos (by omega), if_pos (by omega)]
    refine Ev.step es ?_
    generalize rd_T34 l (i : Int) = p
    have hil : i ≤ l.length := by omega
    simp only [l1In_eq, Option.bind_some]
    cases c0 : (decide (0 ≤ p.f0) && decide (p.f0 ≤ wrap64 (a0 - 1))) with
    | false =>
      have := spec_j2 a0 s l (l.length : Int) i hil hl true p.f0 p.f1 p.f2 _ (by intro h; cases h) hR
      exact Ev.congr (fun k => if_neg (by decide)) (by simpa using this)
    | true =>
      cases c1 : (decide (0 ≤ p.f1) && decide (p.f1 ≤ wrap64 ((s.size : Int) - 1))) with
      | false =>
        have := spec_j2 a0 s l (l.length : Int) i hil hl true p.f0 p.f1 p.f2 _ (by intro h; cases h) hR
        exact Ev.congr (fun k => (if_pos rfl).trans (if_neg (by decide))) (by simpa using this)
      | true =>
        have hb : 0 ≤ p.f1 ∧ p.f1 < (s.size : Int) := by
          rw [w64 (by omega) (by omega)] at c1
          simp only [Bool.and_eq_true, decide_eq_true_eq] at c1
          omega
        have := spec_j2 a0 s l (l.length : Int) i hil hl ((p.f2.size : Int) != 1) p.f0 p.f1 p.f2 _ (by intro h; have h' : (p.f2.size : Int) = 1 := by simpa using h
                                                                                                       exact ⟨h', hb.1, hb.2⟩) hR
        refine Ev.congr (fun k => (if_pos rfl).trans (if_pos rfl)) ?_
        have e : (!((p.f2.size : Int) != 1)) = decide ((p.f2.size : Int) = 1) := by by_cases h : (p.f2.size : Int) = 1 <;> simp [h]
        rw [e] at this
        simpa [Bool.and_assoc] using this
def mistB (a0 : Int) (s : ByteArray) (l : List S34) : Bool := (decide (1 ≤ a0) && decide (a0 ≤ 30)) && (wordB s && (decide (l.length ≤ 20) && allM a0 s l l.length 0))
theorem spec_mist (a0 : Int) (s : ByteArray) (l : List S34) (hs : s.size ≤ 140737488351232) (hl : l.length ≤ 1000000000) : Ev (fun k => spec_drMistakes.f k a0 s l) (mistB a0 s l) := by
  have h2 := spec_word s hs
  have no : Ev (fun k => spec_drMistakes.j0 k a0 s l true) false := Ev.step (f := fun _ => some false) (fun k => by rw [spec_drMistakes.j0, if_pos rfl]) (Ev.now _)
  unfold spec_drMistakes.f mistB
  simp only [l1In_eq, Option.bind_some]
  cases c : (decide (1 ≤ a0) && decide (a0 ≤ 30)) with
  | false => exact Ev.congr (fun k => if_neg (by decide)) no
  | true =>
    refine Ev.congr (fun k => if_pos rfl) ?_
    cases hw : wordB s with
    | false =>
      rw [hw] at h2
      exact Ev.bind h2 (Ev.congr (fun k => if_neg (by decide)) no)
    | true =>
      rw [hw] at h2
      refine Ev.bind h2 (Ev.congr (fun k => if_pos rfl) ?_)
      by_cases h20 : l.length ≤ 20
      · have e : decide ((l.length : Int) > 20) = false := decide_eq_false (by omega)
        rw [e, decide_eq_true h20]
        have := spec_mist_l0 a0 s l (wordB_size hw) hl l.length 0 (by omega)
        exact Ev.step (f := fun k => spec_drMistakes.l0 k a0 s l l (l.length : Int) ((0 : Nat) : Int)) (fun k => by rw [spec_drMistakes.j0, if_neg (by decide)]; rfl) (by simpa using this)
      · have e : decide ((l.length : Int) > 20) = true := decide_eq_true (by omega)
        rw [e, decide_eq_false h20]
        exact no
theorem contains_eq (f2 : ByteArray) (h : f2.size = 1) : strings_Contains.f (⟨#[83, 82, 65, 76]⟩ : ByteArray) f2 = some (!decide (turnV (bt f2 0) < 0)) := by
  unfold strings_Contains.f
  rw [if_pos h]
  obtain ⟨⟨t⟩⟩ := f2
  match t, h with
  | [b], _ =>
    have e : bt (⟨#[b]⟩ : ByteArray) 0 = (b.toNat : Int) := rfl
    show some (decide (0 ≤ Lib.indexByte [83, 82, 65, 76] b)) = some (!decide (turnV (bt (⟨#[b]⟩ : ByteArray) 0) < 0))
    rw [e, ← word_byte]
    congr 1
    by_cases h1 : b = 83
    · subst h1; decide
    · by_cases h2 : b = 82
      · subst h2; decide
      · by_cases h3 : b = 65
        · subst h3; decide
        · by_cases h4 : b = 76
          · subst h4; decide
          · have g1 : (83 == b) = false := by simpa using fun h => h1 h.symm
            have g2 : (82 == b) = false := by simpa using fun h => h2 h.symm
            have g3 : (65 == b) = false := by simpa using fun h => h3 h.symm
            have g4 : (76 == b) = false := by simpa using fun h => h4 h.symm
            simp [Lib.indexByte, g1, g2, g3, g4, h1, h2, h3, h4]
theorem impl_j1 (a0 : Int) (s : ByteArray) (l : List S34) (len : Int) (i : Nat) (hi : i ≤ l.length) (hl : l.length ≤ 1000000000) (x : Bool) (f0 f1 : Int) (f2 : ByteArray) (R : Bool) (hR : Ev (fun k => impl_areMistakes.l0 k a0 s l l len (wrap64 ((i : Int) + 1))) R) :
    Ev (fun k => impl_areMistakes.j1 k a0 s l i l len i x f0 f1 f2) (!x && (!((l.take i).any (sameM f0 f1)) && R)) := by
  cases x with
  | true => exact Ev.step (f := fun _ => some false) (fun k => by rw [impl_areMistakes.j1, if_pos rfl]) (Ev.now _)
  | false =>
    have es : ∀ k, impl_areMistakes.j1 (k + 1) a0 s l i l len i false f0 f1 f2 = if (l.take i).any (sameM f0 f1) = true then some false else impl_areMistakes.l0 k a0 s l l len (wrap64 ((i : Int) + 1)) := by
      intro k
      rw [impl_areMistakes.j1, if_neg (by decide), if_pos (by omega), if_pos (by omega)]
      rfl
    refine Ev.step es ?_
    cases c : (l.take i).any (sameM f0 f1) with
    | true => exact Ev.congr (fun k => if_pos rfl) (Ev.now _)
    | false => exact Ev.congr (fun k => if_neg (by decide)) (by simpa using hR)
def finM (a0 : Int) (s : ByteArray) (l : List S34) : Bool := decide (l.length ≤ 20) && ((decide (1 ≤ a0) && decide (a0 ≤ 30)) && wordB s)
theorem impl_mist_l0 (a0 : Int) (s : ByteArray) (l : List S34) (hs : s.size ≤ 140737488351232) (hl : l.length ≤ 1000000000) (d : Nat) : ∀ i : Nat, i + d = l.length → Ev (fun k => impl_areMistakes.l0 k a0 s l l (l.length : Int) i) (allM a0 s l d i && finM a0 s l) := by
  induction d with
  | zero =>
    intro i hi
    rw [allM, Bool.true_and]
    unfold finM
    refine Ev.step (f := fun _ => if (l.length : Int) ≤ 20 then ((impl_in.f a0 1 30).bind fun t132 => (if t132 = true then ((impl_areCommands.f s).bind fun t133 => (some t133)) else (some false))) else (some false)) (fun k => by rw [impl_areMistakes.l0, if_neg (by omega)]) ?_
    simp only [in_eq, impl_word s hs, Option.bind_some]
    by_cases h20 : l.length ≤ 20
    · rw [decide_eq_true h20, Bool.true_and]
      refine Ev.congr (fun k => if_pos (by omega)) ?_
      cases (decide (1 ≤ a0) && decide (a0 ≤ 30)) with
      | true => exact Ev.now _
      | false => exact Ev.now _
    · rw [decide_eq_false h20, Bool.false_and]
      exact Ev.congr (fun k => if_neg (by omega)) (Ev.now _)
  | succ d ih =>
    intro i hi
    have hR := ih (i + 1) (by omega)
    rw [← w64n i (by omega)] at hR
    rw [allM]
    unfold okM chkM
    have hil : i ≤ l.length := by omega
    have es : ∀ k, impl_areMistakes.l0 (k + 1) a0 s l l (l.length : Int) i = ((impl_in.f ((rd_T34 l i).f0) 0 (wrap64 (a0 - 1))).bind fun t136 => (if t136 = true then ((impl_in.f ((rd_T34 l i).f1) 0 (wrap64 ((s.size : Int) - 1))).bind fun t137 => (if t137 = true then (if (((rd_T34 l i).f2).size : Int) = 1 then ((strings_Contains.f (⟨#[83, 82, 65, 76]⟩ : ByteArray) ((rd_T34 l i).f2)).bind fun t138 => (if t138 = true then (if 0 < (((rd_T34 l i).f2).size : Int) then (if 0 ≤ ((rd_T34 l i).f1) then (if ((rd_T34 l i).f1) < (s.size : Int) then (impl_areMistakes.j1 k a0 s l i l (l.length : Int) i ((bt ((rd_T34 l i).f2) 0) == (bt s ((rd_T34 l i).f1))) ((rd_T34 l i).f0) ((rd_T34 l i).f1) ((rd_T34 l i).f2)) else (none)) else (none)) else (none)) else (impl_areMistakes.j1 k a0 s l i l (l.length : Int) i true ((rd_T34 l i).f0) ((rd_T34 l i).f1) ((rd_T34 l i).f2)))) else (impl_areMistakes.j1 k a0 s l i l (l.length : Int) i true ((rd_T34 l i).f0) ((rd_T34 l i).f1) ((rd_T34 l i).f2))) else (impl_areMistakes.j1 k a0 s l i l (l.length : Int) i true ((rd_T34 l i).f0) ((rd_T34 l i).f1) ((rd_T34 l i).f2)))) else (impl_areMistakes.j1 k a0 s l i l (l.length : Int) i true ((rd_T34 l i).f0) ((rd_T34 l i).f1) ((rd_T34 l i).f2)))) := by
      intro k
      rw [impl_areMistakes.l0, if_pos (by omega), if_pos (by omega), if_pos (by omega)]
    refine Ev.step es ?_
    generalize rd_T34 l (i : Int) = p
    have bad := impl_j1 a0 s l (l.length : Int) i hil hl true p.f0 p.f1 p.f2 _ hR
    simp only [in_eq, Option.bind_some]
    cases c0 : (decide (0 ≤ p.f0) && decide (p.f0 ≤ wrap64 (a0 - 1))) with
    | false => exact Ev.congr (fun k => if_neg (by decide)) (by simpa using bad)
    | true =>
      cases c1 : (decide (0 ≤ p.f1) && decide (p.f1 ≤ wrap64 ((s.size : Int) - 1))) with
      | false => exact Ev.congr (fun k => (if_pos rfl).trans (if_neg (by decide))) (by simpa using bad)
      | true =>
        have hb : 0 ≤ p.f1 ∧ p.f1 < (s.size : Int) := by
          rw [w64 (by omega) (by omega)] at c1
          simp only [Bool.and_eq_true, decide_eq_true_eq] at c1
          omega
        refine Ev.congr (fun k => (if_pos rfl).trans (if_pos rfl)) ?_
        by_cases h1 : (p.f2.size : Int) = 1
        · rw [contains_eq p.f2 (by omega)]
          simp only [Option.bind_some]
          refine Ev.congr (fun k => if_pos h1) ?_
          by_cases c2 : turnV (bt p.f2 0) < 0
          · refine Ev.congr (fun k => if_neg (by simp [c2])) (by simpa [c2] using bad)
          · have := impl_j1 a0 s l (l.length : Int) i hil hl (bt p.f2 0 == bt s p.f1) p.f0 p.f1 p.f2 _ hR
            refine Ev.congr (fun k => ?_) (by simpa [c2, h1, Bool.and_assoc] using this)
            rw [if_pos (by simp [c2]), if_pos (by omega), if_pos hb.1, if_pos hb.2]
        · exact Ev.congr (fun k => if_neg h1) (by simpa [h1] using bad)
theorem impl_mist (a0 : Int) (s : ByteArray) (l : List S34) (hs : s.size ≤ 140737488351232) (hl : l.length ≤ 1000000000) : Ev (fun k => impl_areMistakes.f k a0 s l) (mistB a0 s l) := by
  have := impl_mist_l0 a0 s l hs hl l.length 0 (by omega)
  have e : mistB a0 s l = (allM a0 s l l.length 0 && finM a0 s l) := by
    unfold mistB finM
    cases allM a0 s l l.length 0 <;> cases (decide (1 ≤ a0) && decide (a0 ≤ 30)) <;> cases wordB s <;> cases decide (l.length ≤ 20) <;> rfl
  rw [e]
  exact this
theorem turnOf_eq {b : Int} (h : b = 83 ∨ b = 82 ∨ b = 65 ∨ b = 76) : impl_turnOf.f b = some (turnV b) := by
  rcases h with rfl | rfl | rfl | rfl <;> rfl
theorem turnV_range {b : Int} (h : b = 83 ∨ b = 82 ∨ b = 65 ∨ b = 76) : 0 ≤ turnV b ∧ turnV b ≤ 3 := by
  rcases h with rfl | rfl | rfl | rfl <;> decide
theorem net_l0 (s : ByteArray) (hw : wordB s = true) (d : Nat) : ∀ (i : Nat) (acc : Int), i + d = s.size → 0 ≤ acc → acc ≤ 3 * i →
    ∃ t : Int, 0 ≤ t ∧ t ≤ 3 ∧ Ev (fun k => spec_drNet.l0 k s acc i) t ∧ Ev (fun k => impl_netTurn.l0 k s acc (s.size : Int) i) t := by
  have hz := wordB_size hw
  induction d with
  | zero =>
    intro i acc hi h0 h1
    refine ⟨Int.tmod acc 4, ?_, ?_, ?_, ?_⟩
    · rw [Int.tmod_eq_emod_of_nonneg h0]; omega
    · rw [Int.tmod_eq_emod_of_nonneg h0]; omega
    · exact Ev.step (f := fun _ => some (Int.tmod acc 4)) (fun k => by rw [spec_drNet.l0, if_neg (by omega)]) (Ev.now _)
    · exact Ev.step (f := fun _ => some (Int.tmod acc 4)) (fun k => by rw [impl_netTurn.l0, if_neg (by omega)]) (Ev.now _)
  | succ d ih =>
    intro i acc hi h0 h1
    have hb := wordB_at hw i (by omega)
    obtain ⟨hr1, hr2⟩ := turnV_range hb
    obtain ⟨t, ht0, ht3, a, b⟩ := ih (i + 1) (acc + turnV (bt s i)) (by omega) (by omega) (by omega)
    refine ⟨t, ht0, ht3, Ev.step (fun k => ?_) a, Ev.step (fun k => ?_) b⟩
    · rw [spec_drNet.l0, if_pos (by omega), if_pos (by omega), drTurn_eq, Option.bind_some, w64 (x := acc + turnV (bt s i)) (by omega) (by omega), w64 (x := (i : Int) + 1) (by omega) (by omega)]
      rfl
    · rw [impl_netTurn.l0, if_pos (by omega), if_pos (by omega), if_pos (by omega), turnOf_eq hb, Option.bind_some, w64 (x := acc + turnV (bt s i)) (by omega) (by omega), w64 (x := (i : Int) + 1) (by omega) (by omega)]
      rfl
theorem net_ok (s : ByteArray) (hw : wordB s = true) : ∃ t : Int, 0 ≤ t ∧ t ≤ 3 ∧ Ev (fun k => spec_drNet.f k s) t ∧ Ev (fun k => impl_netTurn.f k s) t :=
  net_l0 s hw s.size 0 0 (by omega) (by omega) (by omega)
def facB (s : ByteArray) : Bool := (decide (1 ≤ (s.size : Int)) && decide ((s.size : Int) ≤ 30)) && s.data.toList.all (([48, 49, 50, 51] : List UInt8).contains ·)
theorem fac_byte (b : UInt8) : ([48, 49, 50, 51] : List UInt8).contains b = (decide (0 ≤ (b.toNat : Int) - 48) && decide ((b.toNat : Int) - 48 ≤ 3)) := by
  have h : b = UInt8.ofNat b.toNat := by simp
  have hb := b.toNat_lt
  rw [Bool.eq_iff_iff]
  simp only [List.contains_iff_mem, List.mem_cons, List.not_mem_nil, or_false, Bool.and_eq_true, decide_eq_true_eq, ← UInt8.toNat_inj]
  have e1 : (48 : UInt8).toNat = 48 := rfl
  have e2 : (49 : UInt8).toNat = 49 := rfl
  have e3 : (50 : UInt8).toNat = 50 := rfl
  have e4 : (51 : UInt8).toNat = 51 := rfl
  rw [e1, e2, e3, e4]
  omega
theorem spec_fac_l0 (s : ByteArray) (hs : s.data.toList.length ≤ 140737488351232) (d : Nat) : ∀ i : Nat, i + d = s.data.toList.length → Ev (fun k => spec_drFacing.l0 k s i) ((s.data.toList.drop i).all (([48, 49, 50, 51] : List UInt8).contains ·)) := by
  have hz := Lib.size_eq s
  induction d with
  | zero =>
    intro i hi
    rw [List.drop_of_length_le (by omega)]
    exact Ev.step (f := fun _ => some true) (fun k => by rw [spec_drFacing.l0, if_neg (by omega)]) (Ev.now _)
  | succ d ih =>
    intro i hi
    have hil : i < s.data.toList.length := by omega
    have hb := (s.data.toList[i]).toNat_lt
    rw [List.drop_eq_getElem_cons hil, List.all_cons, fac_byte]
    refine Ev.step (f := fun k => if (decide (0 ≤ ((s.data.toList[i]).toNat : Int) - 48) && decide (((s.data.toList[i]).toNat : Int) - 48 ≤ 3)) = true then spec_drFacing.l0 k s ((i + 1 : Nat) : Int) else some false) (fun k => ?_) ?_
    · rw [spec_drFacing.l0, if_pos (by omega), if_pos (by omega), bt_eq s i hil, w64 (x := ((s.data.toList[i]).toNat : Int)) (by omega) (by omega), w64 (x := ((s.data.toList[i]).toNat : Int) - 48) (by omega) (by omega), l1In_eq, w64 (x := (i : Int) + 1) (by omega) (by omega)]
      rfl
    · cases hc : (decide (0 ≤ ((s.data.toList[i]).toNat : Int) - 48) && decide (((s.data.toList[i]).toNat : Int) - 48 ≤ 3)) with
      | true => simpa using ih (i + 1) (by omega)
      | false => simpa using Ev.now false
theorem spec_fac (s : ByteArray) (hs : s.size ≤ 140737488351232) : Ev (fun k => spec_drFacing.f k s) (facB s) := by
  have hz := Lib.size_eq s
  unfold spec_drFacing.f facB
  simp only [l1In_eq, Option.bind_some]
  cases (decide (1 ≤ (s.size : Int)) && decide ((s.size : Int) ≤ 30)) with
  | true => simpa using spec_fac_l0 s (by omega) s.data.toList.length 0 (by omega)
  | false => simpa using Ev.now false
theorem impl_fac (s : ByteArray) (hs : s.size ≤ 140737488351232) : impl_areFacing.f s = some (facB s) := by
  unfold impl_areFacing.f facB
  simp only [in_eq, Option.bind_some]
  rw [trim_f s _ hs (by decide) (by decide)]
  simp only [Option.bind_some, empty_test, trim_test]
  cases (decide (1 ≤ (s.size : Int)) && decide ((s.size : Int) ≤ 30)) <;> rfl
theorem facB_size {s : ByteArray} (h : facB s = true) : 1 ≤ s.size ∧ s.size ≤ 30 := by
  unfold facB at h
  simp only [Bool.and_eq_true, decide_eq_true_eq] at h
  omega
theorem facB_at {s : ByteArray} (h : facB s = true) (i : Nat) (hi : i < s.size) : ∃ v : Nat, v ≤ 3 ∧ bt s (i : Int) = 48 + (v : Int) := by
  have hz := Lib.size_eq s
  unfold facB at h
  simp only [Bool.and_eq_true] at h
  have hm := List.all_eq_true.1 h.2 _ (List.getElem_mem (show i < s.data.toList.length by omega))
  rw [fac_byte] at hm
  simp only [Bool.and_eq_true, decide_eq_true_eq] at hm
  refine ⟨(s.data.toList[i]).toNat - 48, by omega, ?_⟩
  rw [bt_eq s i (by omega)]
  omega
theorem strOfNums_append (xs ys : List Int) : strOfNums (xs ++ ys) = strOfNums xs ++ strOfNums ys := by
  apply ByteArray.ext
  simp [strOfNums]
theorem tnV_eq {b : Int} (h : b = 83 ∨ b = 82 ∨ b = 65 ∨ b = 76) : tnV b = turnV b := by
  rcases h with rfl | rfl | rfl | rfl <;> decide +kernel
def goodM (n : Int) (s : ByteArray) (m : S34) : Prop := 0 ≤ m.f0 ∧ m.f0 < n ∧ m.f2.size = 1 ∧ 0 ≤ m.f1 ∧ m.f1 < (s.size : Int) ∧ 0 ≤ turnV (bt m.f2 0)
theorem turnV_four {b : Int} (h : 0 ≤ turnV b) : b = 83 ∨ b = 82 ∨ b = 65 ∨ b = 76 := by
  unfold turnV at h
  omega
theorem allM_good (n : Int) (s : ByteArray) (l : List S34) (hn0 : 1 ≤ n) (hn : n ≤ 30) (hs : s.size ≤ 60) (d : Nat) : ∀ i : Nat, i + d = l.length → allM n s l d i = true → ∀ m ∈ l.drop i, goodM n s m := by
  induction d with
  | zero =>
    intro i hi _ m hm
    rw [List.drop_of_length_le (by omega)] at hm
    cases hm
  | succ d ih =>
    intro i hi h m hm
    have hil : i < l.length := by omega
    rw [allM, Bool.and_eq_true] at h
    rw [List.drop_eq_getElem_cons hil, List.mem_cons] at hm
    rcases hm with rfl | hm
    · have ho := h.1
      unfold okM at ho
      rw [Bool.and_eq_true, rdM_at l i hil] at ho
      have hc := ho.1
      unfold chkM at hc
      rw [w64 (x := n - 1) (by omega) (by omega), w64 (x := (s.size : Int) - 1) (by omega) (by omega)] at hc
      simp only [Bool.and_eq_true, decide_eq_true_eq, Bool.not_eq_true', decide_eq_false_iff_not] at hc
      obtain ⟨⟨h1, h2⟩, ⟨h3, h4⟩, h5, h6, _⟩ := hc
      exact ⟨h1, by omega, by omega, h3, by omega, by omega⟩
    · exact ih (i + 1) (by omega) h.2 m hm
theorem mistB_good (n : Int) (s : ByteArray) (l : List S34) (h : mistB n s l = true) : 1 ≤ n ∧ n ≤ 30 ∧ wordB s = true ∧ l.length ≤ 20 ∧ ∀ m ∈ l, goodM n s m := by
  unfold mistB at h
  simp only [Bool.and_eq_true, decide_eq_true_eq] at h
  obtain ⟨⟨h1, h2⟩, hw, h20, ha⟩ := h
  exact ⟨h1, h2, hw, h20, fun m hm => allM_good n s l h1 h2 (wordB_size hw) l.length 0 (by omega) ha m (by simpa using hm)⟩
/-- How far a mistake turns its soldier besides. -/
def byM (s : ByteArray) (m : S34) : Int := 4 + turnV (bt m.f2 0) - turnV (bt s m.f1)
/-- How far a soldier turns with the mistakes of a list. -/
def doneM (s : ByteArray) (i : Int) : List S34 → Int → Int
  | [], t => t
  | m :: l, t => doneM s i l (if m.f0 = i then t + byM s m else t)
theorem byM_range (n : Int) (s : ByteArray) (hw : wordB s = true) (m : S34) (h : goodM n s m) : 1 ≤ byM s m ∧ byM s m ≤ 7 ∧ dr_by s m = byM s m ∧ spec_drTurn.f (bt m.f2 0) = some (turnV (bt m.f2 0)) := by
  obtain ⟨h1, h2, h3, h4, h5, h6⟩ := h
  have ha := turnV_four h6
  have hb := wordB_at hw m.f1.toNat (by omega)
  rw [show ((m.f1.toNat : Nat) : Int) = m.f1 by omega] at hb
  obtain ⟨a1, a2⟩ := turnV_range ha
  obtain ⟨b1, b2⟩ := turnV_range hb
  unfold byM dr_by
  rw [tnV_eq ha, tnV_eq hb, drTurn_eq]
  refine ⟨by omega, by omega, ?_, rfl⟩
  rw [w64 (x := turnV (bt m.f2 0) + 4) (by omega) (by omega), w64 (by omega) (by omega)]
  omega
theorem doneM_range (n : Int) (s : ByteArray) (hw : wordB s = true) (i : Int) : ∀ (l : List S34) (t : Int), (∀ m ∈ l, goodM n s m) → t ≤ doneM s i l t ∧ doneM s i l t ≤ t + 7 * l.length := by
  intro l
  induction l with
  | nil => intro t _; exact ⟨Int.le_refl _, by simp [doneM]⟩
  | cons m l ih =>
    intro t h
    have hm := byM_range n s hw m (h m (by simp))
    have := ih (if m.f0 = i then t + byM s m else t) (fun x hx => h x (by simp [hx]))
    rw [doneM]
    simp only [List.length_cons]
    split at this
    · rename_i c; rw [if_pos c] ; omega
    · rename_i c; rw [if_neg c]; omega
theorem dr_getD_set (T : List Int) (a i : Nat) (v : Int) (h : a < T.length) : (T.set a v).getD i 0 = if a = i then v else T.getD i 0 := by
  by_cases c : a = i
  · subst c; rw [if_pos rfl, dr_set_self _ _ _ h]
  · rw [if_neg c, dr_set_ne _ _ _ _ c]
theorem dr_all_ok (n : Nat) (s : ByteArray) (hw : wordB s = true) : ∀ (l : List S34) (T : List Int) (B : Int), (∀ m ∈ l, goodM n s m) → T.length = n → (∀ i : Nat, 0 ≤ T.getD i 0 ∧ T.getD i 0 ≤ B) → B + 7 * l.length ≤ 1000000 →
    ∃ T', dr_all s l T = some T' ∧ T'.length = n ∧ ∀ i : Nat, i < n → T'.getD i 0 = doneM s i l (T.getD i 0) := by
  intro l
  induction l with
  | nil => intro T B _ hT _ _; exact ⟨T, rfl, hT, fun i _ => rfl⟩
  | cons m l ih =>
    intro T B h hT hR hB
    have hg := h m (by simp)
    obtain ⟨b1, b2, b3, _⟩ := byM_range n s hw m hg
    obtain ⟨h1, h2, h3, h4, h5, h6⟩ := hg
    simp only [List.length_cons] at hB
    have hr := hR m.f0.toNat
    have hlt : m.f0.toNat < T.length := by omega
    have hv : wrap64 (T.getD m.f0.toNat 0 + dr_by s m) = T.getD m.f0.toNat 0 + byM s m := by
      rw [b3]
      exact w64 (by omega) (by omega)
    have hget := dr_getD_set T m.f0.toNat
    obtain ⟨T', e, hl, hi⟩ := ih (T.set m.f0.toNat (T.getD m.f0.toNat 0 + byM s m)) (B + 7) (fun x hx => h x (by simp [hx])) (by rw [List.length_set]; exact hT)
      (fun i => by
        rw [hget i _ hlt]
        have := hR i
        split <;> omega) (by omega)
    refine ⟨T', ?_, hl, fun i hin => ?_⟩
    · rw [dr_all, if_pos ⟨h1, by omega, by omega, h4, h5⟩, hv]
      exact e
    · rw [hi i hin, hget i _ hlt, doneM]
      congr 1
      by_cases c : m.f0.toNat = i
      · rw [if_pos c, if_pos (by omega), c]
      · rw [if_neg c, if_neg (by omega)]
theorem drDone_l1 (n : Int) (hn0 : 1 ≤ n) (hn : n ≤ 30) (s : ByteArray) (hw : wordB s = true) (l : List S34) (h20 : l.length ≤ 20) (hg : ∀ m ∈ l, goodM n s m) (out : List Int) (ho : out.length ≤ 1000) (x : Int) (R : List Int) (d : Nat) :
    ∀ (j : Nat) (t : Int), j + d = l.length → 0 ≤ t → t ≤ 3 + 7 * j → Ev (fun k => spec_drDone.l0 k n s l (out ++ [doneM s x (l.drop j) t % 4]) (wrap64 (x + 1))) R →
    Ev (fun k => spec_drDone.l1 k n s l out x t l (l.length : Int) j) R := by
  induction d with
  | zero =>
    intro j t hj h0 h1 hR
    rw [List.drop_of_length_le (by omega)] at hR
    refine Ev.step (fun k => ?_) hR
    rw [spec_drDone.l1, if_neg (by omega), if_pos (by omega), Int.tmod_eq_emod_of_nonneg h0]
    rfl
  | succ d ih =>
    intro j t hj h0 h1 hR
    have hjl : j < l.length := by omega
    rw [List.drop_eq_getElem_cons hjl, doneM] at hR
    obtain ⟨b1, b2, b3, b4⟩ := byM_range n s hw l[j] (hg _ (List.getElem_mem hjl))
    obtain ⟨h1', h2', h3', h4', h5', h6'⟩ := hg _ (List.getElem_mem hjl)
    have hr := rdM_at l j hjl
    have es : ∀ k, spec_drDone.l1 (k + 1) n s l out x t l (l.length : Int) j = if l[j].f0 = x then (if 0 < ((l[j].f2.size : Nat) : Int) then ((spec_drTurn.f (bt l[j].f2 0)).bind fun t145 => (if 0 ≤ l[j].f1 then (if l[j].f1 < (s.size : Int) then ((spec_drTurn.f (bt s l[j].f1)).bind fun t146 => (spec_drDone.l1 k n s l out x (wrap64 (t + (wrap64 ((wrap64 (4 + t145)) - t146)))) l (l.length : Int) ((j + 1 : Nat) : Int))) else (none)) else (none))) else (none)) else (spec_drDone.l1 k n s l out x t l (l.length : Int) ((j + 1 : Nat) : Int)) := by
      intro k
      rw [spec_drDone.l1, if_pos (by omega), if_pos (by omega), if_pos (by omega), hr, w64n j (by omega)]
    refine Ev.step es ?_
    by_cases c : l[j].f0 = x
    · rw [if_pos c] at hR
      have hrec := ih (j + 1) (t + byM s l[j]) (by omega) (by omega) (by omega) hR
      have ha := turnV_range (turnV_four h6')
      have hb4 := wordB_at hw l[j].f1.toNat (by omega)
      rw [show ((l[j].f1.toNat : Nat) : Int) = l[j].f1 by omega] at hb4
      have hb := turnV_range hb4
      have e : wrap64 (t + wrap64 (wrap64 (4 + turnV (bt l[j].f2 0)) - turnV (bt s l[j].f1))) = t + byM s l[j] := by
        unfold byM at b1 b2 ⊢
        rw [w64 (x := 4 + turnV (bt l[j].f2 0)) (by omega) (by omega), w64 (x := 4 + turnV (bt l[j].f2 0) - turnV (bt s l[j].f1)) (by omega) (by omega), w64 (by omega) (by omega)]
      refine Ev.congr (fun k => ?_) hrec
      rw [if_pos c, if_pos (by omega), drTurn_eq, drTurn_eq, Option.bind_some, if_pos h4', if_pos h5', Option.bind_some, e]
    · rw [if_neg c] at hR
      have hrec := ih (j + 1) t (by omega) h0 (by omega) hR
      exact Ev.congr (fun k => if_neg c) hrec
def doneL (n : Nat) (s : ByteArray) (l : List S34) (t : Int) : List Int := (List.range n).map fun (i : Nat) => doneM s (i : Int) l t % 4
theorem doneL_succ (n : Nat) (s : ByteArray) (l : List S34) (t : Int) : doneL (n + 1) s l t = doneL n s l t ++ [doneM s (n : Int) l t % 4] := by
  unfold doneL
  rw [List.range_succ, List.map_append]
  rfl
theorem doneL_len (n : Nat) (s : ByteArray) (l : List S34) (t : Int) : (doneL n s l t).length = n := by simp [doneL]
theorem doneL_at (n : Nat) (s : ByteArray) (l : List S34) (t : Int) (i : Nat) (h : i < n) : rd (doneL n s l t) (i : Int) = doneM s (i : Int) l t % 4 := by
  simp [rd, doneL, h]
theorem drDone_l0 (n : Nat) (hn0 : 1 ≤ n) (hn : n ≤ 30) (s : ByteArray) (hw : wordB s = true) (l : List S34) (h20 : l.length ≤ 20) (hg : ∀ m ∈ l, goodM n s m) (t : Int) (ht0 : 0 ≤ t) (ht3 : t ≤ 3) (hnet : Ev (fun k => spec_drNet.f k s) t) (d : Nat) :
    ∀ i : Nat, i + d = n → Ev (fun k => spec_drDone.l0 k n s l (doneL i s l t) i) (doneL n s l t) := by
  induction d with
  | zero =>
    intro i hi
    obtain rfl : i = n := by omega
    exact Ev.step (f := fun _ => some (doneL i s l t)) (fun k => by rw [spec_drDone.l0, if_neg (by omega)]) (Ev.now _)
  | succ d ih =>
    intro i hi
    have hrec := ih (i + 1) (by omega)
    rw [doneL_succ, ← w64n i (by omega)] at hrec
    have es : ∀ k, spec_drDone.l0 (k + 1) n s l (doneL i s l t) i = (spec_drNet.f k s).bind fun t139 => (spec_drDone.l1 k n s l (doneL i s l t) i t139 l (l.length : Int) ((0 : Nat) : Int)) := by
      intro k
      rw [spec_drDone.l0, if_pos (by omega)]
      rfl
    refine Ev.step es (Ev.bind hnet ?_)
    exact drDone_l1 n (by omega) (by omega) s hw l h20 hg (doneL i s l t) (by rw [doneL_len]; omega) i _ l.length 0 t (by omega) ht0 (by omega) (by simpa using hrec)
/-- What the program's drilled answers, and what the reference computes, if all are right. -/
theorem drill_ok (a0 a1 : ByteArray) (l : List S34) (hs : a0.size ≤ 140737488351232) (hu : a1.size ≤ 140737488351232) (hl : l.length ≤ 1000000000) :
    (Ev (fun k => spec_drAsked.f k a0 a1 l) false ∧ Ev (fun k => impl_drilled.f k a0 a1 l) (⟨#[]⟩, ⟨#[]⟩, false)) ∨
    (Ev (fun k => spec_drAsked.f k a0 a1 l) true ∧ facB a0 = true ∧ wordB a1 = true ∧ l.length ≤ 20 ∧ mistB (a0.size : Int) a1 l = true ∧ (∀ m ∈ l, goodM (a0.size : Int) a1 m) ∧ ∃ (t : Int) (T : List Int), 0 ≤ t ∧ t ≤ 3 ∧ Ev (fun k => spec_drNet.f k a1) t ∧ Ev (fun k => impl_netTurn.f k a1) t ∧ Ev (fun k => spec_drDone.f k (a0.size : Int) a1 l) (doneL a0.size a1 l t) ∧ T.length = a0.size ∧ (∀ i : Nat, i < a0.size → T.getD i 0 = doneM a1 i l t ∧ t ≤ T.getD i 0 ∧ T.getD i 0 ≤ 200) ∧
      Ev (fun k => impl_drilled.f k a0 a1 l) (strOfNums (dr_facL a0 (fun _ => t) a0.size), strOfNums (dr_facL a0 (fun i => T.getD i.toNat 0) a0.size), true)) := by
  unfold spec_drAsked.f impl_drilled.f
  simp only [impl_fac a0 hs, impl_word a1 hu, Option.bind_some]
  have h1 := spec_fac a0 hs
  cases hf : facB a0 with
  | false =>
    rw [hf] at h1
    exact Or.inl ⟨Ev.bind h1 (Ev.congr (fun k => if_neg (by decide)) (Ev.now _)), Ev.congr (fun k => if_neg (by decide)) (Ev.now _)⟩
  | true =>
    rw [hf] at h1
    have hsz := facB_size hf
    have hsm := spec_mist (a0.size : Int) a1 l hu hl
    have him := impl_mist (a0.size : Int) a1 l hu hl
    cases hm : mistB (a0.size : Int) a1 l with
    | false =>
      rw [hm] at hsm him
      refine Or.inl ⟨Ev.bind h1 (Ev.congr (fun k => if_pos rfl) (Ev.bind hsm (Ev.now _))), ?_⟩
      cases hw : wordB a1 with
      | false => exact Ev.congr (fun k => (if_pos rfl).trans (if_neg (by decide))) (Ev.now _)
      | true => exact Ev.congr (fun k => (if_pos rfl).trans (if_pos rfl)) (Ev.bind him (Ev.congr (fun k => if_neg (by decide)) (Ev.now _)))
    | true =>
      rw [hm] at hsm him
      obtain ⟨g1, g2, hw, h20, hg⟩ := mistB_good _ a1 l hm
      obtain ⟨t, ht0, ht3, hsn, hin⟩ := net_ok a1 hw
      have hrep : ∀ i : Nat, i < a0.size → (List.replicate a0.size t).getD i 0 = t := fun i hi => by simp [List.getD, hi]
      obtain ⟨T, e, hT, hv⟩ := dr_all_ok a0.size a1 hw l (List.replicate a0.size t) 3 hg List.length_replicate (fun i => by
        by_cases hi : i < a0.size
        · rw [hrep i hi]; omega
        · rw [List.getD_eq_getElem?_getD, List.getElem?_eq_none (by rw [List.length_replicate]; omega)]
          exact ⟨Int.le_refl _, by decide⟩) (by omega)
      refine Or.inr ⟨Ev.bind h1 (Ev.congr (fun k => if_pos rfl) (Ev.bind hsm (Ev.now _))), rfl, hw, h20, rfl, hg, t, T, ht0, ht3, hsn, hin, ?_, hT, fun i hi => ?_, ?_⟩
      · exact drDone_l0 a0.size hsz.1 hsz.2 a1 hw l h20 hg t ht0 ht3 hsn a0.size 0 (by omega)
      · have hr := doneM_range (a0.size : Int) a1 hw i l t hg
        rw [hv i hi, hrep i hi]
        exact ⟨rfl, hr.1, by omega⟩
      · rw [hw]
        refine Ev.congr (fun k => (if_pos rfl).trans (if_pos rfl)) (Ev.bind him (Ev.congr (fun k => if_pos rfl) (Ev.bind hin (Ev.congr (fun k => if_pos hsz) ?_))))
        rw [e]
        exact Ev.now _
theorem dr_fac1_eq (v t : Int) (hv0 : 0 ≤ v) (hv3 : v ≤ 3) (ht0 : 0 ≤ t) (ht3 : t ≤ 1000) : dr_fac1 (48 + v) t = 48 + (v + t) % 4 := by
  unfold dr_fac1
  have e : (48 + v - 48) % 256 = v := by omega
  rw [e, w64 (x := v) (by omega) (by omega), w64 (x := v + t) (by omega) (by omega), Int.tmod_eq_emod_of_nonneg (by omega), w64 (by omega) (by omega)]
  omega
theorem dr_facL_succ (s : ByteArray) (T : Int → Int) (n : Nat) : dr_facL s T (n + 1) = dr_facL s T n ++ [dr_fac1 (bt s (n : Int)) (T (n : Int))] := by
  unfold dr_facL
  rw [List.range_succ, List.map_append]
  rfl
theorem dr_facL_len (s : ByteArray) (T : Int → Int) (n : Nat) : (dr_facL s T n).length = n := by simp [dr_facL]
theorem bt_strOfNums (l : List Int) (i : Nat) (hi : i < l.length) (h : 0 ≤ l.getD i 0 ∧ l.getD i 0 ≤ 255) : bt (strOfNums l) (i : Int) = l.getD i 0 := by
  have e : (strOfNums l).data.toList = l.map fun x => UInt8.ofNat x.toNat := by simp [strOfNums]
  have hi' : i < (strOfNums l).data.toList.length := by rw [e]; simpa using hi
  rw [bt_eq _ i hi']
  have : (strOfNums l).data.toList[i] = UInt8.ofNat (l[i]).toNat := by simp [e]
  rw [this]
  have hg : l.getD i 0 = l[i] := by simp [List.getD, hi]
  rw [hg] at h ⊢
  simp
  omega
/-- One sign of a facing behind turns. -/
theorem dr_bt (s : ByteArray) (hf : facB s = true) (T : Int → Int) (hT : ∀ i : Nat, i < s.size → 0 ≤ T (i : Int) ∧ T (i : Int) ≤ 1000) (i : Nat) (hi : i < s.size) (v : Nat) (hv : v ≤ 3) (hb : bt s (i : Int) = 48 + (v : Int)) : bt (strOfNums (dr_facL s T s.size)) (i : Int) = 48 + ((v : Int) + T (i : Int)) % 4 := by
  have h := hT i hi
  have e : (dr_facL s T s.size).getD i 0 = 48 + ((v : Int) + T (i : Int)) % 4 := by
    rw [← dr_fac1_eq v (T (i : Int)) (by omega) (by omega) h.1 h.2, ← hb]
    simp [dr_facL, List.getD, hi]
  rw [bt_strOfNums _ i (by rw [dr_facL_len]; exact hi) (by rw [e]; omega), e]
theorem drSign_eq (t : Int) (h0 : 0 ≤ t) (h3 : t ≤ 3) : spec_drSign.f t = some (strOfNums [bt (⟨#[83, 82, 65, 76]⟩ : ByteArray) t]) := by
  have h : t = 0 ∨ t = 1 ∨ t = 2 ∨ t = 3 := by omega
  rcases h with rfl | rfl | rfl | rfl <;> decide +kernel
/-- Texts of ways and of signs. -/
def facOf (L : List Nat) : ByteArray := strOfNums (L.map fun (v : Nat) => 48 + (v : Int))
def sgn (v : Nat) : Int := if v = 0 then 83 else if v = 1 then 82 else if v = 2 then 65 else 76
def wordOf (M : List Nat) : ByteArray := strOfNums (M.map sgn)
def Sm (L : List Nat) : Prop := ∀ v ∈ L, v < 4
theorem sv_data (l : List Int) : (strOfNums l).data.toList = l.map fun x => UInt8.ofNat x.toNat := by simp [strOfNums]
theorem sv_len (l : List Int) : (strOfNums l).size = l.length := by simp [strOfNums, ByteArray.size]
theorem u8n (x : Int) (h : 0 ≤ x ∧ x ≤ 255) : ((UInt8.ofNat x.toNat).toNat : Int) = x := by
  rw [UInt8.toNat_ofNat']
  omega
theorem sv_bt (l : List Int) (i : Nat) (hi : i < l.length) (h : 0 ≤ l[i] ∧ l[i] ≤ 255) : bt (strOfNums l) (i : Int) = l[i] := by
  have e := sv_data l
  have hi' : i < (strOfNums l).data.toList.length := by rw [e]; simpa using hi
  rw [bt_eq _ i hi']
  have : (strOfNums l).data.toList[i] = UInt8.ofNat (l[i]).toNat := by simp [e]
  exact (congrArg (fun b : UInt8 => ((b.toNat : Nat) : Int)) this).trans (u8n _ h)
theorem sv_self (s : ByteArray) : s = strOfNums ((List.range s.size).map fun (i : Nat) => bt s (i : Int)) := by
  have hz := Lib.size_eq s
  have e : s.data.toList = (strOfNums ((List.range s.size).map fun (i : Nat) => bt s (i : Int))).data.toList := by
    rw [sv_data]
    apply List.ext_getElem
    · rw [List.length_map, List.length_map, List.length_range, hz]
    · intro i h1 h2
      rw [List.getElem_map, List.getElem_map, List.getElem_range, bt_eq s i h1, Int.toNat_natCast, UInt8.ofNat_toNat]
  apply ByteArray.ext
  exact Array.ext' e
theorem sm_sum (L : List Nat) (h : Sm L) : L.sum ≤ 3 * L.length := by
  induction L with
  | nil => simp
  | cons x L ih =>
    have hx := h x (by simp)
    have := ih (fun v hv => h v (by simp [hv]))
    simp only [List.sum_cons, List.length_cons]
    omega
theorem facOf_size (L : List Nat) : (facOf L).size = L.length := by unfold facOf; rw [sv_len, List.length_map]
theorem wordOf_size (L : List Nat) : (wordOf L).size = L.length := by unfold wordOf; rw [sv_len, List.length_map]
theorem facOf_bt (L : List Nat) (h : Sm L) (i : Nat) (hi : i < L.length) : bt (facOf L) (i : Int) = 48 + (L[i] : Int) := by
  have hv := h _ (List.getElem_mem hi)
  unfold facOf
  rw [sv_bt _ i (by simpa using hi) (by simp; omega)]
  simp
theorem sgn_four (v : Nat) : sgn v = 83 ∨ sgn v = 82 ∨ sgn v = 65 ∨ sgn v = 76 := by
  unfold sgn
  repeat' split
  all_goals omega
theorem turnV_sgn (v : Nat) (h : v < 4) : turnV (sgn v) = v := by
  have h' : v = 0 ∨ v = 1 ∨ v = 2 ∨ v = 3 := by omega
  rcases h' with rfl | rfl | rfl | rfl <;> decide
theorem wordOf_bt (L : List Nat) (i : Nat) (hi : i < L.length) : bt (wordOf L) (i : Int) = sgn L[i] := by
  have hv := sgn_four L[i]
  unfold wordOf
  rw [sv_bt _ i (by simpa using hi) (by simp; omega)]
  simp
theorem fac_form (s : ByteArray) (h : facB s = true) : ∃ L, s = facOf L ∧ Sm L ∧ 1 ≤ L.length ∧ L.length ≤ 30 := by
  obtain ⟨h1, h2⟩ := facB_size h
  refine ⟨(List.range s.size).map fun (i : Nat) => (bt s (i : Int) - 48).toNat, ?_, ?_, ?_, ?_⟩
  · have e := sv_self s
    unfold facOf
    rw [List.map_map]
    refine e.trans ?_
    congr 1
    apply List.map_congr_left
    intro i hi
    obtain ⟨v, hv, hb⟩ := facB_at h i (by simpa using hi)
    simp only [Function.comp_apply]
    omega
  · intro v hv
    obtain ⟨i, hi, rfl⟩ := List.mem_map.1 hv
    obtain ⟨v, hv, hb⟩ := facB_at h i (by simpa using hi)
    omega
  · simpa using h1
  · simpa using h2
theorem word_form (s : ByteArray) (h : wordB s = true) : ∃ M, s = wordOf M ∧ Sm M ∧ M.length ≤ 60 := by
  have h1 := wordB_size h
  have hv : ∀ b : Int, (b = 83 ∨ b = 82 ∨ b = 65 ∨ b = 76) → b = sgn (turnV b).toNat ∧ (turnV b).toNat < 4 := by
    intro b hb
    rcases hb with rfl | rfl | rfl | rfl <;> decide
  refine ⟨(List.range s.size).map fun (i : Nat) => (turnV (bt s (i : Int))).toNat, ?_, ?_, ?_⟩
  · have e := sv_self s
    unfold wordOf
    rw [List.map_map]
    refine e.trans ?_
    congr 1
    apply List.map_congr_left
    intro i hi
    exact (hv _ (wordB_at h i (by simpa using hi))).1
  · intro v hv'
    obtain ⟨i, hi, rfl⟩ := List.mem_map.1 hv'
    exact (hv _ (wordB_at h i (by simpa using hi))).2
  · simpa using h1
theorem facOf_good (L : List Nat) (h : Sm L) (h1 : 1 ≤ L.length) (h2 : L.length ≤ 30) : facB (facOf L) = true := by
  unfold facB
  rw [facOf_size]
  simp only [Bool.and_eq_true, decide_eq_true_eq, List.all_eq_true]
  refine ⟨⟨by omega, by omega⟩, fun b hb => ?_⟩
  unfold facOf at hb
  rw [sv_data, List.map_map] at hb
  obtain ⟨v, hv, rfl⟩ := List.mem_map.1 hb
  have := h v hv
  have e : (((((fun x : Int => UInt8.ofNat x.toNat) ∘ fun (v : Nat) => 48 + (v : Int)) v).toNat : Nat) : Int) = 48 + (v : Int) := u8n (48 + (v : Int)) (by omega)
  rw [fac_byte, e]
  simp
  omega
theorem wordOf_good (M : List Nat) (h2 : M.length ≤ 60) : wordB (wordOf M) = true := by
  unfold wordB
  rw [wordOf_size]
  simp only [Bool.and_eq_true, decide_eq_true_eq, List.all_eq_true]
  refine ⟨by omega, fun b hb => ?_⟩
  unfold wordOf at hb
  rw [sv_data, List.map_map] at hb
  obtain ⟨v, hv, rfl⟩ := List.mem_map.1 hb
  have := sgn_four v
  rw [word_byte]
  have e : (((((fun x : Int => UInt8.ofNat x.toNat) ∘ sgn) v).toNat : Nat) : Int) = sgn v := u8n (sgn v) (by omega)
  rw [e]
  unfold turnV
  simp
  omega
theorem wordOf_inj {A B : List Nat} (hA : Sm A) (hB : Sm B) (h : wordOf A = wordOf B) : A = B := by
  have hl : A.length = B.length := by rw [← wordOf_size A, ← wordOf_size B, h]
  apply List.ext_getElem hl
  intro i h1 h2
  have e1 := wordOf_bt A i h1
  have e2 := wordOf_bt B i h2
  rw [h, e2] at e1
  have := turnV_sgn _ (hA _ (List.getElem_mem h1))
  have := turnV_sgn _ (hB _ (List.getElem_mem h2))
  rw [e1] at this
  omega
theorem wn2 (a b : Nat) (h : a + b ≤ 1000000000) : wrap64 ((a : Int) + (b : Int)) = ((a + b : Nat) : Int) := by
  rw [w64 (by omega) (by omega)]
  rfl
theorem wn1 (a : Nat) (h : a ≤ 1000000000) : wrap64 ((a : Int) + 1) = ((a + 1 : Nat) : Int) := by
  rw [w64 (by omega) (by omega)]
  rfl
theorem tn4 (a : Nat) : Int.tmod (a : Int) 4 = ((a % 4 : Nat) : Int) := by rw [Int.tmod_eq_emod_of_nonneg (by omega)]; rfl
theorem net_gen (S : ByteArray) (M : List Nat) (hz : S.size = M.length) (hS : ∀ (i : Nat) (hi : i < M.length), bt S (i : Int) = sgn M[i]) (hM : Sm M) (hl : M.length ≤ 60) (d : Nat) : ∀ i : Nat, i + d = M.length → Ev (fun k => spec_drNet.l0 k S (((M.take i).sum : Nat) : Int) (i : Int)) ((M.sum % 4 : Nat) : Int) ∧ Ev (fun k => impl_netTurn.l0 k S (((M.take i).sum : Nat) : Int) (S.size : Int) (i : Int)) ((M.sum % 4 : Nat) : Int) := by
  induction d with
  | zero =>
    intro i hi
    have e : M.take i = M := List.take_of_length_le (by omega)
    have t := tn4 M.sum
    refine ⟨Ev.step (f := fun _ => some _) (fun k => ?_) (Ev.now _), Ev.step (f := fun _ => some _) (fun k => ?_) (Ev.now _)⟩
    · rw [spec_drNet.l0, if_neg (by omega), e, t]
    · rw [impl_netTurn.l0, if_neg (by omega), e, t]
  | succ d ih =>
    intro i hi
    have hil : i < M.length := by omega
    have hb := hS i hil
    have hv := turnV_sgn _ (hM _ (List.getElem_mem hil))
    have hs : (M.take (i + 1)).sum = (M.take i).sum + M[i] := by rw [List.take_succ_eq_append_getElem hil, List.sum_append]; simp
    have hb2 := sm_sum (M.take (i + 1)) (fun v h => hM v (List.mem_of_mem_take h))
    have hl2 : (M.take (i + 1)).length ≤ 60 := by rw [List.length_take]; omega
    obtain ⟨h1, h2⟩ := ih (i + 1) (by omega)
    obtain ⟨T, hT⟩ : ∃ T, (M.take i).sum = T := ⟨_, rfl⟩
    obtain ⟨x, hx⟩ : ∃ x, M[i] = x := ⟨_, rfl⟩
    rw [hx] at hb hv
    rw [hs, hT, hx] at h1 h2 hb2
    have p1 : (i : Int) < (S.size : Int) := by omega
    have p2 : (0 : Int) ≤ (i : Int) := by omega
    have e1 := wn2 T x (by omega)
    have e2 := wn1 i (by omega)
    rw [hT]
    refine ⟨Ev.step (fun k => ?_) h1, Ev.step (fun k => ?_) h2⟩
    · rw [spec_drNet.l0, if_pos p1, if_pos p2, hb, drTurn_eq, hv, Option.bind_some, e1, e2]
    · rw [impl_netTurn.l0, if_pos p1, if_pos p2, if_pos p1, hb, turnOf_eq (sgn_four _), hv, Option.bind_some, e1, e2]
/-- The turn of a word. -/
theorem net_vals (M : List Nat) (hM : Sm M) (hl : M.length ≤ 60) : Ev (fun k => spec_drNet.f k (wordOf M)) ((M.sum % 4 : Nat) : Int) ∧ Ev (fun k => impl_netTurn.f k (wordOf M)) ((M.sum % 4 : Nat) : Int) :=
  net_gen (wordOf M) M (wordOf_size M) (wordOf_bt M) hM hl M.length 0 (by omega)
def IsW (M : List Nat) (s : ByteArray) : Prop := s = wordOf M ∧ Sm M ∧ M.length ≤ 60
def IsF (L : List Nat) (s : ByteArray) : Prop := s = facOf L ∧ Sm L ∧ 1 ≤ L.length ∧ L.length ≤ 30
theorem IsW.good {M : List Nat} {s : ByteArray} (h : IsW M s) : wordB s = true := by
  rw [h.1]
  exact wordOf_good M h.2.2
theorem IsF.good {M : List Nat} {s : ByteArray} (h : IsF M s) : facB s = true := by
  rw [h.1]
  exact facOf_good M h.2.1 h.2.2.1 h.2.2.2
theorem isw_of {s : ByteArray} (h : wordB s = true) : ∃ M, IsW M s := by
  obtain ⟨M, h1, h2, h3⟩ := word_form s h
  exact ⟨M, h1, h2, h3⟩
theorem isf_of {s : ByteArray} (h : facB s = true) : ∃ M, IsF M s := by
  obtain ⟨M, h1, h2, h3⟩ := fac_form s h
  exact ⟨M, h1, h2, h3⟩
theorem digit_small (v : Int) (h0 : 0 ≤ v) (h9 : v ≤ 9) : Ev (fun k => spec_l1Num.f k v) (strOfNums [48 + v]) := by
  refine Ev.step (f := fun _ => some (strOfNums [48 + v])) (fun k => ?_) (Ev.now _)
  have e : wrap64 (48 + v) % 256 = 48 + v := by rw [w64 (by omega) (by omega)]; omega
  rw [spec_l1Num.f, if_pos (by omega), e]
theorem fac1_eq (v t : Int) (hv0 : 0 ≤ v) (hv3 : v ≤ 3) (ht0 : 0 ≤ t) (ht3 : t ≤ 1000) : fac1 (48 + v) t = 48 + (v + t) % 4 := by
  unfold fac1
  have e : (48 + v - 48) % 256 = v := by omega
  rw [e, w64 (x := v) (by omega) (by omega), w64 (x := v + t) (by omega) (by omega), Int.tmod_eq_emod_of_nonneg (by omega), w64 (by omega) (by omega)]
  omega
theorem facL_succ (s : ByteArray) (T : Int → Int) (n : Nat) : facL s T (n + 1) = facL s T n ++ [fac1 (bt s (n : Int)) (T (n : Int))] := by
  unfold facL
  rw [List.range_succ, List.map_append]
  rfl
theorem facL_len (s : ByteArray) (T : Int → Int) (n : Nat) : (facL s T n).length = n := by simp [facL]
theorem range_map_eq {α : Type} (L : List α) (n : Nat) (f : Nat → Int) (g : α → Int) (hn : n = L.length) (h : ∀ (i : Nat) (hi : i < L.length), f i = g L[i]) : (List.range n).map f = L.map g := by
  apply List.ext_getElem
  · simp [hn]
  · intro i h1 h2
    rw [List.getElem_map, List.getElem_map, List.getElem_range]
    exact h i (by simpa using h2)
def addL (t : Nat) (L : List Nat) : List Nat := L.map fun v => (v + t) % 4
theorem sm_add (t : Nat) (L : List Nat) : Sm (addL t L) := fun v hv => by
  obtain ⟨x, _, rfl⟩ := List.mem_map.1 hv
  exact Nat.mod_lt _ (by omega)
theorem facL_of (L : List Nat) (hL : Sm L) (t : Nat) (ht : t ≤ 3) : facL (facOf L) (fun _ => (t : Int)) (facOf L).size = (addL t L).map fun (v : Nat) => 48 + (v : Int) := by
  unfold facL addL
  rw [List.map_map]
  refine range_map_eq L _ _ _ (facOf_size L) (fun i hi => ?_)
  have hv := hL _ (List.getElem_mem hi)
  show fac1 (bt (facOf L) (i : Int)) (t : Int) = _
  rw [facOf_bt L hL i hi, fac1_eq _ _ (by omega) (by omega) (by omega) (by omega)]
  rfl
theorem facOf_inj {A B : List Nat} (hA : Sm A) (hB : Sm B) (h : facOf A = facOf B) : A = B := by
  have hl : A.length = B.length := by rw [← facOf_size A, ← facOf_size B, h]
  apply List.ext_getElem hl
  intro i h1 h2
  have e1 := facOf_bt A hA i h1
  have e2 := facOf_bt B hB i h2
  rw [h, e2] at e1
  omega
theorem dm_bt4 (t : Nat) (h : t < 4) : bt (⟨#[83, 82, 65, 76]⟩ : ByteArray) (t : Int) = sgn t := by
  have h' : t = 0 ∨ t = 1 ∨ t = 2 ∨ t = 3 := by omega
  rcases h' with rfl | rfl | rfl | rfl <;> decide +kernel
def ownL (L : List Nat) (dn : Nat → Nat) : List Nat := (List.range L.length).map fun i => (L.getD i 0 + dn i) % 4
def corL (n τ : Nat) (dn : Nat → Nat) : List Nat := (List.range n).map fun i => (4 + τ - dn i % 4) % 4
def wrL (τ : Nat) (dn : Nat → Nat) (n : Nat) : List Int := ((List.range n).filter fun i => decide (dn i % 4 ≠ τ)).map Int.ofNat
theorem ownL_len (L : List Nat) (dn : Nat → Nat) : (ownL L dn).length = L.length := by simp [ownL]
theorem corL_len (n τ : Nat) (dn : Nat → Nat) : (corL n τ dn).length = n := by simp [corL]
theorem sm_own (L : List Nat) (dn : Nat → Nat) : Sm (ownL L dn) := fun v hv => by
  obtain ⟨i, _, rfl⟩ := List.mem_map.1 hv
  exact Nat.mod_lt _ (by omega)
theorem sm_cor (n τ : Nat) (dn : Nat → Nat) : Sm (corL n τ dn) := fun v hv => by
  obtain ⟨i, _, rfl⟩ := List.mem_map.1 hv
  exact Nat.mod_lt _ (by omega)
theorem own_at (L : List Nat) (dn : Nat → Nat) (i : Nat) (h : i < L.length) (h' : i < (ownL L dn).length) : (ownL L dn)[i] = (L[i] + dn i) % 4 := by
  simp [ownL, List.getD, h]
theorem cor_at (n τ : Nat) (dn : Nat → Nat) (i : Nat) (h : i < (corL n τ dn).length) : (corL n τ dn)[i] = (4 + τ - dn i % 4) % 4 := by
  simp [corL]
theorem wrL_succ (τ : Nat) (dn : Nat → Nat) (n : Nat) : wrL τ dn (n + 1) = if dn n % 4 = τ then wrL τ dn n else wrL τ dn n ++ [(n : Int)] := by
  unfold wrL
  rw [List.range_succ, List.filter_append, List.map_append]
  by_cases c : dn n % 4 = τ
  · rw [if_pos c]
    simp [c]
  · rw [if_neg c]
    simp [c]
theorem wrL_len (τ : Nat) (dn : Nat → Nat) (n : Nat) : (wrL τ dn n).length ≤ n := by
  unfold wrL
  rw [List.length_map]
  have := List.length_filter_le (fun i => decide (dn i % 4 ≠ τ)) (List.range n)
  rw [List.length_range] at this
  exact this
theorem wrL_mem (τ : Nat) (dn : Nat → Nat) (n i : Nat) (h : i < n) : ((i : Int) ∈ wrL τ dn n) ↔ dn i % 4 ≠ τ := by
  unfold wrL
  rw [List.mem_map]
  constructor
  · rintro ⟨j, hj, e⟩
    have e' : j = i := Int.ofNat.inj e
    subst e'
    have := (List.mem_filter.1 hj).2
    simpa using this
  · intro hc
    exact ⟨i, List.mem_filter.2 ⟨by simpa using h, by simpa using hc⟩, rfl⟩
section
variable {s u : ByteArray} {L : List Nat} {l : List S34} {τ : Nat} {T : List Int} {dn : Nat → Nat}
theorem own_str (hL : IsF L s) (hT : ∀ i : Nat, i < s.size → T.getD i 0 = (dn i : Int) ∧ dn i ≤ 200) : strOfNums (dr_facL s (fun i => T.getD i.toNat 0) s.size) = facOf (ownL L dn) := by
  have hz : s.size = L.length := by rw [hL.1]; exact facOf_size L
  unfold facOf dr_facL
  congr 1
  refine range_map_eq (ownL L dn) _ _ _ (by rw [ownL_len, hz]) (fun i hi => ?_)
  have hi' : i < L.length := by rw [ownL_len] at hi; exact hi
  have hv := hL.2.1 _ (List.getElem_mem hi')
  obtain ⟨h1, h2⟩ := hT i (by omega)
  have hb := facOf_bt L hL.2.1 i hi'
  rw [← hL.1] at hb
  simp only [Int.toNat_natCast]
  rw [hb, h1, dr_fac1_eq _ _ (by omega) (by omega) (by omega) (by omega), own_at L dn i hi' hi]
  rfl
theorem due_str (hL : IsF L s) (hτ : τ < 4) : strOfNums (dr_facL s (fun _ => (τ : Int)) s.size) = facOf (L.map fun v => (v + τ) % 4) := by
  have hz : s.size = L.length := by rw [hL.1]; exact facOf_size L
  unfold facOf dr_facL
  rw [List.map_map]
  congr 1
  refine range_map_eq L _ _ _ hz (fun i hi => ?_)
  have hv := hL.2.1 _ (List.getElem_mem hi)
  have hb := facOf_bt L hL.2.1 i hi
  rw [← hL.1] at hb
  show dr_fac1 (bt s (i : Int)) (τ : Int) = _
  rw [hb, dr_fac1_eq _ _ (by omega) (by omega) (by omega) (by omega)]
  rfl
theorem cm_e1 (τ x : Nat) (hτ : τ < 4) : Int.tmod (wrap64 (wrap64 (4 + (τ : Int)) - (x : Int) % 4)) 4 = (((4 + τ - x % 4) % 4 : Nat) : Int) := by
  rw [w64 (x := 4 + (τ : Int)) (by omega) (by omega), w64 (by omega) (by omega), Int.tmod_eq_emod_of_nonneg (by omega)]
  omega
theorem cm_e2 (v τ x : Nat) (hv : v < 4) (hτ : τ < 4) : Int.tmod (wrap64 (wrap64 (wrap64 (48 + (((v + τ) % 4 : Nat) : Int)) + 4) - wrap64 (48 + (((v + x) % 4 : Nat) : Int)))) 4 = (((4 + τ - x % 4) % 4 : Nat) : Int) := by
  rw [w64 (x := 48 + (((v + τ) % 4 : Nat) : Int)) (by omega) (by omega), w64 (x := 48 + (((v + x) % 4 : Nat) : Int)) (by omega) (by omega), w64 (x := 48 + (((v + τ) % 4 : Nat) : Int) + 4) (by omega) (by omega), w64 (by omega) (by omega), Int.tmod_eq_emod_of_nonneg (by omega)]
  omega
theorem spec_fm_l0 (hL : IsF L s) (hT : ∀ i : Nat, i < s.size → T.getD i 0 = doneM u i l (τ : Int) ∧ T.getD i 0 = (dn i : Int) ∧ dn i ≤ 200) (d : Nat) : ∀ i : Nat, i + d = s.size →
    Ev (fun k => spec_FacingWithMistakes.l0 k s (strOfNums (((ownL L dn).take i).map fun (v : Nat) => 48 + (v : Int))) (doneL s.size u l (τ : Int)) (s.size : Int) i) (facOf (ownL L dn), true) := by
  have hz : s.size = L.length := by rw [hL.1]; exact facOf_size L
  have h30 := hL.2.2.2
  induction d with
  | zero =>
    intro i hi
    have e : (ownL L dn).take i = ownL L dn := List.take_of_length_le (by rw [ownL_len]; omega)
    rw [e]
    exact Ev.step (f := fun _ => some (facOf (ownL L dn), true)) (fun k => by rw [spec_FacingWithMistakes.l0, if_neg (by omega)]; rfl) (Ev.now _)
  | succ d ih =>
    intro i hi
    have hiL : i < L.length := by omega
    have hiO : i < (ownL L dn).length := by rw [ownL_len]; exact hiL
    obtain ⟨hTe, hT1, hT2⟩ := hT i (by omega)
    have hv := hL.2.1 _ (List.getElem_mem hiL)
    have hb := facOf_bt L hL.2.1 i hiL
    rw [← hL.1] at hb
    have hrec := ih (i + 1) (by omega)
    have hrd := doneL_at s.size u l (τ : Int) i (by omega)
    rw [← hTe, hT1] at hrd
    have ho := own_at L dn i hiL hiO
    have ht : ((ownL L dn).take (i + 1)).map (fun (v : Nat) => 48 + (v : Int)) = ((ownL L dn).take i).map (fun (v : Nat) => 48 + (v : Int)) ++ [48 + (((L[i] + dn i) % 4 : Nat) : Int)] := by
      rw [List.take_succ_eq_append_getElem hiO, List.map_append, ho]
      rfl
    rw [ht, strOfNums_append] at hrec
    have hlt : (((ownL L dn).take i).map fun (v : Nat) => 48 + (v : Int)).length ≤ 30 := by rw [List.length_map, List.length_take]; omega
    obtain ⟨out, hout⟩ : ∃ out, ((ownL L dn).take i).map (fun (v : Nat) => 48 + (v : Int)) = out := ⟨_, rfl⟩
    rw [hout] at hrec hlt ⊢
    have e1 : Int.tmod (wrap64 ((((bt s i) - 48) % 256) + (rd (doneL s.size u l (τ : Int)) (i : Int)))) 4 = (((L[i] + dn i) % 4 : Nat) : Int) := by
      have e : (bt s (i : Int) - 48) % 256 = (L[i] : Int) := by rw [hb]; omega
      rw [hrd, e, w64 (by omega) (by omega), Int.tmod_eq_emod_of_nonneg (by omega)]
      omega
    have p1 : (i : Int) < (s.size : Int) := by clear e1; omega
    have p2 : (0 : Int) ≤ (i : Int) := by clear e1; omega
    have p3 : (i : Int) < ((doneL s.size u l (τ : Int)).length : Int) := by rw [doneL_len]; clear e1; omega
    have p4 : (strOfNums out).size + (strOfNums [48 + (((L[i] + dn i) % 4 : Nat) : Int)]).size ≤ 9223372036854775807 := by
      rw [sv_len, sv_len]
      clear e1
      simp only [List.length_singleton]
      omega
    have hd := digit_small (((L[i] + dn i) % 4 : Nat) : Int) (by clear e1; omega) (by clear e1; omega)
    have w1 := wn1 i (by clear e1; omega)
    have es : ∀ k, spec_FacingWithMistakes.l0 (k + 1) s (strOfNums out) (doneL s.size u l (τ : Int)) (s.size : Int) i = (spec_l1Num.f k (((L[i] + dn i) % 4 : Nat) : Int)).bind fun t159 => (if (strOfNums out).size + t159.size ≤ 9223372036854775807 then (spec_FacingWithMistakes.l0 k s ((strOfNums out) ++ t159) (doneL s.size u l (τ : Int)) (s.size : Int) ((i + 1 : Nat) : Int)) else (none)) := by
      intro k
      rw [spec_FacingWithMistakes.l0, e1, if_pos p1, if_pos p2, if_pos p3, if_pos p1, w1]
    exact Ev.step es (Ev.bind hd (Ev.congr (fun k => if_pos p4) hrec))
theorem cor_l0 (hL : IsF L s) (hτ : τ < 4) (hT : ∀ i : Nat, i < s.size → T.getD i 0 = doneM u i l (τ : Int) ∧ T.getD i 0 = (dn i : Int) ∧ dn i ≤ 200) (hnet : Ev (fun k => spec_drNet.f k u) (τ : Int)) (d : Nat) : ∀ i : Nat, i + d = s.size →
    Ev (fun k => spec_CorrectionsOf.l0 k u (strOfNums (((corL L.length τ dn).take i).map sgn)) (doneL s.size u l (τ : Int)) (s.size : Int) i) (wordOf (corL L.length τ dn), true) ∧ Ev (fun k => impl_between.l0 k (facOf (ownL L dn)) (facOf (L.map fun v => (v + τ) % 4)) (((corL L.length τ dn).take i).map sgn) (s.size : Int) i) (wordOf (corL L.length τ dn)) := by
  have hz : s.size = L.length := by rw [hL.1]; exact facOf_size L
  have h30 := hL.2.2.2
  have hcl := corL_len L.length τ dn
  induction d with
  | zero =>
    intro i hi
    have e : (corL L.length τ dn).take i = corL L.length τ dn := List.take_of_length_le (by omega)
    rw [e]
    exact ⟨Ev.step (f := fun _ => some (wordOf (corL L.length τ dn), true)) (fun k => by rw [spec_CorrectionsOf.l0, if_neg (by omega)]; rfl) (Ev.now _), Ev.step (f := fun _ => some (wordOf (corL L.length τ dn))) (fun k => by rw [impl_between.l0, if_neg (by omega)]; rfl) (Ev.now _)⟩
  | succ d ih =>
    intro i hi
    have hiL : i < L.length := by omega
    have hiO : i < (ownL L dn).length := by rw [ownL_len]; exact hiL
    have hiC : i < (corL L.length τ dn).length := by rw [hcl]; exact hiL
    have hiD : i < (L.map fun v => (v + τ) % 4).length := by rw [List.length_map]; exact hiL
    obtain ⟨hTe, hT1, hT2⟩ := hT i (by omega)
    have hv := hL.2.1 _ (List.getElem_mem hiL)
    obtain ⟨a, b⟩ := ih (i + 1) (by omega)
    have hrd := doneL_at s.size u l (τ : Int) i (by omega)
    rw [← hTe, hT1] at hrd
    have hc := cor_at L.length τ dn i hiC
    have hq4 : (4 + τ - dn i % 4) % 4 < 4 := Nat.mod_lt _ (by omega)
    have hbo := facOf_bt (ownL L dn) (sm_own L dn) i hiO
    rw [own_at L dn i hiL hiO] at hbo
    have hbd := facOf_bt (L.map fun v => (v + τ) % 4) (fun v hv => by
      obtain ⟨x, _, rfl⟩ := List.mem_map.1 hv
      exact Nat.mod_lt _ (by omega)) i hiD
    rw [List.getElem_map] at hbd
    have hbt := dm_bt4 _ hq4
    have ht : ((corL L.length τ dn).take (i + 1)).map sgn = ((corL L.length τ dn).take i).map sgn ++ [sgn ((4 + τ - dn i % 4) % 4)] := by
      rw [List.take_succ_eq_append_getElem hiC, List.map_append, hc]
      rfl
    rw [ht] at a b
    have hlt : (((corL L.length τ dn).take i).map sgn).length ≤ 30 := by rw [List.length_map, List.length_take]; omega
    obtain ⟨out, hout⟩ : ∃ out, ((corL L.length τ dn).take i).map sgn = out := ⟨_, rfl⟩
    rw [hout] at a b hlt ⊢
    have zo : (facOf (ownL L dn)).size = L.length := by rw [facOf_size, ownL_len]
    have zd : (facOf (L.map fun v => (v + τ) % 4)).size = L.length := by rw [facOf_size, List.length_map]
    obtain ⟨q, hq⟩ : ∃ q, (4 + τ - dn i % 4) % 4 = q := ⟨_, rfl⟩
    have e1 := cm_e1 τ (dn i) hτ
    have e2 := cm_e2 L[i] τ (dn i) hv hτ
    rw [hq] at e1 e2
    rw [hq] at a b hbt hq4
    have p1 : (i : Int) < (s.size : Int) := by clear e1 e2; omega
    have p2 : (0 : Int) ≤ (i : Int) := by clear e1 e2; omega
    have p3 : (i : Int) < ((doneL s.size u l (τ : Int)).length : Int) := by rw [doneL_len]; clear e1 e2; omega
    have po : (i : Int) < ((facOf (ownL L dn)).size : Int) := by rw [zo]; clear e1 e2; omega
    have pd : (i : Int) < ((facOf (L.map fun v => (v + τ) % 4)).size : Int) := by rw [zd]; clear e1 e2; omega
    have p4 : (0 : Int) ≤ (q : Int) := by clear e1 e2; omega
    have p5 : (q : Int) < 4 := by clear e1 e2; omega
    have p6 : (strOfNums out).size + (strOfNums [sgn q]).size ≤ 9223372036854775807 := by
      rw [sv_len, sv_len]
      clear e1 e2
      simp only [List.length_singleton]
      omega
    have p7 : out.length < 140737488355328 := by clear e1 e2; omega
    have hsg := drSign_eq (q : Int) p4 (by clear e1 e2; omega)
    rw [hbt] at hsg
    have w1 := wn1 i (by clear e1 e2; omega)
    have es : ∀ k, spec_CorrectionsOf.l0 (k + 1) u (strOfNums out) (doneL s.size u l (τ : Int)) (s.size : Int) i = (spec_drNet.f k u).bind fun t152 => ((spec_drSign.f (Int.tmod (wrap64 ((wrap64 (4 + t152)) - (rd (doneL s.size u l (τ : Int)) (i : Int)))) 4)).bind fun t153 => (if (strOfNums out).size + t153.size ≤ 9223372036854775807 then (spec_CorrectionsOf.l0 k u ((strOfNums out) ++ t153) (doneL s.size u l (τ : Int)) (s.size : Int) (wrap64 ((i : Int) + 1))) else (none))) := by
      intro k
      rw [spec_CorrectionsOf.l0, if_pos p1, if_pos p2, if_pos p3]
    refine ⟨Ev.step es (Ev.bind hnet (Ev.congr (fun k => ?_) a)), Ev.step (fun k => ?_) b⟩
    · rw [hrd, e1, hsg, Option.bind_some, if_pos p6, ← strOfNums_append, w1]
    · rw [impl_between.l0, hbo, hbd, e2, if_pos p1, if_pos p2, if_pos pd, if_pos po, if_pos p4, if_pos p5, if_pos p7, hbt, w1]
theorem wr_l0 (hL : IsF L s) (hτ : τ < 4) (hT : ∀ i : Nat, i < s.size → T.getD i 0 = doneM u i l (τ : Int) ∧ T.getD i 0 = (dn i : Int) ∧ dn i ≤ 200) (hnet : Ev (fun k => spec_drNet.f k u) (τ : Int)) (d : Nat) : ∀ i : Nat, i + d = s.size →
    Ev (fun k => spec_WrongSoldiers.l0 k u (wrL τ dn i) (doneL s.size u l (τ : Int)) (s.size : Int) i) (wrL τ dn s.size, true) ∧ Ev (fun k => impl_WrongSoldiers.l0 k (facOf (L.map fun v => (v + τ) % 4)) (facOf (ownL L dn)) (wrL τ dn i) (s.size : Int) i) (wrL τ dn s.size, true) := by
  have hz : s.size = L.length := by rw [hL.1]; exact facOf_size L
  have h30 := hL.2.2.2
  induction d with
  | zero =>
    intro i hi
    obtain rfl : i = s.size := by omega
    exact ⟨Ev.step (f := fun _ => some (wrL τ dn s.size, true)) (fun k => by rw [spec_WrongSoldiers.l0, if_neg (by omega)]) (Ev.now _), Ev.step (f := fun _ => some (wrL τ dn s.size, true)) (fun k => by rw [impl_WrongSoldiers.l0, if_neg (by omega)]) (Ev.now _)⟩
  | succ d ih =>
    intro i hi
    have hiL : i < L.length := by omega
    have hiO : i < (ownL L dn).length := by rw [ownL_len]; exact hiL
    have hiD : i < (L.map fun v => (v + τ) % 4).length := by rw [List.length_map]; exact hiL
    obtain ⟨hTe, hT1, hT2⟩ := hT i (by omega)
    have hv := hL.2.1 _ (List.getElem_mem hiL)
    obtain ⟨a, b⟩ := ih (i + 1) (by omega)
    rw [wrL_succ] at a b
    have hwl := wrL_len τ dn i
    obtain ⟨out, hout⟩ : ∃ out, wrL τ dn i = out := ⟨_, rfl⟩
    rw [hout] at a b hwl ⊢
    have hrd := doneL_at s.size u l (τ : Int) i (by omega)
    rw [← hTe, hT1] at hrd
    have hbo := facOf_bt (ownL L dn) (sm_own L dn) i hiO
    rw [own_at L dn i hiL hiO] at hbo
    have hbd := facOf_bt (L.map fun v => (v + τ) % 4) (fun v hv => by
      obtain ⟨x, _, rfl⟩ := List.mem_map.1 hv
      exact Nat.mod_lt _ (by omega)) i hiD
    rw [List.getElem_map] at hbd
    have zo : (facOf (ownL L dn)).size = L.length := by rw [facOf_size, ownL_len]
    have zd : (facOf (L.map fun v => (v + τ) % 4)).size = L.length := by rw [facOf_size, List.length_map]
    have p1 : (i : Int) < (s.size : Int) := by omega
    have p2 : (0 : Int) ≤ (i : Int) := by omega
    have p3 : (i : Int) < ((doneL s.size u l (τ : Int)).length : Int) := by rw [doneL_len]; omega
    have po : (i : Int) < ((facOf (ownL L dn)).size : Int) := by rw [zo]; omega
    have pd : (i : Int) < ((facOf (L.map fun v => (v + τ) % 4)).size : Int) := by rw [zd]; omega
    have pl : out.length < 17592186044416 := by omega
    have w1 := wn1 i (by omega)
    have es : ∀ k, spec_WrongSoldiers.l0 (k + 1) u out (doneL s.size u l (τ : Int)) (s.size : Int) i = (spec_drNet.f k u).bind fun t152 => (if ((dn i : Nat) : Int) % 4 = t152 then (spec_WrongSoldiers.l0 k u out (doneL s.size u l (τ : Int)) (s.size : Int) ((i + 1 : Nat) : Int)) else (if out.length < 17592186044416 then (spec_WrongSoldiers.l0 k u (out ++ [(i : Int)]) (doneL s.size u l (τ : Int)) (s.size : Int) ((i + 1 : Nat) : Int)) else (none))) := by
      intro k
      rw [spec_WrongSoldiers.l0, if_pos p1, if_pos p2, if_pos p3, hrd, w1]
    by_cases c : dn i % 4 = τ
    · rw [if_pos c] at a b
      have c1 : ((dn i : Nat) : Int) % 4 = (τ : Int) := by clear w1; omega
      have c2 : (48 : Int) + (((L[i] + τ) % 4 : Nat) : Int) = 48 + (((L[i] + dn i) % 4 : Nat) : Int) := by clear w1; omega
      refine ⟨Ev.step es (Ev.bind hnet (Ev.congr (fun k => if_pos c1) a)), Ev.step (fun k => ?_) b⟩
      rw [impl_WrongSoldiers.l0, if_pos p1, if_pos p2, if_pos pd, if_pos po, hbo, hbd, if_pos c2, w1]
    · rw [if_neg c] at a b
      have c1 : ¬ (((dn i : Nat) : Int) % 4 = (τ : Int)) := by clear w1; omega
      have c2 : ¬ ((48 : Int) + (((L[i] + τ) % 4 : Nat) : Int) = 48 + (((L[i] + dn i) % 4 : Nat) : Int)) := by clear w1; omega
      refine ⟨Ev.step es (Ev.bind hnet (Ev.congr (fun k => (if_neg c1).trans (if_pos pl)) a)), Ev.step (fun k => ?_) b⟩
      rw [impl_WrongSoldiers.l0, if_pos p1, if_pos p2, if_pos pd, if_pos po, hbo, hbd, if_neg c2, if_pos pl, w1]
end
theorem rd_nat (L : List Int) (j : Nat) : rd L (j : Int) = L.getD j 0 := by simp [rd]
theorem gs_self (T : List Int) (a : Nat) (v : Int) (h : a < T.length) : (T.set a v).getD a 0 = v := by simp [List.getD, h]
theorem gs_ne (T : List Int) (a i : Nat) (v : Int) (h : ¬ a = i) : (T.set a v).getD i 0 = T.getD i 0 := by simp [List.getD, h]
def wMn (x : Int) : Int := if x < 1000000000000001 then x else 1000000000000001
theorem mn_wMn (x : Int) : mn x 1000000000000001 = wMn x := by
  unfold mn wMn
  by_cases h : x < 1000000000000001
  · rw [if_pos h, if_neg (by omega)]
  · rw [if_neg h]
    by_cases h2 : (1000000000000001 : Int) < x
    · rw [if_pos h2]
    · rw [if_neg h2]; omega
theorem least_wMn (x : Int) : spec_l1Least.f x 1000000000000001 = some (wMn x) := by
  unfold spec_l1Least.f wMn
  split <;> rfl
def wIdx (t : Int) (a b : Nat) : Nat := (a / 4 + (if (b : Int) = t then 0 else 1)) * 4 + (a + b) % 4
def wPut (t n : Int) (a : Nat) (G : Nat → Int) (b : Nat) : Nat → Int := fun k => if k = wIdx t a b then wMn (G k + n) else G k
def wBs (t n : Int) (a : Nat) (G : Nat → Int) : Nat → (Nat → Int)
  | 0 => G
  | b + 1 => wPut t n a (wBs t n a G b) b
def wAs (t : Int) (now : Nat → Int) : Nat → (Nat → Int)
  | 0 => fun _ => 0
  | a + 1 => wBs t (now a) a (wAs t now a) 4
def wAll (s : ByteArray) : Nat → (Nat → Int)
  | 0 => fun k => if k = 0 then 1 else 0
  | i + 1 => wAs (turnV (bt s (i : Int))) (wAll s i) ((i + 1) * 4)
def Bd (G : Nat → Int) : Prop := ∀ k, 0 ≤ G k ∧ G k ≤ 1000000000000001
theorem wMn_bd (x : Int) (h : 0 ≤ x) : 0 ≤ wMn x ∧ wMn x ≤ 1000000000000001 := by
  unfold wMn
  split <;> omega
theorem wPut_bd (t n : Int) (a : Nat) (G : Nat → Int) (b : Nat) (hG : Bd G) (hn : 0 ≤ n) : Bd (wPut t n a G b) := by
  intro k
  have h := hG k
  unfold wPut
  split
  · exact wMn_bd _ (by omega)
  · exact h
theorem wBs_bd (t n : Int) (a : Nat) (G : Nat → Int) (hG : Bd G) (hn : 0 ≤ n) (b : Nat) : Bd (wBs t n a G b) := by
  induction b with
  | zero => exact hG
  | succ b ih => exact wPut_bd t n a _ b ih hn
theorem wAs_bd (t : Int) (now : Nat → Int) (hn : Bd now) (a : Nat) : Bd (wAs t now a) := by
  induction a with
  | zero => intro k; exact ⟨Int.le_refl _, by show (0 : Int) ≤ _; omega⟩
  | succ a ih => exact wBs_bd t _ a _ ih (hn a).1 4
theorem wAll_bd (s : ByteArray) (i : Nat) : Bd (wAll s i) := by
  induction i with
  | zero =>
    intro k
    show 0 ≤ (if k = 0 then (1 : Int) else 0) ∧ (if k = 0 then (1 : Int) else 0) ≤ 1000000000000001
    split <;> omega
  | succ i ih => exact wAs_bd _ _ ih _
theorem wIdx_lt (t : Int) (a b : Nat) : wIdx t a b < (a / 4 + 2) * 4 := by
  unfold wIdx
  split <;> omega
theorem wBs_sup (t n : Int) (a : Nat) (G : Nat → Int) (c : Nat) (hc : (a / 4 + 2) * 4 ≤ c) (hG : ∀ k, c ≤ k → G k = 0) (b : Nat) : ∀ k, c ≤ k → wBs t n a G b k = 0 := by
  induction b with
  | zero => exact hG
  | succ b ih =>
    intro k hk
    have := wIdx_lt t a b
    show (if k = wIdx t a b then _ else _) = _
    rw [if_neg (by omega)]
    exact ih k hk
theorem wAs_sup (t : Int) (now : Nat → Int) (i : Nat) (a : Nat) (ha : a ≤ (i + 1) * 4) : ∀ k, (i + 2) * 4 ≤ k → wAs t now a k = 0 := by
  induction a with
  | zero => intro k _; rfl
  | succ a ih => exact wBs_sup t _ a _ ((i + 2) * 4) (by omega) (ih (by omega)) 4
theorem wAll_sup (s : ByteArray) (i : Nat) : ∀ k, (i + 1) * 4 ≤ k → wAll s i k = 0 := by
  cases i with
  | zero => intro k hk; show (if k = 0 then (1 : Int) else 0) = 0; rw [if_neg (by omega)]
  | succ i => exact wAs_sup _ _ i _ (Nat.le_refl _)
theorem wBs_zero (t : Int) (a : Nat) (G : Nat → Int) (hG : Bd G) (b : Nat) : wBs t 0 a G b = G := by
  induction b with
  | zero => rfl
  | succ b ih =>
    rw [wBs, ih]
    funext k
    unfold wPut
    split
    · have := hG k
      unfold wMn
      split <;> omega
    · rfl
theorem wAs_stay (t : Int) (now : Nat → Int) (hb : Bd now) (c : Nat) (hc : ∀ k, c ≤ k → now k = 0) (d : Nat) : wAs t now (c + d) = wAs t now c := by
  induction d with
  | zero => rfl
  | succ d ih =>
    show wBs t (now (c + d)) (c + d) (wAs t now (c + d)) 4 = _
    rw [hc (c + d) (by omega), wBs_zero t _ _ (wAs_bd t now hb _), ih]
/-- A list and a function say the same numbers. -/
def Rel (N : Nat) (L : List Int) (G : Nat → Int) : Prop := L.length = N ∧ ∀ k, L.getD k 0 = G k
theorem Rel_set {N : Nat} {L : List Int} {G : Nat → Int} (h : Rel N L G) (t n : Int) (a b : Nat) (hi : wIdx t a b < N) : Rel N (L.set (wIdx t a b) (wMn (L.getD (wIdx t a b) 0 + n))) (wPut t n a G b) := by
  refine ⟨by rw [List.length_set]; exact h.1, fun k => ?_⟩
  have hl := h.1
  unfold wPut
  by_cases c : k = wIdx t a b
  · subst c
    rw [if_pos rfl, ← h.2, gs_self _ _ _ (by omega)]
  · rw [if_neg c, ← h.2, gs_ne _ _ _ _ (fun e => c e.symm)]
theorem wfB_rel (t : Int) (m h : Nat) (hm : m < 60) (hh : h < 4) (n : Int) (hn : 0 ≤ n) (hn2 : n ≤ 1000000000000001) (X : List Int) (G : Nat → Int) (hX : Rel 244 X G) (hG : Bd G) (b : Nat) : Rel 244 (wfB t m h n X b) (wBs t n (m * 4 + h) G b) := by
  induction b with
  | zero => exact hX
  | succ b ih =>
    have e : wfMore t m b * 4 + (h + b) % 4 = wIdx t (m * 4 + h) b := by
      unfold wfMore wIdx
      split <;> omega
    have hlt : wIdx t (m * 4 + h) b < 244 := by
      have := wIdx_lt t (m * 4 + h) b
      omega
    have hbd := wBs_bd t n (m * 4 + h) G hG hn b (wIdx t (m * 4 + h) b)
    have hr := Rel_set ih t n (m * 4 + h) b hlt
    show Rel 244 (wfPut t m h n (wfB t m h n X b) b) _
    unfold wfPut
    rw [e, w64 (by rw [ih.2]; omega) (by rw [ih.2]; omega), mn_wMn]
    exact hr
theorem wfH_rel (t : Int) (m : Nat) (hm : m < 60) (now X : List Int) (F G : Nat → Int) (hnow : Rel 244 now F) (hF : Bd F) (hX : Rel 244 X (wAs t F (m * 4))) (h : Nat) (hh : h ≤ 4) : Rel 244 (wfH t m now X h) (wAs t F (m * 4 + h)) := by
  induction h with
  | zero => exact hX
  | succ h ih =>
    show Rel 244 (wfB t m h (now.getD (m * 4 + h) 0) (wfH t m now X h) 4) (wBs t (F (m * 4 + h)) (m * 4 + h) (wAs t F (m * 4 + h)) 4)
    rw [hnow.2]
    exact wfB_rel t m h hm (by omega) _ (hF _).1 (hF _).2 _ _ (ih (by omega)) (wAs_bd t F hF _) 4
theorem wfM_rel (t : Int) (now : List Int) (F : Nat → Int) (hnow : Rel 244 now F) (hF : Bd F) (m : Nat) (hm : m ≤ 60) : Rel 244 (wfM t now wfZs m) (wAs t F (m * 4)) := by
  induction m with
  | zero =>
    refine ⟨List.length_replicate, fun k => ?_⟩
    show (List.replicate 244 (0 : Int)).getD k 0 = 0
    rw [List.getD_eq_getElem?_getD, List.getElem?_replicate]
    split <;> rfl
  | succ m ih =>
    have e : (m + 1) * 4 = m * 4 + 4 := by omega
    rw [e]
    exact wfH_rel t m (by omega) now _ F (wAs t F (m * 4)) hnow hF (ih (by omega)) 4 (Nat.le_refl _)
theorem wfAll_rel (s : ByteArray) (hw : wordB s = true) (i : Nat) (hi : i ≤ s.size) : Rel 244 (wfAll s i) (wAll s i) := by
  have hz := wordB_size hw
  induction i with
  | zero =>
    refine ⟨(List.length_set).trans List.length_replicate, fun k => ?_⟩
    show ((List.replicate 244 (0 : Int)).set 0 1).getD k 0 = if k = 0 then 1 else 0
    by_cases c : k = 0
    · subst c; rfl
    · rw [if_neg c, gs_ne _ _ _ _ (fun e => c e.symm), List.getD_eq_getElem?_getD, List.getElem?_replicate]
      split <;> rfl
  | succ i ih =>
    show Rel 244 (wfM (tnV (bt s (i : Int))) (wfAll s i) wfZs (i + 1)) (wAs (turnV (bt s (i : Int))) (wAll s i) ((i + 1) * 4))
    rw [tnV_eq (wordB_at hw i (by omega))]
    exact wfM_rel _ _ _ (ih (by omega)) (wAll_bd s i) (i + 1) (by omega)
theorem sp_ed (a : Nat) (h : a ≤ 1000) : wrap64 (Int.tdiv (a : Int) 4) = ((a / 4 : Nat) : Int) := by
  rw [Int.tdiv_eq_ediv_of_nonneg (by omega), w64 (by omega) (by omega)]
  rfl
theorem sp_em (a b : Nat) (h : a ≤ 1000) (hb : b ≤ 4) : Int.tmod (wrap64 ((a : Int) + (b : Int))) 4 = (((a + b) % 4 : Nat) : Int) := by
  rw [w64 (by omega) (by omega)]
  rfl
theorem sp_eb (b : Nat) (hb : b ≤ 4) : wrap64 ((b : Int) + 1) = ((b + 1 : Nat) : Int) := by
  rw [w64 (by omega) (by omega)]
  rfl
theorem sp_ei1 (t : Int) (a b : Nat) (c : (b : Int) = t) (h : a ≤ 1000) : wrap64 (wrap64 (4 * ((a / 4 : Nat) : Int)) + (((a + b) % 4 : Nat) : Int)) = ((wIdx t a b : Nat) : Int) := by
  have e : wIdx t a b = (a / 4) * 4 + (a + b) % 4 := by unfold wIdx; rw [if_pos c, Nat.add_zero]
  rw [e, w64 (x := 4 * ((a / 4 : Nat) : Int)) (by omega) (by omega), w64 (by omega) (by omega)]
  omega
theorem sp_ei2 (t : Int) (a b : Nat) (c : ¬ (b : Int) = t) (h : a ≤ 1000) : wrap64 (wrap64 (4 * wrap64 (((a / 4 : Nat) : Int) + 1)) + (((a + b) % 4 : Nat) : Int)) = ((wIdx t a b : Nat) : Int) := by
  have e : wIdx t a b = (a / 4 + 1) * 4 + (a + b) % 4 := by unfold wIdx; rw [if_neg c]
  rw [e, w64 (x := ((a / 4 : Nat) : Int) + 1) (by omega) (by omega), w64 (x := 4 * (((a / 4 : Nat) : Int) + 1)) (by omega) (by omega), w64 (by omega) (by omega)]
  omega
theorem sp_ew (L : List Int) (j : Nat) (n : Int) (h0 : 0 ≤ L.getD j 0) (h1 : L.getD j 0 ≤ 1000000000000001) (hn : 0 < n) (hn2 : n ≤ 1000000000000001) : wrap64 (rd L (j : Int) + n) = L.getD j 0 + n := by
  rw [rd_nat, w64 (by omega) (by omega)]
section
variable (s : ByteArray) (x1 x2 : Int) (N : Nat) (hN : N ≤ 1000) (i : Nat) (hi : i < s.size) (t : Int) (ht : turnV (bt s (i : Int)) = t)
include hN hi ht
theorem spec_l2 (nowL : List Int) (a : Nat) (ha : a < N) (n : Int) (hn : 0 < n) (hn2 : n ≤ 1000000000000001) (G : Nat → Int) (hG : Bd G) (hlt : ∀ b, wIdx t a b < N) (R : Int × Bool) (hR : ∀ L', Rel N L' (wBs t n a G 4) → Ev (fun k => spec_WaysToFace.l1 k s x1 x2 i L' nowL (N : Int) ((a + 1 : Nat) : Int)) R) (d : Nat) :
    ∀ (b : Nat) (L : List Int), b + d = 4 → Rel N L (wBs t n a G b) → Ev (fun k => spec_WaysToFace.l2 k s x1 x2 i L a n b nowL (N : Int) a) R := by
  have ea : wrap64 ((a : Int) + 1) = ((a + 1 : Nat) : Int) := by rw [w64 (by omega) (by omega)]; rfl
  have EA : Option.some (wrap64 ((a : Int) + 1)) = some ((a + 1 : Nat) : Int) := congrArg some ea
  clear ea
  induction d with
  | zero =>
    intro b L hb hL
    obtain rfl : b = 4 := by omega
    refine Ev.step (f := fun k => spec_WaysToFace.j4 k s x1 x2 i L a n 4 nowL (N : Int) a false) (fun k => ?_) (Ev.step (fun k => ?_) (hR L hL))
    · rw [spec_WaysToFace.l2, if_neg (by omega)]
      rfl
    · rw [spec_WaysToFace.j4, if_neg (by decide), Option.some.inj EA]
  | succ d ih =>
    intro b L hb hL
    have hbd := wBs_bd t n a G hG (by omega) b (wIdx t a b)
    have hx := hlt b
    have hset := Rel_set hL t n a b hx
    have hrec := ih (b + 1) _ (by omega) hset
    refine Ev.step (f := fun k => spec_WaysToFace.j4 k s x1 x2 i L a n b nowL (N : Int) a true) (fun k => ?_) (Ev.step (fun k => ?_) hrec)
    · rw [spec_WaysToFace.l2, if_pos (by omega), decide_eq_true (by omega)]
    · have hlen := hL.1
      have hb0 : 0 ≤ L.getD (wIdx t a b) 0 ∧ L.getD (wIdx t a b) 0 ≤ 1000000000000001 := by rw [hL.2]; exact hbd
      have ha1 : a ≤ 1000 := by omega
      have hb1 : b ≤ 4 := by omega
      have q1 : (0 : Int) ≤ (i : Int) := by omega
      have q2 : (i : Int) < (s.size : Int) := by omega
      have q3 : (0 : Int) ≤ ((wIdx t a b : Nat) : Int) := by omega
      have q4 : ((wIdx t a b : Nat) : Int) < (L.length : Int) := by omega
      rw [spec_WaysToFace.j4, if_pos rfl, if_pos q1, if_pos q2, drTurn_eq, ht, Option.bind_some, sp_ed a ha1, sp_em a b ha1 hb1, sp_eb b hb1]
      by_cases c : (b : Int) = t
      · rw [if_pos c, sp_ei1 t a b c ha1, sp_ew L _ n hb0.1 hb0.2 hn hn2, if_pos q3, if_pos q4, least_wMn, Option.bind_some, Int.toNat_natCast]
      · rw [if_neg c, sp_ei2 t a b c ha1, sp_ew L _ n hb0.1 hb0.2 hn hn2, if_pos q3, if_pos q4, least_wMn, Option.bind_some, Int.toNat_natCast]
theorem spec_l1 (nowL : List Int) (F : Nat → Int) (hnow : Rel N nowL F) (hF : Bd F) (hsup : ∀ k, (i + 1) * 4 ≤ k → F k = 0) (hNi : (i + 2) * 4 ≤ N) (R : Int × Bool) (d : Nat) :
    ∀ (a : Nat) (L : List Int), a + d = N → Rel N L (wAs t F a) → (∀ L', Rel N L' (wAs t F N) → Ev (fun k => spec_WaysToFace.l0 k s x1 x2 L' ((i + 1 : Nat) : Int)) R) → Ev (fun k => spec_WaysToFace.l1 k s x1 x2 i L nowL (N : Int) a) R := by
  have ei : wrap64 ((i : Int) + 1) = ((i + 1 : Nat) : Int) := by
    have : s.size ≤ s.size := Nat.le_refl _
    rw [w64 (by omega) (by omega)]
    rfl
  have EI : Option.some (wrap64 ((i : Int) + 1)) = some ((i + 1 : Nat) : Int) := congrArg some ei
  clear ei
  induction d with
  | zero =>
    intro a L ha hL hR
    obtain rfl : a = N := by omega
    refine Ev.step (fun k => ?_) (hR L hL)
    rw [spec_WaysToFace.l1, if_neg (by omega), Option.some.inj EI]
  | succ d ih =>
    intro a L ha hL hR
    have hlt : a < N := by omega
    have hr : rd nowL (a : Int) = F a := by rw [← hnow.2, rd_nat]
    have hb := hF a
    have hnl := hnow.1
    have es : ∀ k, spec_WaysToFace.l1 (k + 1) s x1 x2 i L nowL (N : Int) a = spec_WaysToFace.l2 k s x1 x2 i L a (F a) ((0 : Nat) : Int) nowL (N : Int) a := by
      intro k
      rw [spec_WaysToFace.l1, if_pos (by omega), if_pos (by omega), if_pos (by rw [hnl]; omega), hr]
      rfl
    refine Ev.step es ?_
    by_cases c : 0 < F a
    · have hai : a < (i + 1) * 4 := by
        by_cases h : a < (i + 1) * 4
        · exact h
        · have := hsup a (by omega)
          omega
      refine spec_l2 s x1 x2 N hN i hi t ht nowL a hlt (F a) c hb.2 (wAs t F a) (wAs_bd t F hF a) (fun b => ?_) R (fun L' hL' => ih (a + 1) L' (by omega) hL' hR) 4 0 L (by omega) hL
      have := wIdx_lt t a b
      omega
    · have h0 : F a = 0 := by omega
      have hsame : wAs t F (a + 1) = wAs t F a := by
        show wBs t (F a) a (wAs t F a) 4 = _
        rw [h0, wBs_zero t a _ (wAs_bd t F hF a)]
      have hrec := ih (a + 1) L (by omega) (by rw [hsame]; exact hL) hR
      have ea : Option.some (wrap64 ((a : Int) + 1)) = some ((a + 1 : Nat) : Int) := by rw [w64 (by omega) (by omega)]; rfl
      rw [h0]
      refine Ev.step (f := fun k => spec_WaysToFace.j4 k s x1 x2 i L a 0 ((0 : Nat) : Int) nowL (N : Int) a false) (fun k => ?_) (Ev.step (fun k => ?_) hrec)
      · rw [spec_WaysToFace.l2, if_pos (by omega)]
        rfl
      · rw [spec_WaysToFace.j4, if_neg (by decide), Option.some.inj ea]
end
theorem zeros_rel (N : Nat) (G : Nat → Int) (hG : ∀ k, G k = 0) : Rel N (List.replicate N 0) G := ⟨List.length_replicate, fun k => by
  rw [hG, List.getD_eq_getElem?_getD, List.getElem?_replicate]
  split <;> rfl⟩
def wRes (s : ByteArray) (p q : Nat) : Int × Bool := if wAll s s.size (p * 4 + q) > 1000000000000000 then (0, false) else (wAll s s.size (p * 4 + q), true)
theorem spec_l0 (s : ByteArray) (hw : wordB s = true) (p q : Nat) (hp : p ≤ 60) (hq : q ≤ 3) (N : Nat) (hN : N = (s.size + 2) * 4) (d : Nat) : ∀ (i : Nat) (L : List Int), i + d = s.size → Rel N L (wAll s i) → Ev (fun k => spec_WaysToFace.l0 k s p q L i) (wRes s p q) := by
  have hz := wordB_size hw
  induction d with
  | zero =>
    intro i L hi hL
    obtain rfl : i = s.size := by omega
    have hlen := hL.1
    refine Ev.step (f := fun _ => some (wRes s p q)) (fun k => ?_) (Ev.now _)
    rw [spec_WaysToFace.l0, if_neg (by omega)]
    by_cases c : (p : Int) > (s.size : Int)
    · rw [if_pos c]
      unfold wRes
      rw [wAll_sup s s.size _ (by omega)]
      rfl
    · have ei : wrap64 (wrap64 (4 * (p : Int)) + (q : Int)) = ((p * 4 + q : Nat) : Int) := by
        rw [w64 (x := 4 * (p : Int)) (by omega) (by omega), w64 (by omega) (by omega)]
        omega
      have hr : rd L ((p * 4 + q : Nat) : Int) = wAll s s.size (p * 4 + q) := by rw [← hL.2, rd_nat]
      rw [if_neg c, ei, if_pos (by omega), if_pos (by rw [hlen]; omega), hr]
      unfold wRes
      split <;> rfl
  | succ d ih =>
    intro i L hi hL
    have hlen := hL.1
    have hil : i < s.size := by omega
    have es : ∀ k, spec_WaysToFace.l0 (k + 1) s p q L i = spec_WaysToFace.l1 k s p q i (List.replicate N 0) L (N : Int) ((0 : Nat) : Int) := by
      intro k
      rw [spec_WaysToFace.l0, if_pos (by omega), if_pos (by omega), hlen, Int.toNat_natCast, if_pos (by omega)]
      rfl
    refine Ev.step es (spec_l1 s p q N (by omega) i hil _ rfl L (wAll s i) hL (wAll_bd s i) (wAll_sup s i) (by omega) _ N 0 _ (by omega) (zeros_rel N _ (fun _ => rfl)) (fun L' hL' => ih (i + 1) L' (by omega) ?_))
    have hstay := wAs_stay (turnV (bt s (i : Int))) (wAll s i) (wAll_bd s i) ((i + 1) * 4) (wAll_sup s i) (N - (i + 1) * 4)
    rw [show (i + 1) * 4 + (N - (i + 1) * 4) = N by omega] at hstay
    rw [hstay] at hL'
    exact hL'
/-- A weighed sum of a table. -/
def lin (f : Nat → Int) (G : Nat → Int) : Nat → Int
  | 0 => 0
  | k + 1 => lin f G k + f k * G k
def one1 : Nat → Int := fun _ => 1
theorem lin_congr (f : Nat → Int) (G H : Nat → Int) (K : Nat) (h : ∀ k, k < K → G k = H k) : lin f G K = lin f H K := by
  induction K with
  | zero => rfl
  | succ K ih => rw [lin, lin, ih (fun k hk => h k (by omega)), h K (by omega)]
theorem lin_congr_f (f g : Nat → Int) (G : Nat → Int) (K : Nat) (h : ∀ k, k < K → f k = g k) : lin f G K = lin g G K := by
  induction K with
  | zero => rfl
  | succ K ih => rw [lin, lin, ih (fun k hk => h k (by omega)), h K (by omega)]
theorem lin_upd (f : Nat → Int) (G : Nat → Int) (x : Nat) (n : Int) (K : Nat) (hx : x < K) : lin f (fun k => if k = x then G k + n else G k) K = lin f G K + f x * n := by
  induction K with
  | zero => omega
  | succ K ih =>
    rw [lin, lin]
    by_cases c : x = K
    · subst c
      rw [if_pos rfl, lin_congr f (fun k => if k = x then G k + n else G k) G x (fun k hk => if_neg (by omega)), Int.mul_add]
      omega
    · rw [ih (by omega), if_neg (by omega)]
      omega
theorem lin_stay (f : Nat → Int) (G : Nat → Int) (c : Nat) (h : ∀ k, c ≤ k → G k = 0) (d : Nat) : lin f G (c + d) = lin f G c := by
  induction d with
  | zero => rfl
  | succ d ih =>
    show lin f G (c + d) + f (c + d) * G (c + d) = _
    rw [h (c + d) (by omega), ih, Int.mul_zero, Int.add_zero]
theorem lin_one_le (G : Nat → Int) (hG : Bd G) (K : Nat) : 0 ≤ lin one1 G K ∧ ∀ k, k < K → G k ≤ lin one1 G K := by
  induction K with
  | zero => exact ⟨Int.le_refl _, fun k hk => by omega⟩
  | succ K ih =>
    have h := (hG K).1
    rw [lin]
    show 0 ≤ _ + 1 * G K ∧ ∀ k, k < K + 1 → G k ≤ _ + 1 * G K
    rw [Int.one_mul]
    refine ⟨by omega, fun k hk => ?_⟩
    by_cases c : k = K
    · subst c; omega
    · have := ih.2 k (by omega); omega
theorem lin_one_mono (G : Nat → Int) (hG : Bd G) (a d : Nat) : lin one1 G a ≤ lin one1 G (a + d) := by
  induction d with
  | zero => exact Int.le_refl _
  | succ d ih =>
    have h := (hG (a + d)).1
    show _ ≤ lin one1 G (a + d) + 1 * G (a + d)
    omega
theorem lin_put (f : Nat → Int) (t n : Int) (a : Nat) (G : Nat → Int) (b K : Nat) (hG : Bd G) (hx : wIdx t a b < K) (hn : 0 ≤ n) (hs : lin one1 G K + n ≤ 1000000000000000) : lin f (wPut t n a G b) K = lin f G K + f (wIdx t a b) * n := by
  rw [← lin_upd f G _ n K hx]
  apply lin_congr
  intro k hk
  unfold wPut
  by_cases c : k = wIdx t a b
  · rw [if_pos c, if_pos c]
    have := (lin_one_le G hG K).2 k hk
    unfold wMn
    rw [if_pos (by omega)]
  · rw [if_neg c, if_neg c]
/-- A weight as it is one command before. -/
def bk4 (f : Nat → Int) (t : Int) (a : Nat) : Int := f (wIdx t a 0) + f (wIdx t a 1) + f (wIdx t a 2) + f (wIdx t a 3)
theorem lin_Bs (f : Nat → Int) (t n : Int) (a : Nat) (G : Nat → Int) (K : Nat) (hG : Bd G) (hx : ∀ b, wIdx t a b < K) (hn : 0 ≤ n) (hs : lin one1 G K + 4 * n ≤ 1000000000000000) : lin f (wBs t n a G 4) K = lin f G K + bk4 f t a * n ∧ lin one1 (wBs t n a G 4) K = lin one1 G K + 4 * n := by
  have step : ∀ (f : Nat → Int) (b : Nat), b < 4 → lin one1 (wBs t n a G b) K + n ≤ 1000000000000000 → lin f (wBs t n a G (b + 1)) K = lin f (wBs t n a G b) K + f (wIdx t a b) * n := fun f b _ h =>
    lin_put f t n a _ b K (wBs_bd t n a G hG hn b) (hx b) hn h
  have o : ∀ k, one1 k = 1 := fun _ => rfl
  have m0 : lin one1 (wBs t n a G 0) K = lin one1 G K := rfl
  have m1 := step one1 0 (by omega) (by rw [m0]; omega)
  rw [o, Int.one_mul, m0] at m1
  have m2 := step one1 1 (by omega) (by rw [m1]; omega)
  rw [o, Int.one_mul, m1] at m2
  have m3 := step one1 2 (by omega) (by rw [m2]; omega)
  rw [o, Int.one_mul, m2] at m3
  have m4 := step one1 3 (by omega) (by rw [m3]; omega)
  rw [o, Int.one_mul, m3] at m4
  have f0 : lin f (wBs t n a G 0) K = lin f G K := rfl
  have f1 := step f 0 (by omega) (by rw [m0]; omega)
  have f2 := step f 1 (by omega) (by rw [m1]; omega)
  have f3 := step f 2 (by omega) (by rw [m2]; omega)
  have f4 := step f 3 (by omega) (by rw [m3]; omega)
  refine ⟨?_, by rw [m4]; omega⟩
  unfold bk4
  rw [f4, f3, f2, f1, f0, Int.add_mul, Int.add_mul, Int.add_mul]
  omega
theorem lin_As (f : Nat → Int) (t : Int) (now : Nat → Int) (K : Nat) (hb : Bd now) (A : Nat) (hx : ∀ a b, a < A → wIdx t a b < K) (hs : 4 * lin one1 now A ≤ 1000000000000000) : lin f (wAs t now A) K = lin (bk4 f t) now A ∧ lin one1 (wAs t now A) K = 4 * lin one1 now A := by
  have hz : ∀ (g : Nat → Int) (K : Nat), lin g (fun _ => 0) K = 0 := by
    intro g K
    induction K with
    | zero => rfl
    | succ K ih => rw [lin, ih]; simp
  induction A with
  | zero => exact ⟨hz f K, hz one1 K⟩
  | succ A ih =>
    have e : lin one1 now (A + 1) = lin one1 now A + now A := by rw [lin]; show _ + 1 * now A = _; omega
    have hA := (hb A).1
    rw [e] at hs ⊢
    obtain ⟨i1, i2⟩ := ih (fun a b h => hx a b (by omega)) (by omega)
    obtain ⟨j1, j2⟩ := lin_Bs f t (now A) A (wAs t now A) K (wAs_bd t now hb A) (fun b => hx A b (by omega)) hA (by rw [i2]; omega)
    refine ⟨?_, ?_⟩
    · show lin f (wBs t (now A) A (wAs t now A) 4) K = _
      rw [j1, i1]
      rfl
    · show lin one1 (wBs t (now A) A (wAs t now A) 4) K = _
      rw [j2, i2]
      omega
theorem pow_le12 (i : Nat) (h : i ≤ 12) : 4 ^ i ≤ 16777216 := by
  have := Nat.pow_le_pow_right (show 0 < 4 by omega) h
  have e : (4 : Nat) ^ 12 = 16777216 := by decide
  omega
/-- One more command: the weights as they are one before. -/
theorem lin_all (s : ByteArray) (K : Nat) (i : Nat) (hi : i ≤ 12) (hK : (i + 1) * 4 ≤ K) : lin one1 (wAll s i) K = ((4 ^ i : Nat) : Int) ∧ (∀ f, i < 12 → (i + 2) * 4 ≤ K → lin f (wAll s (i + 1)) K = lin (bk4 f (turnV (bt s (i : Int)))) (wAll s i) K) := by
  have two : ∀ (i : Nat), i < 12 → (i + 2) * 4 ≤ K → lin one1 (wAll s i) K = ((4 ^ i : Nat) : Int) → (∀ f, lin f (wAll s (i + 1)) K = lin (bk4 f (turnV (bt s (i : Int)))) (wAll s i) K) ∧ lin one1 (wAll s (i + 1)) K = ((4 ^ (i + 1) : Nat) : Int) := by
    intro i h12 hK2 h1
    have hp := pow_le12 i (by omega)
    have st : ∀ f, lin f (wAll s i) K = lin f (wAll s i) ((i + 1) * 4) := fun f => by
      have := lin_stay f (wAll s i) ((i + 1) * 4) (wAll_sup s i) (K - (i + 1) * 4)
      rw [show (i + 1) * 4 + (K - (i + 1) * 4) = K by omega] at this
      exact this
    have hA := fun f => lin_As f (turnV (bt s (i : Int))) (wAll s i) K (wAll_bd s i) ((i + 1) * 4) (fun a b ha => by
      have := wIdx_lt (turnV (bt s (i : Int))) a b
      omega) (by rw [← st, h1]; omega)
    refine ⟨fun f => ?_, ?_⟩
    · rw [st]
      exact (hA f).1
    · have := (hA one1).2
      rw [← st, h1] at this
      refine Eq.trans this ?_
      rw [Nat.pow_succ]
      omega
  have one : ∀ i : Nat, i ≤ 12 → (i + 1) * 4 ≤ K → lin one1 (wAll s i) K = ((4 ^ i : Nat) : Int) := by
    intro i
    induction i with
    | zero =>
      intro _ hK
      have := lin_stay one1 (wAll s 0) ((0 + 1) * 4) (wAll_sup s 0) (K - 4)
      rw [show (0 + 1) * 4 + (K - 4) = K by omega] at this
      rw [this]
      rfl
    | succ i ih =>
      intro h12 hK
      exact (two i (by omega) (by omega) (ih (by omega) (by omega))).2
  exact ⟨one i hi hK, fun f h12 hK2 => (two i h12 hK2 (one i hi hK)).1 f⟩
/-! ### sums of ways -/
theorem lin_add (f g : Nat → Int) (c : Int) (G : Nat → Int) (K : Nat) : lin (fun k => f k + c * g k) G K = lin f G K + c * lin g G K := by
  induction K with
  | zero => simp [lin]
  | succ K ih =>
    rw [lin, lin, lin, ih, Int.add_mul, Int.mul_add, Int.mul_assoc]
    omega
def blk (p : Nat) : Nat → Int := fun k => if k / 4 = p then 1 else 0
def pt4 (q : Nat) : Nat → Int := fun k => if k = q then 1 else 0
theorem lin_pt (q : Nat) (G : Nat → Int) (K : Nat) : lin (pt4 q) G K = if q < K then G q else 0 := by
  induction K with
  | zero => rfl
  | succ K ih =>
    rw [lin, ih]
    unfold pt4
    by_cases c : K = q
    · subst c
      rw [if_neg (by omega), if_pos rfl, if_pos (by omega)]
      omega
    · rw [if_neg c]
      by_cases d : q < K
      · rw [if_pos d, if_pos (by omega)]; omega
      · rw [if_neg d, if_neg (by omega)]; omega
theorem lin_blk (p : Nat) (G : Nat → Int) (K : Nat) (h : p * 4 + 4 ≤ K) : lin (blk p) G K = G (p * 4) + G (p * 4 + 1) + G (p * 4 + 2) + G (p * 4 + 3) := by
  have e : ∀ k, k < K → blk p k = ((pt4 (p * 4) k + 1 * pt4 (p * 4 + 1) k) + 1 * pt4 (p * 4 + 2) k) + 1 * pt4 (p * 4 + 3) k := by
    intro k _
    unfold blk pt4
    by_cases c0 : k = p * 4
    · rw [if_pos (by omega), if_pos c0, if_neg (by omega), if_neg (by omega), if_neg (by omega)]; rfl
    · by_cases c1 : k = p * 4 + 1
      · rw [if_pos (by omega), if_neg c0, if_pos c1, if_neg (by omega), if_neg (by omega)]; rfl
      · by_cases c2 : k = p * 4 + 2
        · rw [if_pos (by omega), if_neg c0, if_neg c1, if_pos c2, if_neg (by omega)]; rfl
        · by_cases c3 : k = p * 4 + 3
          · rw [if_pos (by omega), if_neg c0, if_neg c1, if_neg c2, if_pos c3]; rfl
          · rw [if_neg (by omega), if_neg c0, if_neg c1, if_neg c2, if_neg c3]; rfl
  rw [lin_congr_f _ _ G K e, lin_add, lin_add, lin_add, lin_pt, lin_pt, lin_pt, lin_pt, if_pos (by omega), if_pos (by omega), if_pos (by omega), if_pos (by omega)]
  omega
theorem bk4_blk0 (t : Nat) (ht : t < 4) (a : Nat) : bk4 (blk 0) (t : Int) a = blk 0 a := by
  have h' : t = 0 ∨ t = 1 ∨ t = 2 ∨ t = 3 := by omega
  unfold bk4 blk wIdx
  by_cases c : a / 4 = 0
  · rcases h' with rfl | rfl | rfl | rfl <;> simp <;> split <;> (repeat' split) <;> omega
  · rcases h' with rfl | rfl | rfl | rfl <;> simp <;> (repeat' split) <;> omega
theorem bk4_blk (p t : Nat) (ht : t < 4) (a : Nat) : bk4 (blk (p + 1)) (t : Int) a = blk (p + 1) a + 3 * blk p a := by
  have h' : t = 0 ∨ t = 1 ∨ t = 2 ∨ t = 3 := by omega
  unfold bk4 blk wIdx
  rcases h' with rfl | rfl | rfl | rfl <;> simp <;> (repeat' split) <;> omega
theorem bk4_pt (q t : Nat) (hq : q < 4) (ht : t < 4) (a : Nat) : bk4 (pt4 q) (t : Int) a = pt4 ((q + 4 - t) % 4) a := by
  have h' : t = 0 ∨ t = 1 ∨ t = 2 ∨ t = 3 := by omega
  unfold bk4 pt4 wIdx
  rcases h' with rfl | rfl | rfl | rfl <;> simp <;> (repeat' split) <;> omega
def binT (n k : Nat) : Nat := ([[1], [1, 1], [1, 2, 1], [1, 3, 3, 1], [1, 4, 6, 4, 1], [1, 5, 10, 10, 5, 1], [1, 6, 15, 20, 15, 6, 1], [1, 7, 21, 35, 35, 21, 7, 1], [1, 8, 28, 56, 70, 56, 28, 8, 1], [1, 9, 36, 84, 126, 126, 84, 36, 9, 1], [1, 10, 45, 120, 210, 252, 210, 120, 45, 10, 1], [1, 11, 55, 165, 330, 462, 462, 330, 165, 55, 11, 1], [1, 12, 66, 220, 495, 792, 924, 792, 495, 220, 66, 12, 1]].getD n []).getD k 0
theorem binT_pas : ∀ n, n < 12 → ∀ k, k < 61 → binT (n + 1) (k + 1) = binT n k + binT n (k + 1) := by decide +kernel
theorem binT_zero : ∀ n, n < 13 → binT n 0 = 1 := by decide +kernel
theorem binT_le : ∀ n, n < 13 → ∀ k, k < 62 → binT n k ≤ 924 := by decide +kernel
theorem binT_out : ∀ n, n < 13 → ∀ k, k < 62 → n < k → binT n k = 0 := by decide +kernel
theorem binT_step : ∀ n, n < 13 → ∀ i, i < 60 → wrap64 (Int.tdiv (wrap64 ((binT n i : Int) * wrap64 (wrap64 ((n : Int) - ((i + 1 : Nat) : Int)) + 1))) ((i + 1 : Nat) : Int)) = (binT n (i + 1) : Int) := by decide +kernel
section
variable {s : ByteArray} {M : List Nat}
theorem turn_at (h : IsW M s) (i : Nat) (hi : i < M.length) : turnV (bt s (i : Int)) = ((M[i] : Nat) : Int) := by
  rw [h.1, wordOf_bt M i hi, turnV_sgn _ (h.2.1 _ (List.getElem_mem hi))]
theorem wrow (h : IsW M s) (h12 : M.length ≤ 12) (i : Nat) : i ≤ M.length → ∀ p, p ≤ 60 → lin (blk p) (wAll s i) 248 = ((binT i p * 3 ^ p : Nat) : Int) := by
  induction i with
  | zero =>
    intro _ p hp
    rw [lin_blk p _ 248 (by omega)]
    show (if p * 4 = 0 then (1 : Int) else 0) + (if p * 4 + 1 = 0 then (1 : Int) else 0) + (if p * 4 + 2 = 0 then (1 : Int) else 0) + (if p * 4 + 3 = 0 then (1 : Int) else 0) = _
    by_cases c : p = 0
    · subst c; rfl
    · have hb := binT_out 0 (by omega) p (by omega) (by omega)
      rw [if_neg (by omega), if_neg (by omega), if_neg (by omega), if_neg (by omega), hb, Nat.zero_mul]
      rfl
  | succ i ih =>
    intro hi p hp
    have hil : i < M.length := by omega
    have hm := h.2.1 _ (List.getElem_mem hil)
    have ht := turn_at h i hil
    have hstep := (lin_all s 248 i (by omega) (by omega)).2 (blk p) (by omega) (by omega)
    rw [ht] at hstep
    rw [hstep]
    cases p with
    | zero =>
      rw [lin_congr_f _ _ _ _ (fun k _ => bk4_blk0 _ hm k), ih (by omega) 0 (by omega), binT_zero i (by omega), binT_zero (i + 1) (by omega)]
    | succ p =>
      rw [lin_congr_f _ _ _ _ (fun k _ => bk4_blk p _ hm k), lin_add, ih (by omega) (p + 1) hp, ih (by omega) p (by omega), binT_pas i (by omega) p (by omega), Nat.pow_succ]
      generalize binT i p = x
      generalize binT i (p + 1) = y
      generalize 3 ^ p = z
      rw [Nat.add_mul, ← Nat.mul_assoc, ← Nat.mul_assoc]
      omega
theorem wpt (h : IsW M s) (h12 : M.length ≤ 12) (i : Nat) : i ≤ M.length → ∀ q, q < 4 → lin (pt4 q) (wAll s i) 248 = if (M.take i).sum % 4 = q then 1 else 0 := by
  induction i with
  | zero =>
    intro _ q hq
    rw [lin_pt, if_pos (by omega)]
    show (if q = 0 then (1 : Int) else 0) = _
    by_cases c : q = 0
    · subst c; rfl
    · rw [if_neg c, if_neg (by simp; omega)]
  | succ i ih =>
    intro hi q hq
    have hil : i < M.length := by omega
    have hm := h.2.1 _ (List.getElem_mem hil)
    have ht := turn_at h i hil
    have hstep := (lin_all s 248 i (by omega) (by omega)).2 (pt4 q) (by omega) (by omega)
    have hs : (M.take (i + 1)).sum = (M.take i).sum + M[i] := by rw [List.take_succ_eq_append_getElem hil, List.sum_append]; simp
    rw [ht] at hstep
    rw [hstep, lin_congr_f _ _ _ _ (fun k _ => bk4_pt q _ hq hm k), ih (by omega) _ (Nat.mod_lt _ (by omega)), hs]
    generalize (M.take i).sum = x
    generalize M[i] = y at hm ⊢
    by_cases c : x % 4 = (q + 4 - y) % 4
    · rw [if_pos c, if_pos (by omega)]
    · rw [if_neg c, if_neg (by omega)]
theorem ways_sum (h : IsW M s) (h12 : M.length ≤ 12) (p : Nat) (hp : p ≤ 60) : wAll s s.size (p * 4) + wAll s s.size (p * 4 + 1) + wAll s s.size (p * 4 + 2) + wAll s s.size (p * 4 + 3) = ((binT M.length p * 3 ^ p : Nat) : Int) := by
  have hz : s.size = M.length := by rw [h.1, wordOf_size]
  rw [hz, ← wrow h h12 M.length (Nat.le_refl _) p hp, lin_blk p _ 248 (by omega)]
theorem ways_none (h : IsW M s) (h12 : M.length ≤ 12) (q : Nat) (hq : q < 4) : wAll s s.size q = if M.sum % 4 = q then 1 else 0 := by
  have hz : s.size = M.length := by rw [h.1, wordOf_size]
  have := wpt h h12 M.length (Nat.le_refl _) q hq
  rw [lin_pt, if_pos (by omega), List.take_of_length_le (Nat.le_refl _)] at this
  rw [hz]
  exact this
theorem ways_le (h : IsW M s) (h12 : M.length ≤ 12) (k : Nat) (hk : k < 248) : 0 ≤ wAll s s.size k ∧ wAll s s.size k ≤ 16777216 := by
  have hz : s.size = M.length := by rw [h.1, wordOf_size]
  have h1 := (lin_all s 248 s.size (by omega) (by omega)).1
  have h2 := (lin_one_le (wAll s s.size) (wAll_bd s s.size) 248).2 k hk
  have h3 := pow_le12 s.size (by omega)
  have h4 := (wAll_bd s s.size k).1
  omega
end
theorem ww_v (s : ByteArray) (x1 x2 : Int) (hs : s.size ≤ 140737488351232) : ∃ r, Ev (fun k => spec_WaysToFace.f k s x1 x2) r ∧ Ev (fun k => impl_WaysToFace.f k s x1 x2) r ∧ (r = (0, false) ∧ ¬ (wordB s = true ∧ 0 ≤ x1 ∧ x1 ≤ 60 ∧ 0 ≤ x2 ∧ x2 ≤ 3) ∨ wordB s = true ∧ ∃ p q : Nat, x1 = p ∧ x2 = q ∧ p ≤ 60 ∧ q ≤ 3 ∧ r = wRes s p q) := by
  have h1 := spec_word s hs
  have no : Ev (fun k => spec_WaysToFace.j0 k s x1 x2 true) (0, false) := Ev.step (f := fun _ => some (0, false)) (fun k => by rw [spec_WaysToFace.j0, if_pos rfl]) (Ev.now _)
  unfold spec_WaysToFace.f impl_WaysToFace.f impl_isWay.f
  simp only [impl_word s hs, l1In_eq, in_eq, Option.bind_some]
  cases hw : wordB s with
  | false =>
    rw [hw] at h1
    exact ⟨(0, false), Ev.bind h1 (Ev.congr (fun k => if_neg (by decide)) no), Ev.congr (fun k => if_neg (by decide)) (Ev.now _), Or.inl ⟨rfl, fun h => by cases h.1⟩⟩
  | true =>
    rw [hw] at h1
    have hz := wordB_size hw
    cases ha : (decide (0 ≤ x1) && decide (x1 ≤ 60)) with
    | false => exact ⟨(0, false), Ev.bind h1 (Ev.congr (fun k => (if_pos rfl).trans (if_neg (by decide))) no), Ev.congr (fun k => (if_pos rfl).trans (if_neg (by decide))) (Ev.now _), Or.inl ⟨rfl, fun h => by simp at ha; omega⟩⟩
    | true =>
      cases hb : (decide (0 ≤ x2) && decide (x2 ≤ 3)) with
      | false => exact ⟨(0, false), Ev.bind h1 (Ev.congr (fun k => (if_pos rfl).trans (if_pos rfl)) no), Ev.congr (fun k => (if_pos rfl).trans ((if_pos rfl).trans (if_neg (by decide)))) (Ev.now _), Or.inl ⟨rfl, fun h => by simp at hb; omega⟩⟩
      | true =>
        simp only [Bool.and_eq_true, decide_eq_true_eq] at ha hb
        obtain ⟨p, rfl⟩ : ∃ p : Nat, x1 = p := ⟨x1.toNat, by omega⟩
        obtain ⟨q, rfl⟩ : ∃ q : Nat, x2 = q := ⟨x2.toNat, by omega⟩
        refine ⟨wRes s p q, Ev.bind h1 (Ev.congr (fun k => (if_pos rfl).trans (if_pos rfl)) ?_), Ev.congr (fun k => (if_pos rfl).trans ((if_pos rfl).trans ((if_pos rfl).trans (if_pos ⟨hz, ha.1, ha.2, hb.1, hb.2⟩)))) ?_, Or.inr ⟨rfl, p, q, rfl, rfl, by omega, by omega, rfl⟩⟩
        · have hrel : Rel ((s.size + 2) * 4) ((List.replicate ((s.size + 2) * 4) (0 : Int)).set 0 1) (wAll s 0) := by
            refine ⟨(List.length_set).trans List.length_replicate, fun k => ?_⟩
            show _ = if k = 0 then (1 : Int) else 0
            by_cases c : k = 0
            · subst c; rw [if_pos rfl, gs_self _ _ _ (by rw [List.length_replicate]; omega)]
            · rw [if_neg c, gs_ne _ _ _ _ (fun e => c e.symm), List.getD_eq_getElem?_getD, List.getElem?_replicate]
              split <;> rfl
          have := spec_l0 s hw p q (by omega) (by omega) _ rfl s.size 0 _ (by omega) hrel
          have ew : wrap64 (4 * wrap64 ((s.size : Int) + 2)) = (((s.size + 2) * 4 : Nat) : Int) := by
            rw [w64 (x := (s.size : Int) + 2) (by omega) (by omega), w64 (by omega) (by omega)]
            omega
          have EW : Option.some (wrap64 (4 * wrap64 ((s.size : Int) + 2))) = some (((s.size + 2) * 4 : Nat) : Int) := congrArg some ew
          clear ew
          refine Ev.step (fun k => ?_) this
          rw [Bool.not_true, spec_WaysToFace.j0, if_neg (by decide), Option.some.inj EW, Int.toNat_natCast, if_pos (by omega), if_pos (by omega), Option.bind_some, if_pos (by rw [List.length_replicate]; omega)]
          rfl
        · have hrel := wfAll_rel s hw s.size (Nat.le_refl _)
          simp only [Int.toNat_natCast]
          rw [hrel.2]
          unfold wRes
          by_cases c : wAll s s.size (p * 4 + q) > 1000000000000000
          · rw [if_pos c, if_pos c]
            exact Ev.now _
          · rw [if_neg c, if_neg c]
            exact Ev.now _
theorem ntm_v (s : ByteArray) (M : List Nat) (hM : IsW M s) : Ev (fun k => impl_NetTurn.f k s) (((M.sum % 4 : Nat) : Int), true) := by
  unfold impl_NetTurn.f
  have hw := hM.good
  have hsz := wordB_size hw
  obtain ⟨_, n2⟩ := net_vals M hM.2.1 hM.2.2
  rw [← hM.1] at n2
  simp only [impl_word s (by omega), hw, Option.bind_some, if_true]
  exact Ev.bind n2 (Ev.now _)
section
variable {s : ByteArray} {M : List Nat} {q : Nat}
theorem dm_j10 (hM : IsW M s) (h12 : M.length ≤ 12) (p : Nat) (hp : p ≤ 60) (hq : q ≤ 3) (x : Int) : Ev (fun k => laws_FnDrillsMistaken.j9 k s (p : Int) (q : Int) (wAll s s.size (p * 4 + q)) x x) true := by
  by_cases c : p = 0
  · subst c
    have hn := ntm_v s M hM
    have hv := ways_none hM h12 q (by omega)
    have hz : 0 * 4 + q = q := by omega
    rw [hz, hv]
    have e : (((if M.sum % 4 = q then (1 : Int) else 0) == 1) != (((M.sum % 4 : Nat) : Int) == (q : Int))) = false := by
      by_cases d : M.sum % 4 = q
      · rw [if_pos d, d]; simp
      · rw [if_neg d]
        have : (((M.sum % 4 : Nat) : Int) == (q : Int)) = false := by simp; omega
        rw [this]
        decide
    have e2 : ¬ ((if M.sum % 4 = q then (1 : Int) else 0) > 1) := by split <;> omega
    refine Ev.step (f := fun k => (impl_NetTurn.f k s).bind fun bt268 => (if bt268.2 = true then (if (((if M.sum % 4 = q then (1 : Int) else 0) == 1) != (bt268.1 == (q : Int))) = true then (some false) else (if (if M.sum % 4 = q then (1 : Int) else 0) > 1 then (some false) else (some true))) else (some false))) (fun k => by rw [laws_FnDrillsMistaken.j9, if_pos rfl]; rfl) (Ev.bind hn (Ev.congr (fun k => ?_) (Ev.now _)))
    rw [if_pos rfl, if_neg (by rw [e]; decide), if_neg e2]
  · exact Ev.step (f := fun _ => some true) (fun k => by rw [laws_FnDrillsMistaken.j9, if_pos rfl, if_neg (by omega)]) (Ev.now _)
theorem vj_le (n p j : Nat) (hn : n ≤ 12) (hp : p ≤ 60) (hj : j ≤ p) : binT n p * 3 ^ j ≤ 1000000000 := by
  by_cases c : n < p
  · rw [binT_out n (by omega) p (by omega) c]; omega
  · have h1 := binT_le n (by omega) p (by omega)
    have h2 := Nat.pow_le_pow_right (show 0 < 3 by omega) (show j ≤ 12 by omega)
    have e : (3 : Nat) ^ 12 = 531441 := by decide
    have := Nat.mul_le_mul h1 (show 3 ^ j ≤ 531441 by omega)
    omega
theorem dm_l3 (hM : IsW M s) (h12 : M.length ≤ 12) (p : Nat) (hp : p ≤ 60) (hq : q ≤ 3) (d : Nat) : ∀ j : Nat, j + d = p → Ev (fun k => laws_FnDrillsMistaken.l3 k s (p : Int) (q : Int) (wAll s s.size (p * 4 + q)) ((binT M.length p * 3 ^ p : Nat) : Int) ((binT M.length p * 3 ^ j : Nat) : Int) (j : Int)) true := by
  have hz : s.size = M.length := by rw [hM.1, wordOf_size]
  induction d with
  | zero =>
    intro j hj
    obtain rfl : j = p := by omega
    by_cases c : (j : Int) > (s.size : Int)
    · have hb := binT_out M.length (by omega) j (by omega) (by omega)
      have h10 := dm_j10 hM h12 j hp hq 0
      refine Ev.step (fun k => ?_) h10
      rw [laws_FnDrillsMistaken.l3, if_neg (by omega), if_pos c, hb, Nat.zero_mul]
      rfl
    · have h10 := dm_j10 hM h12 j hp hq ((binT M.length j * 3 ^ j : Nat) : Int)
      exact Ev.step (fun k => by rw [laws_FnDrillsMistaken.l3, if_neg (by omega), if_neg c]) h10
  | succ d ih =>
    intro j hj
    have h := ih (j + 1) (by omega)
    have hle := vj_le M.length p j h12 hp (by omega)
    have e1 : wrap64 (((binT M.length p * 3 ^ j : Nat) : Int) * 3) = ((binT M.length p * 3 ^ (j + 1) : Nat) : Int) := by
      rw [Nat.pow_succ, ← Nat.mul_assoc]
      generalize binT M.length p * 3 ^ j = y at hle ⊢
      clear h ih
      rw [w64 (by omega) (by omega)]
      omega
    have e2 := wn1 j (by clear e1; omega)
    have p1 : (j : Int) < (p : Int) := by clear e1 e2; omega
    exact Ev.step (fun k => by rw [laws_FnDrillsMistaken.l3, if_pos p1, e1, e2]) h
theorem dm_l2 (hM : IsW M s) (h12 : M.length ≤ 12) (p : Nat) (hp : p ≤ 60) (hq : q ≤ 3) (d : Nat) : ∀ i : Nat, i + d = p → Ev (fun k => laws_FnDrillsMistaken.l2 k s (p : Int) (q : Int) (wAll s s.size (p * 4 + q)) ((binT M.length p * 3 ^ p : Nat) : Int) ((binT M.length i : Nat) : Int) ((i + 1 : Nat) : Int)) true := by
  have hz : s.size = M.length := by rw [hM.1, wordOf_size]
  induction d with
  | zero =>
    intro i hi
    obtain rfl : i = p := by omega
    have h3 := dm_l3 hM h12 i hp hq i 0 (by omega)
    rw [Nat.pow_zero, Nat.mul_one] at h3
    exact Ev.step (fun k => by rw [laws_FnDrillsMistaken.l2, if_neg (by omega)]; rfl) h3
  | succ d ih =>
    intro i hi
    have h := ih (i + 1) (by omega)
    have e1 := binT_step M.length (by omega) i (by omega)
    rw [← hz] at e1
    have e2 := wn1 (i + 1) (by clear e1; omega)
    have p1 : ((i + 1 : Nat) : Int) ≤ (p : Int) := by clear e1 e2; omega
    have p2 : ¬ (((i + 1 : Nat) : Int) = 0) := by clear e1 e2; omega
    rw [hz] at e1
    rw [← hz] at e1 h ⊢
    exact Ev.step (fun k => by rw [laws_FnDrillsMistaken.l2, if_pos p1, if_neg p2, e1, e2]) h
theorem wres_ok (hM : IsW M s) (h12 : M.length ≤ 12) (p q : Nat) (hp : p ≤ 60) (hq : q ≤ 3) : wRes s p q = (wAll s s.size (p * 4 + q), true) ∧ 0 ≤ wAll s s.size (p * 4 + q) ∧ wAll s s.size (p * 4 + q) ≤ 16777216 := by
  have h := ways_le hM h12 (p * 4 + q) (by omega)
  unfold wRes
  rw [if_neg (by omega)]
  exact ⟨rfl, h⟩
theorem dm_l1 (hM : IsW M s) (h12 : M.length ≤ 12) (p : Nat) (hp : p ≤ 60) (hq : q ≤ 3) : Ev (fun k => laws_FnDrillsMistaken.l1 k s (p : Int) (q : Int) (wAll s s.size (p * 4 + q)) 0 0) true := by
  have hsz := wordB_size hM.good
  have step : ∀ (w : Nat) (x : Int), w < 4 → 0 ≤ x → x ≤ 100000000 → Ev (fun k => laws_FnDrillsMistaken.l1 k s (p : Int) (q : Int) (wAll s s.size (p * 4 + q)) (x + wAll s s.size (p * 4 + w)) ((w + 1 : Nat) : Int)) true → Ev (fun k => laws_FnDrillsMistaken.l1 k s (p : Int) (q : Int) (wAll s s.size (p * 4 + q)) x (w : Int)) true := by
    intro w x hw hx0 hx1 h
    obtain ⟨r, _, e1, e2⟩ := ww_v s (p : Int) (w : Int) (by omega)
    obtain ⟨o1, o2, o3⟩ := wres_ok hM h12 p w hp (by omega)
    have hr : r = (wAll s s.size (p * 4 + w), true) := by
      rcases e2 with ⟨_, e2⟩ | ⟨_, p', q', e3, e4, _, _, e5⟩
      · exact absurd ⟨hM.good, by omega, by omega, by omega, by omega⟩ e2
      · obtain rfl : p = p' := by omega
        obtain rfl : w = q' := by omega
        rw [e5, o1]
    rw [hr] at e1
    have q1 : wrap64 (x + wAll s s.size (p * 4 + w)) = x + wAll s s.size (p * 4 + w) := by
      clear h e1 e2
      exact w64 (by omega) (by omega)
    have q2 := wn1 w (by clear q1; omega)
    have p1 : (w : Int) < 4 := by clear q1 q2; omega
    have p2 : ¬ (wAll s s.size (p * 4 + w) < 0) := by clear q1 q2; omega
    refine Ev.step (f := fun k => (impl_WaysToFace.f k s (p : Int) (w : Int)).bind fun bt266 => (if bt266.2 = true then (if bt266.1 < 0 then (some false) else (laws_FnDrillsMistaken.l1 k s (p : Int) (q : Int) (wAll s s.size (p * 4 + q)) (wrap64 (x + bt266.1)) (wrap64 ((w : Int) + 1)))) else (some false))) (fun k => by rw [laws_FnDrillsMistaken.l1, if_pos p1]) (Ev.bind e1 (Ev.congr (fun k => (if_pos rfl).trans (if_neg p2)) ?_))
    rw [q1, q2]
    exact h
  have hs := ways_sum hM h12 p hp
  have h0 := ways_le hM h12 (p * 4 + 0) (by omega)
  have h1 := ways_le hM h12 (p * 4 + 1) (by omega)
  have h2 := ways_le hM h12 (p * 4 + 2) (by omega)
  have h3 := dm_l2 hM h12 p hp hq p 0 (by omega)
  rw [binT_zero M.length (by omega)] at h3
  have last : Ev (fun k => laws_FnDrillsMistaken.l1 k s (p : Int) (q : Int) (wAll s s.size (p * 4 + q)) (0 + wAll s s.size (p * 4 + 0) + wAll s s.size (p * 4 + 1) + wAll s s.size (p * 4 + 2) + wAll s s.size (p * 4 + 3)) ((3 + 1 : Nat) : Int)) true := by
    have e : 0 + wAll s s.size (p * 4 + 0) + wAll s s.size (p * 4 + 1) + wAll s s.size (p * 4 + 2) + wAll s s.size (p * 4 + 3) = ((binT M.length p * 3 ^ p : Nat) : Int) := by rw [← hs]; simp
    rw [e]
    exact Ev.step (fun k => by rw [laws_FnDrillsMistaken.l1, if_neg (by decide)]; rfl) h3
  exact step 0 0 (by omega) (by omega) (by omega) (step 1 _ (by omega) (by omega) (by omega) (step 2 _ (by omega) (by omega) (by omega) (step 3 _ (by omega) (by omega) (by omega) last)))
end
theorem dm_j5 (s : ByteArray) (x1 x2 : Int) (hs : s.size ≤ 140737488351232) (r : Int × Bool) (hr : r = (0, false) ∧ ¬ (wordB s = true ∧ 0 ≤ x1 ∧ x1 ≤ 60 ∧ 0 ≤ x2 ∧ x2 ≤ 3) ∨ wordB s = true ∧ ∃ p q : Nat, x1 = p ∧ x2 = q ∧ p ≤ 60 ∧ q ≤ 3 ∧ r = wRes s p q) : Ev (fun k => laws_FnDrillsMistaken.j4 k s x1 x2 r.1 r.2 false) true := by
  have no : Ev (fun k => laws_FnDrillsMistaken.j5 k s x1 x2 r.1 false) true := Ev.step (f := fun _ => some true) (fun k => by rw [laws_FnDrillsMistaken.j5, if_neg (by decide)]) (Ev.now _)
  cases hb : r.2 with
  | false => exact Ev.step (fun k => by rw [laws_FnDrillsMistaken.j4, if_neg (by decide), if_neg (by decide)]) no
  | true =>
    refine Ev.step (f := fun k => laws_FnDrillsMistaken.j5 k s x1 x2 r.1 (decide ((s.size : Int) ≤ 12))) (fun k => by rw [laws_FnDrillsMistaken.j4, if_neg (by decide), if_pos rfl]) ?_
    rcases hr with ⟨rfl, _⟩ | ⟨hw, p, q, rfl, rfl, hp, hq, hr⟩
    · cases hb
    · cases hd : decide ((s.size : Int) ≤ 12) with
      | false => exact no
      | true =>
        obtain ⟨M, hM⟩ := isw_of hw
        have hz : s.size = M.length := by rw [hM.1, wordOf_size]
        have h12 : M.length ≤ 12 := by have := of_decide_eq_true hd; omega
        obtain ⟨o1, _, _⟩ := wres_ok hM h12 p q hp hq
        have h1 := dm_l1 hM h12 p hp hq
        rw [hr, o1]
        exact Ev.step (fun k => by rw [laws_FnDrillsMistaken.j5, if_pos rfl]) h1
theorem sv_extract (l : List Int) (i : Nat) (h : i < l.length) : (strOfNums l).extract i (i + 1) = strOfNums [l[i]] := by
  apply ByteArray.ext
  apply Array.ext'
  rw [sv_data, ByteArray.data_extract, Array.toList_extract, sv_data]
  simp only [List.extract_eq_take_drop, Nat.add_sub_cancel_left, List.map_cons, List.map_nil]
  have hl : i < (l.map fun x => UInt8.ofNat x.toNat).length := by rw [List.length_map]; exact h
  rw [List.drop_eq_getElem_cons hl, List.take_succ_cons, List.take_zero, List.getElem_map]
theorem wordOf_extract (M : List Nat) (i : Nat) (h : i < M.length) : (wordOf M).extract i (i + 1) = wordOf [M[i]] := by
  unfold wordOf
  rw [sv_extract _ i (by rw [List.length_map]; exact h), List.getElem_map]
  rfl
theorem facOf_extract (L : List Nat) (i : Nat) (h : i < L.length) : (facOf L).extract i (i + 1) = facOf [L[i]] := by
  unfold facOf
  rw [sv_extract _ i (by rw [List.length_map]; exact h), List.getElem_map]
  rfl
theorem isw_size {M : List Nat} {s : ByteArray} (h : IsW M s) : s.size ≤ 60 := wordB_size h.good
theorem isf_size {M : List Nat} {s : ByteArray} (h : IsF M s) : s.size ≤ 30 := (facB_size h.good).2
theorem vHas_l0 (x : Int) (W : List Int) (hl : W.length ≤ 1000000) (d : Nat) : ∀ i : Nat, i + d = W.length → Ev (fun k => laws_vHas.l0 k x W (W.length : Int) (i : Int)) (decide (x ∈ W.drop i)) := by
  induction d with
  | zero =>
    intro i hi
    rw [List.drop_of_length_le (by omega)]
    exact Ev.step (f := fun _ => some false) (fun k => by rw [laws_vHas.l0, if_neg (by omega)]) (Ev.now _)
  | succ d ih =>
    intro i hi
    have hil : i < W.length := by omega
    have e : rd W (i : Int) = W[i] := by simp [rd, hil]
    have w1 := wn1 i (by omega)
    have p1 : (i : Int) < (W.length : Int) := by clear w1; omega
    have p2 : (0 : Int) ≤ (i : Int) := by clear w1; omega
    rw [List.drop_eq_getElem_cons hil]
    by_cases c : W[i] = x
    · rw [decide_eq_true (show x ∈ W[i] :: W.drop (i + 1) by rw [c]; simp)]
      exact Ev.step (f := fun _ => some true) (fun k => by rw [laws_vHas.l0, if_pos p1, if_pos p2, if_pos p1, e, if_pos c]) (Ev.now _)
    · have hd : decide (x ∈ W[i] :: W.drop (i + 1)) = decide (x ∈ W.drop (i + 1)) := by
        rw [decide_eq_decide, List.mem_cons]
        constructor
        · rintro (h | h)
          · exact absurd h.symm c
          · exact h
        · exact Or.inr
      rw [hd]
      exact Ev.step (fun k => by rw [laws_vHas.l0, if_pos p1, if_pos p2, if_pos p1, e, if_neg c, w1]) (ih (i + 1) (by omega))
theorem vHas_ok (x : Int) (W : List Int) (hl : W.length ≤ 1000000) : Ev (fun k => laws_vHas.f k W x) (decide (x ∈ W)) := by
  have := vHas_l0 x W hl W.length 0 (by omega)
  rw [List.drop_zero] at this
  exact this
theorem vSame_self (W : List Int) (hl : W.length ≤ 1000000) : Ev (fun k => laws_vSame.f k W W) true := by
  have go : ∀ d i : Nat, i + d = W.length → Ev (fun k => laws_vSame.l0 k W W (W.length : Int) (i : Int)) true := by
    intro d
    induction d with
    | zero =>
      intro i hi
      exact Ev.step (f := fun _ => some true) (fun k => by rw [laws_vSame.l0, if_neg (by omega)]) (Ev.now _)
    | succ d ih =>
      intro i hi
      have w1 := wn1 i (by omega)
      have p1 : (i : Int) < (W.length : Int) := by clear w1; omega
      have p2 : (0 : Int) ≤ (i : Int) := by clear w1; omega
      exact Ev.step (fun k => by rw [laws_vSame.l0, if_pos p1, if_pos p2, if_pos p1, if_pos p1, if_pos rfl, w1]) (ih (i + 1) (by omega))
  unfold laws_vSame.f
  exact Ev.congr (fun k => if_pos rfl) (go W.length 0 (by omega))
theorem vRises_ok (W : List Int) (hl : W.length ≤ 1000000) (hp : W.Pairwise (· < ·)) : Ev (fun k => laws_vRises.f k W) true := by
  have go : ∀ d i : Nat, i + d = W.length → Ev (fun k => laws_vRises.l0 k W ((i + 1 : Nat) : Int)) true := by
    intro d
    induction d with
    | zero =>
      intro i hi
      exact Ev.step (f := fun _ => some true) (fun k => by rw [laws_vRises.l0, if_neg (by omega)]) (Ev.now _)
    | succ d ih =>
      intro i hi
      by_cases c : i + 1 < W.length
      · have w1 := wn1 (i + 1) (by omega)
        have w2 : wrap64 (((i + 1 : Nat) : Int) - 1) = (i : Int) := by clear w1; rw [w64 (by omega) (by omega)]; omega
        have p1 : ((i + 1 : Nat) : Int) < (W.length : Int) := by clear w1 w2; omega
        have p2 : (0 : Int) ≤ (i : Int) := by clear w1 w2; omega
        have p3 : (i : Int) < (W.length : Int) := by clear w1 w2; omega
        have p4 : (0 : Int) ≤ ((i + 1 : Nat) : Int) := by clear w1 w2; omega
        have e1 : rd W (i : Int) = W[i]'(by omega) := by simp [rd, show i < W.length by omega]
        have e2 : rd W ((i + 1 : Nat) : Int) = W[i + 1] := by
          unfold rd
          rw [Int.toNat_natCast]
          simp [c]
        have hlt := List.pairwise_iff_getElem.1 hp i (i + 1) (by omega) c (by omega)
        have p5 : ¬ (W[i]'(by omega) ≥ W[i + 1]) := by clear w1 w2; omega
        exact Ev.step (fun k => by rw [laws_vRises.l0, if_pos p1, w2, if_pos p2, if_pos p3, if_pos p4, e1, e2, if_neg p5, w1]) (ih (i + 1) (by omega))
      · exact Ev.step (f := fun _ => some true) (fun k => by rw [laws_vRises.l0, if_neg (by omega)]) (Ev.now _)
  exact go W.length 0 (by omega)
theorem wrL_rises (τ : Nat) (dn : Nat → Nat) (n : Nat) : (wrL τ dn n).Pairwise (· < ·) := by
  unfold wrL
  rw [List.pairwise_map]
  have h := List.Pairwise.filter (fun i => decide (dn i % 4 ≠ τ)) (List.pairwise_lt_range (n := n))
  exact h.imp (fun hab => Int.ofNat_lt.2 hab)
/-! ### what mistakes do to the first soldier -/
theorem allM_ne (n : Int) (s : ByteArray) (l : List S34) (d : Nat) : ∀ i : Nat, i + d = l.length → allM n s l d i = true → ∀ m ∈ l.drop i, bt m.f2 0 ≠ bt s m.f1 := by
  induction d with
  | zero =>
    intro i hi _ m hm
    rw [List.drop_of_length_le (by omega)] at hm
    cases hm
  | succ d ih =>
    intro i hi h m hm
    have hil : i < l.length := by omega
    rw [allM, Bool.and_eq_true] at h
    rw [List.drop_eq_getElem_cons hil, List.mem_cons] at hm
    rcases hm with rfl | hm
    · have ho := h.1
      unfold okM at ho
      rw [Bool.and_eq_true, rdM_at l i hil] at ho
      have hc := ho.1
      unfold chkM at hc
      simp only [Bool.and_eq_true, Bool.not_eq_true', beq_eq_false_iff_ne] at hc
      exact hc.2.2.2.2
    · exact ih (i + 1) (by omega) h.2 m hm
theorem byM_ne (n : Int) (s : ByteArray) (hw : wordB s = true) (m : S34) (h : goodM n s m) (hne : bt m.f2 0 ≠ bt s m.f1) : byM s m % 4 ≠ 0 := by
  obtain ⟨h1, h2, h3, h4, h5, h6⟩ := h
  have ha := turnV_four h6
  have hb := wordB_at hw m.f1.toNat (by omega)
  rw [show ((m.f1.toNat : Nat) : Int) = m.f1 by omega] at hb
  unfold byM
  generalize bt m.f2 0 = x at ha hne ⊢
  generalize bt s m.f1 = y at hb hne ⊢
  rcases ha with rfl | rfl | rfl | rfl <;> rcases hb with rfl | rfl | rfl | rfl <;> first | exact absurd rfl hne | decide
def cnt0 (l : List S34) : Nat := (l.filter fun m => decide (m.f0 = 0)).length
theorem cnt0_cons (m : S34) (l : List S34) : cnt0 (m :: l) = (if m.f0 = 0 then 1 else 0) + cnt0 l := by
  unfold cnt0
  by_cases c : m.f0 = 0
  · rw [List.filter_cons_of_pos (by simpa using c), if_pos c, List.length_cons]; omega
  · rw [List.filter_cons_of_neg (by simpa using c), if_neg c]; omega
theorem doneM_none (s : ByteArray) : ∀ (l : List S34) (t : Int), cnt0 l = 0 → doneM s 0 l t = t := by
  intro l
  induction l with
  | nil => intro t _; rfl
  | cons m l ih =>
    intro t h
    rw [cnt0_cons] at h
    have c : ¬ m.f0 = 0 := fun c => by rw [if_pos c] at h; omega
    rw [if_neg c] at h
    rw [doneM, if_neg c]
    exact ih t (by omega)
theorem doneM_one (s : ByteArray) : ∀ (l : List S34) (t : Int), cnt0 l = 1 → ∃ m ∈ l, doneM s 0 l t = t + byM s m := by
  intro l
  induction l with
  | nil => intro t h; cases h
  | cons m l ih =>
    intro t h
    rw [cnt0_cons] at h
    by_cases c : m.f0 = 0
    · rw [if_pos c] at h
      refine ⟨m, by simp, ?_⟩
      rw [doneM, if_pos c]
      exact doneM_none s l _ (by omega)
    · rw [if_neg c] at h
      obtain ⟨x, hx, e⟩ := ih t (by omega)
      refine ⟨x, by simp [hx], ?_⟩
      rw [doneM, if_neg c]
      exact e
/-! ### what the answers are -/
def Told (fac word after cor : ByteArray) (wr : List Int) (l : List S34) : Prop := ∃ (L M : List Nat) (dn : Nat → Nat), IsF L fac ∧ IsW M word ∧ mistB (fac.size : Int) word l = true ∧ after = facOf (ownL L dn) ∧ wr = wrL (M.sum % 4) dn fac.size ∧ cor = wordOf (corL L.length (M.sum % 4) dn) ∧ (cnt0 l = 0 → dn 0 % 4 = M.sum % 4) ∧ (cnt0 l = 1 → dn 0 % 4 ≠ M.sum % 4)
theorem dm_all (a0 a1 : ByteArray) (l : List S34) (hs : a0.size ≤ 140737488351232) (hu : a1.size ≤ 140737488351232) (hl : l.length ≤ 1000000000) : ∃ (after cor : ByteArray) (wr : List Int) (ok : Bool),
    Ev (fun k => impl_FacingWithMistakes.f k a0 a1 l) (after, ok) ∧ Ev (fun k => spec_FacingWithMistakes.f k a0 a1 l) (after, ok) ∧ Ev (fun k => impl_WrongSoldiers.f k a0 a1 l) (wr, ok) ∧ Ev (fun k => spec_WrongSoldiers.f k a0 a1 l) (wr, ok) ∧ Ev (fun k => impl_CorrectionsOf.f k a0 a1 l) (cor, ok) ∧ Ev (fun k => spec_CorrectionsOf.f k a0 a1 l) (cor, ok) ∧ wr.length ≤ 30 ∧ (ok = true → Told a0 a1 after cor wr l) := by
  unfold spec_FacingWithMistakes.f impl_FacingWithMistakes.f spec_WrongSoldiers.f impl_WrongSoldiers.f spec_CorrectionsOf.f impl_CorrectionsOf.f
  rcases drill_ok a0 a1 l hs hu hl with ⟨h1, h2⟩ | ⟨h1, hf, hw, h20, hm, hg, t, T, ht0, ht3, hsn, hin, hd, hT, hv, hi⟩
  · exact ⟨⟨#[]⟩, ⟨#[]⟩, [], false, Ev.bind h2 (Ev.now _), Ev.bind h1 (Ev.congr (fun k => if_neg (by decide)) (Ev.now _)), Ev.bind h2 (Ev.congr (fun k => if_neg (by decide)) (Ev.now _)), Ev.bind h1 (Ev.congr (fun k => if_neg (by decide)) (Ev.now _)), Ev.bind h2 (Ev.congr (fun k => if_neg (by decide)) (Ev.now _)), Ev.bind h1 (Ev.congr (fun k => if_neg (by decide)) (Ev.now _)), by simp, fun h => by cases h⟩
  · obtain ⟨L, hL⟩ := isf_of hf
    obtain ⟨M, hM⟩ := isw_of hw
    have hz : a0.size = L.length := by rw [hL.1]; exact facOf_size L
    have h30 := hL.2.2.2
    have h1L := hL.2.2.1
    obtain ⟨n1, _⟩ := net_vals M hM.2.1 hM.2.2
    rw [← hM.1] at n1
    have hτ : M.sum % 4 < 4 := Nat.mod_lt _ (by omega)
    have et : t = ((M.sum % 4 : Nat) : Int) := by
      obtain ⟨K1, k1⟩ := hsn
      obtain ⟨K2, k2⟩ := n1
      exact Option.some.inj ((k1 (max K1 K2) (Nat.le_max_left _ _)).symm.trans (k2 (max K1 K2) (Nat.le_max_right _ _)))
    subst et
    obtain ⟨dn, hdn⟩ : ∃ dn : Nat → Nat, dn = fun i => (T.getD i 0).toNat := ⟨_, rfl⟩
    have hTd : ∀ i : Nat, i < a0.size → T.getD i 0 = doneM a1 i l ((M.sum % 4 : Nat) : Int) ∧ T.getD i 0 = (dn i : Int) ∧ dn i ≤ 200 := fun i hi => by
      obtain ⟨q1, q2, q3⟩ := hv i hi
      have e : dn i = (T.getD i 0).toNat := by rw [hdn]
      exact ⟨q1, by omega, by omega⟩
    have hown := own_str (dn := dn) hL (fun i hi => (hTd i hi).2)
    have hdue := due_str (s := a0) hL hτ
    rw [hown, hdue] at hi
    obtain ⟨c1, c2⟩ := cor_l0 hL hτ hTd hsn a0.size 0 (by omega)
    obtain ⟨b1, b2⟩ := wr_l0 hL hτ hTd hsn a0.size 0 (by omega)
    have f1 := spec_fm_l0 hL hTd a0.size 0 (by omega)
    have zo : (facOf (ownL L dn)).size = a0.size := by rw [facOf_size, ownL_len, hz]
    have zd : (facOf (L.map fun v => (v + M.sum % 4) % 4)).size = a0.size := by rw [facOf_size, List.length_map, hz]
    have hwl := wrL_len (M.sum % 4) dn a0.size
    have d0 := hTd 0 (by omega)
    refine ⟨facOf (ownL L dn), wordOf (corL L.length (M.sum % 4) dn), wrL (M.sum % 4) dn a0.size, true, Ev.bind hi (Ev.now _), Ev.bind h1 (Ev.congr (fun k => if_pos rfl) (Ev.bind hd ?_)), Ev.bind hi (Ev.congr (fun k => if_pos rfl) ?_), Ev.bind h1 (Ev.congr (fun k => if_pos rfl) (Ev.bind hd ?_)), Ev.bind hi (Ev.congr (fun k => if_pos rfl) (Ev.bind ?_ (Ev.now _))), Ev.bind h1 (Ev.congr (fun k => if_pos rfl) (Ev.bind hd ?_)), by omega, fun _ => ⟨L, M, dn, hL, hM, hm, rfl, rfl, rfl, fun h0 => ?_, fun h0 => ?_⟩⟩
    · rw [doneL_len]
      exact f1
    · simp only [zd]
      exact b2
    · rw [doneL_len]
      exact b1
    · unfold impl_between.f
      simp only [zo]
      exact c2
    · rw [doneL_len]
      exact c1
    · have e := doneM_none a1 l ((M.sum % 4 : Nat) : Int) h0
      have e2 : ((dn 0 : Nat) : Int) = ((M.sum % 4 : Nat) : Int) := by rw [← d0.2.1, d0.1]; exact e
      omega
    · obtain ⟨m, hmm, e⟩ := doneM_one a1 l ((M.sum % 4 : Nat) : Int) h0
      have e2 : ((dn 0 : Nat) : Int) = ((M.sum % 4 : Nat) : Int) + byM a1 m := by rw [← d0.2.1, d0.1]; exact e
      have hall : allM (a0.size : Int) a1 l l.length 0 = true := by
        unfold mistB at hm
        simp only [Bool.and_eq_true] at hm
        exact hm.2.2.2
      have hne := byM_ne (a0.size : Int) a1 hw m (hg m hmm) (allM_ne _ a1 l l.length 0 (by omega) hall m (by simpa using hmm))
      omega
theorem fai_v (s u : ByteArray) (L M : List Nat) (hL : IsF L s) (hM : IsW M u) : Ev (fun k => impl_FacingAfter.f k s u) (facOf (addL (M.sum % 4) L), true) := by
  have hf := hL.good
  have hw := hM.good
  have h1 := facB_size hf
  have h2 := wordB_size hw
  obtain ⟨_, n2⟩ := net_vals M hM.2.1 hM.2.2
  rw [← hM.1] at n2
  have hlt : M.sum % 4 < 4 := Nat.mod_lt _ (by omega)
  have e := facL_of L hL.2.1 (M.sum % 4) (by omega)
  rw [← hL.1] at e
  unfold impl_FacingAfter.f
  simp only [impl_fac s (by omega), impl_word u (by omega), hf, hw, Option.bind_some, if_true]
  refine Ev.bind n2 (Ev.congr (fun k => if_pos (by omega)) ?_)
  rw [e]
  exact Ev.now _
theorem beq_lit (a b : Bool) (h : a = true ↔ b = true) : a = b := by
  cases a <;> cases b <;> simp_all
theorem doneLoop_ok {fac after cor plain : ByteArray} {L : List Nat} {τ : Nat} {dn : Nat → Nat} (hL : IsF L fac) (hτ : τ < 4) (ha : after = facOf (ownL L dn)) (hc : cor = wordOf (corL L.length τ dn)) (hp : plain = facOf (addL τ L)) (d : Nat) : ∀ i : Nat, i + d = fac.size → Ev (fun k => laws_doneLoop.l0 k fac after cor plain (wrL τ dn fac.size) i) true := by
  have hz : fac.size = L.length := by rw [hL.1]; exact facOf_size L
  have h30 := hL.2.2.2
  have za : after.size = L.length := by rw [ha, facOf_size, ownL_len]
  have zc : cor.size = L.length := by rw [hc, wordOf_size, corL_len]
  have zp : plain.size = L.length := by rw [hp, facOf_size]; unfold addL; rw [List.length_map]
  induction d with
  | zero =>
    intro i hi
    exact Ev.step (f := fun _ => some true) (fun k => by rw [laws_doneLoop.l0, if_neg (by omega)]) (Ev.now _)
  | succ d ih =>
    intro i hi
    have hiL : i < L.length := by omega
    have hiO : i < (ownL L dn).length := by rw [ownL_len]; exact hiL
    have hiC : i < (corL L.length τ dn).length := by rw [corL_len]; exact hiL
    have hiA : i < (addL τ L).length := by unfold addL; rw [List.length_map]; exact hiL
    have hv := hL.2.1 _ (List.getElem_mem hiL)
    have hb := facOf_bt L hL.2.1 i hiL
    rw [← hL.1] at hb
    have hbo := facOf_bt (ownL L dn) (sm_own L dn) i hiO
    rw [own_at L dn i hiL hiO, ← ha] at hbo
    have hbp := facOf_bt (addL τ L) (sm_add τ L) i hiA
    have eA : (addL τ L)[i] = (L[i] + τ) % 4 := by unfold addL; exact List.getElem_map _
    rw [eA, ← hp] at hbp
    have hbc := wordOf_bt (corL L.length τ dn) i hiC
    rw [cor_at L.length τ dn i hiC, ← hc] at hbc
    have x1 := facOf_extract (ownL L dn) i hiO
    rw [own_at L dn i hiL hiO, ← ha] at x1
    have x2 := wordOf_extract (corL L.length τ dn) i hiC
    rw [cor_at L.length τ dn i hiC, ← hc] at x2
    have x3 := facOf_extract (addL τ L) i hiA
    rw [eA, ← hp] at x3
    have hF : IsF [(L[i] + dn i) % 4] (facOf [(L[i] + dn i) % 4]) := ⟨rfl, fun v hv => by simp at hv; omega, by simp, by simp⟩
    have hW : IsW [(4 + τ - dn i % 4) % 4] (wordOf [(4 + τ - dn i % 4) % 4]) := ⟨rfl, fun v hv => by simp at hv; omega, by simp⟩
    have hfa := fai_v _ _ _ _ hF hW
    have e1 : addL (([(4 + τ - dn i % 4) % 4] : List Nat).sum % 4) [(L[i] + dn i) % 4] = [(L[i] + τ) % 4] := by
      unfold addL
      simp only [List.map_cons, List.map_nil, List.sum_cons, List.sum_nil, Nat.add_zero]
      congr 1
      omega
    rw [e1] at hfa
    have hwl := wrL_len τ dn fac.size
    have hh := vHas_ok (i : Int) (wrL τ dn fac.size) (by omega)
    have hm := wrL_mem τ dn fac.size i (by omega)
    have q1 : bt fac (i : Int) < 128 ∧ i < after.size ∧ i < cor.size ∧ i < plain.size := ⟨by rw [hb]; omega, by omega, by omega, by omega⟩
    have q2 : decide ((i : Int) ∈ wrL τ dn fac.size) = (bt after (i : Int) != bt plain (i : Int)) := by
      apply beq_lit
      rw [decide_eq_true_iff, hm, bne_iff_ne, hbo, hbp]
      omega
    have q3 : decide ((i : Int) ∈ wrL τ dn fac.size) = !(bt cor (i : Int) == 83) := by
      apply beq_lit
      rw [decide_eq_true_iff, hm, Bool.not_eq_true', beq_eq_false_iff_ne, hbc]
      have hq4 : (4 + τ - dn i % 4) % 4 < 4 := Nat.mod_lt _ (by omega)
      have hs : sgn ((4 + τ - dn i % 4) % 4) = 83 ↔ (4 + τ - dn i % 4) % 4 = 0 := by
        generalize (4 + τ - dn i % 4) % 4 = y at hq4
        have h' : y = 0 ∨ y = 1 ∨ y = 2 ∨ y = 3 := by omega
        rcases h' with rfl | rfl | rfl | rfl <;> decide
      rw [ne_eq, ne_eq, hs]
      omega
    refine Ev.step (f := fun k => (impl_FacingAfter.f k (facOf [(L[i] + dn i) % 4]) (wordOf [(4 + τ - dn i % 4) % 4])).bind fun y => ((laws_vHas.f k (wrL τ dn fac.size) (i : Int)).bind fun h => (if y.2 = true ∧ y.1 = facOf [(L[i] + τ) % 4] ∧ h = (bt after (i : Int) != bt plain (i : Int)) ∧ h = !(bt cor (i : Int) == 83) then laws_doneLoop.l0 k fac after cor plain (wrL τ dn fac.size) (i + 1) else some false))) (fun k => by rw [laws_doneLoop.l0, if_pos (by omega), if_pos q1, x1, x2, x3]) ?_
    exact Ev.bind hfa (Ev.bind hh (Ev.congr (fun k => if_pos ⟨rfl, rfl, q2, q3⟩) (ih (i + 1) (by omega))))
section
variable {x1 : List Int}
theorem dm_l0 (h4 : Ev (fun k => laws_FnDrillsMistaken.j3 k x1) true) {wr : List Int} {l : List S34} (hwl : wr.length ≤ 30) (hll : l.length ≤ 20) (h0 : cnt0 l = 0 → ¬ (0 : Int) ∈ wr) (h1 : cnt0 l = 1 → (0 : Int) ∈ wr) (d : Nat) : ∀ i : Nat, i + d = l.length → Ev (fun k => laws_FnDrillsMistaken.l0 k x1 wr ((cnt0 (l.take i) : Nat) : Int) l (l.length : Int) (i : Int)) true := by
  have hv := vHas_ok 0 wr (by omega)
  induction d with
  | zero =>
    intro i hi
    have e : l.take i = l := List.take_of_length_le (by omega)
    have p1 : ¬ ((i : Int) < (l.length : Int)) := by omega
    rw [e]
    by_cases c0 : cnt0 l = 0
    · rw [decide_eq_false (h0 c0)] at hv
      have c0' : ((cnt0 l : Nat) : Int) = 0 := by omega
      have c1' : ¬ (((cnt0 l : Nat) : Int) = 1) := by omega
      refine Ev.step (f := fun k => (laws_vHas.f k wr 0).bind fun t257 => (if t257 = true then (some false) else (laws_FnDrillsMistaken.j3 k x1))) (fun k => ?_) (Ev.bind hv (Ev.congr (fun k => if_neg (by decide)) h4))
      rw [laws_FnDrillsMistaken.l0, if_neg p1, if_pos c0']
      simp only [if_neg c1']
    · have c0' : ¬ (((cnt0 l : Nat) : Int) = 0) := by omega
      by_cases c1 : cnt0 l = 1
      · rw [decide_eq_true (h1 c1)] at hv
        have c1' : ((cnt0 l : Nat) : Int) = 1 := by omega
        exact Ev.step (f := fun k => (laws_vHas.f k wr 0).bind fun t259 => (if t259 = true then (laws_FnDrillsMistaken.j3 k x1) else (some false))) (fun k => by rw [laws_FnDrillsMistaken.l0, if_neg p1, if_neg c0', if_pos c1']) (Ev.bind hv (Ev.congr (fun k => if_pos rfl) h4))
      · have c1' : ¬ (((cnt0 l : Nat) : Int) = 1) := by omega
        exact Ev.step (fun k => by rw [laws_FnDrillsMistaken.l0, if_neg p1, if_neg c0', if_neg c1']) h4
  | succ d ih =>
    intro i hi
    have hil : i < l.length := by omega
    have h := ih (i + 1) (by omega)
    have hr := rdM_at l i hil
    have hcl : cnt0 (l.take i) ≤ 20 := by
      unfold cnt0
      have := List.length_filter_le (fun m : S34 => decide (m.f0 = 0)) (l.take i)
      have h2 : (l.take i).length ≤ 20 := by rw [List.length_take]; omega
      omega
    have hcs : cnt0 (l.take (i + 1)) = cnt0 (l.take i) + (if l[i].f0 = 0 then 1 else 0) := by
      unfold cnt0
      rw [List.take_succ_eq_append_getElem hil, List.filter_append, List.length_append]
      congr 1
      by_cases c : l[i].f0 = 0
      · rw [List.filter_cons_of_pos (by simpa using c), if_pos c]; rfl
      · rw [List.filter_cons_of_neg (by simpa using c), if_neg c]; rfl
    rw [hcs] at h
    have w1 := wn1 i (by omega)
    have w2 := wn1 (cnt0 (l.take i)) (by clear w1; omega)
    have p1 : (i : Int) < (l.length : Int) := by clear w1 w2; omega
    have p2 : (0 : Int) ≤ (i : Int) := by clear w1 w2; omega
    by_cases c : l[i].f0 = 0
    · rw [if_pos c] at h
      exact Ev.step (fun k => by rw [laws_FnDrillsMistaken.l0, if_pos p1, if_pos p2, if_pos p1, hr, if_pos c, w1, w2]) h
    · rw [if_neg c, Nat.add_zero] at h
      exact Ev.step (fun k => by rw [laws_FnDrillsMistaken.l0, if_pos p1, if_pos p2, if_pos p1, hr, if_neg c, w1]) h
theorem dm_j1 (h4 : Ev (fun k => laws_FnDrillsMistaken.j3 k x1) true) (fac word after cor : ByteArray) (wr : List Int) (l : List S34) (ok : Bool) (hwl : wr.length ≤ 30) (hok : ok = true → Told fac word after cor wr l) : Ev (fun k => laws_FnDrillsMistaken.j0 k x1 fac word l after ok wr cor false) true := by
  cases ok with
  | false => exact Ev.step (fun k => by rw [laws_FnDrillsMistaken.j0, if_neg (by decide), if_neg (by decide)]) h4
  | true =>
    obtain ⟨L, M, dn, hL, hM, hm, ha, hw, hc, h0, h1⟩ := hok rfl
    have hz : fac.size = L.length := by rw [hL.1]; exact facOf_size L
    have h30 := hL.2.2.2
    have hsz := facB_size hL.good
    have hws := wordB_size hM.good
    have hτ : M.sum % 4 < 4 := Nat.mod_lt _ (by omega)
    have hf := fai_v fac word L M hL hM
    obtain ⟨_, _, _, h20, hg⟩ := mistB_good _ word l hm
    have him := impl_mist (fac.size : Int) word l (by omega) (by omega)
    rw [hm] at him
    have hAM : Ev (fun k => impl_AreMistakes.f k (fac.size : Int) word l) true := by
      unfold impl_AreMistakes.f
      exact Ev.bind him (Ev.now _)
    have hR : Ev (fun k => laws_vRises.f k wr) true := by rw [hw]; exact vRises_ok _ (by have := wrL_len (M.sum % 4) dn fac.size; omega) (wrL_rises _ _ _)
    have zA : ((after.size : Nat) : Int) = ((fac.size : Nat) : Int) := by rw [ha, facOf_size, ownL_len, hz]
    have zC : ((cor.size : Nat) : Int) = ((fac.size : Nat) : Int) := by rw [hc, wordOf_size, corL_len, hz]
    have hloop := doneLoop_ok hL hτ ha hc rfl fac.size 0 (by omega)
    rw [← hw] at hloop
    have hmem := wrL_mem (M.sum % 4) dn fac.size 0 (by omega)
    rw [← hw] at hmem
    have hl0 := dm_l0 h4 (wr := wr) (l := l) hwl h20 (fun h hx => (hmem.1 hx) (h0 h)) (fun h => hmem.2 (h1 h)) l.length 0 (by omega)
    have hj2 : Ev (fun k => laws_FnDrillsMistaken.j1 k x1 fac l after wr cor (facOf (addL (M.sum % 4) L)) false) true := by
      refine Ev.step (f := fun k => (laws_doneLoop.f k fac after cor (facOf (addL (M.sum % 4) L)) wr).bind fun t254 => (if t254 = true then (laws_FnDrillsMistaken.l0 k x1 wr 0 l (l.length : Int) 0) else (some false))) (fun k => by rw [laws_FnDrillsMistaken.j1, if_neg (by decide)]) (Ev.bind ?_ (Ev.congr (fun k => if_pos rfl) hl0))
      unfold laws_doneLoop.f
      exact Ev.congr (fun k => if_pos (by omega)) hloop
    refine Ev.step (f := fun k => (impl_FacingAfter.f k fac word).bind fun bt250 => (if bt250.2 = true then ((laws_vRises.f k wr).bind fun t252 => (if t252 = true then ((impl_AreMistakes.f k (fac.size : Int) word l).bind fun t253 => (laws_FnDrillsMistaken.j1 k x1 fac l after wr cor bt250.1 (!t253))) else (laws_FnDrillsMistaken.j1 k x1 fac l after wr cor bt250.1 true))) else (laws_FnDrillsMistaken.j1 k x1 fac l after wr cor bt250.1 true))) (fun k => by rw [laws_FnDrillsMistaken.j0, if_neg (by decide), if_pos rfl]; simp only [if_pos zA, if_pos zC]) ?_
    exact Ev.bind hf (Ev.congr (fun k => if_pos rfl) (Ev.bind hR (Ev.congr (fun k => if_pos rfl) (Ev.bind hAM hj2))))
end
theorem dm_second (w : ByteArray) (x1 x2 n : Int) (said : ByteArray) (l : List S34) (hw : w.size ≤ 140737488351232) (hs : said.size ≤ 140737488351232) (hl : l.length ≤ 1000000000) : ∃ (r : Int × Bool) (b : Bool), Ev (fun k => impl_WaysToFace.f k w x1 x2) r ∧ Ev (fun k => spec_WaysToFace.f k w x1 x2) r ∧ Ev (fun k => impl_AreMistakes.f k n said l) b ∧ Ev (fun k => spec_AreMistakes.f k n said l) b ∧ Ev (fun k => laws_FnDrillsMistaken.j4 k w x1 x2 r.1 r.2 false) true := by
  obtain ⟨r, e1, e2, e3⟩ := ww_v w x1 x2 hw
  have h1 := impl_mist n said l hs hl
  have h2 := spec_mist n said l hs hl
  refine ⟨r, mistB n said l, e2, e1, ?_, ?_, dm_j5 w x1 x2 hw r e3⟩
  · unfold impl_AreMistakes.f
    exact Ev.bind h1 (Ev.now _)
  · unfold spec_AreMistakes.f
    exact Ev.bind h2 (Ev.now _)
/-- A byte that is masked. -/
theorem cur_mask (x : Int) : 0 ≤ Go.bits .and .u64 x 255 ∧ Go.bits .and .u64 x 255 ≤ 255 := by
  unfold Go.bits
  simp only []
  have h1 : (BitVec.ofInt IntKind.u64.bits x &&& BitVec.ofInt IntKind.u64.bits 255).toNat ≤ 255 := by
    rw [BitVec.toNat_and]
    have e : (BitVec.ofInt IntKind.u64.bits 255).toNat = 255 := by decide
    rw [e]
    exact Nat.and_le_right
  obtain ⟨n, hn⟩ : ∃ n, (BitVec.ofInt IntKind.u64.bits x &&& BitVec.ofInt IntKind.u64.bits 255).toNat = n := ⟨_, rfl⟩
  rw [hn] at h1 ⊢
  have e2 : IntKind.u64.wrap (n : Int) = n := by
    have e3 : IntKind.u64.wrap (n : Int) = (n : Int) % 18446744073709551616 := rfl
    rw [e3]
    omega
  rw [e2]
  omega
section
variable {code : List Int} (hc : ∀ x ∈ code, 0 ≤ x ∧ x ≤ 255)
include hc
theorem cur_next (at_ seed : Int) (h0 : 0 ≤ at_) (h1 : at_ ≤ 1000000000) : ∃ r s, spec_l1Cur_next.f code at_ seed = some (r, at_ + 1, s) ∧ 0 ≤ r ∧ r ≤ 255 := by
  have w1 : wrap64 (at_ + 1) = at_ + 1 := w64 (by omega) (by omega)
  unfold spec_l1Cur_next.f
  rw [w1]
  by_cases c1 : at_ < (code.length : Int)
  · rw [if_pos c1, if_pos h0]
    have hb : 0 ≤ rd code at_ ∧ rd code at_ ≤ 255 := by
      have hl : at_.toNat < code.length := by omega
      have e : rd code at_ = code[at_.toNat] := by simp [rd, hl]
      rw [e]
      exact hc _ (List.getElem_mem hl)
    by_cases c2 : at_ + 1 ≤ (code.length : Int)
    · rw [if_pos c2]
      refine ⟨_, _, rfl, ?_, ?_⟩ <;> rw [w64 (by omega) (by omega)] <;> omega
    · omega
  · rw [if_neg c1]
    by_cases c2 : at_ + 1 ≤ (code.length : Int)
    · omega
    · rw [if_neg c2]
      obtain ⟨m1, m2⟩ := cur_mask ((IntKind.u64.wrap ((IntKind.u64.wrap ((IntKind.u64.wrap (seed * 6364136223846793005)) + 0)) + 1442695040888963407)) / 1099511627776)
      refine ⟨_, _, rfl, ?_, ?_⟩ <;> rw [w64 (by omega) (by omega)] <;> omega
theorem cur_pick (at_ seed n : Int) (hn : 1 ≤ n) (hn2 : n ≤ 1000000) (h0 : 0 ≤ at_) (h1 : at_ ≤ 900000000) : ∃ r a s, spec_l1Cur_pick.f code at_ seed n = some (r, a, s) ∧ 0 ≤ r ∧ r < n ∧ at_ ≤ a ∧ a ≤ at_ + 2 := by
  unfold spec_l1Cur_pick.f
  by_cases c1 : n ≤ 1
  · rw [if_pos c1]
    exact ⟨0, at_, seed, rfl, by omega, by omega, by omega, by omega⟩
  · rw [if_neg c1]
    obtain ⟨r1, s1, e1, a1, a2⟩ := cur_next hc at_ seed h0 (by omega)
    obtain ⟨m, rfl⟩ := Int.eq_ofNat_of_zero_le (show 0 ≤ n by omega)
    have hm : ∀ x : Int, 0 ≤ x → 0 ≤ Int.tmod x (m : Int) ∧ Int.tmod x (m : Int) < (m : Int) := fun x hx => by
      obtain ⟨y, rfl⟩ := Int.eq_ofNat_of_zero_le hx
      have e : Int.tmod (y : Int) (m : Int) = ((y % m : Nat) : Int) := rfl
      have := Nat.mod_lt y (show m > 0 by omega)
      rw [e]
      omega
    rw [e1]
    simp only [Option.bind_some]
    by_cases c2 : (m : Int) > 200
    · rw [if_pos c2]
      obtain ⟨r2, s2, e2, b1, b2⟩ := cur_next hc (at_ + 1) s1 (by omega) (by omega)
      rw [e2]
      simp only [Option.bind_some]
      rw [if_neg (by omega)]
      have w1 : wrap64 (r1 * 256) = r1 * 256 := w64 (by omega) (by omega)
      rw [w1, w64 (by omega) (by omega)]
      obtain ⟨q1, q2⟩ := hm (r1 * 256 + r2) (by omega)
      exact ⟨_, _, _, rfl, q1, q2, by omega, by omega⟩
    · rw [if_neg c2, if_neg (by omega)]
      obtain ⟨q1, q2⟩ := hm r1 a1
      exact ⟨_, _, _, rfl, q1, q2, by omega, by omega⟩
end
section
variable {code : List Int} (hc : ∀ x ∈ code, 0 ≤ x ∧ x ≤ 255)
include hc
theorem cur_among (at_ seed : Int) (l : List Int) (hl : 1 ≤ l.length) (hl2 : l.length ≤ 1000000) (h0 : 0 ≤ at_) (h1 : at_ ≤ 900000000) : ∃ r a s, spec_l1Cur_among.f code at_ seed l = some (r, a, s) ∧ r ∈ l ∧ at_ ≤ a ∧ a ≤ at_ + 2 := by
  unfold spec_l1Cur_among.f
  obtain ⟨r, a, s, e, q1, q2, q3, q4⟩ := cur_pick hc at_ seed (l.length : Int) (by omega) (by omega) h0 h1
  rw [e]
  simp only [Option.bind_some]
  rw [if_pos q1, if_pos q2]
  refine ⟨_, _, _, rfl, ?_, q3, q4⟩
  have hlt : r.toNat < l.length := by omega
  have e2 : rd l r = l[r.toNat] := by simp [rd, hlt]
  rw [e2]
  exact List.getElem_mem hlt
end
theorem cx_size (s : ByteArray) (a b : Nat) : (s.extract a b).size ≤ s.size := by
  rw [ByteArray.size_extract]
  omega
section
variable {code : List Int} (hc : ∀ x ∈ code, 0 ≤ x ∧ x ≤ 255)
include hc
theorem cur_of (at_ seed : Int) (l : List ByteArray) (hl : 1 ≤ l.length) (hl2 : l.length ≤ 1000000) (h0 : 0 ≤ at_) (h1 : at_ ≤ 900000000) : ∃ r a s, spec_l1Cur_of.f code at_ seed l = some (r, a, s) ∧ r ∈ l ∧ at_ ≤ a ∧ a ≤ at_ + 2 := by
  unfold spec_l1Cur_of.f
  obtain ⟨r, a, s, e, q1, q2, q3, q4⟩ := cur_pick hc at_ seed (l.length : Int) (by omega) (by omega) h0 h1
  rw [e]
  simp only [Option.bind_some]
  rw [if_pos q1, if_pos q2]
  refine ⟨_, _, _, rfl, ?_, q3, q4⟩
  have hlt : r.toNat < l.length := by omega
  have e2 : rdOf ByteArray.empty l r = l[r.toNat] := by simp [rdOf, hlt]
  rw [e2]
  exact List.getElem_mem hlt
theorem spoilt_l0 (with_ : ByteArray) (hw1 : 1 ≤ with_.size) (hw2 : with_.size ≤ 1000) (n : Nat) : ∀ (t : ByteArray) (at_ seed : Int), t.size + n ≤ 1000 → 0 ≤ at_ → at_ + 6 * n ≤ 1000000 → n ≤ 100 → ∃ r a s, Ev (fun k => spec_l1Cur_spoilt.l0 k t with_ (n : Int) code at_ seed) (r, a, s) ∧ r.size ≤ t.size + n ∧ at_ ≤ a ∧ a ≤ at_ + 6 * n := by
  induction n with
  | zero =>
    intro t at_ seed ht h0 h1 hn
    refine ⟨t, at_, seed, Ev.step (f := fun k => spec_l1Cur_spoilt.j1 k t with_ ((0 : Nat) : Int) false code at_ seed) (fun k => ?_) (Ev.step (f := fun _ => some (t, at_, seed)) (fun k => by rw [spec_l1Cur_spoilt.j1, if_neg (by decide)]) (Ev.now _)), by omega, by omega, by omega⟩
    rw [spec_l1Cur_spoilt.l0, if_neg (by decide)]
  | succ n ih =>
    intro t at_ seed ht h0 h1 hn
    have p1 : ((n + 1 : Nat) : Int) > 0 := by omega
    have hdn : wrap64 (((n + 1 : Nat) : Int) - 1) = (n : Int) := by rw [w64 (by omega) (by omega)]; omega
    by_cases hs : (t.size : Int) > 0
    · obtain ⟨i, a1, s1, e1, i1, i2, i3, i4⟩ := cur_pick hc at_ seed (t.size : Int) (by omega) (by omega) h0 (by omega)
      obtain ⟨j, a2, s2, e2, j1, j2, j3, j4⟩ := cur_pick hc a1 s1 (with_.size : Int) (by omega) (by omega) (by omega) (by omega)
      obtain ⟨c, a3, s3, e3, c1, c2, c3, c4⟩ := cur_pick hc a2 s2 3 (by omega) (by omega) (by omega) (by omega)
      have hi1 : wrap64 (i + 1) = i + 1 := w64 (by omega) (by omega)
      have z1 := cx_size t 0 i.toNat
      have z2 := cx_size t i.toNat t.size
      have z3 := cx_size t (i + 1).toNat t.size
      have y1 : (t.extract 0 i.toNat).size = i.toNat := by rw [ByteArray.size_extract]; omega
      have y2 : (t.extract i.toNat t.size).size = t.size - i.toNat := by rw [ByteArray.size_extract]; omega
      have y3 : (t.extract (i + 1).toNat t.size).size = t.size - (i.toNat + 1) := by rw [ByteArray.size_extract]; omega
      have yw : (strOfNums [bt with_ j]).size = 1 := by rw [strOfNums_size]; rfl
      have go : ∃ t2 : ByteArray, t2.size ≤ t.size + 1 ∧ ∀ k, spec_l1Cur_spoilt.j1 (k + 1) t with_ ((n + 1 : Nat) : Int) true code at_ seed = spec_l1Cur_spoilt.l0 k t2 with_ (n : Int) code a3 s3 := by
        by_cases k0 : c = 0
        · refine ⟨((t.extract 0 i.toNat) ++ (strOfNums [bt with_ j])) ++ (t.extract i.toNat t.size), by rw [ByteArray.size_append, ByteArray.size_append]; omega, fun k => ?_⟩
          rw [spec_l1Cur_spoilt.j1, if_pos rfl, e1]
          simp only [Option.bind_some]
          rw [e2]
          simp only [Option.bind_some]
          rw [if_pos j1, if_pos j2, e3]
          simp only [Option.bind_some]
          rw [if_pos k0, if_pos i1, if_pos (by omega), if_pos (by omega), if_pos (by rw [ByteArray.size_append]; omega), hdn]
        · by_cases k1 : c = 1
          · refine ⟨((t.extract 0 i.toNat) ++ (strOfNums [bt with_ j])) ++ (t.extract (i + 1).toNat t.size), by rw [ByteArray.size_append, ByteArray.size_append]; omega, fun k => ?_⟩
            rw [spec_l1Cur_spoilt.j1, if_pos rfl, e1]
            simp only [Option.bind_some]
            rw [e2]
            simp only [Option.bind_some]
            rw [if_pos j1, if_pos j2, e3]
            simp only [Option.bind_some]
            rw [if_neg k0, if_pos k1, if_pos i1, if_pos (by omega), if_pos (by omega), hi1, if_pos (by omega), if_pos (by omega), if_pos (by rw [ByteArray.size_append]; omega), hdn]
          · refine ⟨(t.extract 0 i.toNat) ++ (t.extract (i + 1).toNat t.size), by rw [ByteArray.size_append]; omega, fun k => ?_⟩
            rw [spec_l1Cur_spoilt.j1, if_pos rfl, e1]
            simp only [Option.bind_some]
            rw [e2]
            simp only [Option.bind_some]
            rw [if_pos j1, if_pos j2, e3]
            simp only [Option.bind_some]
            rw [if_neg k0, if_neg k1, if_pos i1, if_pos (by omega), hi1, if_pos (by omega), if_pos (by omega), if_pos (by omega), hdn]
      obtain ⟨t2, ht2, hgo⟩ := go
      obtain ⟨r, a, s, hE, hr, ha1, ha2⟩ := ih t2 a3 s3 (by omega) (by omega) (by omega) (by omega)
      exact ⟨r, a, s, Ev.step (f := fun k => spec_l1Cur_spoilt.j1 k t with_ ((n + 1 : Nat) : Int) true code at_ seed) (fun k => by rw [spec_l1Cur_spoilt.l0, if_pos p1, decide_eq_true hs]) (Ev.step hgo hE), by omega, by omega, by omega⟩
    · refine ⟨t, at_, seed, Ev.step (f := fun k => spec_l1Cur_spoilt.j1 k t with_ ((n + 1 : Nat) : Int) false code at_ seed) (fun k => ?_) (Ev.step (f := fun _ => some (t, at_, seed)) (fun k => by rw [spec_l1Cur_spoilt.j1, if_neg (by decide)]) (Ev.now _)), by omega, by omega, by omega⟩
      rw [spec_l1Cur_spoilt.l0, if_pos p1, decide_eq_false hs]
theorem cur_spoilt (t with_ : ByteArray) (hw1 : 1 ≤ with_.size) (hw2 : with_.size ≤ 1000) (ht : t.size ≤ 900) (at_ seed : Int) (h0 : 0 ≤ at_) (h1 : at_ ≤ 900000) : ∃ r a s, Ev (fun k => spec_l1Cur_spoilt.f k code at_ seed t with_) (r, a, s) ∧ r.size ≤ t.size + 2 ∧ at_ ≤ a ∧ a ≤ at_ + 20 := by
  obtain ⟨i, a1, s1, e1, i1, i2, i3, i4⟩ := cur_pick hc at_ seed 2 (by omega) (by omega) h0 (by omega)
  obtain ⟨n, hn⟩ := Int.eq_ofNat_of_zero_le (show 0 ≤ 1 + i by omega)
  obtain ⟨r, a, s, hE, hr, ha1, ha2⟩ := spoilt_l0 hc with_ hw1 hw2 n t a1 s1 (by omega) (by omega) (by omega) (by omega)
  refine ⟨r, a, s, Ev.congr (fun k => ?_) hE, by omega, by omega, by omega⟩
  unfold spec_l1Cur_spoilt.f
  rw [e1]
  simp only [Option.bind_some]
  rw [w64 (by omega) (by omega), hn]
theorem facing_l0 (n : Nat) : ∀ (t : ByteArray) (at_ seed : Int), t.size + n ≤ 100 → 0 ≤ at_ → at_ + 2 * n ≤ 100000 → n ≤ 100 → ∃ r a s, Ev (fun k => spec_l1Cur_facing.l0 k t (n : Int) code at_ seed) (r, a, s) ∧ r.size ≤ 110 ∧ at_ ≤ a ∧ a ≤ at_ + 2 * n + 40 := by
  induction n with
  | zero =>
    intro t at_ seed ht h0 h1 hn
    obtain ⟨c, a1, s1, e1, c1, c2, c3, c4⟩ := cur_pick hc at_ seed 18 (by omega) (by omega) h0 (by omega)
    by_cases k0 : c = 0
    · obtain ⟨r, a, s, e2, hr, q1, q2⟩ := cur_of hc a1 s1 ([(⟨#[]⟩ : ByteArray), (⟨#[52]⟩ : ByteArray), (⟨#[48, 49, 120]⟩ : ByteArray), (⟨#[48, 48, 48, 48, 48, 48, 48, 48, 48, 48, 48, 48, 48, 48, 48, 48, 48, 48, 48, 48, 48, 48, 48, 48, 48, 48, 48, 48, 48, 48, 48]⟩ : ByteArray), (⟨#[48, 49, 50, 51, 48, 49, 50, 51, 48, 49, 50, 51, 48, 49, 50, 51, 48, 49, 50, 51, 48, 49, 50, 51, 48, 49, 50, 51, 48, 49]⟩ : ByteArray)] : List ByteArray) (by simp) (by simp) (by omega) (by omega)
      have hz : r.size ≤ 31 := by
        simp only [List.mem_cons, List.not_mem_nil, or_false] at hr
        rcases hr with rfl | rfl | rfl | rfl | rfl <;> decide
      refine ⟨r, a, s, Ev.step (f := fun _ => some (r, a, s)) (fun k => ?_) (Ev.now _), by omega, by omega, by omega⟩
      rw [spec_l1Cur_facing.l0, if_neg (by decide), e1]
      simp only [Option.bind_some]
      rw [if_pos k0, e2]
      rfl
    · by_cases k1 : c = 1
      · obtain ⟨r, a, s, hE, hr, q1, q2⟩ := cur_spoilt hc t (⟨#[48, 49, 50, 51, 120]⟩ : ByteArray) (by decide) (by decide) (by omega) a1 s1 (by omega) (by omega)
        refine ⟨r, a, s, Ev.step (f := fun k => (spec_l1Cur_spoilt.f k code a1 s1 t (⟨#[48, 49, 50, 51, 120]⟩ : ByteArray)).bind fun bt238 => (some (bt238.1, bt238.2.1, bt238.2.2))) (fun k => ?_) (Ev.bind hE (Ev.now _)), by omega, by omega, by omega⟩
        rw [spec_l1Cur_facing.l0, if_neg (by decide), e1]
        simp only [Option.bind_some]
        rw [if_neg k0, if_pos k1]
      · refine ⟨t, a1, s1, Ev.step (f := fun _ => some (t, a1, s1)) (fun k => ?_) (Ev.now _), by omega, by omega, by omega⟩
        rw [spec_l1Cur_facing.l0, if_neg (by decide), e1]
        simp only [Option.bind_some]
        rw [if_neg k0, if_neg k1]
  | succ n ih =>
    intro t at_ seed ht h0 h1 hn
    have p1 : ((n + 1 : Nat) : Int) > 0 := by omega
    have hdn : wrap64 (((n + 1 : Nat) : Int) - 1) = (n : Int) := by rw [w64 (by omega) (by omega)]; omega
    obtain ⟨c, a1, s1, e1, hr, q1, q2⟩ := cur_of hc at_ seed ([(⟨#[48]⟩ : ByteArray), (⟨#[49]⟩ : ByteArray), (⟨#[50]⟩ : ByteArray), (⟨#[51]⟩ : ByteArray)] : List ByteArray) (by simp) (by simp) h0 (by omega)
    have hz : c.size = 1 := by
      simp only [List.mem_cons, List.not_mem_nil, or_false] at hr
      rcases hr with rfl | rfl | rfl | rfl <;> decide
    have hts : (t ++ c).size = t.size + 1 := by rw [ByteArray.size_append, hz]
    obtain ⟨r, a, s, hE, h2, h3, h4⟩ := ih (t ++ c) a1 s1 (by omega) (by omega) (by omega) (by omega)
    refine ⟨r, a, s, Ev.step (fun k => ?_) hE, h2, by omega, by omega⟩
    rw [spec_l1Cur_facing.l0, if_pos p1]
    rw [e1]
    simp only [Option.bind_some]
    rw [if_pos (by omega), hdn]
theorem cur_facing (at_ seed : Int) (h0 : 0 ≤ at_) (h1 : at_ ≤ 90000) : ∃ r a s, Ev (fun k => spec_l1Cur_facing.f k code at_ seed) (r, a, s) ∧ r.size ≤ 110 ∧ at_ ≤ a ∧ a ≤ at_ + 100 := by
  obtain ⟨i, a1, s1, e1, i1, i2, i3, i4⟩ := cur_pick hc at_ seed 7 (by omega) (by omega) h0 (by omega)
  obtain ⟨n, hn⟩ := Int.eq_ofNat_of_zero_le (show 0 ≤ 1 + i by omega)
  have hz : (⟨#[]⟩ : ByteArray).size = 0 := rfl
  obtain ⟨r, a, s, hE, hr, ha1, ha2⟩ := facing_l0 hc n (⟨#[]⟩ : ByteArray) a1 s1 (by omega) (by omega) (by omega) (by omega)
  refine ⟨r, a, s, Ev.congr (fun k => ?_) hE, by omega, by omega, by omega⟩
  unfold spec_l1Cur_facing.f
  rw [e1]
  simp only [Option.bind_some]
  rw [w64 (by omega) (by omega), hn]
theorem commands_l1 (d : Nat) : ∀ (t : ByteArray) (at_ seed : Int), 61 ≤ t.size + d → t.size ≤ 100 → 0 ≤ at_ → at_ + 4 * d ≤ 1000000 → ∃ r a s, Ev (fun k => spec_l1Cur_commands.l1 k t code at_ seed) (r, a, s) ∧ r.size ≤ 110 ∧ at_ ≤ a ∧ a ≤ at_ + 4 * d + 4 := by
  induction d with
  | zero =>
    intro t at_ seed ht ht2 h0 h1
    obtain ⟨i, a1, s1, e1, i1, i2, i3, i4⟩ := cur_pick hc at_ seed 2 (by omega) (by omega) h0 (by omega)
    refine ⟨t, a1, s1, Ev.step (f := fun _ => some (t, a1, s1)) (fun k => ?_) (Ev.now _), by omega, by omega, by omega⟩
    rw [spec_l1Cur_commands.l1, e1]
    simp only [Option.bind_some]
    rw [w64 (by omega) (by omega), if_neg (by omega)]
  | succ d ih =>
    intro t at_ seed ht ht2 h0 h1
    obtain ⟨i, a1, s1, e1, i1, i2, i3, i4⟩ := cur_pick hc at_ seed 2 (by omega) (by omega) h0 (by omega)
    by_cases c : (t.size : Int) < 60 + i
    · obtain ⟨x, a2, s2, e2, hr, q1, q2⟩ := cur_of hc a1 s1 ([(⟨#[76]⟩ : ByteArray), (⟨#[82]⟩ : ByteArray)] : List ByteArray) (by simp) (by simp) (by omega) (by omega)
      have hz : x.size = 1 := by
        simp only [List.mem_cons, List.not_mem_nil, or_false] at hr
        rcases hr with rfl | rfl <;> decide
      have hts : (t ++ x).size = t.size + 1 := by rw [ByteArray.size_append, hz]
      obtain ⟨r, a, s, hE, h2, h3, h4⟩ := ih (t ++ x) a2 s2 (by omega) (by omega) (by omega) (by omega)
      refine ⟨r, a, s, Ev.step (fun k => ?_) hE, h2, by omega, by omega⟩
      rw [spec_l1Cur_commands.l1, e1]
      simp only [Option.bind_some]
      rw [w64 (by omega) (by omega), if_pos c, e2]
      simp only [Option.bind_some]
      rw [if_pos (by omega)]
    · refine ⟨t, a1, s1, Ev.step (f := fun _ => some (t, a1, s1)) (fun k => ?_) (Ev.now _), by omega, by omega, by omega⟩
      rw [spec_l1Cur_commands.l1, e1]
      simp only [Option.bind_some]
      rw [w64 (by omega) (by omega), if_neg c]
theorem commands_l0 (n : Nat) : ∀ (t : ByteArray) (at_ seed : Int), t.size + n ≤ 60 → 0 ≤ at_ → at_ + 2 * n ≤ 100000 → n ≤ 60 → ∃ r a s, Ev (fun k => spec_l1Cur_commands.l0 k t (n : Int) code at_ seed) (r, a, s) ∧ r.size ≤ 110 ∧ at_ ≤ a ∧ a ≤ at_ + 2 * n + 300 := by
  induction n with
  | zero =>
    intro t at_ seed ht h0 h1 hn
    obtain ⟨c, a1, s1, e1, c1, c2, c3, c4⟩ := cur_pick hc at_ seed 18 (by omega) (by omega) h0 (by omega)
    by_cases k0 : c = 0
    · obtain ⟨r, a, s, hE, hr, q1, q2⟩ := cur_spoilt hc t (⟨#[76, 82, 65, 83, 120]⟩ : ByteArray) (by decide) (by decide) (by omega) a1 s1 (by omega) (by omega)
      refine ⟨r, a, s, Ev.step (f := fun k => (spec_l1Cur_spoilt.f k code a1 s1 t (⟨#[76, 82, 65, 83, 120]⟩ : ByteArray)).bind fun bt253 => (some (bt253.1, bt253.2.1, bt253.2.2))) (fun k => ?_) (Ev.bind hE (Ev.now _)), by omega, by omega, by omega⟩
      rw [spec_l1Cur_commands.l0, if_neg (by decide), e1]
      simp only [Option.bind_some]
      rw [if_pos k0]
    · by_cases k1 : c = 1
      · obtain ⟨r, a, s, hE, hr, q1, q2⟩ := commands_l1 hc 61 t a1 s1 (by omega) (by omega) (by omega) (by omega)
        refine ⟨r, a, s, Ev.step (fun k => ?_) hE, by omega, by omega, by omega⟩
        rw [spec_l1Cur_commands.l0, if_neg (by decide), e1]
        simp only [Option.bind_some]
        rw [if_neg k0, if_pos k1]
      · refine ⟨t, a1, s1, Ev.step (f := fun _ => some (t, a1, s1)) (fun k => ?_) (Ev.now _), by omega, by omega, by omega⟩
        rw [spec_l1Cur_commands.l0, if_neg (by decide), e1]
        simp only [Option.bind_some]
        rw [if_neg k0, if_neg k1]
  | succ n ih =>
    intro t at_ seed ht h0 h1 hn
    have p1 : ((n + 1 : Nat) : Int) > 0 := by omega
    have hdn : wrap64 (((n + 1 : Nat) : Int) - 1) = (n : Int) := by rw [w64 (by omega) (by omega)]; omega
    obtain ⟨c, a1, s1, e1, hr, q1, q2⟩ := cur_of hc at_ seed ([(⟨#[76]⟩ : ByteArray), (⟨#[82]⟩ : ByteArray), (⟨#[65]⟩ : ByteArray), (⟨#[83]⟩ : ByteArray)] : List ByteArray) (by simp) (by simp) h0 (by omega)
    have hz : c.size = 1 := by
      simp only [List.mem_cons, List.not_mem_nil, or_false] at hr
      rcases hr with rfl | rfl | rfl | rfl <;> decide
    have hts : (t ++ c).size = t.size + 1 := by rw [ByteArray.size_append, hz]
    obtain ⟨r, a, s, hE, h2, h3, h4⟩ := ih (t ++ c) a1 s1 (by omega) (by omega) (by omega) (by omega)
    refine ⟨r, a, s, Ev.step (fun k => ?_) hE, h2, by omega, by omega⟩
    rw [spec_l1Cur_commands.l0, if_pos p1]
    rw [e1]
    simp only [Option.bind_some]
    rw [if_pos (by omega), hdn]
theorem cur_commands (at_ seed : Int) (h0 : 0 ≤ at_) (h1 : at_ ≤ 90000) : ∃ r a s, Ev (fun k => spec_l1Cur_commands.f k code at_ seed) (r, a, s) ∧ r.size ≤ 110 ∧ at_ ≤ a ∧ a ≤ at_ + 400 := by
  obtain ⟨i, a1, s1, e1, i1, i2, i3, i4⟩ := cur_pick hc at_ seed 10 (by omega) (by omega) h0 (by omega)
  obtain ⟨n, hn⟩ := Int.eq_ofNat_of_zero_le i1
  have hz : (⟨#[]⟩ : ByteArray).size = 0 := rfl
  obtain ⟨r, a, s, hE, hr, ha1, ha2⟩ := commands_l0 hc n (⟨#[]⟩ : ByteArray) a1 s1 (by omega) (by omega) (by omega) (by omega)
  refine ⟨r, a, s, Ev.congr (fun k => ?_) hE, by omega, by omega, by omega⟩
  unfold spec_l1Cur_commands.f
  rw [e1]
  simp only [Option.bind_some]
  rw [hn]
end
section
variable {code : List Int} (hc : ∀ x ∈ code, 0 ≤ x ∧ x ≤ 255)
include hc
theorem cur_one' (at_ seed n : Int) (hn : 1 ≤ n) (hn2 : n ≤ 1000000) (h0 : 0 ≤ at_) (h1 : at_ ≤ 900000000) : ∃ r a s, spec_l1Cur_one.f code at_ seed n = some (r, a, s) ∧ at_ ≤ a ∧ a ≤ at_ + 2 := by
  obtain ⟨r, a, s, e, q1, q2, q3, q4⟩ := cur_pick hc at_ seed n hn hn2 h0 h1
  refine ⟨r == 0, a, s, ?_, q3, q4⟩
  unfold spec_l1Cur_one.f
  rw [e]
  rfl
theorem mis_end (N : Int) (w : ByteArray) (l : List S34) (x8 at_ seed : Int) (hl : l.length ≤ 100) (h0 : 0 ≤ at_) (h1 : at_ ≤ 1000000) : ∃ r a s, Ev (fun k => spec_l1Cur_mistakes.j1 k N w l x8 false code at_ seed) (r, a, s) ∧ r.length ≤ l.length + 1 ∧ at_ ≤ a ∧ a ≤ at_ + 10 := by
  obtain ⟨b, a1, s1, e1, q1, q2⟩ := cur_one' hc at_ seed 14 (by omega) (by omega) h0 (by omega)
  cases b with
  | false =>
    refine ⟨l, a1, s1, Ev.step (f := fun _ => some (l, a1, s1)) (fun k => ?_) (Ev.now _), by omega, by omega, by omega⟩
    rw [spec_l1Cur_mistakes.j1, if_neg (by decide), e1]
    rfl
  | true =>
    obtain ⟨x, a2, s2, e2, _, q3, q4⟩ := cur_among hc a1 s1 ([(-1), 0, 1, 30, 4611686018427387904] : List Int) (by simp) (by simp) (by omega) (by omega)
    obtain ⟨y, a3, s3, e3, _, q5, q6⟩ := cur_among hc a2 s2 ([(-1), 0, 1, 60, 4611686018427387904] : List Int) (by simp) (by simp) (by omega) (by omega)
    obtain ⟨z, a4, s4, e4, _, q7, q8⟩ := cur_of hc a3 s3 ([(⟨#[]⟩ : ByteArray), (⟨#[76]⟩ : ByteArray), (⟨#[120]⟩ : ByteArray), (⟨#[76, 82]⟩ : ByteArray)] : List ByteArray) (by simp) (by simp) (by omega) (by omega)
    refine ⟨l ++ [⟨x, y, z⟩], a4, s4, Ev.step (f := fun _ => some (l ++ [⟨x, y, z⟩], a4, s4)) (fun k => ?_) (Ev.now _), by simp, by omega, by omega⟩
    rw [spec_l1Cur_mistakes.j1, if_neg (by decide), e1]
    simp only [Option.bind_some, if_true]
    rw [e2]
    simp only [Option.bind_some]
    rw [e3]
    simp only [Option.bind_some]
    rw [e4]
    simp only [Option.bind_some]
    rw [if_pos (by simp only [List.length_cons, List.length_nil]; omega)]
theorem mis_l0 (N : Int) (w : ByteArray) (hw : w.size ≤ 1000) (n : Nat) : ∀ (l : List S34) (at_ seed : Int), l.length + n ≤ 50 → 0 ≤ at_ → at_ + 12 * n ≤ 1000000 → n ≤ 50 → ∃ r a s, Ev (fun k => spec_l1Cur_mistakes.l0 k N w l (n : Int) code at_ seed) (r, a, s) ∧ r.length ≤ 100 ∧ at_ ≤ a ∧ a ≤ at_ + 12 * n + 10 := by
  induction n with
  | zero =>
    intro l at_ seed hl h0 h1 hn
    obtain ⟨r, a, s, hE, p1, p2, p3⟩ := mis_end hc N w l ((0 : Nat) : Int) at_ seed (by omega) h0 (by omega)
    exact ⟨r, a, s, Ev.step (fun k => by rw [spec_l1Cur_mistakes.l0, if_neg (by decide)]) hE, by omega, by omega, by omega⟩
  | succ n ih =>
    intro l at_ seed hl h0 h1 hn
    have p1 : ((n + 1 : Nat) : Int) > 0 := by omega
    have hdn : wrap64 (((n + 1 : Nat) : Int) - 1) = (n : Int) := by rw [w64 (by omega) (by omega)]; omega
    by_cases c1 : (w.size : Int) > 0
    · by_cases c2 : N > 0
      · obtain ⟨m, em, hm1, hm2⟩ : ∃ m, spec_l1Least.f 31 N = some m ∧ 1 ≤ m ∧ m ≤ 31 := by
          unfold spec_l1Least.f
          by_cases c : 31 < N
          · exact ⟨31, if_pos c, by omega, by omega⟩
          · exact ⟨N, if_neg c, by omega, by omega⟩
        obtain ⟨x, a1, s1, e1, _, _, i3, i4⟩ := cur_pick hc at_ seed m hm1 (by omega) h0 (by omega)
        obtain ⟨y, a2, s2, e2, _, _, j3, j4⟩ := cur_pick hc a1 s1 (w.size : Int) (by omega) (by omega) (by omega) (by omega)
        obtain ⟨z, a3, s3, e3, _, k3, k4⟩ := cur_of hc a2 s2 ([(⟨#[76]⟩ : ByteArray), (⟨#[82]⟩ : ByteArray), (⟨#[65]⟩ : ByteArray), (⟨#[83]⟩ : ByteArray)] : List ByteArray) (by simp) (by simp) (by omega) (by omega)
        obtain ⟨l', hl'⟩ : ∃ l' : List S34, l' = (([] : List S34) ++ l) ++ [⟨x, y, z⟩] := ⟨_, rfl⟩
        have hlen : l'.length = l.length + 1 := by rw [hl']; simp
        have hmist := spec_mist N w l' (by omega) (by omega)
        have go : ∀ k, spec_l1Cur_mistakes.j1 (k + 1) N w l ((n + 1 : Nat) : Int) true code at_ seed = (spec_drMistakes.f k N w l').bind fun t319 => (if t319 = true then (spec_l1Cur_mistakes.l0 k N w l' (n : Int) code a3 s3) else ((spec_l1Cur_one.f code a3 s3 10).bind fun bt320 => (if bt320.1 = true then (spec_l1Cur_mistakes.l0 k N w l' (n : Int) code bt320.2.1 bt320.2.2) else (spec_l1Cur_mistakes.l0 k N w l (n : Int) code bt320.2.1 bt320.2.2)))) := by
          intro k
          rw [spec_l1Cur_mistakes.j1, if_pos rfl, em]
          simp only [Option.bind_some]
          rw [e1]
          simp only [Option.bind_some]
          rw [e2]
          simp only [Option.bind_some]
          rw [e3]
          simp only [Option.bind_some]
          rw [if_pos (by simp only [List.length_nil]; omega), if_pos (by simp only [List.length_append, List.length_cons, List.length_nil]; omega), ← hl', hdn]
        have hst : ∀ k, spec_l1Cur_mistakes.l0 (k + 1) N w l ((n + 1 : Nat) : Int) code at_ seed = spec_l1Cur_mistakes.j1 k N w l ((n + 1 : Nat) : Int) true code at_ seed := fun k => by rw [spec_l1Cur_mistakes.l0, if_pos p1, if_pos c1, decide_eq_true c2]
        cases ht : mistB N w l' with
        | true =>
          rw [ht] at hmist
          obtain ⟨r, a, s, hE, q1, q2, q3⟩ := ih l' a3 s3 (by omega) (by omega) (by omega) (by omega)
          exact ⟨r, a, s, Ev.step hst (Ev.step go (Ev.bind hmist (Ev.congr (fun k => if_pos rfl) hE))), q1, by omega, by omega⟩
        | false =>
          rw [ht] at hmist
          obtain ⟨b, a4, s4, e4, k5, k6⟩ := cur_one' hc a3 s3 10 (by omega) (by omega) (by omega) (by omega)
          cases b with
          | true =>
            obtain ⟨r, a, s, hE, q1, q2, q3⟩ := ih l' a4 s4 (by omega) (by omega) (by omega) (by omega)
            refine ⟨r, a, s, Ev.step hst (Ev.step go (Ev.bind hmist (Ev.congr (fun k => ?_) hE))), q1, by omega, by omega⟩
            rw [if_neg (by decide), e4]
            rfl
          | false =>
            obtain ⟨r, a, s, hE, q1, q2, q3⟩ := ih l a4 s4 (by omega) (by omega) (by omega) (by omega)
            refine ⟨r, a, s, Ev.step hst (Ev.step go (Ev.bind hmist (Ev.congr (fun k => ?_) hE))), q1, by omega, by omega⟩
            rw [if_neg (by decide), e4]
            rfl
      · obtain ⟨r, a, s, hE, q1, q2, q3⟩ := mis_end hc N w l ((n + 1 : Nat) : Int) at_ seed (by omega) h0 (by omega)
        exact ⟨r, a, s, Ev.step (fun k => by rw [spec_l1Cur_mistakes.l0, if_pos p1, if_pos c1, decide_eq_false c2]) hE, by omega, by omega, by omega⟩
    · obtain ⟨r, a, s, hE, q1, q2, q3⟩ := mis_end hc N w l ((n + 1 : Nat) : Int) at_ seed (by omega) h0 (by omega)
      exact ⟨r, a, s, Ev.step (fun k => by rw [spec_l1Cur_mistakes.l0, if_pos p1, if_neg c1]) hE, by omega, by omega, by omega⟩
theorem cur_mistakes (N : Int) (w : ByteArray) (hw : w.size ≤ 1000) (at_ seed : Int) (h0 : 0 ≤ at_) (h1 : at_ ≤ 900000) : ∃ r a s, Ev (fun k => spec_l1Cur_mistakes.f k code at_ seed N w) (r, a, s) ∧ r.length ≤ 100 := by
  obtain ⟨i, a1, s1, e1, i1, i2, i3, i4⟩ := cur_pick hc at_ seed 5 (by omega) (by omega) h0 (by omega)
  obtain ⟨n, hn⟩ := Int.eq_ofNat_of_zero_le i1
  obtain ⟨r, a, s, hE, q1, _, _⟩ := mis_l0 hc N w hw n [] a1 s1 (by simp; omega) (by omega) (by omega) (by omega)
  refine ⟨r, a, s, Ev.congr (fun k => ?_) hE, q1⟩
  unfold spec_l1Cur_mistakes.f
  rw [e1]
  simp only [Option.bind_some]
  rw [hn]
theorem draw_fm : ∃ r, Ev (fun k => spec_DrawFacingWithMistakes.f k code) r ∧ r.1.size ≤ 110 ∧ r.2.1.size ≤ 110 ∧ r.2.2.length ≤ 100 := by
  obtain ⟨r, a, s, e1, h1, q1, q2⟩ := cur_facing hc 0 0 (by omega) (by omega)
  obtain ⟨r2, a2, s2, e2, h2, q3, q4⟩ := cur_commands hc a s (by omega) (by omega)
  obtain ⟨r3, a3, s3, e3, h3⟩ := cur_mistakes hc (r.size : Int) r2 (by omega) a2 s2 (by omega) (by omega)
  refine ⟨(r, r2, r3), ?_, h1, h2, h3⟩
  unfold spec_DrawFacingWithMistakes.f spec_l1Cur_drilled.f
  exact Ev.bind (Ev.bind e1 (Ev.bind e2 (Ev.bind e3 (Ev.now _)))) (Ev.now _)
theorem draw_ww : ∃ r, Ev (fun k => spec_DrawWaysToFace.f k code) r ∧ r.1.size ≤ 110 := by
  obtain ⟨r, a, s, e0, h0, q1, q2⟩ := cur_commands hc 0 0 (by omega) (by omega)
  have hw : wrap64 ((r.size : Int) + 2) = (r.size : Int) + 2 := w64 (by omega) (by omega)
  obtain ⟨r1, a1, s1, e1, _, _, q3, q4⟩ := cur_pick hc a s ((r.size : Int) + 2) (by omega) (by omega) (by omega) (by omega)
  obtain ⟨r2, a2, s2, e2, _, _, q5, q6⟩ := cur_pick hc a1 s1 9 (by omega) (by omega) (by omega) (by omega)
  obtain ⟨r3, a3, s3, e3, _, _, q7, q8⟩ := cur_pick hc a2 s2 5 (by omega) (by omega) (by omega) (by omega)
  obtain ⟨r4, a4, s4, e4, _, _, _, _⟩ := cur_pick hc a3 s3 9 (by omega) (by omega) (by omega) (by omega)
  refine ⟨(r, wrap64 (r1 - wrap64 (Int.tdiv r2 8)), wrap64 (r3 - wrap64 (Int.tdiv r4 8))), ?_, h0⟩
  unfold spec_DrawWaysToFace.f
  refine Ev.bind e0 ?_
  refine Ev.congr (fun k => ?_) (Ev.now _)
  rw [hw, e1]
  simp only [Option.bind_some]
  rw [e2]
  simp only [Option.bind_some]
  rw [e3]
  simp only [Option.bind_some]
  rw [e4]
  rfl
theorem draw_am : ∃ r, Ev (fun k => spec_DrawAreMistakes.f k code) r ∧ r.2.1.size ≤ 110 ∧ r.2.2.length ≤ 100 := by
  obtain ⟨x, a, s, e1, _, q1, q2⟩ := cur_among hc 0 0 ([1, 2, 3, 5, 8, 30, 31, 0, (-1)] : List Int) (by simp) (by simp) (by omega) (by omega)
  obtain ⟨r2, a2, s2, e2, h2, q3, q4⟩ := cur_commands hc a s (by omega) (by omega)
  obtain ⟨r3, a3, s3, e3, h3⟩ := cur_mistakes hc x r2 (by omega) a2 s2 (by omega) (by omega)
  refine ⟨(x, r2, r3), ?_, h2, h3⟩
  unfold spec_DrawAreMistakes.f
  refine Ev.congr (f := fun k => (spec_l1Cur_commands.f k code a s).bind fun c1 => (spec_l1Cur_mistakes.f k code c1.2.1 c1.2.2 x c1.1).bind fun c2 => some (x, c1.1, c2.1)) (fun k => ?_) (Ev.bind e2 (Ev.bind e3 (Ev.now _)))
  rw [e1]
  rfl
end
theorem dm_j4 {more : List Int} (hm : ∀ x ∈ more, 0 ≤ x ∧ x ≤ 255) : Ev (fun k => laws_FnDrillsMistaken.j3 k more) true := by
  obtain ⟨⟨w, x1, x2⟩, dw, hw⟩ := draw_ww hm
  obtain ⟨⟨n, said, l⟩, da, hs, hl⟩ := draw_am hm
  replace hw : w.size ≤ 110 := hw
  replace hs : said.size ≤ 110 := hs
  replace hl : l.length ≤ 100 := hl
  obtain ⟨r, b, e1, e2, e3, e4, h5⟩ := dm_second w x1 x2 n said l (by omega) (by omega) (by omega)
  have nb : ∀ b : Bool, ¬ ((b != b) = true) := fun b => by simp
  refine Ev.step (f := fun k => ((spec_DrawWaysToFace.f k more).bind fun bt415 => ((impl_WaysToFace.f k bt415.1 bt415.2.1 bt415.2.2).bind fun bt418 => ((spec_WaysToFace.f k bt415.1 bt415.2.1 bt415.2.2).bind fun bt420 => ((spec_DrawAreMistakes.f k more).bind fun bt422 => (if (bt418.2 != bt420.2) = true then (laws_FnDrillsMistaken.j4 k bt415.1 bt415.2.1 bt415.2.2 bt418.1 bt418.2 true) else (if bt418.1 = bt420.1 then ((impl_AreMistakes.f k bt422.1 bt422.2.1 bt422.2.2).bind fun t427 => ((spec_AreMistakes.f k bt422.1 bt422.2.1 bt422.2.2).bind fun t428 => (laws_FnDrillsMistaken.j4 k bt415.1 bt415.2.1 bt415.2.2 bt418.1 bt418.2 (t427 != t428)))) else (laws_FnDrillsMistaken.j4 k bt415.1 bt415.2.1 bt415.2.2 bt418.1 bt418.2 true)))))))) (fun k => by rw [laws_FnDrillsMistaken.j3]) ?_
  refine Ev.bind dw (Ev.bind e1 (Ev.bind e2 (Ev.bind da (Ev.congr (fun k => (if_neg (nb _)).trans (if_pos rfl)) (Ev.bind e3 (Ev.bind e4 ?_))))))
  simp only [bne_self_eq_false]
  exact h5
theorem dm_core (code more : List Int) (hcode : ∀ x ∈ code, 0 ≤ x ∧ x ≤ 255) (hmore : ∀ x ∈ more, 0 ≤ x ∧ x ≤ 255) : Ev (fun k => laws_FnDrillsMistaken.f k code more) true := by
  have h4 := dm_j4 hmore
  obtain ⟨⟨fac, word, l⟩, dl, hF, hW, hl⟩ := draw_fm hcode
  replace hF : fac.size ≤ 110 := hF
  replace hW : word.size ≤ 110 := hW
  replace hl : l.length ≤ 100 := hl
  obtain ⟨after, cor, wr, ok, i1, s1, i2, s2, i3, s3, hwl, hok⟩ := dm_all fac word l (by omega) (by omega) (by omega)
  have h1 := dm_j1 h4 fac word after cor wr l ok hwl hok
  have hv := vSame_self wr (by omega)
  have nb : ∀ b : Bool, ¬ ((b != b) = true) := fun b => by simp
  by_cases hbig : laws_big.f code more = some true
  · refine Ev.congr (f := fun _ => some true) (fun k => ?_) (Ev.now true)
    simp only [laws_FnDrillsMistaken.f, hbig, Option.bind_some, if_true]
  have hbig2 : laws_big.f code more = some false := by
    unfold laws_big.f at hbig ⊢
    by_cases c1 : (code.length : Int) > 1048576
    · rw [if_pos c1] at hbig
      exact absurd rfl hbig
    · rw [if_neg c1] at hbig ⊢
      cases hd : decide ((more.length : Int) > wrap64 (1048576 - (code.length : Int))) with
      | true => rw [hd] at hbig; exact absurd rfl hbig
      | false => rfl
  unfold laws_FnDrillsMistaken.f
  refine Ev.bind (Ev.congr (f := fun _ => some false) (fun _ => hbig2) (Ev.now false)) ?_
  refine Ev.congr (fun k => if_neg (by decide)) ?_
  refine Ev.bind dl ?_
  refine Ev.bind i1 (Ev.bind s1 (Ev.bind i2 (Ev.bind s2 (Ev.bind i3 (Ev.bind s3 ?_)))))
  refine Ev.congr (fun k => (if_neg (nb _)).trans ((if_pos rfl).trans (if_neg (nb _)))) (Ev.bind hv (Ev.congr (fun k => (if_pos rfl).trans ((if_neg (nb _)).trans ((if_pos rfl).trans (if_neg (nb _))))) ?_))
  simp only [bne_self_eq_false]
  exact h1
theorem byte_wf {x : Int} (h : (Lit.int .u8 x).wf = true) : 0 ≤ x ∧ x ≤ 255 := by
  have h' : IntKind.u8.min ≤ x ∧ x ≤ IntKind.u8.max := by simpa [Lit.wf] using h
  have e1 : IntKind.u8.min = 0 := by decide
  have e2 : IntKind.u8.max = 255 := by decide
  omega
theorem FnDrillsMistaken : ∀ (l0 : List Int) (l1 : List Int), l0.length ≤ maxLen → (∀ x ∈ l0, (Lit.int .u8 x).wf = true) → l1.length ≤ maxLen → (∀ x ∈ l1, (Lit.int .u8 x).wf = true) → ∃ k, laws_FnDrillsMistaken.f k l0 l1 = some true := by
  intro l0 l1 _ w0 _ w1
  refine Ev.rounds (r := true) ?_
  exact dm_core l0 l1 (fun x hx => byte_wf (w0 x hx)) (fun x hx => byte_wf (w1 x hx))

end Go.Proofs.YtgdmbhldabeelaaRDoor.Pure
