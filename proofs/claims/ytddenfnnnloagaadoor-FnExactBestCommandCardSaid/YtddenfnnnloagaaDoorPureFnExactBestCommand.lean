/- For every text and way, the program's BestCommand answers what the reference's does. -/
import Derived.Test.YtddenfnnnloagaaDoorPFnExactBestCommandx2
namespace Go.Proofs.YtddenfnnnloagaaDoor.Pure
open Go.RowKit Go.Proofs.YtddenfnnnloagaaDoor.PFnExactBestCommand Go.Proofs.YtddenfnnnloagaaDoorW.PrintWords Go.Proofs.YtddenfnnnloagaaDoorW.PrintLast
set_option linter.unusedVariables false
set_option linter.unusedSimpArgs false

theorem w64 {x : Int} (h1 : -9223372036854775808 ≤ x) (h2 : x ≤ 9223372036854775807) : wrap64 x = x := by
  unfold wrap64
  omega
theorem wf_lo {a : Int} (h : (Lit.int .i64 a).wf = true) : -9223372036854775808 ≤ a := by
  have h' : IntKind.i64.min ≤ a ∧ a ≤ IntKind.i64.max := by simpa [Lit.wf] using h
  have e : IntKind.i64.min = -9223372036854775808 := by decide
  omega
theorem wf_hi {a : Int} (h : (Lit.int .i64 a).wf = true) : a ≤ 9223372036854775807 := by
  have h' : IntKind.i64.min ≤ a ∧ a ≤ IntKind.i64.max := by simpa [Lit.wf] using h
  have e : IntKind.i64.max = 9223372036854775807 := by decide
  omega
theorem ev_congr_fun {α : Type} {g f : Nat → Option α} {r : α} (h : g = f) (k : Ev f r) : Ev g r := h ▸ k
theorem rd_mid (pre : List Int) (x : Int) (rest : List Int) : rd (pre ++ x :: rest) (pre.length : Int) = x := by
  simp [rd]
theorem bt_eq (s : ByteArray) (i : Nat) (h : i < s.data.toList.length) : bt s (i : Int) = ((s.data.toList[i]'h).toNat : Int) := by
  have h' : i < s.size := by rw [Lib.size_eq]; exact h
  unfold bt
  rw [dif_pos (by simpa using h')]
  simp only [Int.toNat_natCast]
  rw [Array.getElem_toList]
  rfl
theorem dropWhile_nil {α : Type} (p : α → Bool) (l : List α) : l.dropWhile p = [] ↔ l.all p = true := by
  induction l with
  | nil => simp
  | cons x l ih =>
    by_cases h : p x = true
    · simp [List.dropWhile, h, ih]
    · simp [List.dropWhile, h]
theorem dropWhile_all {α : Type} (p : α → Bool) (l : List α) (h : (l.dropWhile p).all p = true) : l.dropWhile p = [] := by
  induction l with
  | nil => rfl
  | cons x l ih =>
    by_cases hx : p x = true
    · simp only [List.dropWhile, hx] at h ⊢
      exact ih h
    · simp [List.dropWhile, hx] at h
theorem trim_nil (l cs : List UInt8) : Lib.trimS l cs = [] ↔ l.all (cs.contains ·) = true := by
  unfold Lib.trimS Lib.trimLeftS Lib.trimRightS
  rw [dropWhile_nil, List.all_reverse]
  constructor
  · intro h
    have := dropWhile_all _ _ h
    rw [dropWhile_nil, List.all_reverse] at this
    exact this
  · intro h
    rw [← List.all_reverse, ← dropWhile_nil] at h
    rw [h]; rfl
theorem trim_f (s c : ByteArray) (hs : s.size ≤ 140737488351232) (hc : c.size ≤ 1000000) (ha : c.data.toList.all (fun b => decide (b.toNat < 128)) = true) :
    strings_Trim.f s c = some ⟨(Lib.trimS s.data.toList c.data.toList).toArray⟩ := by
  unfold strings_Trim.f
  rw [if_pos ⟨by omega, hc, ha⟩]
theorem empty_test (l : List UInt8) : ((⟨l.toArray⟩ : ByteArray).toList == ([] : List UInt8)) = l.isEmpty := by
  rw [Lib.toList_data]
  cases l <;> rfl
theorem trim_test (l cs : List UInt8) : (Lib.trimS l cs).isEmpty = l.all (cs.contains ·) := by
  rw [Bool.eq_iff_iff, List.isEmpty_iff, trim_nil]
theorem l1In_eq (a b c : Int) : spec_l1In.f a b c = some (decide (b ≤ a) && decide (a ≤ c)) := by
  unfold spec_l1In.f
  by_cases h : b ≤ a
  · rw [if_pos h]; simp [h]
  · rw [if_neg (show ¬ a ≥ b from h)]; simp [h]
theorem in_eq (a b c : Int) : impl_in.f a b c = some (decide (b ≤ a) && decide (a ≤ c)) := by
  unfold impl_in.f
  by_cases h : b ≤ a
  · rw [if_pos h]; simp [h]
  · rw [if_neg h]; simp [h]
theorem cast_len {α : Type} (l : List α) : (decide ((1 : Int) ≤ (l.length : Int)) && decide ((l.length : Int) ≤ 6)) = (decide (1 ≤ l.length) && decide (l.length ≤ 6)) := by
  congr 1 <;> exact decide_eq_decide.2 (by omega)
def facB (s : ByteArray) : Bool := (decide (1 ≤ (s.size : Int)) && decide ((s.size : Int) ≤ 30)) && s.data.toList.all (([48, 49, 50, 51] : List UInt8).contains ·)
theorem fac_byte (b : UInt8) : ([48, 49, 50, 51] : List UInt8).contains b = (decide (0 ≤ (b.toNat : Int) - 48) && decide ((b.toNat : Int) - 48 ≤ 3)) := by
  have h : b = UInt8.ofNat b.toNat := by simp
  have hb := b.toNat_lt
  rw [Bool.eq_iff_iff]
  simp only [List.contains_iff_mem, List.mem_cons, List.not_mem_nil, or_false, Bool.and_eq_true, decide_eq_true_eq, ← UInt8.toNat_inj]
  have e1 : (48 : UInt8).toNat = 48 := rfl
  have e2 : (49 : UInt8).toNat = 49 := rfl
  have e3 : (50 : UInt8).toNat = 50 := rfl
  have e4 : (51 : UInt8).toNat = 51 := rfl
  rw [e1, e2, e3, e4]
  omega
theorem spec_fac_l0 (s : ByteArray) (hs : s.data.toList.length ≤ 140737488351232) (d : Nat) : ∀ i : Nat, i + d = s.data.toList.length → Ev (fun k => spec_drFacing.l0 k s i) ((s.data.toList.drop i).all (([48, 49, 50, 51] : List UInt8).contains ·)) := by
  have hz := Lib.size_eq s
  induction d with
  | zero =>
    intro i hi
    rw [List.drop_of_length_le (by omega)]
    exact Ev.step (f := fun _ => some true) (fun k => by rw [spec_drFacing.l0, if_neg (by omega)]) (Ev.now _)
  | succ d ih =>
    intro i hi
    have hil : i < s.data.toList.length := by omega
    have hb := (s.data.toList[i]).toNat_lt
    rw [List.drop_eq_getElem_cons hil, List.all_cons, fac_byte]
    refine Ev.step (f := fun k => if (decide (0 ≤ ((s.data.toList[i]).toNat : Int) - 48) && decide (((s.data.toList[i]).toNat : Int) - 48 ≤ 3)) = true then spec_drFacing.l0 k s ((i + 1 : Nat) : Int) else some false) (fun k => ?_) ?_
    · rw [spec_drFacing.l0, if_pos (by omega), if_pos (by omega), bt_eq s i hil, w64 (x := ((s.data.toList[i]).toNat : Int)) (by omega) (by omega), w64 (x := ((s.data.toList[i]).toNat : Int) - 48) (by omega) (by omega), l1In_eq, w64 (x := (i : Int) + 1) (by omega) (by omega)]
      rfl
    · cases hc : (decide (0 ≤ ((s.data.toList[i]).toNat : Int) - 48) && decide (((s.data.toList[i]).toNat : Int) - 48 ≤ 3)) with
      | true => simpa using ih (i + 1) (by omega)
      | false => simpa using Ev.now false
theorem spec_fac (s : ByteArray) (hs : s.size ≤ 140737488351232) : Ev (fun k => spec_drFacing.f k s) (facB s) := by
  have hz := Lib.size_eq s
  unfold spec_drFacing.f facB
  simp only [l1In_eq, Option.bind_some]
  cases (decide (1 ≤ (s.size : Int)) && decide ((s.size : Int) ≤ 30)) with
  | true => simpa using spec_fac_l0 s (by omega) s.data.toList.length 0 (by omega)
  | false => simpa using Ev.now false
theorem impl_fac (s : ByteArray) (hs : s.size ≤ 140737488351232) : impl_areFacing.f s = some (facB s) := by
  unfold impl_areFacing.f facB
  simp only [in_eq, Option.bind_some]
  rw [trim_f s _ hs (by decide) (by decide)]
  simp only [Option.bind_some, empty_test, trim_test]
  cases (decide (1 ≤ (s.size : Int)) && decide ((s.size : Int) ≤ 30)) <;> rfl
theorem facB_size {s : ByteArray} (h : facB s = true) : 1 ≤ s.size ∧ s.size ≤ 30 := by
  unfold facB at h
  simp only [Bool.and_eq_true, decide_eq_true_eq] at h
  omega
theorem facB_at {s : ByteArray} (h : facB s = true) (i : Nat) (hi : i < s.size) : ∃ v : Nat, v ≤ 3 ∧ bt s (i : Int) = 48 + (v : Int) := by
  have hz := Lib.size_eq s
  unfold facB at h
  simp only [Bool.and_eq_true] at h
  have hm := List.all_eq_true.1 h.2 _ (List.getElem_mem (show i < s.data.toList.length by omega))
  rw [fac_byte] at hm
  simp only [Bool.and_eq_true, decide_eq_true_eq] at hm
  refine ⟨(s.data.toList[i]).toNat - 48, by omega, ?_⟩
  rw [bt_eq s i (by omega)]
  omega
def cntW (s : ByteArray) (i : Nat) (w : Nat) : Nat := (s.data.toList.drop i).count (UInt8.ofNat (48 + w))
theorem cntW_le (s : ByteArray) (i w : Nat) : cntW s i w ≤ s.size := by
  have hz := Lib.size_eq s
  unfold cntW
  have := List.count_le_length (a := UInt8.ofNat (48 + w)) (l := s.data.toList.drop i)
  rw [List.length_drop] at this
  omega
theorem impl_cnt (s : ByteArray) (w : Nat) (hw : w ≤ 3) : strings_Count.f s (strOfNums [wrap64 (48 + (w : Int)) % 256]) = some (cntW s 0 w : Int) := by
  unfold strings_Count.f
  rw [if_pos (by simp [strOfNums_size]), w64 (by omega) (by omega)]
  have e : (48 + (w : Int)) % 256 = ((48 + w : Nat) : Int) := by omega
  rw [e]
  rfl
theorem cntW_end (s : ByteArray) (i w : Nat) (h : i = s.size) : cntW s i w = 0 := by
  have hz := Lib.size_eq s
  unfold cntW
  rw [List.drop_of_length_le (by omega)]
  rfl
theorem cntW_step {s : ByteArray} (hf : facB s = true) (w : Nat) (hw : w ≤ 3) (i v : Nat) (hi : i < s.size) (hv : v ≤ 3) (hb : bt s (i : Int) = 48 + (v : Int)) : cntW s i w = (if v = w then 1 else 0) + cntW s (i + 1) w := by
  have hz := Lib.size_eq s
  have hil : i < s.data.toList.length := by omega
  have hb2 := bt_eq s i hil
  unfold cntW
  rw [List.drop_eq_getElem_cons hil, List.count_cons]
  have e : s.data.toList[i] = UInt8.ofNat (48 + v) := by
    apply UInt8.toNat_inj.1
    rw [UInt8.toNat_ofNat']
    omega
  rw [e]
  have e2 : (UInt8.ofNat (48 + v) == UInt8.ofNat (48 + w)) = decide (v = w) := by
    rw [Bool.eq_iff_iff, beq_iff_eq, decide_eq_true_eq, ← UInt8.toNat_inj, UInt8.toNat_ofNat', UInt8.toNat_ofNat']
    omega
  rw [e2]
  by_cases c : v = w <;> simp [c] <;> omega
def xsC : List Int := [83, 76, 82, 65]
def bsC : List ByteArray := [(⟨#[83]⟩ : ByteArray), (⟨#[76]⟩ : ByteArray), (⟨#[82]⟩ : ByteArray), (⟨#[65]⟩ : ByteArray)]
theorem spec_bc_l1 (s : ByteArray) (hf : facB s = true) (way w : Nat) (c t : Int) (hway : way ≤ 3) (ht0 : 0 ≤ t) (ht3 : t ≤ 3) (hc : spec_drTurn.f c = some t) (hw : (w : Int) = (way + 4 - t) % 4) (best : ByteArray) (most j : Int) (d : Nat) : ∀ (i : Nat) (n : Nat), i + d = s.size → n ≤ i →
    ∀ r, Ev (fun k => if ((n + cntW s i w : Nat) : Int) > most then (spec_drSign.f t).bind fun t111 => spec_BestCommand.l0 k s way t111 ((n + cntW s i w : Nat) : Int) xsC 4 (wrap64 (j + 1)) else spec_BestCommand.l0 k s way best most xsC 4 (wrap64 (j + 1))) r → Ev (fun k => spec_BestCommand.l1 k s way best most c n i xsC 4 j) r := by
  have hsz := facB_size hf
  induction d with
  | zero =>
    intro i n hi hn r h
    refine Ev.step (fun k => ?_) h
    rw [spec_BestCommand.l1, if_neg (by omega), hc, cntW_end s i w (by omega)]
    rfl
  | succ d ih =>
    intro i n hi hn r h
    obtain ⟨v, hv, hb⟩ := facB_at hf i (by omega)
    have hcn := cntW_step hf w (by omega) i v (by omega) hv hb
    have e : Int.tmod (wrap64 ((bt s (i : Int) - 48) % 256 + t)) 4 = ((v : Int) + t) % 4 := by
      have e1 : (bt s (i : Int) - 48) % 256 = v := by rw [hb]; omega
      rw [e1, w64 (by omega) (by omega), Int.tmod_eq_emod_of_nonneg (by omega)]
    by_cases cc : v = w
    · refine Ev.step (f := fun k => spec_BestCommand.l1 k s way best most c ((n + 1 : Nat) : Int) ((i + 1 : Nat) : Int) xsC 4 j) (fun k => ?_) (ih (i + 1) (n + 1) (by omega) (by omega) r ?_)
      · rw [spec_BestCommand.l1, if_pos (by omega), if_pos (by omega), hc, Option.bind_some, e, if_pos (by omega), w64 (x := (n : Int) + 1) (by omega) (by omega), w64 (x := (i : Int) + 1) (by omega) (by omega)]
        rfl
      · rw [hcn, if_pos cc, ← Nat.add_assoc] at h
        exact h
    · refine Ev.step (f := fun k => spec_BestCommand.l1 k s way best most c (n : Int) ((i + 1 : Nat) : Int) xsC 4 j) (fun k => ?_) (ih (i + 1) n (by omega) (by omega) r ?_)
      · rw [spec_BestCommand.l1, if_pos (by omega), if_pos (by omega), hc, Option.bind_some, e, if_neg (by omega), w64 (x := (i : Int) + 1) (by omega) (by omega)]
        rfl
      · rw [hcn, if_neg cc, Nat.zero_add] at h
        exact h
theorem both_step (s : ByteArray) (hf : facB s = true) (way : Nat) (hway : way ≤ 3) (j c t : Int) (B : ByteArray) (hj0 : 0 ≤ j) (hj4 : j < 4) (ht0 : 0 ≤ t) (ht3 : t ≤ 3)
    (hx : rd xsC j = c) (hB : rdOf ByteArray.empty bsC j = B) (hB1 : B.size = 1) (hB0 : bt B 0 = c) (hc : spec_drTurn.f c = some t) (hi : impl_turnOf.f c = some t) (hs : spec_drSign.f t = some B)
    (next : ∀ best most, ∃ r, Ev (fun k => spec_BestCommand.l0 k s way best most xsC 4 (j + 1)) r ∧ Ev (fun k => impl_BestCommand.l0 k s way best most bsC 4 (j + 1)) r) (best : ByteArray) (most : Int) :
    ∃ r, Ev (fun k => spec_BestCommand.l0 k s way best most xsC 4 j) r ∧ Ev (fun k => impl_BestCommand.l0 k s way best most bsC 4 j) r := by
  obtain ⟨w, hw⟩ := Int.eq_ofNat_of_zero_le (show 0 ≤ ((way : Int) + 4 - t) % 4 by omega)
  have lx : (xsC.length : Int) = 4 := rfl
  have lb : (bsC.length : Int) = 4 := rfl
  have es : ∀ r, Ev (fun k => if ((cntW s 0 w : Nat) : Int) > most then spec_BestCommand.l0 k s way B ((cntW s 0 w : Nat) : Int) xsC 4 (j + 1) else spec_BestCommand.l0 k s way best most xsC 4 (j + 1)) r → Ev (fun k => spec_BestCommand.l0 k s way best most xsC 4 j) r := by
    intro r h
    refine Ev.step (f := fun k => spec_BestCommand.l1 k s way best most c ((0 : Nat) : Int) ((0 : Nat) : Int) xsC 4 j) (fun k => by rw [spec_BestCommand.l0, if_pos hj4, if_pos hj0, if_pos (by omega), hx]; rfl) ?_
    refine spec_bc_l1 s hf way w c t hway ht0 ht3 hc hw.symm best most j s.size 0 0 (by omega) (by omega) r ?_
    refine Ev.congr (fun k => ?_) h
    rw [hs, w64 (x := j + 1) (by omega) (by omega), Nat.zero_add]
    rfl
  have ei : ∀ r, Ev (fun k => if ((cntW s 0 w : Nat) : Int) > most then impl_BestCommand.l0 k s way B ((cntW s 0 w : Nat) : Int) bsC 4 (j + 1) else impl_BestCommand.l0 k s way best most bsC 4 (j + 1)) r → Ev (fun k => impl_BestCommand.l0 k s way best most bsC 4 j) r := by
    intro r h
    have b3 : j < (bsC.length : Int) := by omega
    have b1 : (0 : Int) < (B.size : Int) := by omega
    have bw : w ≤ 3 := by omega
    have bj := w64 (x := j + 1) (by omega) (by omega)
    have e1 : Int.tmod (wrap64 (wrap64 ((way : Int) + 4) - t)) 4 = (w : Int) := by
      clear bj
      rw [w64 (x := (way : Int) + 4) (by omega) (by omega), w64 (by omega) (by omega), Int.tmod_eq_emod_of_nonneg (by omega), hw]
    refine Ev.step (fun k => ?_) h
    rw [impl_BestCommand.l0, if_pos hj4, if_pos hj0, if_pos b3, hB, if_pos b1, hB0, hi, Option.bind_some, e1, impl_cnt s w bw, Option.bind_some, bj]
  by_cases cc : ((cntW s 0 w : Nat) : Int) > most
  · obtain ⟨r, a, b⟩ := next B (cntW s 0 w : Int)
    exact ⟨r, es r (Ev.congr (fun k => if_pos cc) a), ei r (Ev.congr (fun k => if_pos cc) b)⟩
  · obtain ⟨r, a, b⟩ := next best most
    exact ⟨r, es r (Ev.congr (fun k => if_neg cc) a), ei r (Ev.congr (fun k => if_neg cc) b)⟩
theorem both_l0 (s : ByteArray) (hf : facB s = true) (way : Nat) (hway : way ≤ 3) : ∃ r, Ev (fun k => spec_BestCommand.l0 k s way ⟨#[]⟩ (-1) xsC 4 0) r ∧ Ev (fun k => impl_BestCommand.l0 k s way ⟨#[]⟩ (-1) bsC 4 0) r := by
  have n4 : ∀ best most, ∃ r, Ev (fun k => spec_BestCommand.l0 k s way best most xsC 4 (3 + 1)) r ∧ Ev (fun k => impl_BestCommand.l0 k s way best most bsC 4 (3 + 1)) r := fun best most =>
    ⟨(best, most, true), Ev.step (f := fun _ => some (best, most, true)) (fun k => by rw [spec_BestCommand.l0, if_neg (by decide)]) (Ev.now _), Ev.step (f := fun _ => some (best, most, true)) (fun k => by rw [impl_BestCommand.l0, if_neg (by decide)]) (Ev.now _)⟩
  have n3 := both_step s hf way hway 3 65 2 ⟨#[65]⟩ (by omega) (by omega) (by omega) (by omega) rfl rfl rfl rfl rfl rfl (by decide +kernel) n4
  have n2 := both_step s hf way hway 2 82 1 ⟨#[82]⟩ (by omega) (by omega) (by omega) (by omega) rfl rfl rfl rfl rfl rfl (by decide +kernel) n3
  have n1 := both_step s hf way hway 1 76 3 ⟨#[76]⟩ (by omega) (by omega) (by omega) (by omega) rfl rfl rfl rfl rfl rfl (by decide +kernel) n2
  exact both_step s hf way hway 0 83 0 ⟨#[83]⟩ (by omega) (by omega) (by omega) (by omega) rfl rfl rfl rfl rfl rfl (by decide +kernel) n1 ⟨#[]⟩ (-1)
theorem both (s : ByteArray) (a : Int) (hs : s.size ≤ 140737488351232) : ∃ r, Ev (fun k => spec_BestCommand.f k s a) r ∧ Ev (fun k => impl_BestCommand.f k s a) r := by
  unfold spec_BestCommand.f impl_BestCommand.f impl_isWay.f
  simp only [impl_fac s hs, l1In_eq, in_eq, Option.bind_some]
  have h1 := spec_fac s hs
  have no1 : Ev (fun k => spec_BestCommand.j0 k s a true) (⟨#[]⟩, 0, false) := Ev.step (f := fun _ => some (⟨#[]⟩, 0, false)) (fun k => by rw [spec_BestCommand.j0, if_pos rfl]) (Ev.now _)
  have no2 : Ev (fun k => impl_BestCommand.j0 k s a true) (⟨#[]⟩, 0, false) := Ev.step (f := fun _ => some (⟨#[]⟩, 0, false)) (fun k => by rw [impl_BestCommand.j0, if_pos rfl]) (Ev.now _)
  cases hf : facB s with
  | false =>
    rw [hf] at h1
    exact ⟨_, Ev.bind h1 (Ev.congr (fun k => if_neg (by decide)) no1), Ev.congr (fun k => if_neg (by decide)) no2⟩
  | true =>
    rw [hf] at h1
    cases c : (decide (0 ≤ a) && decide (a ≤ 3)) with
    | false => exact ⟨_, Ev.bind h1 (Ev.congr (fun k => if_pos rfl) no1), Ev.congr (fun k => if_pos rfl) no2⟩
    | true =>
      have c' : 0 ≤ a ∧ a ≤ 3 := by simpa using c
      obtain ⟨way, rfl⟩ := Int.eq_ofNat_of_zero_le c'.1
      obtain ⟨r, x, y⟩ := both_l0 s hf way (by omega)
      exact ⟨r, Ev.bind h1 (Ev.congr (fun k => if_pos rfl) (Ev.step (fun k => by rw [Bool.not_true, spec_BestCommand.j0, if_neg (by decide)]; rfl) x)), Ev.congr (fun k => if_pos rfl) (Ev.step (fun k => by rw [Bool.not_true, impl_BestCommand.j0, if_neg (by decide)]; rfl) y)⟩
theorem FnExactBestCommand : ∀ (a0 : ByteArray) (a1 : Int), a0.size ≤ 140737488351232 → (Lit.int .i64 a1).wf = true → ∃ k, laws_FnExactBestCommand.f k a0 a1 = some true := by
  intro a0 a1 w0 w1
  refine Ev.rounds (r := true) ?_
  unfold laws_FnExactBestCommand.f
  by_cases c0 : (a0.size : Int) > 1048576
  · simp only [if_pos c0]; exact Ev.now _
  simp only [if_neg c0]
  obtain ⟨r, hs, hi⟩ := both a0 a1 w0
  refine Ev.bind hs (Ev.bind hi ?_)
  simp only [if_true, bne_self_eq_false]
  simpa using Ev.now true

end Go.Proofs.YtddenfnnnloagaaDoor.Pure
