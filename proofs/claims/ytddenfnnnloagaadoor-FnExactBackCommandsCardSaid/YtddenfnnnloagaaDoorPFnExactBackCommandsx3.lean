-- Written by a program of this session's (pg.py) over the kit's print.
import Derived.Test.YtddenfnnnloagaaDoorPFnExactBackCommandsx0
import Derived.Test.YtddenfnnnloagaaDoorPFnExactBackCommandsx1
import Derived.Test.YtddenfnnnloagaaDoorPFnExactBackCommandsx2
namespace Go.Proofs.YtddenfnnnloagaaDoor.PFnExactBackCommands
open Go.RowKit Go.Proofs.YtddenfnnnloagaaDoorW.PrintWords Go.Proofs.YtddenfnnnloagaaDoorW.PrintLast Go.Proofs.YtddenfnnnloagaaDoorW.PrintMore
attribute [local go_sem] max2_int min2_int max_two min_two max_three min_three max_four min_four   -- for this text's walks alone
set_option linter.unusedVariables false
set_option linter.unusedSimpArgs false

/-! ### impl_BackCommands: function 20 -/
def encB (x : Int) : Value := .int .u8 x
set_option maxHeartbeats 1600000 in
set_option maxRecDepth 1000000 in
theorem mi_reverse (blk off cap : Nat) (d : Array Int) (w : World) (hH : Sort.Holds encB w blk off d) (hsz : d.size ≤ 9223372036854775807) :
    Calls Tryd.prog 48 #[.slice (some ⟨blk, off, none⟩) d.size cap] w fun e w' => e = .returned (.tuple #[]) ∧ ∃ n, w' = Sort.putRow encB (Sort.ahead w n) blk off d.reverse := by
  have mixed : Tryd.prog.follows .mixedOrders = true := by kernel_rfl
  go_enter Tryd.func48, Tryd.ntmps48
  go_wp2
  go_loopg [2, 3] d.size (fun k s2 s3 wr => ∃ (i jn : Nat) (jz : Int) (dk : Array Int) (n : Nat), s2 = .int .i64 i ∧ s3 = .int .i64 jz ∧ ((i : Int) < jz → jz = jn ∧ jn < d.size) ∧ (¬ (i : Int) < jz → ¬ i < jn) ∧ jn - i ≤ k ∧
    dk.size = d.size ∧ wr = Sort.putRow encB (Sort.ahead w n) blk off dk ∧ Sort.reverseLoop i jn dk = Sort.reverseLoop 0 (d.size - 1) d)
  case atStart => exact ⟨0, d.size - 1, (d.size : Int) - 1, d, 0, rfl, rfl, fun h => ⟨by omega, by omega⟩, fun h => by omega, by omega, rfl, (Sort.putRow_self encB w blk off d hH).symm, rfl⟩
  case round =>
    obtain ⟨i, jn, jz, dk, n, rfl, rfl, h1, h2, hk, hds, hwr, heq⟩ := hrel
    by_cases hlt : (i : Int) < jz
    · obtain ⟨rfl, hjn⟩ := h1 hlt
      have hij : i < jn := by omega
      have hHk : Sort.Holds encB wr blk off dk := by rw [hwr]; exact Sort.holds_putRow encB _ blk off d dk (Sort.holds_ahead encB w n blk off d hH) hds
      obtain ⟨ci, fi⟩ := hHk i (by omega)
      obtain ⟨cj, fj⟩ := hHk jn (by omega)
      simp only [encB] at ci cj
      have hid : i < d.size := by omega
      have A : Aside (wr = Sort.putRow encB (Sort.ahead w n) blk off dk) := hwr
      clear hwr hHk hH h1 h2
      go_wp2_with fail
      go_region_o
      go_wp2
      go_roundg (jn - 1 - (i + 1))
      case measure => omega
      case rel =>
        rw [Sort.reverseLoop, if_pos hij] at heq
        exact ⟨i + 1, jn - 1, (jn : Int) - 1, Sort.swp dk i jn, n + 1, by simp, rfl, fun h => ⟨by omega, by omega⟩, fun h => by omega, Nat.le_refl _, by rw [Sort.size_swp]; exact hds,
          swap_world encB (by omega) (by omega) A.out (by first | rfl | simp [encB, getElem!_pos, show jn < dk.size by omega]) (by first | rfl | simp [encB, getElem!_pos, show i < dk.size by omega]), heq⟩
    · have hnot := h2 hlt
      go_wp2
      go_end0
      refine ⟨rfl, n, ?_⟩
      rw [Sort.reverseLoop, if_neg hnot] at heq
      rw [← Lib.reverseLoop_reverse, ← heq]
theorem mi_below_putRow {B : Nat} {a w : World} (h : Below B a w) (blk off : Nat) (hb : B ≤ blk) (d : Array Int) : Below B a (Sort.putRow encB w blk off d) := by
  refine ⟨h.os, h.tape, h.output, by rw [Sort.size_putRow]; exact h.size, fun j hj => ?_⟩
  rw [← h.block j hj]
  unfold Sort.putRow Sort.mapBlock
  change (w.heap.modify blk _)[j]? = w.heap[j]?
  rw [Array.getElem?_modify, if_neg (by omega)]
theorem mi_below_ahead {B : Nat} {a w : World} (h : Below B a w) (n : Nat) : Below B a (Sort.ahead w n) := ⟨h.os, h.tape, h.output, h.size, h.block⟩
/-- The bytes of a text from behind. -/
def mbRevL (s : ByteArray) : List Int := ((List.range s.size).map fun (i : Nat) => bt s (i : Int)).reverse
def impl_BackCommands.f (a0 : ByteArray) : Option (ByteArray × Bool) := (impl_areCommands.f a0).bind fun t => if t = true then (impl_mirrorCommands.f a0).bind fun m => (if m.size ≤ 1000000 then some (strOfNums (mbRevL m), true) else none) else some ((⟨#[]⟩ : ByteArray), false)
set_option maxHeartbeats 4000000 in
set_option maxRecDepth 100000 in
theorem impl_BackCommands.calls (a0 : ByteArray) (r1 : ByteArray) (r2 : Bool) (w : World) (h : impl_BackCommands.f a0 = some (r1, r2)) :
    Calls Tryd.prog 20 #[.string a0] w fun e w' => e = .returned (.tuple #[.string r1, .bool r2]) ∧ Below w.heap.size w w' := by
  obtain ⟨t, h1, h⟩ := Option.bind_eq_some_iff.mp h
  have H1 := mi_hid h1
  clear h1
  cases t with
  | false =>
    rw [if_neg (by decide)] at h
    injection h with h
    injection h with e1 e2
    subst e1 e2
    go_enter Tryd.func20, Tryd.ntmps20
    go_wp2_with fail
    refine (impl_areCommands.calls a0 false _ H1.out).mono ?_
    rintro e w1 ⟨rfl, hb⟩
    go_wp2
    go_ret2
    exact ⟨rfl, hb⟩
  | true =>
    rw [if_pos rfl] at h
    obtain ⟨m, h2, h⟩ := Option.bind_eq_some_iff.mp h
    have H2 := mi_hid h2
    clear h2
    by_cases hm : m.size ≤ 1000000
    · rw [if_pos hm] at h
      injection h with h
      injection h with e1 e2
      subst e1 e2
      go_enter Tryd.func20, Tryd.ntmps20
      go_wp2_with fail
      refine (impl_areCommands.calls a0 true _ H1.out).mono ?_
      rintro e w1 ⟨rfl, hb⟩
      go_wp2_with fail
      refine (impl_mirrorCommands.calls a0 m _ H2.out).mono ?_
      rintro e w2 ⟨rfl, hb2⟩
      have hB2 := below_step hb hb2
      have hcv := Lib.run_convert_string_bytes (P := Tryd.prog) w2 9 44 5 m Tryd.underlying9 Tryd.underlying44 Tryd.underlying5
      obtain ⟨hc0, hf0⟩ := mi_bytes_cells w2 m
      have hbel := below_step hB2 (mi_below_bytes w2 5 m)
      have hge : w.heap.size ≤ w2.heap.size := hB2.size
      generalize Lib.bytesWorld w2 5 m = w3 at hcv hc0 hf0 hbel
      have hHold : Sort.Holds encB w3 w2.heap.size 0 ((List.range m.size).map fun (i : Nat) => bt m (i : Int)).toArray := by
        intro j hj
        have hj' : j < m.size := by simpa using hj
        rw [Nat.zero_add]
        refine ⟨?_, hf0 j hj'⟩
        rw [hc0 j hj', getElem!_pos (((List.range m.size).map fun (i : Nat) => bt m (i : Int)).toArray) j hj]
        simp [encB]
      have hsz : ((List.range m.size).map fun (i : Nat) => bt m (i : Int)).toArray.size = m.size := by simp
      have hrev := mi_reverse w2.heap.size 0 (grownCap w2 m.size 0 5) _ w3 hHold (by rw [hsz]; omega)
      rw [hsz] at hrev
      clear hc0 hf0
      have HH := mi_hid hHold
      clear hHold hb hb2 hB2
      go_wp2_with fail
      refine hrev.mono ?_
      rintro e w4 ⟨rfl, n, hw4⟩
      have hH4 : Sort.Holds encB w4 w2.heap.size 0 (mbRevL m).toArray := by
        rw [hw4]
        have := Sort.holds_putRow encB _ w2.heap.size 0 _ ((List.range m.size).map fun (i : Nat) => bt m (i : Int)).toArray.reverse (Sort.holds_ahead encB w3 n _ _ _ HH.out) (by simp)
        simpa [mbRevL] using this
      have hB4 : Below w.heap.size w w4 := by
        rw [hw4]
        exact mi_below_putRow (mi_below_ahead hbel n) _ _ hge _
      have hl : (mbRevL m).length = m.size := by simp [mbRevL]
      have hback := run_convert_bytes_arg (P := Tryd.prog) w4 44 5 Tryd.underlying44 Tryd.underlying5 w2.heap.size 0 m.size (grownCap w2 m.size 0 5) (mbRevL m) hl (fun i hi => by
        have := (hH4 i (by simpa [hl] using hi)).1
        rw [this, getElem!_pos (mbRevL m).toArray i (by simpa [hl] using hi)]
        simp [encB, List.getD, hl, hi]) 9 Tryd.underlying9
      clear hw4 hH4 hrev HH
      go_wp2
      go_ret2
      exact ⟨rfl, hB4⟩
    · rw [if_neg hm] at h; cases h

/-! ### laws_FnExactBackCommands: function 6 -/
def laws_FnExactBackCommands.f (k : Nat) (a0 : ByteArray) : Option (Bool) := if (a0.size : Int) > 1048576 then (some true) else ((spec_BackCommands.f k a0).bind fun bt111 => ((impl_BackCommands.f a0).bind fun bt113 => (if bt113.1.toList = bt111.1.toList then (if (bt113.2 != bt111.2) = true then (some false) else (some true)) else (some false))))
theorem laws_FnExactBackCommands.mono : ∀ a0 k, LeO (laws_FnExactBackCommands.f k a0) (laws_FnExactBackCommands.f (k + 1) a0) := by
  intro a0 k
  unfold laws_FnExactBackCommands.f
  repeat' first
      | (with_reducible exact spec_BackCommands.mono _ _)
      | (with_reducible exact LeO.refl _)
      | (with_reducible exact LeO.none _)
      | (with_reducible refine LeO.ite ?_ ?_)
      | (with_reducible refine LeO.bind ?_ (fun _ => ?_))
      | exact spec_BackCommands.mono _ _
      | exact LeO.none _
      | refine LeO.ite ?_ ?_
      | refine LeO.bind ?_ (fun _ => ?_)
set_option maxHeartbeats 8000000 in
set_option maxRecDepth 100000 in
theorem laws_FnExactBackCommands.calls (k : Nat) (a0 : ByteArray) (r : Bool) (w : World) (h : laws_FnExactBackCommands.f k a0 = some r) :
    Calls Tryd.prog 6 #[.string a0] w fun e w' => e = .returned (.bool r) ∧ Below w.heap.size w w' := by
  have HB := Aside0.mk (Below.refl w.heap.size w)
  have H : (if (a0.size : Int) > 1048576 then (some true) else ((spec_BackCommands.f k a0).bind fun bt111 => ((impl_BackCommands.f a0).bind fun bt113 => (if bt113.1.toList = bt111.1.toList then (if (bt113.2 != bt111.2) = true then (some false) else (some true)) else (some false))))) = some r := h
  clear h
  by_cases c2 : (a0.size : Int) > 1048576
  · rw [if_pos c2] at H
    have c2b0 : decide (1048576 < (a0.size : Int)) = true := decide_eq_true c2
    have c2b1 : decide (1048576 < a0.size) = true := decide_eq_true (by omega)
    clear c2
    obtain rfl := Option.some.inj H
    go_enter Tryd.func6, Tryd.ntmps6
    go_wp2
    go_ret
    exact ⟨by first | rfl | (simp [errW_none, errW_some] <;> rfl) | (simp [*, errW_none, errW_some] <;> rfl), by repeat (first | (with_reducible first | exact HB.out | apply below_alloc | apply pw_below_drewN | apply below_drew1) | exact HB.out)⟩
  · rw [if_neg c2] at H
    have c2b0 : decide (1048576 < (a0.size : Int)) = false := decide_eq_false c2
    have c2b1 : decide (1048576 < a0.size) = false := decide_eq_false (by omega)
    clear c2
    replace H := Option.bind_eq_some_iff.mp H
    obtain ⟨⟨t111, t112⟩, A30, H⟩ := H
    replace H : ((impl_BackCommands.f a0).bind fun bt113 => (if bt113.1.toList = t111.toList then (if (bt113.2 != t112) = true then (some false) else (some true)) else (some false))) = some r := H
    have A3 := Aside0.mk A30
    clear A30
    replace H := Option.bind_eq_some_iff.mp H
    obtain ⟨⟨t113, t114⟩, A40, H⟩ := H
    replace H : (if t113.toList = t111.toList then (if (t114 != t112) = true then (some false) else (some true)) else (some false)) = some r := H
    have A4 := Aside0.mk A40
    clear A40
    by_cases c5 : t113.toList = t111.toList
    · rw [if_pos c5] at H
      have c5b0 : (t113.toList == t111.toList) = true := beq_iff_eq.mpr c5
      have c5b1 : (t113.toList != t111.toList) = false := bne_eq_false_iff_eq.mpr c5
      clear c5
      by_cases c6 : (t114 != t112) = true
      · rw [if_pos c6] at H
        have c6b0 : (t114 != t112) = true := c6
        (try (have c6b1 : decide (t114 = t112) = false := by simpa using c6))
        (try (have c6b2 : (t114 == t112) = false := by simpa using c6))
        (try (have c6b3 : ¬ (t114 = t112) := by simpa using c6))
        clear c6
        obtain rfl := Option.some.inj H
        go_enter Tryd.func6, Tryd.ntmps6
        go_wp2_with (first | ((with_reducible refine gate_callee (f := 19) rfl ?_); refine goesL_ (some 12) rfl rfl Tryd.func19 (by kernel_rfl) rfl #[.string a0] rfl (by (try simp only [List.map_toArray, List.map_cons, List.map_nil]); first | done | rfl | (simp only [List.length_drop, List.length_take]; rfl)) ?_; (with_reducible refine (spec_BackCommands.calls k a0 t111 t112 _ A3.out).mono ?_); rintro e w' ⟨rfl, ⟨nd, rfl⟩⟩; refine ⟨_, rfl, ?_⟩) | ((with_reducible refine gate_callee (f := 20) rfl ?_); refine goesL_ (some 17) rfl rfl Tryd.func20 (by kernel_rfl) rfl #[.string a0] rfl (by (try simp only [List.map_toArray, List.map_cons, List.map_nil]); first | done | rfl | (simp only [List.length_drop, List.length_take]; rfl)) ?_; (with_reducible refine (impl_BackCommands.calls a0 t113 t114 _ A4.out).mono ?_); rintro e w7 ⟨rfl, hb⟩; refine ⟨_, rfl, ?_⟩; have n0_ := Aside0.mk (below_step (by repeat (first | (with_reducible first | exact HB.out | apply below_alloc | apply pw_below_drewN | apply below_drew1) | exact HB.out)) hb); clear HB; have HB := n0_; clear n0_; (try clear hb); (try clear hb2); (try clear hk); (try clear hi)))
        go_ret
        exact ⟨by first | rfl | (simp [errW_none, errW_some] <;> rfl) | (simp [*, errW_none, errW_some] <;> rfl), by repeat (first | (with_reducible first | exact HB.out | apply below_alloc | apply pw_below_drewN | apply below_drew1) | exact HB.out)⟩
      · rw [if_neg c6] at H
        have c6b0 : (t114 != t112) = false := by simpa using c6
        (try (have c6b1 : decide (t114 = t112) = true := by simpa using c6))
        (try (have c6b2 : (t114 == t112) = true := by simpa using c6))
        clear c6
        obtain rfl := Option.some.inj H
        go_enter Tryd.func6, Tryd.ntmps6
        go_wp2_with (first | ((with_reducible refine gate_callee (f := 19) rfl ?_); refine goesL_ (some 12) rfl rfl Tryd.func19 (by kernel_rfl) rfl #[.string a0] rfl (by (try simp only [List.map_toArray, List.map_cons, List.map_nil]); first | done | rfl | (simp only [List.length_drop, List.length_take]; rfl)) ?_; (with_reducible refine (spec_BackCommands.calls k a0 t111 t112 _ A3.out).mono ?_); rintro e w' ⟨rfl, ⟨nd, rfl⟩⟩; refine ⟨_, rfl, ?_⟩) | ((with_reducible refine gate_callee (f := 20) rfl ?_); refine goesL_ (some 17) rfl rfl Tryd.func20 (by kernel_rfl) rfl #[.string a0] rfl (by (try simp only [List.map_toArray, List.map_cons, List.map_nil]); first | done | rfl | (simp only [List.length_drop, List.length_take]; rfl)) ?_; (with_reducible refine (impl_BackCommands.calls a0 t113 t114 _ A4.out).mono ?_); rintro e w8 ⟨rfl, hb⟩; refine ⟨_, rfl, ?_⟩; have n0_ := Aside0.mk (below_step (by repeat (first | (with_reducible first | exact HB.out | apply below_alloc | apply pw_below_drewN | apply below_drew1) | exact HB.out)) hb); clear HB; have HB := n0_; clear n0_; (try clear hb); (try clear hb2); (try clear hk); (try clear hi)))
        go_ret
        exact ⟨by first | rfl | (simp [errW_none, errW_some] <;> rfl) | (simp [*, errW_none, errW_some] <;> rfl), by repeat (first | (with_reducible first | exact HB.out | apply below_alloc | apply pw_below_drewN | apply below_drew1) | exact HB.out)⟩
    · rw [if_neg c5] at H
      have c5b0 : (t113.toList == t111.toList) = false := beq_eq_false_iff_ne.mpr c5
      have c5b1 : (t113.toList != t111.toList) = true := bne_iff_ne.mpr c5
      obtain rfl := Option.some.inj H
      go_enter Tryd.func6, Tryd.ntmps6
      go_wp2_with (first | ((with_reducible refine gate_callee (f := 19) rfl ?_); refine goesL_ (some 12) rfl rfl Tryd.func19 (by kernel_rfl) rfl #[.string a0] rfl (by (try simp only [List.map_toArray, List.map_cons, List.map_nil]); first | done | rfl | (simp only [List.length_drop, List.length_take]; rfl)) ?_; (with_reducible refine (spec_BackCommands.calls k a0 t111 t112 _ A3.out).mono ?_); rintro e w' ⟨rfl, ⟨nd, rfl⟩⟩; refine ⟨_, rfl, ?_⟩) | ((with_reducible refine gate_callee (f := 20) rfl ?_); refine goesL_ (some 17) rfl rfl Tryd.func20 (by kernel_rfl) rfl #[.string a0] rfl (by (try simp only [List.map_toArray, List.map_cons, List.map_nil]); first | done | rfl | (simp only [List.length_drop, List.length_take]; rfl)) ?_; (with_reducible refine (impl_BackCommands.calls a0 t113 t114 _ A4.out).mono ?_); rintro e w9 ⟨rfl, hb⟩; refine ⟨_, rfl, ?_⟩; have n0_ := Aside0.mk (below_step (by repeat (first | (with_reducible first | exact HB.out | apply below_alloc | apply pw_below_drewN | apply below_drew1) | exact HB.out)) hb); clear HB; have HB := n0_; clear n0_; (try clear hb); (try clear hb2); (try clear hk); (try clear hi)))
      go_ret
      exact ⟨by first | rfl | (simp [errW_none, errW_some] <;> rfl) | (simp [*, errW_none, errW_some] <;> rfl), by repeat (first | (with_reducible first | exact HB.out | apply below_alloc | apply pw_below_drewN | apply below_drew1) | exact HB.out)⟩

/-- THE ONE PURE STATEMENT of laws_FnExactBackCommands: yours. -/
def laws_FnExactBackCommands.Pure : Prop := ∀ (a0 : ByteArray), a0.size ≤ 140737488351232 → ∃ k, laws_FnExactBackCommands.f k a0 = some true
theorem laws_FnExactBackCommands.walk (P : laws_FnExactBackCommands.Pure) (a0 : ByteArray) (w : World) (w0 : a0.size ≤ 140737488351232) :
    Calls Tryd.prog 6 #[.string a0] w fun e w' => e = .returned (.bool true) ∧ Below w.heap.size w w' := by
  obtain ⟨k, h⟩ := P a0 w0
  refine (laws_FnExactBackCommands.calls k a0 true w h).mono ?_
  rintro e w' ⟨rfl, hd⟩
  exact ⟨rfl, hd⟩

end Go.Proofs.YtddenfnnnloagaaDoor.PFnExactBackCommands
