-- Written by a program of this session's (pg.py) over the kit's print.
import Derived.Test.YtgdmbhldabeelaaRGreatDoorPFnDrillsTurnx0
import Derived.Test.YtgdmbhldabeelaaRGreatDoorPFnDrillsTurnx7
import Derived.Test.YtgdmbhldabeelaaRGreatDoorPFnDrillsTurnx8
namespace Go.Proofs.YtgdmbhldabeelaaRGreatDoor.PFnDrillsTurn
open Go.RowKit Go.Proofs.YtgdmbhldabeelaaRGreatDoorW.PrintWords Go.Proofs.YtgdmbhldabeelaaRGreatDoorW.PrintLast Go.Proofs.YtgdmbhldabeelaaRGreatDoorW.PrintMore
attribute [local go_sem] max2_int min2_int max_two min_two max_three min_three max_four min_four   -- for this text's walks alone
set_option linter.unusedVariables false
set_option linter.unusedSimpArgs false

/-! ### spec_DrawCountCommandWords: function 31 -/
def spec_DrawCountCommandWords.f (l0 : List Int) : Option (Int × Int) := (spec_l1Cur_pick.f l0 0 0 27).bind fun c0 => (spec_l1Cur_pick.f l0 c0.2.1 c0.2.2 5).bind fun c1 => (spec_l1Cur_pick.f l0 c1.2.1 c1.2.2 9).bind fun c2 => some ((wrap64 (c0.1 - 1)), (wrap64 (c1.1 - wrap64 (Int.tdiv c2.1 8))))
set_option maxHeartbeats 8000000 in
set_option maxRecDepth 100000 in
theorem spec_DrawCountCommandWords.calls (A0 : Option Addr) (c0 : Nat) (l0 : List Int) (r1 : Int) (r2 : Int) (w : World) (hr0 : Kd.C (Kd.int .u8) w A0 l0.length l0) (hc0 : l0.length ≤ c0) (h : spec_DrawCountCommandWords.f l0 = some (r1, r2)) :
    Calls Tryz.prog 31 #[.slice A0 l0.length c0] w fun e w' => e = .returned (.tuple #[.int .i64 r1, .int .i64 r2]) ∧ Below w.heap.size w w' := by
  unfold spec_DrawCountCommandWords.f at h
  have HI := Aside0.mk (IsS60.new w w A0 c0 l0 0 0 (Below.refl _ _) hr0)
  have HB := Aside0.mk (below_alloc (Below.refl w.heap.size w) (.cells #[.slice A0 l0.length c0, .int .i64 0, .int .u64 0] 60))
  clear hr0 hc0
  have hu65 := Tryz.underlying60
  obtain ⟨⟨d0, s0, t0⟩, h0, h⟩ := Option.bind_eq_some_iff.mp h
  obtain ⟨⟨d1, s1, t1⟩, h1, h⟩ := Option.bind_eq_some_iff.mp h
  obtain ⟨⟨d2, s2, t2⟩, h2, h⟩ := Option.bind_eq_some_iff.mp h
  simp only [Option.some.injEq, Prod.mk.injEq] at h
  obtain ⟨rfl, rfl⟩ := h
  have HD0 := Aside0.mk h0
  clear h0
  have HD1 := Aside0.mk h1
  clear h1
  have HD2 := Aside0.mk h2
  clear h2
  go_enter Tryz.func31, Tryz.ntmps31
  go_wp2_with (first
    | ((with_reducible refine gate_callee (f := 58) rfl ?_); refine goesL_ (some 9) rfl rfl Tryz.func58 (by kernel_rfl) rfl #[.pointer (some ⟨w.heap.size, 0, none⟩), .int .i64 27] rfl (by (try simp only [List.map_toArray, List.map_cons, List.map_nil]); first | done | rfl) ?_
       refine (spec_l1Cur_pick.calls w.heap.size l0 0 0 27 d0 s0 t0 w _ HI.out HB.out HD0.out).mono ?_
       rintro e w1 ⟨rfl, hi, hb, hk⟩
       refine ⟨_, rfl, ?_⟩
       have n0_ := Aside0.mk hi
       have n1_ := Aside0.mk hb
       clear HI HB hi hb hk
       have HI := n0_
       have HB := n1_
       clear n0_ n1_)
    | ((with_reducible refine gate_callee (f := 58) rfl ?_); refine goesL_ (some 12) rfl rfl Tryz.func58 (by kernel_rfl) rfl #[.pointer (some ⟨w.heap.size, 0, none⟩), .int .i64 5] rfl (by (try simp only [List.map_toArray, List.map_cons, List.map_nil]); first | done | rfl) ?_
       refine (spec_l1Cur_pick.calls w.heap.size l0 s0 t0 5 d1 s1 t1 w _ HI.out HB.out HD1.out).mono ?_
       rintro e w1 ⟨rfl, hi, hb, hk⟩
       refine ⟨_, rfl, ?_⟩
       have n0_ := Aside0.mk hi
       have n1_ := Aside0.mk hb
       clear HI HB hi hb hk
       have HI := n0_
       have HB := n1_
       clear n0_ n1_)
    | ((with_reducible refine gate_callee (f := 58) rfl ?_); refine goesL_ (some 14) rfl rfl Tryz.func58 (by kernel_rfl) rfl #[.pointer (some ⟨w.heap.size, 0, none⟩), .int .i64 9] rfl (by (try simp only [List.map_toArray, List.map_cons, List.map_nil]); first | done | rfl) ?_
       refine (spec_l1Cur_pick.calls w.heap.size l0 s1 t1 9 d2 s2 t2 w _ HI.out HB.out HD2.out).mono ?_
       rintro e w1 ⟨rfl, hi, hb, hk⟩
       refine ⟨_, rfl, ?_⟩
       have n0_ := Aside0.mk hi
       have n1_ := Aside0.mk hb
       clear HI HB hi hb hk
       have HI := n0_
       have HB := n1_
       clear n0_ n1_))
  go_ret2
  exact ⟨rfl, HB.out⟩

/-! ### spec_l1Cur_one: function 59 -/
def spec_l1Cur_one.f (s0_0 : List Int) (s0_1 : Int) (s0_2 : Int) (a1 : Int) : Option (Bool × Int × Int) := (spec_l1Cur_pick.f s0_0 s0_1 s0_2 a1).bind fun bt265 => (some ((bt265.1 == 0), bt265.2.1, bt265.2.2))
set_option maxHeartbeats 8000000 in
set_option maxRecDepth 100000 in
theorem spec_l1Cur_one.calls (g : Nat) (s0_0 : List Int) (s0_1 : Int) (s0_2 : Int) (a1 : Int) (r1 : Bool) (r2 : Int) (r3 : Int) (w0 w : World) (hI : IsS60 w0 w g s0_0 s0_1 s0_2) (hB : Below w0.heap.size w0 w) (h : spec_l1Cur_one.f s0_0 s0_1 s0_2 a1 = some (r1, r2, r3)) :
    Calls Tryz.prog 59 #[.pointer (some ⟨g, 0, none⟩), .int .i64 a1] w fun e w' => e = .returned (.bool r1) ∧ IsS60 w0 w' g s0_0 r2 r3 ∧ Below w0.heap.size w0 w' ∧ KeepBut w w' g none := by
  have HI0 := Aside0.mk hI
  have HK := Aside0.mk (KeepBut.refl w g none)
  have HL := Aside0.mk hB.size
  clear hI
  have HW0 := Aside0.mk hB.size
  have HB := Aside0.mk hB
  clear hB
  have H : ((spec_l1Cur_pick.f s0_0 s0_1 s0_2 a1).bind fun bt265 => (some ((bt265.1 == 0), bt265.2.1, bt265.2.2))) = some (r1, r2, r3) := h
  clear h
  replace H := Option.bind_eq_some_iff.mp H
  obtain ⟨⟨t265, t266, t267⟩, A30, H⟩ := H
  replace H : (some ((t265 == 0), t266, t267)) = some (r1, r2, r3) := H
  have A3 := Aside0.mk A30
  clear A30
  simp only [Option.some.injEq, Prod.mk.injEq] at H
  obtain ⟨rfl, rfl, rfl⟩ := H
  go_enter Tryz.func59, Tryz.ntmps59
  go_wp2_with (first | ((with_reducible refine gate_callee (f := 58) rfl ?_); refine goesL_ (some 7) rfl rfl Tryz.func58 (by kernel_rfl) rfl #[.pointer (some ⟨g, 0, none⟩), .int .i64 a1] rfl (by (try simp only [List.map_toArray, List.map_cons, List.map_nil]); first | done | rfl | (simp only [List.length_drop, List.length_take]; rfl)) ?_; (with_reducible refine (spec_l1Cur_pick.calls g s0_0 s0_1 s0_2 a1 t265 t266 t267 w0 _ ?side1 ?side2 A3.out).mono ?_); (case side1 => repeat (first | (with_reducible first | exact HI0.out | apply IsS60.alloc | apply IsS60.drewN | apply IsS60.drew | apply IsS60.set_1 | apply IsS60.set_2) | exact HI0.out)); (case side2 => repeat (first | (with_reducible first | exact HB.out | apply below_alloc | apply pw_below_drewN | apply below_drew1 | refine below_set ?_ (IsS60.ge HI0.out)) | exact HB.out)); rintro e w4 ⟨rfl, hi, hb, hk⟩; refine ⟨_, rfl, ?_⟩; have n0_ := Aside0.mk (KeepBut.trans (by repeat (first | (with_reducible first | exact HK.out | apply KeepBut.set_ | apply keep_drewN | apply keep_drew | apply keep_alloc) | exact HK.out)) hk (.inl rfl)); have n1_ := Aside0.mk (hb); have n2_ := Aside0.mk (hi); clear HK; clear HB; clear HI0; have HK := n0_; have HB := n1_; have HI0 := n2_; clear n0_ n1_ n2_; (try clear hb); (try clear hb2); (try clear hk); (try clear hi)))
  go_ret
  exact ⟨by first | rfl | (simp [errW_none, errW_some] <;> rfl) | (simp [*, errW_none, errW_some] <;> rfl), by repeat (first | (with_reducible first | exact HI0.out | apply IsS60.alloc | apply IsS60.drewN | apply IsS60.drew | apply IsS60.set_1 | apply IsS60.set_2) | exact HI0.out), by repeat (first | (with_reducible first | exact HB.out | apply below_alloc | apply pw_below_drewN | apply below_drew1 | refine below_set ?_ (IsS60.ge HI0.out)) | exact HB.out), by repeat (first | (with_reducible first | exact HK.out | apply KeepBut.set_ | apply keep_drewN | apply keep_drew | apply keep_alloc) | exact HK.out)⟩

/-! ### spec_DrawCommandsBetween: function 32 -/
def spec_DrawCommandsBetween.l0 : Nat → List Int → ByteArray → ByteArray → Int → Int → Nat → Option (ByteArray × ByteArray)
  | 0, _, _, _, _, _, _ => none
  | k + 1, l0, s, t, a, b, i => if i < s.size then ((spec_l1Cur_of.f l0 a b ([(⟨#[48]⟩ : ByteArray), (⟨#[49]⟩ : ByteArray), (⟨#[50]⟩ : ByteArray), (⟨#[51]⟩ : ByteArray)] : List ByteArray)).bind fun c => (if t.size + c.1.size ≤ 9223372036854775807 then spec_DrawCommandsBetween.l0 k l0 s (t ++ c.1) c.2.1 c.2.2 (i + (Utf8.decode s i).2) else none)) else some (s, t)
def spec_DrawCommandsBetween.f (k : Nat) (l0 : List Int) : Option (ByteArray × ByteArray) := (spec_l1Cur_facing.f k l0 0 0).bind fun b => (spec_l1Cur_one.f l0 b.2.1 b.2.2 4).bind fun c => if c.1 = true then ((spec_l1Cur_facing.f k l0 c.2.1 c.2.2).bind fun d => some (b.1, d.1)) else (spec_DrawCommandsBetween.l0 k l0 b.1 (⟨#[]⟩ : ByteArray) c.2.1 c.2.2 0)
theorem spec_DrawCommandsBetween.mono_l (l0 : List Int) (s : ByteArray) : ∀ k t a b i, LeO (spec_DrawCommandsBetween.l0 k l0 s t a b i) (spec_DrawCommandsBetween.l0 (k + 1) l0 s t a b i)
  | 0, _, _, _, _ => fun r h => by simp [spec_DrawCommandsBetween.l0] at h
  | k + 1, t, a, b, i => by
    rw [spec_DrawCommandsBetween.l0, spec_DrawCommandsBetween.l0]
    exact LeO.ite (LeO.bind (LeO.refl _) fun c => LeO.ite (spec_DrawCommandsBetween.mono_l l0 s k _ _ _ _) (LeO.refl _)) (LeO.refl _)
theorem spec_DrawCommandsBetween.mono : ∀ a0 k, LeO (spec_DrawCommandsBetween.f k a0) (spec_DrawCommandsBetween.f (k + 1) a0) := fun a0 k =>
  LeO.bind (spec_l1Cur_facing.mono _ _ _ _) fun b => LeO.bind (LeO.refl _) fun c => LeO.ite (LeO.bind (spec_l1Cur_facing.mono _ _ _ _) fun d => LeO.refl _) (spec_DrawCommandsBetween.mono_l _ _ _ _ _ _ _)
theorem dcb_far {w W w1 : World} {g : Nat} {f0 : List Int} {f1 f2 : Int} {ok : Nat → Prop} {A : Option Addr} {n c : Nat} {xs : List ByteArray} (hi : IsS60 w W g f0 f1 f2) (h : Kd.R Kd.string 9 w1 W.heap.size ok (.slice A n c) xs) : ∀ ad, A = some ad → 0 < xs.length → ad.block ≠ g := by
  intro ad e _
  subst e
  have h1 := Kd.R_base h ad.block rfl
  have h2 := hi.lt
  omega
theorem dcb_keep {wr w1 : World} {g it : Nat} {s : ByteArray} {j : Nat} (hk : KeepBut wr w1 g none) (hg : g < it) (h : wr.heap[it]? = some (.stringIter s j)) : w1.heap[it]? = some (.stringIter s j) := by
  have hlt := (Array.getElem?_eq_some_iff.1 h).1
  exact (hk.2 it hlt (by omega) (by simp)).trans h
set_option maxHeartbeats 8000000 in
set_option maxRecDepth 100000 in
theorem spec_DrawCommandsBetween.calls (k : Nat) (A0 : Option Addr) (c0 : Nat) (l0 : List Int) (r1 : ByteArray) (r2 : ByteArray) (w : World) (hr0 : Kd.C (Kd.int .u8) w A0 l0.length l0) (hc0 : l0.length ≤ c0) (h : spec_DrawCommandsBetween.f k l0 = some (r1, r2)) :
    Calls Tryz.prog 32 #[.slice A0 l0.length c0] w fun e w' => e = .returned (.tuple #[.string r1, .string r2]) ∧ Below w.heap.size w w' := by
  obtain ⟨⟨b1, b2, b3⟩, h1, h⟩ := Option.bind_eq_some_iff.mp h
  obtain ⟨⟨d1, d2, d3⟩, h2, h⟩ := Option.bind_eq_some_iff.mp h
  have H1 := Aside0.mk h1
  have H2 := Aside0.mk h2
  have HI := Aside0.mk (IsS60.new w w A0 c0 l0 0 0 (Below.refl _ _) hr0)
  have HB := Aside0.mk (below_alloc (Below.refl w.heap.size w) (.cells #[.slice A0 l0.length c0, .int .i64 0, .int .u64 0] 60))
  clear h1 h2 hr0 hc0
  have hu65 := Tryz.underlying60
  cases d1 with
  | true =>
    replace h : ((spec_l1Cur_facing.f k l0 d2 d3).bind fun d => some (b1, d.1)) = some (r1, r2) := h
    obtain ⟨⟨e1, e2, e3⟩, h3, h⟩ := Option.bind_eq_some_iff.mp h
    simp only [Option.some.injEq, Prod.mk.injEq] at h
    obtain ⟨rfl, rfl⟩ := h
    have H3 := Aside0.mk h3
    clear h3
    go_enter Tryz.func32, Tryz.ntmps32
    go_wp2_with fail
    refine (spec_l1Cur_facing.calls k w.heap.size l0 0 0 b1 b2 b3 w _ HI.out HB.out H1.out).mono ?_
    rintro e w1 ⟨rfl, hi, hb, hk⟩
    have HI1 := Aside0.mk hi
    have HB1 := Aside0.mk hb
    clear hi hb hk HI HB
    go_wp2_with fail
    refine (spec_l1Cur_one.calls w.heap.size l0 b2 b3 4 true d2 d3 w _ HI1.out HB1.out H2.out).mono ?_
    rintro e w2 ⟨rfl, hi, hb, hk⟩
    have HI2 := Aside0.mk hi
    have HB2 := Aside0.mk hb
    clear hi hb hk HI1 HB1
    go_wp2_with fail
    refine (spec_l1Cur_facing.calls k w.heap.size l0 d2 d3 e1 e2 e3 w _ HI2.out HB2.out H3.out).mono ?_
    rintro e w3 ⟨rfl, hi, hb, hk⟩
    have HB3 := Aside0.mk hb
    clear hi hb hk HI2 HB2
    go_wp2_with fail
    go_ret2
    exact ⟨rfl, HB3.out⟩
  | false =>
    replace h : spec_DrawCommandsBetween.l0 k l0 b1 (⟨#[]⟩ : ByteArray) d2 d3 0 = some (r1, r2) := h
    have HL := Aside0.mk h
    clear h
    go_enter Tryz.func32, Tryz.ntmps32
    go_wp2_with fail
    refine (spec_l1Cur_facing.calls k w.heap.size l0 0 0 b1 b2 b3 w _ HI.out HB.out H1.out).mono ?_
    rintro e w1 ⟨rfl, hi, hb, hk⟩
    have HI1 := Aside0.mk hi
    have HB1 := Aside0.mk hb
    clear hi hb hk HI HB
    go_wp2_with fail
    refine (spec_l1Cur_one.calls w.heap.size l0 b2 b3 4 false d2 d3 w _ HI1.out HB1.out H2.out).mono ?_
    rintro e w2 ⟨rfl, hi, hb, hk⟩
    have HI2 := Aside0.mk hi
    have HB2 := Aside0.mk hb
    clear hi hb hk HI1 HB1
    have hu9 := Tryz.underlying9
    go_wp2_with fail
    go_loopg [6] k (fun kq v6 wr => ∃ (i : Nat) (t : ByteArray) (a b : Int), v6 = .string t ∧ Aside0 (spec_DrawCommandsBetween.l0 kq l0 b1 t a b i = some (r1, r2)) ∧ Aside0 (IsS60 w wr w.heap.size l0 a b) ∧ Aside0 (Below w.heap.size w wr) ∧ Aside0 (wr.heap[w2.heap.size]? = some (.stringIter b1 i)))
    case atStart => exact ⟨0, (⟨#[]⟩ : ByteArray), d2, d3, rfl, HL, ⟨HI2.out.alloc _⟩, ⟨below_alloc HB2.out _⟩, ⟨World.iter_heap _ _ 0⟩⟩
    case round =>
      have HW : Aside0 (w.heap.size < w2.heap.size) := ⟨HI2.out.lt⟩
      clear HL HI2 HB2
      obtain ⟨i, t, a, b, rfl, HA, HI, HB, HT⟩ := hrel
      cases gk with
      | zero => exact absurd HA.out (by simp [spec_DrawCommandsBetween.l0])
      | succ kl =>
        have h := HA.out
        clear HA
        rw [spec_DrawCommandsBetween.l0] at h
        by_cases c : i < b1.size
        · rw [if_pos c] at h
          replace h := Option.bind_eq_some_iff.mp h
          obtain ⟨⟨q1, q2, q3⟩, ho, h⟩ := h
          by_cases cs : t.size + q1.size ≤ 9223372036854775807
          · replace h : spec_DrawCommandsBetween.l0 kl l0 b1 (t ++ q1) q2 q3 (i + (Utf8.decode b1 i).2) = some (r1, r2) := by rw [if_pos cs] at h; exact h
            have HN := Aside0.mk h
            obtain ⟨xs, hxs⟩ : ∃ xs : List ByteArray, xs = ([(⟨#[48]⟩ : ByteArray), (⟨#[49]⟩ : ByteArray), (⟨#[50]⟩ : ByteArray), (⟨#[51]⟩ : ByteArray)] : List ByteArray) := ⟨_, rfl⟩
            replace ho : spec_l1Cur_of.f l0 a b xs = some (q1, q2, q3) := by rw [hxs]; exact ho
            have HX := Aside0.mk hxs
            have HQ := Aside0.mk ho
            obtain ⟨rn, j, hj, hnx⟩ : ∃ (rn : Int) (j : Nat), j = i + (Utf8.decode b1 i).2 ∧ ∀ ty, (Instr.next (.pointer (some ⟨w2.heap.size, 0, none⟩)) true ty).run Tryz.prog wr = .ok (.tuple #[.bool true, .int .i64 (i : Int), .int .i32 rn]) (wr.iterAt w2.heap.size b1 j) := ⟨_, _, rfl, fun ty => Lib.run_next_any_at wr w2.heap.size b1 i ty HT.out c⟩
            have hnx2 : IsS60 w (wr.iterAt w2.heap.size b1 j) w.heap.size l0 a b := by
              obtain ⟨A, c, x1, x2, x3⟩ := HI.out
              have := HW.out
              exact ⟨A, c, (Lib.iterAt_other wr w2.heap.size w.heap.size b1 j (by omega)).trans x1, x2, x3⟩
            have n0_ := Aside0.mk hnx2
            have n1_ := Aside0.mk (Lib.below_iterAt HB.out (k := w2.heap.size) (Nat.le_of_lt HW.out) b1 j)
            have n2_ := Aside0.mk (Lib.iterAt_heap wr w2.heap.size b1 i j HT.out)
            rw [← hj] at h
            have HN := Aside0.mk h
            clear HI HB HT hnx2
            have HI := n0_
            have HB := n1_
            have HT := n2_
            clear n0_ n1_ n2_
            obtain ⟨W, hWd⟩ : ∃ W, wr.iterAt w2.heap.size b1 j = W := ⟨_, rfl⟩
            rw [hWd] at hnx HI HB HT
            have s1 := eq_true cs
            have s2 : decide (t.size + q1.size ≤ 9223372036854775807) = true := decide_eq_true cs
            have s3 : (9223372036854775807 < t.size + q1.size) = False := eq_false (Nat.not_lt.2 cs)
            clear h ho hxs hj hWd c cs
            go_wp2_with (first
              | ((with_reducible refine gate_dst (N := 23) rfl ?_); refine Kd.R_lit Kd.string _ 9 ?hg (N := 23) ?hd (xs := ([(⟨#[48]⟩ : ByteArray), (⟨#[49]⟩ : ByteArray), (⟨#[50]⟩ : ByteArray), (⟨#[51]⟩ : ByteArray)] : List ByteArray)) (inner := [.string (⟨#[48]⟩ : ByteArray), .string (⟨#[49]⟩ : ByteArray), .string (⟨#[50]⟩ : ByteArray), .string (⟨#[51]⟩ : ByteArray)]) (ok := fun _ => True) (okp := fun _ => True) ?hr ?hp (fun _ hk => hk) trivial (Below.refl _ _) (Nat.le_refl _) (by simp) ?_
                 (case hd => rfl)
                 (case hg => rfl)
                 (case hr => first | (go_simp; done) | (go_simp; rfl))
                 (case hp => exact (Reps.one (show Kd.M Kd.string _ _ _ (⟨#[48]⟩ : ByteArray) [.string (⟨#[48]⟩ : ByteArray)] from rfl) (Reps.one (show Kd.M Kd.string _ _ _ (⟨#[49]⟩ : ByteArray) [.string (⟨#[49]⟩ : ByteArray)] from rfl) (Reps.one (show Kd.M Kd.string _ _ _ (⟨#[50]⟩ : ByteArray) [.string (⟨#[50]⟩ : ByteArray)] from rfl) (Reps.one (show Kd.M Kd.string _ _ _ (⟨#[51]⟩ : ByteArray) [.string (⟨#[51]⟩ : ByteArray)] from rfl) (Reps.none _ _))))))
                 intro v2 w4 ho hb hg_ hnew_
                 clear hg_ hnew_
                 rw [← HX.out] at ho
                 obtain ⟨Ao, co, eo⟩ := Kd.R_slice ho
                 subst eo
                 have HO := Aside0.mk ho
                 have HF := Aside0.mk (dcb_far HI.out ho)
                 have n0_ := Aside0.mk (IsS60.below HI.out hb)
                 have n1_ := Aside0.mk (below_step HB.out hb)
                 have n2_ := Aside0.mk ((hb.block _ (Array.getElem?_eq_some_iff.1 HT.out).1).trans HT.out)
                 clear HI HB HT hb ho
                 have HI := n0_
                 have HB := n1_
                 have HT := n2_
                 clear n0_ n1_ n2_)
              | ((with_reducible refine gate_callee (f := 60) rfl ?_); refine goesL_ (some 24) rfl rfl Tryz.func60 (by kernel_rfl) rfl #[.pointer (some ⟨w.heap.size, 0, none⟩), .slice Ao xs.length co] rfl (by (try simp only [List.map_toArray, List.map_cons, List.map_nil]); first | done | rfl) ?_
                 refine (spec_l1Cur_of.calls w.heap.size l0 a b _ _ xs q1 q2 q3 w _ HI.out HB.out (Kd.R_reads' HO.out).2.2 (Kd.R_reads' HO.out).2.1 HF.out HQ.out).mono ?_
                 rintro e w5 ⟨rfl, hi, hb, hk⟩
                 refine ⟨_, rfl, ?_⟩
                 have n0_ := Aside0.mk hi
                 have n1_ := Aside0.mk hb
                 have n2_ := Aside0.mk (dcb_keep hk HW.out HT.out)
                 clear HI HB HT HO HF hi hb hk
                 have HI := n0_
                 have HB := n1_
                 have HT := n2_
                 clear n0_ n1_ n2_))
            go_roundg kl
            case measure => omega
            case rel => exact ⟨j, t ++ q1, q2, q3, rfl, HN, HI, HB, HT⟩
          · rw [if_neg cs] at h
            cases h
        · rw [if_neg c] at h
          simp only [Option.some.injEq, Prod.mk.injEq] at h
          obtain ⟨rfl, rfl⟩ := h
          have hnx : ∀ ty, (Instr.next (.pointer (some ⟨w2.heap.size, 0, none⟩)) true ty).run Tryz.prog wr = _ := fun ty => Lib.run_next_end_at wr w2.heap.size b1 i ty HT.out c
          clear HT c
          go_wp2_with fail
          go_ret2
          exact ⟨rfl, HB.out⟩

/-! ### spec_DrawBestCommand: function 33 -/
def spec_DrawBestCommand.f (k : Nat) (l0 : List Int) : Option (ByteArray × Int) := (spec_l1Cur_facing.f k l0 0 0).bind fun c0 => (spec_l1Cur_pick.f l0 c0.2.1 c0.2.2 5).bind fun c1 => (spec_l1Cur_pick.f l0 c1.2.1 c1.2.2 9).bind fun c2 => some (c0.1, (wrap64 (c1.1 - wrap64 (Int.tdiv c2.1 8))))
theorem spec_DrawBestCommand.mono : ∀ a0 k, LeO (spec_DrawBestCommand.f k a0) (spec_DrawBestCommand.f (k + 1) a0) := by
  intro a0 k
  unfold spec_DrawBestCommand.f
  repeat' first
    | (with_reducible exact spec_l1Cur_facing.mono _ _ _ _)
    | (with_reducible exact LeO.refl _)
    | (with_reducible refine LeO.ite ?_ ?_)
    | (with_reducible refine LeO.bind ?_ (fun _ => ?_))
    | exact spec_l1Cur_facing.mono _ _ _ _
set_option maxHeartbeats 8000000 in
set_option maxRecDepth 100000 in
theorem spec_DrawBestCommand.calls (k : Nat) (A0 : Option Addr) (c0 : Nat) (l0 : List Int) (r1 : ByteArray) (r2 : Int) (w : World) (hr0 : Kd.C (Kd.int .u8) w A0 l0.length l0) (hc0 : l0.length ≤ c0) (h : spec_DrawBestCommand.f k l0 = some (r1, r2)) :
    Calls Tryz.prog 33 #[.slice A0 l0.length c0] w fun e w' => e = .returned (.tuple #[.string r1, .int .i64 r2]) ∧ Below w.heap.size w w' := by
  unfold spec_DrawBestCommand.f at h
  have HI := Aside0.mk (IsS60.new w w A0 c0 l0 0 0 (Below.refl _ _) hr0)
  have HB := Aside0.mk (below_alloc (Below.refl w.heap.size w) (.cells #[.slice A0 l0.length c0, .int .i64 0, .int .u64 0] 60))
  clear hr0 hc0
  have hu65 := Tryz.underlying60
  obtain ⟨⟨d0, s0, t0⟩, h0, h⟩ := Option.bind_eq_some_iff.mp h
  obtain ⟨⟨d1, s1, t1⟩, h1, h⟩ := Option.bind_eq_some_iff.mp h
  obtain ⟨⟨d2, s2, t2⟩, h2, h⟩ := Option.bind_eq_some_iff.mp h
  simp only [Option.some.injEq, Prod.mk.injEq] at h
  obtain ⟨rfl, rfl⟩ := h
  have HD0 := Aside0.mk h0
  clear h0
  have HD1 := Aside0.mk h1
  clear h1
  have HD2 := Aside0.mk h2
  clear h2
  go_enter Tryz.func33, Tryz.ntmps33
  go_wp2_with (first
    | ((with_reducible refine gate_callee (f := 56) rfl ?_); refine goesL_ (some 9) rfl rfl Tryz.func56 (by kernel_rfl) rfl #[.pointer (some ⟨w.heap.size, 0, none⟩)] rfl (by (try simp only [List.map_toArray, List.map_cons, List.map_nil]); first | done | rfl) ?_
       refine (spec_l1Cur_facing.calls k w.heap.size l0 0 0 d0 s0 t0 w _ HI.out HB.out HD0.out).mono ?_
       rintro e w1 ⟨rfl, hi, hb, hk⟩
       refine ⟨_, rfl, ?_⟩
       have n0_ := Aside0.mk hi
       have n1_ := Aside0.mk hb
       clear HI HB hi hb hk
       have HI := n0_
       have HB := n1_
       clear n0_ n1_)
    | ((with_reducible refine gate_callee (f := 58) rfl ?_); refine goesL_ (some 11) rfl rfl Tryz.func58 (by kernel_rfl) rfl #[.pointer (some ⟨w.heap.size, 0, none⟩), .int .i64 5] rfl (by (try simp only [List.map_toArray, List.map_cons, List.map_nil]); first | done | rfl) ?_
       refine (spec_l1Cur_pick.calls w.heap.size l0 s0 t0 5 d1 s1 t1 w _ HI.out HB.out HD1.out).mono ?_
       rintro e w1 ⟨rfl, hi, hb, hk⟩
       refine ⟨_, rfl, ?_⟩
       have n0_ := Aside0.mk hi
       have n1_ := Aside0.mk hb
       clear HI HB hi hb hk
       have HI := n0_
       have HB := n1_
       clear n0_ n1_)
    | ((with_reducible refine gate_callee (f := 58) rfl ?_); refine goesL_ (some 13) rfl rfl Tryz.func58 (by kernel_rfl) rfl #[.pointer (some ⟨w.heap.size, 0, none⟩), .int .i64 9] rfl (by (try simp only [List.map_toArray, List.map_cons, List.map_nil]); first | done | rfl) ?_
       refine (spec_l1Cur_pick.calls w.heap.size l0 s1 t1 9 d2 s2 t2 w _ HI.out HB.out HD2.out).mono ?_
       rintro e w1 ⟨rfl, hi, hb, hk⟩
       refine ⟨_, rfl, ?_⟩
       have n0_ := Aside0.mk hi
       have n1_ := Aside0.mk hb
       clear HI HB hi hb hk
       have HI := n0_
       have HB := n1_
       clear n0_ n1_))
  go_ret2
  exact ⟨rfl, HB.out⟩

/-! ### spec_DrawAreFacing: function 61 -/
def spec_DrawAreFacing.f (k : Nat) (l0 : List Int) : Option (ByteArray) := (spec_l1Cur_facing.f k l0 0 0).bind fun c0 => some c0.1
theorem spec_DrawAreFacing.mono : ∀ a0 k, LeO (spec_DrawAreFacing.f k a0) (spec_DrawAreFacing.f (k + 1) a0) := by
  intro a0 k
  unfold spec_DrawAreFacing.f
  repeat' first
    | (with_reducible exact spec_l1Cur_facing.mono _ _ _ _)
    | (with_reducible exact LeO.refl _)
    | (with_reducible refine LeO.ite ?_ ?_)
    | (with_reducible refine LeO.bind ?_ (fun _ => ?_))
    | exact spec_l1Cur_facing.mono _ _ _ _
set_option maxHeartbeats 8000000 in
set_option maxRecDepth 100000 in
theorem spec_DrawAreFacing.calls (k : Nat) (A0 : Option Addr) (c0 : Nat) (l0 : List Int) (r : ByteArray) (w : World) (hr0 : Kd.C (Kd.int .u8) w A0 l0.length l0) (hc0 : l0.length ≤ c0) (h : spec_DrawAreFacing.f k l0 = some r) :
    Calls Tryz.prog 61 #[.slice A0 l0.length c0] w fun e w' => e = .returned (.string r) ∧ Below w.heap.size w w' := by
  unfold spec_DrawAreFacing.f at h
  have HI := Aside0.mk (IsS60.new w w A0 c0 l0 0 0 (Below.refl _ _) hr0)
  have HB := Aside0.mk (below_alloc (Below.refl w.heap.size w) (.cells #[.slice A0 l0.length c0, .int .i64 0, .int .u64 0] 60))
  clear hr0 hc0
  have hu65 := Tryz.underlying60
  obtain ⟨⟨d0, s0, t0⟩, h0, h⟩ := Option.bind_eq_some_iff.mp h
  simp only [Option.some.injEq, Prod.mk.injEq] at h
  subst h
  have HD0 := Aside0.mk h0
  clear h0
  go_enter Tryz.func61, Tryz.ntmps61
  go_wp2_with (first
    | ((with_reducible refine gate_callee (f := 56) rfl ?_); refine goesL_ (some 8) rfl rfl Tryz.func56 (by kernel_rfl) rfl #[.pointer (some ⟨w.heap.size, 0, none⟩)] rfl (by (try simp only [List.map_toArray, List.map_cons, List.map_nil]); first | done | rfl) ?_
       refine (spec_l1Cur_facing.calls k w.heap.size l0 0 0 d0 s0 t0 w _ HI.out HB.out HD0.out).mono ?_
       rintro e w1 ⟨rfl, hi, hb, hk⟩
       refine ⟨_, rfl, ?_⟩
       have n0_ := Aside0.mk hi
       have n1_ := Aside0.mk hb
       clear HI HB hi hb hk
       have HI := n0_
       have HB := n1_
       clear n0_ n1_))
  go_ret
  exact ⟨rfl, HB.out⟩

/-! ### spec_DrawMostFaced: function 34 -/
def spec_DrawMostFaced.f (k : Nat) (l0 : List Int) : Option (ByteArray) := (spec_DrawAreFacing.f k l0).bind fun t268 => (some t268)
theorem spec_DrawMostFaced.mono : ∀ a0 k, LeO (spec_DrawMostFaced.f k a0) (spec_DrawMostFaced.f (k + 1) a0) := by
  intro a0 k
  unfold spec_DrawMostFaced.f
  repeat' first
      | (with_reducible exact spec_DrawAreFacing.mono _ _)
      | (with_reducible exact LeO.refl _)
      | (with_reducible exact LeO.none _)
      | (with_reducible refine LeO.ite ?_ ?_)
      | (with_reducible refine LeO.bind ?_ (fun _ => ?_))
      | exact spec_DrawAreFacing.mono _ _
      | exact LeO.none _
      | refine LeO.ite ?_ ?_
      | refine LeO.bind ?_ (fun _ => ?_)
set_option maxHeartbeats 8000000 in
set_option maxRecDepth 100000 in
theorem spec_DrawMostFaced.calls (k : Nat) (A0 : Option Addr) (c0 : Nat) (l0 : List Int) (r : ByteArray) (w : World) (hr0 : Kd.C (Kd.int .u8) w A0 l0.length l0) (hc0 : l0.length ≤ c0) (h : spec_DrawMostFaced.f k l0 = some r) :
    Calls Tryz.prog 34 #[.slice A0 l0.length c0] w fun e w' => e = .returned (.string r) ∧ Below w.heap.size w w' := by
  have HR0 := Aside0.mk hr0
  have HC0 := Aside0.mk hc0
  clear hr0 hc0
  have HB := Aside0.mk (Below.refl w.heap.size w)
  have H : ((spec_DrawAreFacing.f k l0).bind fun t268 => (some t268)) = some r := h
  clear h
  replace H := Option.bind_eq_some_iff.mp H
  obtain ⟨t268, A20, H⟩ := H
  replace H : (some t268) = some r := H
  have A2 := Aside0.mk A20
  clear A20
  obtain rfl := Option.some.inj H
  go_enter Tryz.func34, Tryz.ntmps34
  go_wp2_with (first | ((with_reducible refine gate_callee (f := 61) rfl ?_); refine goesL_ (some 4) rfl rfl Tryz.func61 (by kernel_rfl) rfl #[.slice A0 l0.length c0] rfl (by (try simp only [List.map_toArray, List.map_cons, List.map_nil]); first | done | rfl | (simp only [List.length_drop, List.length_take]; rfl)) ?_; (with_reducible refine (spec_DrawAreFacing.calls k _ _ l0 t268 _ ?side1 ?side2 A2.out).mono ?_); (case side1 => repeat (first | exact HR0.out | (with_reducible refine Kd.C_alloc ?_ _) | (with_reducible refine Kd.C_drewN ?_ _) | (with_reducible refine Kd.C_drew ?_))); (case side2 => exact HC0.out); rintro e w3 ⟨rfl, hb⟩; refine ⟨_, rfl, ?_⟩; have n0_ := Aside0.mk (below_step (by repeat (first | (with_reducible first | exact HB.out | apply below_alloc | apply pw_below_drewN | apply below_drew1) | exact HB.out)) hb); clear HB; have HB := n0_; clear n0_; (try clear hb); (try clear hb2); (try clear hk); (try clear hi)))
  go_ret
  exact ⟨by first | rfl | (simp [errW_none, errW_some] <;> rfl) | (simp [*, errW_none, errW_some] <;> rfl), by repeat (first | (with_reducible first | exact HB.out | apply below_alloc | apply pw_below_drewN | apply below_drew1) | exact HB.out)⟩

end Go.Proofs.YtgdmbhldabeelaaRGreatDoor.PFnDrillsTurn
