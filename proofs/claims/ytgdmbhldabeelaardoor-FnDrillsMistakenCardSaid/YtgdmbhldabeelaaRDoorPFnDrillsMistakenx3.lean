-- Written by a program of this session's (pg.py) over the kit's print.
import Derived.Test.YtgdmbhldabeelaaRDoorPFnDrillsMistakenx0
import Derived.Test.YtgdmbhldabeelaaRDoorPFnDrillsMistakenx1
import Derived.Test.YtgdmbhldabeelaaRDoorPFnDrillsMistakenx2
namespace Go.Proofs.YtgdmbhldabeelaaRDoor.PFnDrillsMistaken
open Go.RowKit Go.Proofs.YtgdmbhldabeelaaRDoorW.PrintWords Go.Proofs.YtgdmbhldabeelaaRDoorW.PrintLast Go.Proofs.YtgdmbhldabeelaaRDoorW.PrintMore
attribute [local go_sem] max2_int min2_int max_two min_two max_three min_three max_four min_four   -- for this text's walks alone
set_option linter.unusedVariables false
set_option linter.unusedSimpArgs false

/-! ### bits_Mul32: function 75 -/
def bits_Mul32.f (a0 : Int) (a1 : Int) : Option (Int × Int) := some (((IntKind.u64.wrap ((IntKind.u64.wrap (a0)) * (IntKind.u64.wrap (a1)))) / 4294967296) % 4294967296, (IntKind.u64.wrap ((IntKind.u64.wrap (a0)) * (IntKind.u64.wrap (a1)))) % 4294967296)
set_option maxHeartbeats 8000000 in
set_option maxRecDepth 100000 in
theorem bits_Mul32.calls (a0 : Int) (a1 : Int) (r1 : Int) (r2 : Int) (w : World) (h : bits_Mul32.f a0 a1 = some (r1, r2)) :
  Calls Tryd.prog 75 #[.int .u32 a0, .int .u32 a1] w fun e w' => e = .returned (.tuple #[.int .u32 r1, .int .u32 r2]) ∧ Drawn0 w w' := by
 have H : (some (((IntKind.u64.wrap ((IntKind.u64.wrap (a0)) * (IntKind.u64.wrap (a1)))) / 4294967296) % 4294967296, (IntKind.u64.wrap ((IntKind.u64.wrap (a0)) * (IntKind.u64.wrap (a1)))) % 4294967296)) = some (r1, r2) := h
 clear h
 simp only [Option.some.injEq, Prod.mk.injEq] at H
 obtain ⟨rfl, rfl⟩ := H
 go_enter Tryd.func75, Tryd.ntmps75
 go_wp2
 go_ret2
 exact ⟨by first | rfl | (simp; done) | (simp [*]; done), by repeat (first | exact Drawn0.refl _ | apply Drawn0.step)⟩

/-! ### bits_Mul64: function 76 -/
def bits_Mul64.f (a0 : Int) (a1 : Int) : Option (Int × Int) := some (IntKind.u64.wrap ((IntKind.u64.wrap ((IntKind.u64.wrap ((a0 / 4294967296) * (a1 / 4294967296))) + ((IntKind.u64.wrap ((IntKind.u64.wrap ((a0 / 4294967296) * (Go.bits .and .u64 a1 4294967295))) + ((IntKind.u64.wrap ((Go.bits .and .u64 a0 4294967295) * (Go.bits .and .u64 a1 4294967295))) / 4294967296))) / 4294967296))) + ((IntKind.u64.wrap ((Go.bits .and .u64 (IntKind.u64.wrap ((IntKind.u64.wrap ((a0 / 4294967296) * (Go.bits .and .u64 a1 4294967295))) + ((IntKind.u64.wrap ((Go.bits .and .u64 a0 4294967295) * (Go.bits .and .u64 a1 4294967295))) / 4294967296))) 4294967295) + (IntKind.u64.wrap ((Go.bits .and .u64 a0 4294967295) * (a1 / 4294967296))))) / 4294967296)), IntKind.u64.wrap (a0 * a1))
set_option maxHeartbeats 8000000 in
set_option maxRecDepth 100000 in
theorem bits_Mul64.calls (a0 : Int) (a1 : Int) (r1 : Int) (r2 : Int) (w : World) (h : bits_Mul64.f a0 a1 = some (r1, r2)) :
  Calls Tryd.prog 76 #[.int .u64 a0, .int .u64 a1] w fun e w' => e = .returned (.tuple #[.int .u64 r1, .int .u64 r2]) ∧ Drawn0 w w' := by
 have H : (some (IntKind.u64.wrap ((IntKind.u64.wrap ((IntKind.u64.wrap ((a0 / 4294967296) * (a1 / 4294967296))) + ((IntKind.u64.wrap ((IntKind.u64.wrap ((a0 / 4294967296) * (Go.bits .and .u64 a1 4294967295))) + ((IntKind.u64.wrap ((Go.bits .and .u64 a0 4294967295) * (Go.bits .and .u64 a1 4294967295))) / 4294967296))) / 4294967296))) + ((IntKind.u64.wrap ((Go.bits .and .u64 (IntKind.u64.wrap ((IntKind.u64.wrap ((a0 / 4294967296) * (Go.bits .and .u64 a1 4294967295))) + ((IntKind.u64.wrap ((Go.bits .and .u64 a0 4294967295) * (Go.bits .and .u64 a1 4294967295))) / 4294967296))) 4294967295) + (IntKind.u64.wrap ((Go.bits .and .u64 a0 4294967295) * (a1 / 4294967296))))) / 4294967296)), IntKind.u64.wrap (a0 * a1))) = some (r1, r2) := h
 clear h
 simp only [Option.some.injEq, Prod.mk.injEq] at H
 obtain ⟨rfl, rfl⟩ := H
 go_enter Tryd.func76, Tryd.ntmps76
 go_wp2
 go_ret2
 exact ⟨by first | rfl | (simp; done) | (simp [*]; done), by repeat (first | exact Drawn0.refl _ | apply Drawn0.step)⟩

/-! ### bits_Mul: function 64 -/
def bits_Mul.f (a0 : Int) (a1 : Int) : Option (Int × Int) := (bits_Mul64.f a0 a1).bind fun bt119 => (some (bt119.1, bt119.2))
set_option maxHeartbeats 8000000 in
set_option maxRecDepth 100000 in
theorem bits_Mul.calls (a0 : Int) (a1 : Int) (r1 : Int) (r2 : Int) (w : World) (h : bits_Mul.f a0 a1 = some (r1, r2)) :
  Calls Tryd.prog 64 #[.int .u64 a0, .int .u64 a1] w fun e w' => e = .returned (.tuple #[.int .u64 r1, .int .u64 r2]) ∧ Drawn0 w w' := by
 have H : ((bits_Mul64.f a0 a1).bind fun bt119 => (some (bt119.1, bt119.2))) = some (r1, r2) := h
 clear h
 replace H := Option.bind_eq_some_iff.mp H
 obtain ⟨⟨t119, t120⟩, A30, H⟩ := H
 replace H : (some (t119, t120)) = some (r1, r2) := H
 have A3 := Aside0.mk A30
 clear A30
 simp only [Option.some.injEq, Prod.mk.injEq] at H
 obtain ⟨rfl, rfl⟩ := H
 go_enter Tryd.func64, Tryd.ntmps64
 go_wp2_with (first | ((with_reducible refine gate_callee (f := 76) rfl ?_); refine goesL_ (some 25) rfl rfl Tryd.func76 (by kernel_rfl) rfl #[.int .u64 a0, .int .u64 a1] rfl (by (try simp only [List.map_toArray, List.map_cons, List.map_nil]); first | done | rfl | (simp only [List.length_drop, List.length_take]; rfl) | (simp [Act.eval, Lays.u8_i64]; done)) ?_; (with_reducible refine (bits_Mul64.calls a0 a1 t119 t120 _ A3.out).mono ?_); rintro e w' ⟨rfl, ⟨nd, rfl⟩⟩; refine ⟨_, rfl, ?_⟩))
 go_ret2
 exact ⟨by first | rfl | (simp; done) | (simp [*]; done), by repeat (first | exact Drawn0.refl _ | apply Drawn0.step)⟩

-- NOT PRINTED: function 50 (slices_Repeat_int_int)

-- NOT PRINTED: function 51 (impl_drilled_1)

-- NOT PRINTED: function 52 (impl_drilled_2)

/-! ### impl_drilled: function 24 -/
theorem dr_hid {p : Prop} (h : p) : Hid p := h
def dr_fac1 (b t : Int) : Int := (wrap64 (48 + Int.tmod (wrap64 (wrap64 ((b - 48) % 256) + t)) 4)) % 256
def dr_facL (s : ByteArray) (T : Int → Int) (n : Nat) : List Int := (List.range n).map fun (i : Nat) => dr_fac1 (bt s (i : Int)) (T (i : Int))
theorem dr_below_bytes (w : World) (e : TypeId) (s : ByteArray) : Below w.heap.size w (Lib.bytesWorld w e s) :=
  ⟨rfl, rfl, rfl, by rw [Lib.bytesWorld_size]; omega, fun j hj => Lib.bytesWorld_at_old w e s j hj⟩
theorem dr_bytes_at (s : ByteArray) (j : Nat) (h : j < s.size) : ((s.data.toList.getD j 0).toNat : Int) = bt s (j : Int) := by
  have hz := Lib.size_eq s
  unfold bt
  rw [dif_pos (by simpa using h)]
  have : s.data.toList.getD j 0 = s[j] := by
    rw [List.getD_eq_getElem?_getD, List.getElem?_eq_getElem (by omega)]
    simp
    rfl
  rw [this]
  rfl
set_option maxHeartbeats 4000000 in
set_option maxRecDepth 100000 in
theorem dr_fac_one (s : ByteArray) (w : World) (hs : s.size ≤ 1000000) (g : Nat) (T : Int → Int) (hcall : ∀ (wr : World) (i : Nat), i < s.size → Below w.heap.size w wr → Calls Tryd.prog 51 #[.int .i64 i, .pointer (some ⟨g, 0, none⟩)] wr fun e w' => e = .returned (.int .i64 (T i)) ∧ w' = wr) :
    Calls Tryd.prog 34 #[.string s, .func (.func 51) #[] #[.pointer (some ⟨g, 0, none⟩)]] w fun e w' => e = .returned (.string (strOfNums (dr_facL s T s.size))) ∧ Below w.heap.size w w' := by
  have hcv := Lib.run_convert_string_bytes (P := Tryd.prog) w 9 39 5 s Tryd.underlying9 Tryd.underlying39 Tryd.underlying5
  have hc0 : ∀ (j : Nat), j < s.size → (Lib.bytesWorld w 5 s).cell? ⟨w.heap.size, j, none⟩ = some (.int .u8 (bt s (j : Int))) := fun j hj => by rw [Lib.bytesWorld_cell w 5 s j hj, dr_bytes_at s j hj]
  have hf0 : ∀ (j : Nat), j < s.size → (Lib.bytesWorld w 5 s).frozen? ⟨w.heap.size, j, none⟩ = false := fun j hj => by
    have hb := Lib.bytesWorld_at_new w 5 s
    have hz : s.size ≤ (Lib.bytesCells w 5 s).size := by unfold Lib.bytesCells; rw [Array.size_append, Array.size_map, Array.size_replicate, show s.data.size = s.size from rfl]; omega
    simp [World.frozen?, hb]
    omega
  have hsz := Lib.bytesWorld_size w 5 s
  have hbel := dr_below_bytes w 5 s
  generalize Lib.bytesWorld w 5 s = w1 at hcv hc0 hf0 hsz hbel
  go_enter Tryd.func34, Tryd.ntmps34
  go_wp2
  go_loopw [11] (fun i wr => ∃ k : Nat, k ≤ s.size ∧ i = .int .i64 k ∧ (∀ (j : Nat), j < s.size → wr.cell? ⟨w.heap.size, j, none⟩ = some (.int .u8 (if j < k then dr_fac1 (bt s (j : Int)) (T (j : Int)) else bt s (j : Int)))) ∧ (∀ (j : Nat), j < s.size → wr.frozen? ⟨w.heap.size, j, none⟩ = false) ∧ w.heap.size < wr.heap.size ∧ Below w.heap.size w wr)
    (fun i _ => s.size - (intOf i).toNat)
  case atStart => exact ⟨0, Nat.zero_le _, rfl, fun j hj => by simpa using hc0 j hj, hf0, by rw [hsz]; exact Nat.lt_succ_self _, hbel⟩
  case round =>
    obtain ⟨k, hk, rfl, hc, hf, hlt, hB⟩ := hrel
    clear hc0 hf0 hsz hbel hcv
    by_cases ck : k < s.size
    · have q1 : decide ((k : Int) < (s.size : Int)) = true := decide_eq_true (by omega)
      have hck := hc k ck
      have hfk := hf k ck
      rw [if_neg (by omega)] at hck
      have p1 : (0 : Int) ≤ (k : Int) := by omega
      have p2 : (k : Int) < (s.size : Int) := by omega
      have q3 : (0 : Int) ≤ (k : Int) := p1
      go_wp2_with fail
      refine wp_region_still_tail 15 (by kernel_rfl) (by kernel_rfl) ?_
      simp only [List.take_succ_cons, List.take_zero, List.drop_succ_cons, List.drop_zero]
      repeat still_step
      still_call (hcall _ k ck (below_drew hB))
      repeat still_step
      refine wpStill_nil ?_
      change wpList _ _ _ _ _ wr.drew
      have hc2 : ∀ (j : Nat), j < s.size → wr.drew.cell? ⟨w.heap.size, j, none⟩ = some (.int .u8 (if j < k then dr_fac1 (bt s (j : Int)) (T (j : Int)) else bt s (j : Int))) := hc
      have hf2 : ∀ (j : Nat), j < s.size → wr.drew.frozen? ⟨w.heap.size, j, none⟩ = false := hf
      have hlt2 : w.heap.size < wr.drew.heap.size := hlt
      have hB2 : Below w.heap.size w wr.drew := below_drew hB
      clear hc hf hlt hB hck hfk hcall
      generalize wr.drew = w2 at hc2 hf2 hlt2 hB2 ⊢
      have hck := hc2 k ck
      have hfk := hf2 k ck
      rw [if_neg (by omega)] at hck
      go_wp2
      refine ⟨⟨k + 1, by omega, by simp, fun j hj => ?_, fun j hj => ?_, ?_, ?_⟩, by simp [intOf]; omega⟩
      · by_cases hjk : j = k
        · subst hjk
          rw [World.cell?_setCell_same' w2 _ _ (by rw [hck]; rfl), if_pos (by omega)]
          rfl
        · rw [World.cell?_setCell_other w2 _ _ _ (show (⟨w.heap.size, k, none⟩ : Addr) ≠ ⟨w.heap.size, j, none⟩ by intro h; injection h with _ h2 _; omega), hc2 j hj]
          by_cases c : j < k
          · rw [if_pos c, if_pos (by omega)]
          · rw [if_neg c, if_neg (by omega)]
      · rw [World.frozen?_setCell]; exact hf2 j hj
      · simpa using hlt2
      · exact below_set hB2 (Nat.le_refl _)
    · obtain rfl : k = s.size := by omega
      have q1 : decide ((s.size : Int) < (s.size : Int)) = false := decide_eq_false (by omega)
      have hback := run_convert_bytes_arg (P := Tryd.prog) wr 39 5 Tryd.underlying39 Tryd.underlying5 w.heap.size 0 s.size (grownCap w s.size 0 5) (dr_facL s T s.size) (by simp [dr_facL]) (fun i hi => by
        rw [Nat.zero_add, hc i hi, if_pos hi]
        simp [dr_facL, List.getD, hi]) 9 Tryd.underlying9
      go_wp2
      go_ret
      exact ⟨rfl, hB⟩
set_option maxHeartbeats 4000000 in
set_option maxRecDepth 100000 in
theorem dr_fac_each (s : ByteArray) (w : World) (hs : s.size ≤ 1000000) (g : Nat) (T : Int → Int) (hcall : ∀ (wr : World) (i : Nat), i < s.size → Below w.heap.size w wr → Calls Tryd.prog 52 #[.int .i64 i, .pointer (some ⟨g, 0, none⟩)] wr fun e w' => e = .returned (.int .i64 (T i)) ∧ w' = wr) :
    Calls Tryd.prog 34 #[.string s, .func (.func 52) #[] #[.pointer (some ⟨g, 0, none⟩)]] w fun e w' => e = .returned (.string (strOfNums (dr_facL s T s.size))) ∧ Below w.heap.size w w' := by
  have hcv := Lib.run_convert_string_bytes (P := Tryd.prog) w 9 39 5 s Tryd.underlying9 Tryd.underlying39 Tryd.underlying5
  have hc0 : ∀ (j : Nat), j < s.size → (Lib.bytesWorld w 5 s).cell? ⟨w.heap.size, j, none⟩ = some (.int .u8 (bt s (j : Int))) := fun j hj => by rw [Lib.bytesWorld_cell w 5 s j hj, dr_bytes_at s j hj]
  have hf0 : ∀ (j : Nat), j < s.size → (Lib.bytesWorld w 5 s).frozen? ⟨w.heap.size, j, none⟩ = false := fun j hj => by
    have hb := Lib.bytesWorld_at_new w 5 s
    have hz : s.size ≤ (Lib.bytesCells w 5 s).size := by unfold Lib.bytesCells; rw [Array.size_append, Array.size_map, Array.size_replicate, show s.data.size = s.size from rfl]; omega
    simp [World.frozen?, hb]
    omega
  have hsz := Lib.bytesWorld_size w 5 s
  have hbel := dr_below_bytes w 5 s
  generalize Lib.bytesWorld w 5 s = w1 at hcv hc0 hf0 hsz hbel
  go_enter Tryd.func34, Tryd.ntmps34
  go_wp2
  go_loopw [11] (fun i wr => ∃ k : Nat, k ≤ s.size ∧ i = .int .i64 k ∧ (∀ (j : Nat), j < s.size → wr.cell? ⟨w.heap.size, j, none⟩ = some (.int .u8 (if j < k then dr_fac1 (bt s (j : Int)) (T (j : Int)) else bt s (j : Int)))) ∧ (∀ (j : Nat), j < s.size → wr.frozen? ⟨w.heap.size, j, none⟩ = false) ∧ w.heap.size < wr.heap.size ∧ Below w.heap.size w wr)
    (fun i _ => s.size - (intOf i).toNat)
  case atStart => exact ⟨0, Nat.zero_le _, rfl, fun j hj => by simpa using hc0 j hj, hf0, by rw [hsz]; exact Nat.lt_succ_self _, hbel⟩
  case round =>
    obtain ⟨k, hk, rfl, hc, hf, hlt, hB⟩ := hrel
    clear hc0 hf0 hsz hbel hcv
    by_cases ck : k < s.size
    · have q1 : decide ((k : Int) < (s.size : Int)) = true := decide_eq_true (by omega)
      have hck := hc k ck
      have hfk := hf k ck
      rw [if_neg (by omega)] at hck
      have p1 : (0 : Int) ≤ (k : Int) := by omega
      have p2 : (k : Int) < (s.size : Int) := by omega
      have q3 : (0 : Int) ≤ (k : Int) := p1
      go_wp2_with fail
      refine wp_region_still_tail 15 (by kernel_rfl) (by kernel_rfl) ?_
      simp only [List.take_succ_cons, List.take_zero, List.drop_succ_cons, List.drop_zero]
      repeat still_step
      still_call (hcall _ k ck (below_drew hB))
      repeat still_step
      refine wpStill_nil ?_
      change wpList _ _ _ _ _ wr.drew
      have hc2 : ∀ (j : Nat), j < s.size → wr.drew.cell? ⟨w.heap.size, j, none⟩ = some (.int .u8 (if j < k then dr_fac1 (bt s (j : Int)) (T (j : Int)) else bt s (j : Int))) := hc
      have hf2 : ∀ (j : Nat), j < s.size → wr.drew.frozen? ⟨w.heap.size, j, none⟩ = false := hf
      have hlt2 : w.heap.size < wr.drew.heap.size := hlt
      have hB2 : Below w.heap.size w wr.drew := below_drew hB
      clear hc hf hlt hB hck hfk hcall
      generalize wr.drew = w2 at hc2 hf2 hlt2 hB2 ⊢
      have hck := hc2 k ck
      have hfk := hf2 k ck
      rw [if_neg (by omega)] at hck
      go_wp2
      refine ⟨⟨k + 1, by omega, by simp, fun j hj => ?_, fun j hj => ?_, ?_, ?_⟩, by simp [intOf]; omega⟩
      · by_cases hjk : j = k
        · subst hjk
          rw [World.cell?_setCell_same' w2 _ _ (by rw [hck]; rfl), if_pos (by omega)]
          rfl
        · rw [World.cell?_setCell_other w2 _ _ _ (show (⟨w.heap.size, k, none⟩ : Addr) ≠ ⟨w.heap.size, j, none⟩ by intro h; injection h with _ h2 _; omega), hc2 j hj]
          by_cases c : j < k
          · rw [if_pos c, if_pos (by omega)]
          · rw [if_neg c, if_neg (by omega)]
      · rw [World.frozen?_setCell]; exact hf2 j hj
      · simpa using hlt2
      · exact below_set hB2 (Nat.le_refl _)
    · obtain rfl : k = s.size := by omega
      have q1 : decide ((s.size : Int) < (s.size : Int)) = false := decide_eq_false (by omega)
      have hback := run_convert_bytes_arg (P := Tryd.prog) wr 39 5 Tryd.underlying39 Tryd.underlying5 w.heap.size 0 s.size (grownCap w s.size 0 5) (dr_facL s T s.size) (by simp [dr_facL]) (fun i hi => by
        rw [Nat.zero_add, hc i hi, if_pos hi]
        simp [dr_facL, List.getD, hi]) 9 Tryd.underlying9
      go_wp2
      go_ret
      exact ⟨rfl, hB⟩
set_option maxHeartbeats 4000000 in
set_option maxRecDepth 100000 in
theorem dr_repeat (x : Int) (n : Nat) (h1 : 1 ≤ n) (h30 : n ≤ 30) (hb : Nat) (w : World) (hbl : hb < w.heap.size) (hx : w.cell? ⟨hb, 0, none⟩ = some (.int .i64 x)) (hmul : bits_Mul.f 1 n = some (0, (n : Int))) :
    Calls Tryd.prog 50 #[.slice (some ⟨hb, 0, none⟩) 1 1, .int .i64 n] w fun e w' => ∃ g, e = .returned (.slice (some ⟨g, 0, none⟩) n n) ∧ w.heap.size ≤ g ∧ w'.heap[g]? = some (.cells (List.replicate n (Value.int .i64 x)).toArray 3 (0, 0)) ∧ Below w.heap.size w w' := by
  have q0 : decide ((n : Int) < 0) = false := decide_eq_false (by omega)
  go_enter Tryd.func50, Tryd.ntmps50
  go_wp2_with fail
  refine (bits_Mul.calls 1 n 0 n _ hmul).mono ?_
  rintro e w1 ⟨rfl, ⟨nd, rfl⟩⟩
  have hB := pw_below_drewN (Below.refl w.heap.size w) nd
  generalize w.drewN nd = w2 at hB ⊢
  have q1 : decide ((n : Int) > 9223372036854775807) = false := decide_eq_false (by omega)
  obtain ⟨i0, hi0, hz0, hs0, hb0⟩ := info_parts (show (Tryd.prog.info? 3).map (fun i => (i.zero, i.size, i.bytes)) = some (some (.int .i64 0), 1, 8) by kernel_rfl)
  have hmk := run_makeSlice (P := Tryd.prog) (w := w2) 25 3 i0 (.int .i64 0) Tryd.underlying25 hi0 hz0 .i64 .i64 (n : Int) (n : Int) (by omega) (by omega) (by rw [hs0]; omega) (by rw [hb0]; omega) (by omega)
  simp only [Int.toNat_natCast] at hmk
  have hx2 : w2.cell? ⟨hb, 0, none⟩ = some (.int .i64 x) := (hB.cell (by exact hbl)).trans hx
  generalize hw3 : w2.alloc (.cells (madeCells (Value.int .i64 0).cells (n * i0.size)) 3) = w3 at hmk
  have hmc : madeCells (Value.int .i64 0).cells (n * i0.size) = (List.replicate n (Value.int .i64 0)).toArray := by
    rw [hs0, Nat.mul_one]
    apply Array.ext
    · simp [madeCells, Value.cells]
    · intro i h1 h2
      simp [madeCells, Value.cells, Nat.mod_one]
  have hg3 : w3.heap[w2.heap.size]? = some (.cells (List.replicate n (Value.int .i64 0)).toArray 3 (0, 0)) := by
    rw [← hw3, hmc]
    show (w2.heap.push _)[w2.heap.size]? = _
    exact Array.getElem?_push_size
  have hx3 : w3.cell? ⟨hb, 0, none⟩ = some (.int .i64 x) := by
    rw [← hw3, World.cell?_alloc_lt _ _ _ (show hb < w2.heap.size from Nat.lt_of_lt_of_le hbl hB.size)]
    exact hx2
  have hB3 : Below w.heap.size w w3 := by rw [← hw3]; exact below_alloc hB _
  have hge : w.heap.size ≤ w2.heap.size := hB.size
  have hcp := run_copy_row (P := Tryd.prog) w3 25 25 3 3 w2.heap.size 0 n n ⟨hb, 0, none⟩ 1 1 (List.replicate n (Value.int .i64 0)).toArray 3 [Value.int .i64 x] Tryd.underlying25 (by kernel_rfl) hg3 (by simp [Nat.min_def]; omega) (fun j v hj => by
    match j, hj with
    | 0, hj => simp at hj; subst hj; exact hx3) (by simp; omega) (by intro v hv; simp at hv; subst hv; rfl)
  generalize hw4 : w3.setRow w2.heap.size _ = w4 at hcp
  go_wp2
  have hg4 : w4.heap[w2.heap.size]? = some (.cells (List.replicate 1 (Value.int .i64 x) ++ List.replicate (n - 1) (Value.int .i64 0)).toArray 3 (0, 0)) := by
    rw [← hw4, setRow_heap w3 _ _ _ 3 _ hg3]
    simp [List.drop_replicate]
  have hB4 : Below w.heap.size w w4 := by rw [← hw4]; exact below_setRow hB3 hge _
  clear hcp hmk hx2 hx3 hg3
  go_loopw [8] (fun v8 wr => ∃ c : Nat, 1 ≤ c ∧ c ≤ n ∧ v8 = .int .i64 c ∧ wr.heap[w2.heap.size]? = some (.cells (List.replicate c (Value.int .i64 x) ++ List.replicate (n - c) (Value.int .i64 0)).toArray 3 (0, 0)) ∧ Below w.heap.size w wr) (fun v8 _ => n - (intOf v8).toNat)
  case atStart => exact ⟨1, Nat.le_refl _, h1, rfl, hg4, hB4⟩
  case round =>
    obtain ⟨c, hc1, hcn, rfl, hgr, hBr⟩ := hrel
    clear hg4 hB4
    by_cases ck : c < n
    · have q1c : decide ((c : Int) < (n : Int)) = true := decide_eq_true (by omega)
      have hne : ¬ n = c := by omega
      have hle : c ≤ n := hcn
      have hsrc : ∀ (j : Nat) (v : Value), (List.replicate (min c (n - c)) (Value.int .i64 x))[j]? = some v → wr.drew.cell? ((⟨w2.heap.size, 0, none⟩ : Addr).add j) = some v := by
        intro j v hj
        have hjl : j < min c (n - c) := by
          have := (List.getElem?_eq_some_iff.1 hj).1
          rwa [List.length_replicate] at this
        rw [List.getElem?_replicate, if_pos hjl] at hj
        injection hj with hj
        subst hj
        have hz : (List.replicate c (Value.int .i64 x) ++ List.replicate (n - c) (Value.int .i64 0))[j]? = some (Value.int .i64 x) := by
          rw [List.getElem?_append_left (by rw [List.length_replicate]; omega), List.getElem?_replicate, if_pos (by omega)]
        have hgr' : wr.drew.heap[w2.heap.size]? = some (.cells (List.replicate c (Value.int .i64 x) ++ List.replicate (n - c) (Value.int .i64 0)).toArray 3 (0, 0)) := hgr
        have ea : (⟨w2.heap.size, 0, none⟩ : Addr).add j = ⟨w2.heap.size, j, none⟩ := by
          unfold Addr.add
          split <;> simp_all
        rw [ea]
        simp only [World.cell?, hgr']
        simpa using hz
      have hgd : wr.drew.heap[w2.heap.size]? = some (.cells (List.replicate c (Value.int .i64 x) ++ List.replicate (n - c) (Value.int .i64 0)).toArray 3 (0, 0)) := hgr
      have HG := dr_hid hgd
      have HS := dr_hid hsrc
      have hBd := below_drew hBr
      obtain ⟨cs, hcs⟩ : ∃ cs, cs = List.replicate (min c (n - c)) (Value.int .i64 x) := ⟨_, rfl⟩
      have hcl : cs.length = min c (n - c) := by rw [hcs, List.length_replicate]
      have HC := dr_hid hcl
      have HCS := dr_hid hcs
      obtain ⟨cur, hcur⟩ : ∃ cur, cur = List.replicate c (Value.int .i64 x) ++ List.replicate (n - c) (Value.int .i64 0) := ⟨_, rfl⟩
      have HCU := dr_hid hcur
      rw [← hcur] at HG
      rw [← hcs] at HS
      have hwr : IntKind.i64.wrap ((c : Int) + (cs.length : Int)) = ((c + cs.length : Nat) : Int) := by rw [Go.IntKind.wrap_i64]; omega
      have hroom : c + cs.length ≤ n := by omega
      have hpos : 1 ≤ cs.length := by omega
      clear hgr hsrc hgd hBr hcs hcl hcur
      go_wp2_with fail
      go_region_law (refine step_copy_splice rfl (.tmp 41) (.tmp 44) 25 25 rfl 3 Tryd.underlying25 (by kernel_rfl) (some ⟨w2.heap.size, c, none⟩) (some ⟨w2.heap.size, 0, none⟩) (n - c) (n - c) c n (by simp [Act.eval, Act.put]) (by simp [Act.eval, Act.put]) w2.heap.size c cur 3 HG.out cs HC.out (fun _ => ⟨rfl, _, rfl, HS.out⟩) (by rw [HC.out, HCU.out, List.length_append, List.length_replicate, List.length_replicate]; omega) (by rw [HCS.out]; intro v hv; rw [List.eq_of_mem_replicate hv]; rfl) w.heap.size w hBd hge ?_; intro w5 hg5 hb5)
      clear hBd HS HG
      have hfin : w5.heap[w2.heap.size]? = some (.cells (List.replicate (c + cs.length) (Value.int .i64 x) ++ List.replicate (n - (c + cs.length)) (Value.int .i64 0)).toArray 3 (0, 0)) := by
        have e : splice cur c cs = List.replicate (c + cs.length) (Value.int .i64 x) ++ List.replicate (n - (c + cs.length)) (Value.int .i64 0) := by
          have h1 := HC.out
          unfold splice
          have ed : (List.replicate c (Value.int .i64 x) ++ List.replicate (n - c) (Value.int .i64 0)).drop (c + cs.length) = List.replicate (n - (c + cs.length)) (Value.int .i64 0) := by
            rw [List.drop_append, List.length_replicate, List.drop_of_length_le (by rw [List.length_replicate]; omega), List.nil_append, List.drop_replicate]
            congr 1
            omega
          have et : (List.replicate c (Value.int .i64 x) ++ List.replicate (n - c) (Value.int .i64 0)).take c = List.replicate c (Value.int .i64 x) := List.take_left' (by rw [List.length_replicate])
          rw [HCU.out, ed, et, ← List.append_assoc]
          congr 1
          have e2 : cs = List.replicate cs.length (Value.int .i64 x) := by rw [h1]; exact HCS.out
          rw [e2, List.length_replicate]
          exact List.replicate_append_replicate
        rw [hg5.out, e]
      clear hg5
      go_simp
      go_roundw
      case rel =>
        refine ⟨_, _, _, _, _, _, _, _, _, _, _, _, _, _, ⟨c + cs.length, by omega, hroom, ?_, hfin, hb5⟩, rfl⟩
        go_num
      case measure => simp [intOf]; omega
    · obtain rfl : c = n := by omega
      have q1c : decide ((c : Int) < (c : Int)) = false := decide_eq_false (by omega)
      go_wp2
      go_ret
      exact ⟨_, rfl, hge, by simpa using hgr, hBr⟩
def tnV (b : Int) : Int := Lib.indexByte [83, 82, 65, 76] b.toNat.toUInt8
theorem dr_turnOf (b : Int) (w : World) : Calls Tryd.prog 39 #[.int .u8 b] w fun e w' => e = .returned (.int .i64 (tnV b)) ∧ w' = w := by
  go_enter Tryd.func39, Tryd.ntmps39
  go_wp2_with fail
  refine (Lays.indexByte _ _ _).mono ?_
  rintro e w' ⟨rfl, rfl⟩
  go_wp2
  go_ret
  exact ⟨rfl, rfl⟩
theorem dr_turn (g : Nat) (i t : Int) (w : World) (ht : w.cell? ⟨g, 0, none⟩ = some (.int .i64 t)) :
    Calls Tryd.prog 51 #[.int .i64 i, .pointer (some ⟨g, 0, none⟩)] w fun e w' => e = .returned (.int .i64 t) ∧ w' = w := by
  go_enter Tryd.func51, Tryd.ntmps51
  go_wp2
  go_ret
  exact ⟨rfl, rfl⟩
theorem dr_turns (gb g n : Nat) (t : Int) (i : Nat) (hi : i < n) (w : World) (ht : w.cell? ⟨gb, 0, none⟩ = some (.slice (some ⟨g, 0, none⟩) n n)) (hc : w.cell? ⟨g, i, none⟩ = some (.int .i64 t)) :
    Calls Tryd.prog 52 #[.int .i64 (i : Int), .pointer (some ⟨gb, 0, none⟩)] w fun e w' => e = .returned (.int .i64 t) ∧ w' = w := by
  have p1 : (0 : Int) ≤ (i : Int) := by omega
  have p2 : (i : Int) < (n : Int) := by omega
  have p3 : ((i : Int)).toNat = i := by omega
  go_enter Tryd.func52, Tryd.ntmps52
  go_wp2
  go_ret
  exact ⟨rfl, rfl⟩
/-- One mistake: how far its soldier turns besides. -/
def dr_by (a1 : ByteArray) (m : S34) : Int := wrap64 (wrap64 (tnV (bt m.f2 0) + 4) - tnV (bt a1 m.f1))
/-- The mistakes, one after another. -/
def dr_all (a1 : ByteArray) : List S34 → List Int → Option (List Int)
  | [], T => some T
  | m :: ms, T => if 0 ≤ m.f0 ∧ m.f0 < (T.length : Int) ∧ 0 < m.f2.size ∧ 0 ≤ m.f1 ∧ m.f1 < (a1.size : Int) then dr_all a1 ms (T.set m.f0.toNat (wrap64 (T.getD m.f0.toNat 0 + dr_by a1 m))) else none
theorem dr_mul : ∀ n : Nat, n ≤ 30 → bits_Mul.f 1 (n : Int) = some (0, (n : Int)) := by
  intro n hn
  have h : (List.range 31).all (fun n => bits_Mul.f 1 (n : Int) == some (0, (n : Int))) = true := by kernel_rfl
  have := List.all_eq_true.1 h n (List.mem_range.2 (by omega))
  simpa using this
def impl_drilled.f (k : Nat) (a0 : ByteArray) (a1 : ByteArray) (l2 : List S34) : Option (ByteArray × ByteArray × Bool) :=
  (impl_areFacing.f a0).bind fun t => if t = true then ((impl_areCommands.f a1).bind fun u => if u = true then ((impl_areMistakes.f k (a0.size : Int) a1 l2).bind fun v => if v = true then ((impl_netTurn.f k a1).bind fun n => if 1 ≤ a0.size ∧ a0.size ≤ 30 then ((dr_all a1 l2 (List.replicate a0.size n)).bind fun T => some (strOfNums (dr_facL a0 (fun _ => n) a0.size), strOfNums (dr_facL a0 (fun i => T.getD i.toNat 0) a0.size), true)) else none) else some (⟨#[]⟩, ⟨#[]⟩, false)) else some (⟨#[]⟩, ⟨#[]⟩, false)) else some (⟨#[]⟩, ⟨#[]⟩, false)
theorem impl_drilled.mono : ∀ a0 a1 l2 k, LeO (impl_drilled.f k a0 a1 l2) (impl_drilled.f (k + 1) a0 a1 l2) := fun a0 a1 l2 k =>
  LeO.bind (LeO.refl _) fun _ => LeO.ite (LeO.bind (LeO.refl _) fun _ => LeO.ite (LeO.bind (impl_areMistakes.mono _ _ _ _) fun _ => LeO.ite (LeO.bind (impl_netTurn.mono _ _) fun _ => LeO.refl _) (LeO.refl _)) (LeO.refl _)) (LeO.refl _)
theorem dr_set_self (T : List Int) (a : Nat) (v : Int) (h : a < T.length) : (T.set a v).getD a 0 = v := by simp [List.getD, h]
theorem dr_set_ne (T : List Int) (a i : Nat) (v : Int) (h : ¬ a = i) : (T.set a v).getD i 0 = T.getD i 0 := by simp [List.getD, h]
theorem dr_next {n j : Nat} (h : n ≤ 9223372036854775807) (hj : j < n) : wrap64 ((j : Int) + 1) = ((j + 1 : Nat) : Int) := by unfold wrap64; omega
theorem dr_meas (j n : Nat) (h : j < n) : n - (intOf (Value.int .i64 ((j + 1 : Nat) : Int))).toNat < n - (intOf (Value.int .i64 (j : Int))).toNat := by simp [intOf]; omega
set_option maxHeartbeats 4000000 in
set_option maxRecDepth 100000 in
theorem impl_drilled.calls (k : Nat) (a0 : ByteArray) (a1 : ByteArray) (A2 : Option Addr) (c2 : Nat) (l2 : List (S34)) (r1 : ByteArray) (r2 : ByteArray) (r3 : Bool) (w : World) (hr2 : Kd.C k34 w A2 l2.length l2) (hc2 : l2.length ≤ c2) (h : impl_drilled.f k a0 a1 l2 = some (r1, r2, r3)) :
    Calls Tryd.prog 24 #[.string a0, .string a1, .slice A2 l2.length c2] w fun e w' => e = .returned (.tuple #[.string r1, .string r2, .bool r3]) ∧ Below w.heap.size w w' := by
  have hmf : ∀ (fn : Fn) (first cap : Array Value) (w : World), (Instr.makeFunc fn first cap).run Tryd.prog w = .ok (.func fn first cap) w := fun _ _ _ _ => rfl
  have HR2 := Aside0.mk hr2
  have HC2 := Aside0.mk hc2
  clear hr2 hc2
  obtain ⟨t, h1, h⟩ := Option.bind_eq_some_iff.mp h
  have H1 := Aside0.mk h1
  clear h1
  cases t with
  | false =>
    rw [if_neg (by decide)] at h
    injection h with h
    injection h with e1 h
    injection h with e2 e3
    subst e1 e2 e3
    go_enter Tryd.func24, Tryd.ntmps24
    go_wp2_with fail
    refine (impl_areFacing.calls a0 false _ H1.out).mono ?_
    rintro e w1 ⟨rfl, hb⟩
    go_wp2
    go_ret3
    exact ⟨rfl, hb⟩
  | true =>
    rw [if_pos rfl] at h
    obtain ⟨u, h2, h⟩ := Option.bind_eq_some_iff.mp h
    have H2 := Aside0.mk h2
    clear h2
    cases u with
    | false =>
      rw [if_neg (by decide)] at h
      injection h with h
      injection h with e1 h
      injection h with e2 e3
      subst e1 e2 e3
      go_enter Tryd.func24, Tryd.ntmps24
      go_wp2_with fail
      refine (impl_areFacing.calls a0 true _ H1.out).mono ?_
      rintro e w1 ⟨rfl, hb⟩
      go_wp2_with fail
      refine (impl_areCommands.calls a1 false _ H2.out).mono ?_
      rintro e w2 ⟨rfl, hb2⟩
      have hb3 := below_step hb hb2
      go_wp2
      go_ret3
      exact ⟨rfl, hb3⟩
    | true =>
      rw [if_pos rfl] at h
      obtain ⟨v, h3, h⟩ := Option.bind_eq_some_iff.mp h
      have H3 := Aside0.mk h3
      clear h3
      cases v with
      | false =>
        rw [if_neg (by decide)] at h
        injection h with h
        injection h with e1 h
        injection h with e2 e3
        subst e1 e2 e3
        go_enter Tryd.func24, Tryd.ntmps24
        go_wp2_with fail
        refine (impl_areFacing.calls a0 true _ H1.out).mono ?_
        rintro e w1 ⟨rfl, hb⟩
        go_wp2_with fail
        refine (impl_areCommands.calls a1 true _ H2.out).mono ?_
        rintro e w2 ⟨rfl, hb2⟩
        have hb3 := below_step hb hb2
        clear hb hb2
        go_wp2_with fail
        refine (impl_areMistakes.calls k (a0.size : Int) a1 A2 c2 l2 false _ (Kd.C_below HR2.out hb3) HC2.out H3.out).mono ?_
        rintro e w3 ⟨rfl, hb4⟩
        have hb5 := below_step hb3 hb4
        go_wp2
        go_ret3
        exact ⟨rfl, hb5⟩
      | true =>
        rw [if_pos rfl] at h
        obtain ⟨n, h4, h⟩ := Option.bind_eq_some_iff.mp h
        have H4 := Aside0.mk h4
        clear h4
        by_cases hs : 1 ≤ a0.size ∧ a0.size ≤ 30
        · rw [if_pos hs] at h
          obtain ⟨T, h5, h⟩ := Option.bind_eq_some_iff.mp h
          injection h with h
          injection h with e1 h
          injection h with e2 e3
          subst e1 e2 e3
          have H5 := Aside0.mk h5
          obtain ⟨hs1, hs30⟩ := hs
          clear h5
          go_enter Tryd.func24, Tryd.ntmps24
          go_wp2_with fail
          refine (impl_areFacing.calls a0 true _ H1.out).mono ?_
          rintro e w1 ⟨rfl, hb⟩
          go_wp2_with fail
          refine (impl_areCommands.calls a1 true _ H2.out).mono ?_
          rintro e w2 ⟨rfl, hb2⟩
          have hb3 := below_step hb hb2
          clear hb hb2
          go_wp2_with fail
          refine (impl_areMistakes.calls k (a0.size : Int) a1 A2 c2 l2 true _ (Kd.C_below HR2.out hb3) HC2.out H3.out).mono ?_
          rintro e w3 ⟨rfl, hb4⟩
          have hb5 := below_step hb3 hb4
          clear hb3 hb4
          go_wp2_with fail
          refine (impl_netTurn.calls k a1 n _ H4.out).mono ?_
          rintro e w4 ⟨rfl, ⟨nd, rfl⟩⟩
          have hb6 := pw_below_drewN hb5 nd
          generalize w3.drewN nd = w4 at hb6 ⊢
          clear hb5
          go_wp2_with fail
          refine (dr_repeat n a0.size hs1 hs30 (w4.heap.size + 1) _ (by simp) (by first | rfl | simp | simp [World.cell?]) (dr_mul _ hs30)).mono ?_
          rintro e w5 ⟨g, rfl, hg, hrow, hb7⟩
          have hb8 := below_step (below_alloc (below_alloc hb6 _) _) hb7
          have hz5 : w4.heap.size + 2 ≤ w5.heap.size := by have := hb7.size; simpa using this
          have hg' : w4.heap.size + 2 ≤ g := by simpa using hg
          have hgl : g < w5.heap.size := by
            have := Array.getElem?_eq_some_iff.1 hrow
            exact this.1
          have hbox : w5.cell? ⟨w4.heap.size, 0, none⟩ = some (.int .i64 n) := (hb7.cell (by simp; omega)).trans (by first | rfl | simp | simp [World.cell?])
          have hcell : ∀ i : Nat, i < a0.size → w5.cell? ⟨g, i, none⟩ = some (.int .i64 ((List.replicate a0.size n).getD i 0)) ∧ w5.frozen? ⟨g, i, none⟩ = false := fun i hi => by
            simp [World.cell?, World.frozen?, hrow, hi]
          have HZ := dr_hid hz5
          have HBOX := dr_hid hbox
          have HCELL := dr_hid hcell
          have hB4 : w.heap.size ≤ w4.heap.size := hb6.size
          clear hb7 hb6 hrow hg hz5 hbox hcell
          go_wp2
          go_loopw [38] (fun v38 wr => ∃ j : Nat, j ≤ l2.length ∧ v38 = .int .i64 j ∧ ∃ TL : List Int, TL.length = a0.size ∧ dr_all a1 (l2.drop j) TL = some T ∧ (∀ i : Nat, i < a0.size → wr.cell? ⟨g, i, none⟩ = some (.int .i64 (TL.getD i 0)) ∧ wr.frozen? ⟨g, i, none⟩ = false) ∧ wr.cell? ⟨w4.heap.size, 0, none⟩ = some (.int .i64 n) ∧ wr.cell? ⟨w5.heap.size, 0, none⟩ = some (.slice (some ⟨g, 0, none⟩) a0.size a0.size) ∧ w5.heap.size < wr.heap.size ∧ Below w.heap.size w wr)
            (fun v38 _ => l2.length - (intOf v38).toNat)
          case atStart =>
            have hZ := HZ.out
            refine ⟨0, Nat.zero_le _, rfl, List.replicate a0.size n, List.length_replicate, H5.out, fun i hi => ⟨?_, ?_⟩, ?_, ?_, ?_, below_alloc hb8 _⟩
            · exact ((below_alloc (Below.refl w5.heap.size w5) _).cell (p := ⟨g, i, none⟩) hgl).trans (HCELL.out i hi).1
            · exact ((below_alloc (Below.refl w5.heap.size w5) _).frozen (p := ⟨g, i, none⟩) hgl).trans (HCELL.out i hi).2
            · rw [World.cell?_alloc_lt _ _ _ (show w4.heap.size < w5.heap.size by omega)]; exact HBOX.out
            · first | rfl | simp | simp [World.cell?]
            · simp
          case round =>
            obtain ⟨j, hj, rfl, TL, hTL, hall, hrow, hb9, hb10, hlt, hB⟩ := hrel
            clear HBOX HCELL
            by_cases hjl : j < l2.length
            · have q1 : decide ((j : Int) < (l2.length : Int)) = true := decide_eq_true (by omega)
              have hC := Kd.C_below HR2.out hB
              obtain ⟨ad, eA, hx0, hx1, hx2⟩ := at_T34 hC (j : Int) (by omega) (by omega)
              subst eA
              simp only [Int.toNat_natCast] at hx0 hx1 hx2
              have hdr : l2.drop j = rd_T34 l2 (j : Int) :: l2.drop (j + 1) := by
                rw [List.drop_eq_getElem_cons hjl]
                unfold rd_T34
                rw [List.getD_eq_getElem?_getD]
                simp [hjl]
              rw [hdr] at hall
              obtain ⟨m, hm⟩ : ∃ m, m = rd_T34 l2 (j : Int) := ⟨_, rfl⟩
              rw [← hm] at hall hx0 hx1 hx2
              unfold dr_all at hall
              by_cases hcond : 0 ≤ m.f0 ∧ m.f0 < (TL.length : Int) ∧ 0 < m.f2.size ∧ 0 ≤ m.f1 ∧ m.f1 < (a1.size : Int)
              · rw [if_pos hcond] at hall
                obtain ⟨p1, p2, p3, p4, p5⟩ := hcond
                rw [hTL] at p2
                obtain ⟨s, hs⟩ : ∃ s : Nat, m.f0 = (s : Int) := ⟨m.f0.toNat, by omega⟩
                have HALL := dr_hid hall
                have HTL := dr_hid hTL
                have HROW := dr_hid hrow
                have HB9 := dr_hid hb9
                have HB10 := dr_hid hb10
                have HM := dr_hid hm
                have HS := dr_hid hs
                clear hall hTL hrow hb9 hb10 hdr hm hs
                go_wp2_with fail
                have hBn := below_alloc (Below.refl wr.heap.size wr) (.cells #[.int .i64 m.f0, .int .i64 m.f1, .string m.f2] 34)
                have b0 : (wr.alloc (.cells #[.int .i64 m.f0, .int .i64 m.f1, .string m.f2] 34)).cell? ⟨wr.heap.size, 0, none⟩ = some (.int .i64 m.f0) := by first | rfl | simp | simp [World.cell?]
                have b1 : (wr.alloc (.cells #[.int .i64 m.f0, .int .i64 m.f1, .string m.f2] 34)).cell? ⟨wr.heap.size, 1, none⟩ = some (.int .i64 m.f1) := by first | rfl | simp | simp [World.cell?]
                have b2 : (wr.alloc (.cells #[.int .i64 m.f0, .int .i64 m.f1, .string m.f2] 34)).cell? ⟨wr.heap.size, 2, none⟩ = some (.string m.f2) := by first | rfl | simp | simp [World.cell?]
                have hB8 := below_alloc hB (.cells #[.int .i64 m.f0, .int .i64 m.f1, .string m.f2] 34)
                generalize wr.alloc (.cells #[.int .i64 m.f0, .int .i64 m.f1, .string m.f2] 34) = w8 at hBn b0 b1 b2 hB8 ⊢
                have hZ := HZ.out
                have hlt8 : w5.heap.size < w8.heap.size := Nat.lt_of_lt_of_le hlt hBn.size
                have c10 : w8.cell? ⟨w5.heap.size, 0, none⟩ = some (.slice (some ⟨g, 0, none⟩) a0.size a0.size) := (hBn.cell (p := ⟨w5.heap.size, 0, none⟩) hlt).trans HB10.out
                have c9 : w8.cell? ⟨w4.heap.size, 0, none⟩ = some (.int .i64 n) := (hBn.cell (p := ⟨w4.heap.size, 0, none⟩) (show w4.heap.size < wr.heap.size by omega)).trans HB9.out
                have hrow8 : ∀ i : Nat, i < a0.size → w8.cell? ⟨g, i, none⟩ = some (.int .i64 (TL.getD i 0)) ∧ w8.frozen? ⟨g, i, none⟩ = false := fun i hi => ⟨(hBn.cell (p := ⟨g, i, none⟩) (show g < wr.heap.size by omega)).trans (HROW.out i hi).1, (hBn.frozen (p := ⟨g, i, none⟩) (show g < wr.heap.size by omega)).trans (HROW.out i hi).2⟩
                have cr : w8.cell? ⟨g, m.f0.toNat, none⟩ = some (.int .i64 (TL.getD m.f0.toNat 0)) := (hrow8 m.f0.toNat (by omega)).1
                have HROW8 := dr_hid hrow8
                have C9 := dr_hid c9
                have C10 := dr_hid c10
                clear hrow8 c9 hx0 hx1 hx2 HROW HB9 HB10
                have hx11 : ∀ h : 0 < m.f2.size, ((m.f2[0]'h).toNat : Int) = bt m.f2 0 := bt_at m.f2 0
                have hx15 := bt_at a1 m.f1
                have q11 : 0 < m.f2.size := p3
                have qi11 : (0 : Int) < (m.f2.size : Int) := by omega
                refine wp_region_still_tail 18 (by kernel_rfl) (by kernel_rfl) ?_
                simp only [List.take_succ_cons, List.take_zero, List.drop_succ_cons, List.drop_zero]
                repeat still_step
                still_call (dr_turnOf (bt m.f2 0) _)
                repeat still_step
                still_call (dr_turnOf (bt a1 m.f1) _)
                repeat still_step
                refine wpStill_nil ?_
                change wpList _ _ _ _ _ w8.drew
                have hB9 : Below w.heap.size w w8.drew := below_drew hB8
                have hlt9 : w5.heap.size < w8.drew.heap.size := hlt8
                have hrow9 : ∀ i : Nat, i < a0.size → w8.drew.cell? ⟨g, i, none⟩ = some (.int .i64 (TL.getD i 0)) ∧ w8.drew.frozen? ⟨g, i, none⟩ = false := HROW8.out
                have c99 : w8.drew.cell? ⟨w4.heap.size, 0, none⟩ = some (.int .i64 n) := C9.out
                have c910 : w8.drew.cell? ⟨w5.heap.size, 0, none⟩ = some (.slice (some ⟨g, 0, none⟩) a0.size a0.size) := C10.out
                clear hBn b0 b1 b2 hB8 hlt8 c10 cr HROW8 C9 C10
                generalize w8.drew = w9 at hB9 hlt9 hrow9 c99 c910 ⊢
                have cr := (hrow9 m.f0.toNat (by omega)).1
                have cf := (hrow9 m.f0.toNat (by omega)).2
                have HROW9 := dr_hid hrow9
                have C99 := dr_hid c99
                have C910 := dr_hid c910
                clear hrow9 c99 c910
                go_wp2
                have hset : (TL.set m.f0.toNat (wrap64 (TL.getD m.f0.toNat 0 + dr_by a1 m))).length = a0.size := by rw [List.length_set]; exact HTL.out
                have hsl : m.f0.toNat < TL.length := by rw [HTL.out]; omega
                have hgw : w.heap.size ≤ g := by omega
                have hn4 : g ≠ w4.heap.size := by omega
                have hn5 : g ≠ w5.heap.size := by omega
                have hj1 : j + 1 ≤ l2.length := by omega
                have HJ := dr_hid (dr_next (Kd.C_max hC) hjl)
                have hval : wrap64 (TL[m.f0.toNat]?.getD 0 + wrap64 (wrap64 (tnV (bt m.f2 0) + 4) - tnV (bt a1 m.f1))) = wrap64 (TL.getD m.f0.toNat 0 + dr_by a1 m) := by
                  unfold dr_by
                  rw [List.getD_eq_getElem?_getD]
                rw [hval, HJ.out]
                clear hval
                obtain ⟨vv, hvv⟩ : ∃ vv, vv = wrap64 (TL.getD m.f0.toNat 0 + dr_by a1 m) := ⟨_, rfl⟩
                rw [← hvv] at hset ⊢
                have hall' := HALL.out
                rw [← hvv] at hall'
                clear hvv HALL
                refine ⟨⟨j + 1, hj1, rfl, _, hset, hall', fun i hi => ⟨?_, ?_⟩, ?_, ?_, ?_, below_set hB9 (show w.heap.size ≤ g from hgw)⟩, dr_meas j l2.length hjl⟩
                · by_cases hji : m.f0.toNat = i
                  · subst hji
                    rw [World.cell?_setCell_same' w9 _ _ (by rw [cr]; rfl), dr_set_self _ _ _ hsl]
                  · rw [World.cell?_setCell_other w9 _ _ _ (show (⟨g, m.f0.toNat, none⟩ : Addr) ≠ ⟨g, i, none⟩ from fun h => by injection h with _ h2 _; exact hji h2), (HROW9.out i hi).1, dr_set_ne _ _ _ _ hji]
                · rw [World.frozen?_setCell]; exact (HROW9.out i hi).2
                · rw [World.cell?_setCell_other w9 _ _ _ (show (⟨g, m.f0.toNat, none⟩ : Addr) ≠ ⟨w4.heap.size, 0, none⟩ from fun h => by injection h with h1 _ _; exact hn4 h1)]; exact C99.out
                · rw [World.cell?_setCell_other w9 _ _ _ (show (⟨g, m.f0.toNat, none⟩ : Addr) ≠ ⟨w5.heap.size, 0, none⟩ from fun h => by injection h with h1 _ _; exact hn5 h1)]; exact C910.out
                · simpa using hlt9
              · rw [if_neg hcond] at hall; cases hall
            · obtain rfl : j = l2.length := by omega
              have q1 : decide ((l2.length : Int) < (l2.length : Int)) = false := decide_eq_false (by omega)
              rw [List.drop_length] at hall
              have eT : TL = T := by simpa [dr_all] using hall
              subst eT
              have HROW := dr_hid hrow
              have HTL := dr_hid hTL
              clear hrow hTL hall
              have hZ := HZ.out
              have HB9 := dr_hid hb9
              have HB10 := dr_hid hb10
              clear hb9 hb10
              go_wp2_with fail
              refine (dr_fac_one a0 wr (by omega) w4.heap.size (fun _ => n) (fun wq i hi hb => dr_turn _ _ n _ ((hb.cell (p := ⟨w4.heap.size, 0, none⟩) (show w4.heap.size < wr.heap.size by omega)).trans HB9.out))).mono ?_
              rintro e w6 ⟨rfl, hb6⟩
              have hB6 := below_step hB hb6
              go_wp2_with fail
              refine (dr_fac_each a0 w6 (by omega) w5.heap.size (fun i => TL.getD i.toNat 0) (fun wq i hi hb => dr_turns _ g a0.size _ i hi _ (((hb.cell (p := ⟨w5.heap.size, 0, none⟩) (show w5.heap.size < w6.heap.size from Nat.lt_of_lt_of_le hlt hb6.size)).trans (hb6.cell (p := ⟨w5.heap.size, 0, none⟩) hlt)).trans HB10.out) (((hb.cell (p := ⟨g, i, none⟩) (show g < w6.heap.size from Nat.lt_of_lt_of_le (Nat.lt_trans hgl hlt) hb6.size)).trans (hb6.cell (p := ⟨g, i, none⟩) (show g < wr.heap.size from Nat.lt_trans hgl hlt))).trans (by rw [(HROW.out i hi).1]; simp)))).mono ?_
              rintro e w7 ⟨rfl, hb7⟩
              have hB7 := below_step hB6 hb7
              go_wp2
              go_ret3
              exact ⟨rfl, hB7⟩
        · rw [if_neg hs] at h; cases h

/-! ### impl_FacingWithMistakes: function 5 -/
def impl_FacingWithMistakes.f (k : Nat) (a0 : ByteArray) (a1 : ByteArray) (l2 : List (S34)) : Option (ByteArray × Bool) := (impl_drilled.f k a0 a1 l2).bind fun bt126 => (some (bt126.2.1, bt126.2.2))
theorem impl_FacingWithMistakes.mono : ∀ a0 a1 a2 k, LeO (impl_FacingWithMistakes.f k a0 a1 a2) (impl_FacingWithMistakes.f (k + 1) a0 a1 a2) := by
  intro a0 a1 a2 k
  unfold impl_FacingWithMistakes.f
  repeat' first
      | (with_reducible exact impl_drilled.mono _ _ _ _)
      | (with_reducible exact LeO.refl _)
      | (with_reducible exact LeO.none _)
      | (with_reducible refine LeO.ite ?_ ?_)
      | (with_reducible refine LeO.bind ?_ (fun _ => ?_))
      | exact impl_drilled.mono _ _ _ _
      | exact LeO.none _
      | refine LeO.ite ?_ ?_
      | refine LeO.bind ?_ (fun _ => ?_)
set_option maxHeartbeats 8000000 in
set_option maxRecDepth 100000 in
theorem impl_FacingWithMistakes.calls (k : Nat) (a0 : ByteArray) (a1 : ByteArray) (A2 : Option Addr) (c2 : Nat) (l2 : List (S34)) (r1 : ByteArray) (r2 : Bool) (w : World) (hr2 : Kd.C k34 w A2 l2.length l2) (hc2 : l2.length ≤ c2) (h : impl_FacingWithMistakes.f k a0 a1 l2 = some (r1, r2)) :
  Calls Tryd.prog 5 #[.string a0, .string a1, .slice A2 l2.length c2] w fun e w' => e = .returned (.tuple #[.string r1, .bool r2]) ∧ Below w.heap.size w w' := by
 have HR2 := Aside0.mk hr2
 have HC2 := Aside0.mk hc2
 clear hr2 hc2
 have HB := Aside0.mk (Below.refl w.heap.size w)
 have H : ((impl_drilled.f k a0 a1 l2).bind fun bt126 => (some (bt126.2.1, bt126.2.2))) = some (r1, r2) := h
 clear h
 replace H := Option.bind_eq_some_iff.mp H
 obtain ⟨⟨t126, t127, t128⟩, A40, H⟩ := H
 replace H : (some (t127, t128)) = some (r1, r2) := H
 have A4 := Aside0.mk A40
 clear A40
 simp only [Option.some.injEq, Prod.mk.injEq] at H
 obtain ⟨rfl, rfl⟩ := H
 go_enter Tryd.func5, Tryd.ntmps5
 go_wp2_with (first | ((with_reducible refine gate_callee (f := 24) rfl ?_); refine goesL_ (some 15) rfl rfl Tryd.func24 (by kernel_rfl) rfl #[.string a0, .string a1, .slice A2 l2.length c2] rfl (by (try simp only [List.map_toArray, List.map_cons, List.map_nil]); first | done | rfl | (simp only [List.length_drop, List.length_take]; rfl) | (simp [Act.eval, Lays.u8_i64]; done)) ?_; (with_reducible refine (impl_drilled.calls k a0 a1 _ _ l2 t126 t127 t128 _ ?side1 ?side2 A4.out).mono ?_); (case side1 => repeat (first | exact HR2.out | (with_reducible refine Kd.C_alloc ?_ _) | (with_reducible refine Kd.C_drewN ?_ _) | (with_reducible refine Kd.C_drew ?_))); (case side2 => exact HC2.out); rintro e w5 ⟨rfl, hb⟩; refine ⟨_, rfl, ?_⟩; have n0_ := Aside0.mk (below_step (by repeat (first | (with_reducible first | exact HB.out | apply below_alloc | apply pw_below_drewN | apply below_drew1) | exact HB.out)) hb); clear HB; have HB := n0_; clear n0_; (try clear hb); (try clear hb2); (try clear hk); (try clear hi)))
 go_ret2
 exact ⟨by first | rfl | (simp [errW_none, errW_some] <;> rfl) | (simp [*, errW_none, errW_some] <;> rfl), by repeat (first | (with_reducible first | exact HB.out | apply below_alloc | apply pw_below_drewN | apply below_drew1) | exact HB.out)⟩

/-! ### spec_drTurn: function 42 -/
def spec_drTurn.f (a0 : Int) : Option (Int) := if a0 = 83 then (some 0) else (if a0 = 82 then (some 1) else (if a0 = 65 then (some 2) else (if a0 = 76 then (some 3) else (some (-1)))))
set_option maxHeartbeats 8000000 in
set_option maxRecDepth 100000 in
theorem spec_drTurn.calls (a0 : Int) (r : Int) (w : World) (h : spec_drTurn.f a0 = some r) :
  Calls Tryd.prog 42 #[.int .u8 a0] w fun e w' => e = .returned (.int .i64 r) ∧ Drawn0 w w' := by
 have H : (if a0 = 83 then (some 0) else (if a0 = 82 then (some 1) else (if a0 = 65 then (some 2) else (if a0 = 76 then (some 3) else (some (-1)))))) = some r := h
 clear h
 by_cases c2 : a0 = 83
 ·
  rw [if_pos c2] at H
  have c2b0 : (a0 == 83) = true := beq_iff_eq.mpr c2
  have c2b1 : (a0 != 83) = false := bne_eq_false_iff_eq.mpr c2
  clear c2
  obtain rfl := Option.some.inj H
  go_enter Tryd.func42, Tryd.ntmps42
  go_wp2
  go_ret
  exact ⟨by first | rfl | (simp; done) | (simp [*]; done), by repeat (first | exact Drawn0.refl _ | apply Drawn0.step)⟩
 ·
  rw [if_neg c2] at H
  have c2b0 : (a0 == 83) = false := beq_eq_false_iff_ne.mpr c2
  have c2b1 : (a0 != 83) = true := bne_iff_ne.mpr c2
  by_cases c3 : a0 = 82
  ·
   rw [if_pos c3] at H
   have c3b0 : (a0 == 82) = true := beq_iff_eq.mpr c3
   have c3b1 : (a0 != 82) = false := bne_eq_false_iff_eq.mpr c3
   clear c3
   obtain rfl := Option.some.inj H
   go_enter Tryd.func42, Tryd.ntmps42
   go_wp2
   go_ret
   exact ⟨by first | rfl | (simp; done) | (simp [*]; done), by repeat (first | exact Drawn0.refl _ | apply Drawn0.step)⟩
  ·
   rw [if_neg c3] at H
   have c3b0 : (a0 == 82) = false := beq_eq_false_iff_ne.mpr c3
   have c3b1 : (a0 != 82) = true := bne_iff_ne.mpr c3
   by_cases c4 : a0 = 65
   ·
    rw [if_pos c4] at H
    have c4b0 : (a0 == 65) = true := beq_iff_eq.mpr c4
    have c4b1 : (a0 != 65) = false := bne_eq_false_iff_eq.mpr c4
    clear c4
    obtain rfl := Option.some.inj H
    go_enter Tryd.func42, Tryd.ntmps42
    go_wp2
    go_ret
    exact ⟨by first | rfl | (simp; done) | (simp [*]; done), by repeat (first | exact Drawn0.refl _ | apply Drawn0.step)⟩
   ·
    rw [if_neg c4] at H
    have c4b0 : (a0 == 65) = false := beq_eq_false_iff_ne.mpr c4
    have c4b1 : (a0 != 65) = true := bne_iff_ne.mpr c4
    by_cases c5 : a0 = 76
    ·
     rw [if_pos c5] at H
     have c5b0 : (a0 == 76) = true := beq_iff_eq.mpr c5
     have c5b1 : (a0 != 76) = false := bne_eq_false_iff_eq.mpr c5
     clear c5
     obtain rfl := Option.some.inj H
     go_enter Tryd.func42, Tryd.ntmps42
     go_wp2
     go_ret
     exact ⟨by first | rfl | (simp; done) | (simp [*]; done), by repeat (first | exact Drawn0.refl _ | apply Drawn0.step)⟩
    ·
     rw [if_neg c5] at H
     have c5b0 : (a0 == 76) = false := beq_eq_false_iff_ne.mpr c5
     have c5b1 : (a0 != 76) = true := bne_iff_ne.mpr c5
     obtain rfl := Option.some.inj H
     go_enter Tryd.func42, Tryd.ntmps42
     go_wp2
     go_ret
     exact ⟨by first | rfl | (simp; done) | (simp [*]; done), by repeat (first | exact Drawn0.refl _ | apply Drawn0.step)⟩

/-! ### spec_drWord: function 40 -/
def spec_drWord.l0 : Nat → ByteArray → Int → Option (Bool)
  | 0, _, _ => none
  | k + 1, x0, x3 => if x3 < (x0.size : Int) then (if 0 ≤ x3 then ((spec_drTurn.f (bt x0 x3)).bind fun t129 => (if t129 < 0 then (some false) else (spec_drWord.l0 k x0 (wrap64 (x3 + 1))))) else (none)) else (some true)
def spec_drWord.f (k : Nat) (a0 : ByteArray) : Option (Bool) := if (a0.size : Int) > 60 then (some false) else (spec_drWord.l0 k a0 0)
theorem spec_drWord.mono_l : ∀ k, (∀ y0 y1, LeO (spec_drWord.l0 k y0 y1) (spec_drWord.l0 (k + 1) y0 y1))
  | 0 => fun _ _ r h => by simp [spec_drWord.l0] at h
  | k + 1 => by
    have ih0 := spec_drWord.mono_l k
    · intro y0 y1
      unfold spec_drWord.l0
      repeat' first
      | (with_reducible exact ih0 _ _)
      | (with_reducible exact LeO.refl _)
      | (with_reducible exact LeO.none _)
      | (with_reducible refine LeO.ite ?_ ?_)
      | (with_reducible refine LeO.bind ?_ (fun _ => ?_))
      | exact ih0 _ _
      | exact LeO.none _
      | refine LeO.ite ?_ ?_
      | refine LeO.bind ?_ (fun _ => ?_)
theorem spec_drWord.mono : ∀ a0 k, LeO (spec_drWord.f k a0) (spec_drWord.f (k + 1) a0) := by
  intro a0 k
  have ih0 := spec_drWord.mono_l k
  unfold spec_drWord.f
  repeat' first
      | (with_reducible exact ih0 _ _)
      | (with_reducible exact LeO.refl _)
      | (with_reducible exact LeO.none _)
      | (with_reducible refine LeO.ite ?_ ?_)
      | (with_reducible refine LeO.bind ?_ (fun _ => ?_))
      | exact ih0 _ _
      | exact LeO.none _
      | refine LeO.ite ?_ ?_
      | refine LeO.bind ?_ (fun _ => ?_)
set_option maxHeartbeats 8000000 in
set_option maxRecDepth 100000 in
theorem spec_drWord.calls (k : Nat) (a0 : ByteArray) (r : Bool) (w : World) (h : spec_drWord.f k a0 = some r) :
  Calls Tryd.prog 40 #[.string a0] w fun e w' => e = .returned (.bool r) ∧ Drawn0 w w' := by
 have H : (if (a0.size : Int) > 60 then (some false) else (spec_drWord.l0 k a0 0)) = some r := h
 clear h
 by_cases c2 : (a0.size : Int) > 60
 ·
  rw [if_pos c2] at H
  have c2b0 : decide (60 < (a0.size : Int)) = true := decide_eq_true c2
  have c2b1 : decide (60 < a0.size) = true := decide_eq_true (by omega)
  clear c2
  obtain rfl := Option.some.inj H
  go_enter Tryd.func40, Tryd.ntmps40
  go_wp2
  go_ret
  exact ⟨by first | rfl | (simp; done) | (simp [*]; done), by repeat (first | exact Drawn0.refl _ | apply Drawn0.step)⟩
 ·
  rw [if_neg c2] at H
  have c2b0 : decide (60 < (a0.size : Int)) = false := decide_eq_false c2
  have c2b1 : decide (60 < a0.size) = false := decide_eq_false (by omega)
  clear c2
  have H' := Aside0.mk H
  clear H
  go_enter Tryd.func40, Tryd.ntmps40
  go_wp2
  go_loopg [3] k (fun kq v3 w' => ∃ (x3_1 : Int), v3 = .int .i64 x3_1 ∧ Aside0 (spec_drWord.l0 kq a0 x3_1 = some r) ∧ Aside0 (kq ≤ k) ∧ Drawn0 w w')
  case atStart => exact ⟨(0), (by first | rfl | (simp; done) | (simp [*]; done)), H', ⟨Nat.le_refl _⟩, by repeat (first | exact Drawn0.refl _ | apply Drawn0.step)⟩
  case round =>
   clear H'
   try clear c2
   try clear c2b0
   try clear c2b1
   obtain ⟨x3_1, rfl, HA, HK1, ⟨m1, rfl⟩⟩ := hrel
   cases gk with
   | zero => exact absurd HA.out (by simp [spec_drWord.l0])
   | succ k1 =>
    have H := HA.out
    clear HA
    simp only [spec_drWord.l0] at H
    by_cases c3 : x3_1 < (a0.size : Int)
    ·
     rw [if_pos c3] at H
     have c3b0 : decide (x3_1 < (a0.size : Int)) = true := decide_eq_true c3
     clear c3
     by_cases c4 : 0 ≤ x3_1
     ·
      rw [if_pos c4] at H
      have c4b0 : decide (0 ≤ x3_1) = true := decide_eq_true c4
      clear c4
      replace H := Option.bind_eq_some_iff.mp H
      obtain ⟨t129, A60, H⟩ := H
      replace H : (if t129 < 0 then (some false) else (spec_drWord.l0 k1 a0 (wrap64 (x3_1 + 1)))) = some r := H
      have A6 := Aside0.mk A60
      clear A60
      by_cases c7 : t129 < 0
      ·
       rw [if_pos c7] at H
       have c7b0 : decide (t129 < 0) = true := decide_eq_true c7
       clear c7
       obtain rfl := Option.some.inj H
       have p5 : 0 ≤ (x3_1 : Int) := of_decide_eq_true (by first | (with_reducible assumption) | assumption)
       have q5 : x3_1 < (a0.size : Int) := of_decide_eq_true (by first | (with_reducible assumption) | assumption)
       have hx5 := bt_at a0 x3_1
       replace p5 := eq_true p5
       replace q5 := eq_true q5
       go_wp2_with (first | ((with_reducible refine gate_callee (f := 42) rfl ?_); refine goesL_ (some 16) rfl rfl Tryd.func42 (by kernel_rfl) rfl #[.int .u8 (bt a0 x3_1)] rfl (by (try simp only [List.map_toArray, List.map_cons, List.map_nil]); first | done | rfl | (simp only [List.length_drop, List.length_take]; rfl) | (simp [Act.eval, Lays.u8_i64]; done)) ?_; (with_reducible refine (spec_drTurn.calls (bt a0 x3_1) t129 _ A6.out).mono ?_); rintro e w' ⟨rfl, ⟨nd, rfl⟩⟩; refine ⟨_, rfl, ?_⟩))
       go_ret
       exact ⟨by first | rfl | (simp; done) | (simp [*]; done), by repeat (first | exact Drawn0.refl _ | apply Drawn0.step)⟩
      ·
       rw [if_neg c7] at H
       have c7b0 : decide (t129 < 0) = false := decide_eq_false c7
       clear c7
       have H' := Aside0.mk H
       clear H
       have p5 : 0 ≤ (x3_1 : Int) := of_decide_eq_true (by first | (with_reducible assumption) | assumption)
       have q5 : x3_1 < (a0.size : Int) := of_decide_eq_true (by first | (with_reducible assumption) | assumption)
       have hx5 := bt_at a0 x3_1
       replace p5 := eq_true p5
       replace q5 := eq_true q5
       go_wp2_with (first | ((with_reducible refine gate_callee (f := 42) rfl ?_); refine goesL_ (some 16) rfl rfl Tryd.func42 (by kernel_rfl) rfl #[.int .u8 (bt a0 x3_1)] rfl (by (try simp only [List.map_toArray, List.map_cons, List.map_nil]); first | done | rfl | (simp only [List.length_drop, List.length_take]; rfl) | (simp [Act.eval, Lays.u8_i64]; done)) ?_; (with_reducible refine (spec_drTurn.calls (bt a0 x3_1) t129 _ A6.out).mono ?_); rintro e w' ⟨rfl, ⟨nd, rfl⟩⟩; refine ⟨_, rfl, ?_⟩))
       go_roundg k1
       case measure => have := HK1.out; omega
       case rel => exact ⟨(wrap64 (x3_1 + 1)), (by first | rfl | (simp; done) | (simp [*]; done)), H', ⟨by have := HK1.out; omega⟩, by repeat (first | exact Drawn0.refl _ | apply Drawn0.step)⟩
     ·
      rw [if_neg c4] at H
      exact absurd H (by simp)
    ·
     rw [if_neg c3] at H
     have c3b0 : decide (x3_1 < (a0.size : Int)) = false := decide_eq_false c3
     clear c3
     obtain rfl := Option.some.inj H
     go_wp2
     go_ret
     exact ⟨by first | rfl | (simp; done) | (simp [*]; done), by repeat (first | exact Drawn0.refl _ | apply Drawn0.step)⟩

/-! ### spec_l1In: function 41 -/
def spec_l1In.f (a0 : Int) (a1 : Int) (a2 : Int) : Option (Bool) := if a0 ≥ a1 then (some (decide (a0 ≤ a2))) else (some false)
set_option maxHeartbeats 8000000 in
set_option maxRecDepth 100000 in
theorem spec_l1In.calls (a0 : Int) (a1 : Int) (a2 : Int) (r : Bool) (w : World) (h : spec_l1In.f a0 a1 a2 = some r) :
  Calls Tryd.prog 41 #[.int .i64 a0, .int .i64 a1, .int .i64 a2] w fun e w' => e = .returned (.bool r) ∧ Drawn0 w w' := by
 have H : (if a0 ≥ a1 then (some (decide (a0 ≤ a2))) else (some false)) = some r := h
 clear h
 by_cases c4 : a0 ≥ a1
 ·
  rw [if_pos c4] at H
  have c4b0 : decide (a1 ≤ a0) = true := decide_eq_true c4
  clear c4
  obtain rfl := Option.some.inj H
  go_enter Tryd.func41, Tryd.ntmps41
  go_wp2
  go_ret
  exact ⟨by first | rfl | (simp; done) | (simp [*]; done), by repeat (first | exact Drawn0.refl _ | apply Drawn0.step)⟩
 ·
  rw [if_neg c4] at H
  have c4b0 : decide (a1 ≤ a0) = false := decide_eq_false c4
  clear c4
  obtain rfl := Option.some.inj H
  go_enter Tryd.func41, Tryd.ntmps41
  go_wp2
  go_ret
  exact ⟨by first | rfl | (simp; done) | (simp [*]; done), by repeat (first | exact Drawn0.refl _ | apply Drawn0.step)⟩

end Go.Proofs.YtgdmbhldabeelaaRDoor.PFnDrillsMistaken
