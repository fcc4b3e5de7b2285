-- Written by a program of this session's (pg.py) over the kit's print.
import Derived.Test.YtgdmbhldabeelaaRDoorPFnDrillsMistakenx0
import Derived.Test.YtgdmbhldabeelaaRDoorPFnDrillsMistakenx1
import Derived.Test.YtgdmbhldabeelaaRDoorPFnDrillsMistakenx7
namespace Go.Proofs.YtgdmbhldabeelaaRDoor.PFnDrillsMistaken
open Go.RowKit Go.Proofs.YtgdmbhldabeelaaRDoorW.PrintWords Go.Proofs.YtgdmbhldabeelaaRDoorW.PrintLast Go.Proofs.YtgdmbhldabeelaaRDoorW.PrintMore
attribute [local go_sem] max2_int min2_int max_two min_two max_three min_three max_four min_four   -- for this text's walks alone
set_option linter.unusedVariables false
set_option linter.unusedSimpArgs false

/-! ### impl_WaysToFace: function 16 -/
theorem wf_hid {p : Prop} (h : p) : Hid p := h
def wfN : Nat := 244
def wfZ : Array Value := Array.replicate 244 (.int .i64 0)
theorem wf_ld {P : Program} {W : World} {o : Oper} {ρ : Operand → Value} {t : TypeId} {x : Operand} {v : Value} (ho : o.op = .load t x) (h : (Instr.loadAt t (ρ x)).run P W = .ok v W) : (execOp ρ o).run P W = .ok (.value v) W := by
  unfold execOp
  simp only [ho]
  simp [h, Result.andThen]
theorem wf_st {P : Program} {W W1 : World} {o : Oper} {ρ : Operand → Value} {t : TypeId} {x y : Operand} (ho : o.op = .store t x y) (h : (Instr.storeAt t (ρ x) (ρ y)).run P W = .ok () W1) : (execOp ρ o).run P W = .ok .skip W1 := by
  unfold execOp
  simp only [ho]
  simp [h, Result.andThen]
theorem wf_bl {P : Program} {W : World} {o : Oper} {ρ : Operand → Value} {t : TypeId} {v : Value} (ho : o.op = .build t #[]) (h : (Instr.build t #[]).run P W = .ok v W) : (execOp ρ o).run P W = .ok (.value v) W := by
  unfold execOp
  simp only [ho]
  simp [h, Result.andThen]
theorem wf_ix {P : Program} {W : World} {o : Oper} {ρ : Operand → Value} {t : TypeId} {x y : Operand} {v : Value} (ho : o.op = .index t x y) (h : (Instr.index t (ρ x) (ρ y)).run P W = .ok v W) : (execOp ρ o).run P W = .ok (.value v) W := by
  unfold execOp
  simp only [ho]
  simp [h, Result.andThen]
theorem wf_al {P : Program} {W W1 : World} {o : Oper} {ρ : Operand → Value} {t : TypeId} {v : Value} (ho : o.op = .alloc t) (h : (Instr.alloc t true (.tuple #[])).run P W = .ok v W1) : (execOp ρ o).run P W = .ok (.value v) W1 := by
  unfold execOp
  simp only [ho]
  simp [h, Result.andThen]
/-- What a row holds, as whole numbers. -/
def wfF (L : List Int) : Nat → Value := fun j => .int .i64 (L.getD j 0)
/-- The block g holds just the numbers L. -/
def wfRow (w : World) (g : Nat) (L : List Int) : Prop := L.length = 244 ∧ w.heap[g]? = some (.cells (L.map fun x => Value.int .i64 x).toArray 60 (0, 0))
theorem wfRow_cell {w : World} {g : Nat} {L : List Int} (h : wfRow w g L) (j : Nat) (hj : j < 244) : w.cell? ⟨g, j, none⟩ = some (.int .i64 (L.getD j 0)) ∧ w.frozen? ⟨g, j, none⟩ = false := by
  obtain ⟨hl, hh⟩ := h
  constructor
  · simp [World.cell?, hh, List.getD, show j < L.length by omega]
  · simp [World.frozen?, hh]
theorem wfRow_set {w : World} {g : Nat} {L : List Int} (h : wfRow w g L) (j : Nat) (x : Int) : wfRow (w.setCell ⟨g, j, none⟩ (.int .i64 x)) g (L.set j x) := by
  obtain ⟨hl, hh⟩ := h
  refine ⟨by rw [List.length_set]; exact hl, ?_⟩
  rw [setCell_eq_setRow w g j _ 60 (0, 0) _ hh, setRow_heap w g _ _ 60 _ hh]
  congr 2
  apply Array.ext'
  simp [List.map_set]
theorem wfRow_other {w w' : World} {g : Nat} {L : List Int} (h : wfRow w g L) (e : w'.heap[g]? = w.heap[g]?) : wfRow w' g L := ⟨h.1, e.trans h.2⟩
theorem wfRow_lt {w : World} {g : Nat} {L : List Int} (h : wfRow w g L) : g < w.heap.size := by
  have := Array.getElem?_eq_some_iff.1 h.2
  exact this.1
theorem wfRow_setOther {w : World} {g g' j : Nat} {L : List Int} (h : wfRow w g L) (hne : g ≠ g') (v : Value) : wfRow (w.setCell ⟨g', j, none⟩ v) g L := wfRow_other h (Below.heap_setCell _ _ _ _ hne)
theorem wf_one (L : List Int) : ((L.map fun x => Value.int .i64 x).toArray).all (·.oneCell') = true := by
  rw [Array.all_eq_true_iff_forall_mem]
  intro x hx
  simp at hx
  obtain ⟨y, _, rfl⟩ := hx
  rfl
theorem wf_info : (Tryd.prog.info? 60).map (fun i => (i.zero, i.size)) = some (some (.agg (Array.replicate 244 (.int .i64 0))), 244) := by kernel_rfl
def wfZs : List Int := List.replicate 244 0
theorem wf_zs : (wfZs.map fun x => Value.int .i64 x).toArray = Array.replicate 244 (.int .i64 0) := by
  unfold wfZs
  rw [List.map_replicate]
  rfl
theorem wf_build (W : World) : (Instr.build 60 #[]).run Tryd.prog W = .ok (.agg (wfZs.map fun x => Value.int .i64 x).toArray) W := by
  obtain ⟨hz, hi⟩ := zero_of_info (P := Tryd.prog) wf_info
  rw [wf_zs]
  have hu := Tryd.underlying60
  simp only [Instr.build, Sem.run_bind, hz W, Result.andThen_ok, run_underlying hu]
  have hs := Tryd.sizeOf59
  simp [hs, Instr.fill, Result.andThen, Value.cells]
theorem wf_alloc (W : World) : (Instr.alloc 60 true (.tuple #[])).run Tryd.prog W = .ok (.pointer (some ⟨W.heap.size, 0, none⟩)) (W.alloc (.cells (wfZs.map fun x => Value.int .i64 x).toArray 60)) := by
  obtain ⟨hz, hi⟩ := zero_of_info (P := Tryd.prog) wf_info
  rw [wf_zs]
  simp only [Instr.alloc, Sem.run_bind, hz W, Result.andThen_ok]
  rfl
theorem wf_store {W : World} {g : Nat} {L : List Int} (h : wfRow W g L) (L' : List Int) (hl : L'.length = 244) : (Instr.storeAt 60 (.pointer (some ⟨g, 0, none⟩)) (.agg (L'.map fun x => Value.int .i64 x).toArray)).run Tryd.prog W = .ok () (W.setRow g (L'.map fun x => Value.int .i64 x).toArray) := by
  obtain ⟨hz, hi⟩ := zero_of_info (P := Tryd.prog) wf_info
  simp only [Instr.storeAt, Instr.sureAddr, Sem.run_bind, Sem.run_pure, Result.andThen]
  exact run_storeVar_row W g 60 60 _ _ h.2 (by rw [hi]; simp [hl]) (by simp [hl, h.1]) (wf_one L')
theorem wf_load {W : World} {g : Nat} {L : List Int} (h : wfRow W g L) : (Instr.loadAt 60 (.pointer (some ⟨g, 0, none⟩))).run Tryd.prog W = .ok (.agg (L.map fun x => Value.int .i64 x).toArray) W := by
  obtain ⟨hz, hi⟩ := zero_of_info (P := Tryd.prog) wf_info
  simp only [Instr.loadAt, Instr.sureAddr, Sem.run_bind, Sem.run_pure, Result.andThen]
  exact run_loadVar_row W g 60 60 _ _ _ h.2 Tryd.underlying60 rfl (by rw [hi]; simp [h.1])
theorem wfRow_setRow {W : World} {g : Nat} {L : List Int} (h : wfRow W g L) (L' : List Int) (hl : L'.length = 244) : wfRow (W.setRow g (L'.map fun x => Value.int .i64 x).toArray) g L' := ⟨hl, setRow_heap W g _ _ _ _ h.2⟩
theorem wfRow_new (W : World) (L : List Int) (hl : L.length = 244) : wfRow (W.alloc (.cells (L.map fun x => Value.int .i64 x).toArray 60)) W.heap.size L := ⟨hl, heap_alloc_last W _⟩
/-- Four numbers of a row, by value. -/
def wfQ (L : List Int) (m : Nat) : Array Value := #[.int .i64 (L.getD (m * 4) 0), .int .i64 (L.getD (m * 4 + 1) 0), .int .i64 (L.getD (m * 4 + 2) 0), .int .i64 (L.getD (m * 4 + 3) 0)]
theorem wf_load4 {W : World} {g : Nat} {L : List Int} (h : wfRow W g L) (m : Nat) (hm : m < 61) : (Instr.loadAt 59 (.pointer (some ⟨g, m * 4, none⟩))).run Tryd.prog W = .ok (.agg (wfQ L m)) W := by
  have ha := Tryd.isAgg59
  have hs := Tryd.sizeOf59
  have hc := run_loadCells_list (P := Tryd.prog) W ⟨g, m * 4, none⟩ (wfQ L m).toList (fun j v hv => by
    have hadd : (⟨g, m * 4, none⟩ : Addr).add j = ⟨g, m * 4 + j, none⟩ := by unfold Addr.add; split <;> simp_all
    rw [hadd]
    match j, hv with
    | 0, hv => rw [(wfRow_cell h (m * 4 + 0) (by omega)).1]; simpa [wfQ] using hv
    | 1, hv => rw [(wfRow_cell h (m * 4 + 1) (by omega)).1]; simpa [wfQ] using hv
    | 2, hv => rw [(wfRow_cell h (m * 4 + 2) (by omega)).1]; simpa [wfQ] using hv
    | 3, hv => rw [(wfRow_cell h (m * 4 + 3) (by omega)).1]; simpa [wfQ] using hv
    | j + 4, hv => simp [wfQ] at hv)
  simp only [Instr.loadAt, Instr.sureAddr, Sem.run_bind, Sem.run_pure, Result.andThen, loadVar]
  simp [ha, hs, Result.andThen]
  have e : (wfQ L m).toList.length = 4 := rfl
  rw [e] at hc
  rw [hc]
theorem wf_index4 {W : World} (L : List Int) (m j : Nat) (hj : j < 4) : (Instr.index 59 (.agg (wfQ L m)) (.int .i64 (j : Int))).run Tryd.prog W = .ok (.int .i64 (L.getD (m * 4 + j) 0)) W := by
  have hu := Tryd.underlying59
  have hs := Tryd.sizeOf3
  have ha := Tryd.isAgg3
  have h : j = 0 ∨ j = 1 ∨ j = 2 ∨ j = 3 := by omega
  rcases h with rfl | rfl | rfl | rfl <;> simp [Instr.index, asIntOf, run_underlying hu, hs, ha, part, wfQ, Result.andThen]
def wfTn (b : Int) : Int := Lib.indexByte [83, 82, 65, 76] b.toNat.toUInt8
theorem wf_turnOf (b : Int) (w : World) : Calls Tryd.prog 39 #[.int .u8 b] w fun e w' => e = .returned (.int .i64 (wfTn b)) ∧ w' = w := by
  go_enter Tryd.func39, Tryd.ntmps39
  go_wp2_with fail
  refine (Lays.indexByte _ _ _).mono ?_
  rintro e w' ⟨rfl, rfl⟩
  go_wp2
  go_ret
  exact ⟨rfl, rfl⟩
/-- One more way: n ways come to another place. -/
def wfMore (t : Int) (m b : Nat) : Nat := if (b : Int) = t then m else m + 1
def wfPut (t : Int) (m h : Nat) (n : Int) (X : List Int) (b : Nat) : List Int := X.set (wfMore t m b * 4 + (h + b) % 4) (mn (wrap64 (X.getD (wfMore t m b * 4 + (h + b) % 4) 0 + n)) 1000000000000001)
def wfB (t : Int) (m h : Nat) (n : Int) (X : List Int) : Nat → List Int
  | 0 => X
  | b + 1 => wfPut t m h n (wfB t m h n X b) b
def wfH (t : Int) (m : Nat) (now X : List Int) : Nat → List Int
  | 0 => X
  | h + 1 => wfB t m h (now.getD (m * 4 + h) 0) (wfH t m now X h) 4
def wfM (t : Int) (now X : List Int) : Nat → List Int
  | 0 => X
  | m + 1 => wfH t m now (wfM t now X m) 4
def wfAll (s : ByteArray) : Nat → List Int
  | 0 => wfZs.set 0 1
  | i + 1 => wfM (wfTn (bt s (i : Int))) (wfAll s i) wfZs (i + 1)
theorem wfB_len (t : Int) (m h : Nat) (n : Int) (X : List Int) (b : Nat) : (wfB t m h n X b).length = X.length := by
  induction b with
  | zero => rfl
  | succ b ih => rw [wfB, wfPut, List.length_set, ih]
theorem wfH_len (t : Int) (m : Nat) (now X : List Int) (h : Nat) : (wfH t m now X h).length = X.length := by
  induction h with
  | zero => rfl
  | succ h ih => rw [wfH, wfB_len, ih]
theorem wfM_len (t : Int) (now X : List Int) (m : Nat) : (wfM t now X m).length = X.length := by
  induction m with
  | zero => rfl
  | succ m ih => rw [wfM, wfH_len, ih]
theorem wfAll_len (s : ByteArray) (i : Nat) : (wfAll s i).length = 244 := by
  cases i with
  | zero => exact (List.length_set).trans List.length_replicate
  | succ i => rw [wfAll, wfM_len]; exact List.length_replicate
def impl_WaysToFace.f (k : Nat) (a0 : ByteArray) (a1 : Int) (a2 : Int) : Option (Int × Bool) :=
  (impl_areCommands.f a0).bind fun t => if t = true then ((impl_in.f a1 0 60).bind fun u => if u = true then ((impl_isWay.f a2).bind fun v => if v = true then (if a0.size ≤ 60 ∧ 0 ≤ a1 ∧ a1 ≤ 60 ∧ 0 ≤ a2 ∧ a2 ≤ 3 then (if (wfAll a0 a0.size).getD (a1.toNat * 4 + a2.toNat) 0 > 1000000000000000 then some (0, false) else some ((wfAll a0 a0.size).getD (a1.toNat * 4 + a2.toNat) 0, true)) else none) else some (0, false)) else some (0, false)) else some (0, false)
theorem impl_WaysToFace.mono : ∀ a0 a1 a2 k, LeO (impl_WaysToFace.f k a0 a1 a2) (impl_WaysToFace.f (k + 1) a0 a1 a2) := fun _ _ _ _ => LeO.refl _
set_option maxHeartbeats 8000000 in
set_option maxRecDepth 100000 in
theorem impl_WaysToFace.calls (k : Nat) (a0 : ByteArray) (a1 : Int) (a2 : Int) (r1 : Int) (r2 : Bool) (w : World) (h : impl_WaysToFace.f k a0 a1 a2 = some (r1, r2)) :
    Calls Tryd.prog 16 #[.string a0, .int .i64 a1, .int .i64 a2] w fun e w' => e = .returned (.tuple #[.int .i64 r1, .bool r2]) ∧ Below w.heap.size w w' := by
  obtain ⟨t, h1, h⟩ := Option.bind_eq_some_iff.mp h
  have H1 := wf_hid h1
  clear h1
  cases t with
  | false =>
    rw [if_neg (by decide)] at h
    injection h with h
    injection h with e1 e2
    subst e1 e2
    go_enter Tryd.func16, Tryd.ntmps16
    go_wp2_with fail
    refine (impl_areCommands.calls a0 false _ H1.out).mono ?_
    rintro e w1 ⟨rfl, hb⟩
    go_wp2
    go_ret2
    exact ⟨rfl, hb⟩
  | true =>
    rw [if_pos rfl] at h
    obtain ⟨u, h2, h⟩ := Option.bind_eq_some_iff.mp h
    have H2 := wf_hid h2
    clear h2
    cases u with
    | false =>
      rw [if_neg (by decide)] at h
      injection h with h
      injection h with e1 e2
      subst e1 e2
      go_enter Tryd.func16, Tryd.ntmps16
      go_wp2_with fail
      refine (impl_areCommands.calls a0 true _ H1.out).mono ?_
      rintro e w1 ⟨rfl, hb⟩
      go_wp2_with fail
      refine (impl_in.calls _ _ _ false _ H2.out).mono ?_
      rintro e w2 ⟨rfl, ⟨nd, rfl⟩⟩
      have hb2 := pw_below_drewN hb nd
      go_wp2
      go_ret2
      exact ⟨rfl, hb2⟩
    | true =>
      rw [if_pos rfl] at h
      obtain ⟨v, h3, h⟩ := Option.bind_eq_some_iff.mp h
      have H3 := wf_hid h3
      clear h3
      cases v with
      | false =>
        rw [if_neg (by decide)] at h
        injection h with h
        injection h with e1 e2
        subst e1 e2
        go_enter Tryd.func16, Tryd.ntmps16
        go_wp2_with fail
        refine (impl_areCommands.calls a0 true _ H1.out).mono ?_
        rintro e w1 ⟨rfl, hb⟩
        go_wp2_with fail
        refine (impl_in.calls _ _ _ true _ H2.out).mono ?_
        rintro e w2 ⟨rfl, ⟨nd, rfl⟩⟩
        have hb2 := pw_below_drewN hb nd
        generalize w1.drewN nd = w2 at hb2 ⊢
        go_wp2_with fail
        refine (impl_isWay.calls _ false _ H3.out).mono ?_
        rintro e w3 ⟨rfl, ⟨nd3, rfl⟩⟩
        have hb3 := pw_below_drewN hb2 nd3
        go_wp2
        go_ret2
        exact ⟨rfl, hb3⟩
      | true =>
        rw [if_pos rfl] at h
        by_cases hg : a0.size ≤ 60 ∧ 0 ≤ a1 ∧ a1 ≤ 60 ∧ 0 ≤ a2 ∧ a2 ≤ 3
        · rw [if_pos hg] at h
          obtain ⟨g1, g2, g3, g4, g5⟩ := hg
          go_enter Tryd.func16, Tryd.ntmps16
          go_wp2_with fail
          refine (impl_areCommands.calls a0 true _ H1.out).mono ?_
          rintro e w1 ⟨rfl, hb⟩
          go_wp2_with fail
          refine (impl_in.calls _ _ _ true _ H2.out).mono ?_
          rintro e w2 ⟨rfl, ⟨nd, rfl⟩⟩
          have hb2 := pw_below_drewN hb nd
          generalize w1.drewN nd = w2 at hb2 ⊢
          go_wp2_with fail
          refine (impl_isWay.calls _ true _ H3.out).mono ?_
          rintro e w3 ⟨rfl, ⟨nd3, rfl⟩⟩
          have hb3 := pw_below_drewN hb2 nd3
          generalize w2.drewN nd3 = w3 at hb3 ⊢
          clear hb hb2
          have hz244 : wfZs.length = 244 := List.length_replicate
          have HZL := wf_hid hz244
          clear hz244
          have hr0 := wfRow_new w3 wfZs HZL.out
          have hB0 := below_alloc hb3 (.cells (wfZs.map fun x => Value.int .i64 x).toArray 60)
          have hbl := wf_build (w3)
          have hal := wf_alloc w3
          have hst := wf_store hr0 wfZs HZL.out
          have hr1 := wfRow_setRow hr0 wfZs HZL.out
          have hB1 := below_setRow hB0 (show w.heap.size ≤ w3.heap.size from hb3.size) (wfZs.map fun x => Value.int .i64 x).toArray
          have hge : w.heap.size ≤ w3.heap.size := hb3.size
          have hbd3 : ∀ W, (Instr.build 60 #[]).run Tryd.prog W = .ok (.agg (wfZs.map fun x => Value.int .i64 x).toArray) W := wf_build
          generalize (wfZs.map fun x => Value.int .i64 x).toArray = Z at hr0 hB0 hbl hal hst hr1 hB1
          clear hbd3
          have HR1 := wf_hid hr1
          have HB1 := wf_hid hB1
          clear hr1 hB1 hr0 hB0 hb3
          go_wp2_with (first | ((with_reducible refine gate_dst (N := 31) rfl ?_); refine Kd.event_run rfl (wf_bl rfl hbl) ?_) | ((with_reducible refine gate_dst (N := 8) rfl ?_); refine Kd.event_run rfl (wf_al rfl hal) ?_) | ((with_reducible refine gate_store (t := 60) (p := 8) rfl ?_); refine store_event rfl rfl rfl (wf_st rfl hst) ?_; intro w4 hw4; rw [← hw4] at HR1 HB1; clear hst hal hbl hw4; have c0 := (wfRow_cell HR1.out 0 (by decide)).1; have f0 := (wfRow_cell HR1.out 0 (by decide)).2))
          have hr5 := wfRow_set HR1.out 0 1
          have hB5 : Below w.heap.size w (w4.setCell ⟨w3.heap.size, 0, none⟩ (.int .i64 1)) := below_set HB1.out hge
          clear c0 f0 HR1 HB1
          generalize w4.setCell ⟨w3.heap.size, 0, none⟩ (.int .i64 1) = w5 at hr5 hB5 ⊢
          generalize w3.heap.size = g8 at hr5 hge ⊢
          go_loopw [36] (fun v36 wr => ∃ i : Nat, i ≤ a0.size ∧ v36 = .int .i64 i ∧ wfRow wr g8 (wfAll a0 i) ∧ Below w.heap.size w wr) (fun v36 _ => a0.size - (intOf v36).toNat)
          case atStart => exact ⟨0, Nat.zero_le _, rfl, hr5, hB5⟩
          case round =>
            obtain ⟨i, hi, rfl, hrow, hB⟩ := hrel
            clear hr5 hB5
            by_cases hil : i < a0.size
            · have q1 : decide ((i : Int) < (a0.size : Int)) = true := decide_eq_true (by omega)
              have hr0 := wfRow_new wr wfZs HZL.out
              have hg8 := wfRow_lt hrow
              have hbl := wf_build wr
              have hal := wf_alloc wr
              have hst := wf_store hr0 wfZs HZL.out
              have hr1 := wfRow_setRow hr0 wfZs HZL.out
              have hBo := below_setRow (below_alloc (Below.refl wr.heap.size wr) (.cells (wfZs.map fun x => Value.int .i64 x).toArray 60)) (Nat.le_refl _) (wfZs.map fun x => Value.int .i64 x).toArray
              have hro := wfRow_other hrow (hBo.block g8 hg8)
              have hB1 := below_step hB hBo
              have hne : g8 ≠ wr.heap.size := by omega
              have hge10 : w.heap.size ≤ wr.heap.size := hB.size
              generalize hNow : wfAll a0 i = NOW at hrow hro
              generalize (wfZs.map fun x => Value.int .i64 x).toArray = Z at hr0 hbl hal hst hr1 hBo hro hB1
              have HNOW := wf_hid hNow
              have HRO := wf_hid hro
              have HR1 := wf_hid hr1
              have HB1 := wf_hid hB1
              clear hNow hro hr1 hB1 hr0 hBo hrow hB
              obtain ⟨t, ht⟩ : ∃ t, t = wfTn (bt a0 (i : Int)) := ⟨_, rfl⟩
              have HT := wf_hid ht
              clear ht
              go_wp2_with (first | ((with_reducible refine gate_dst (N := 39) rfl ?_); refine Kd.event_run rfl (wf_bl rfl hbl) ?_) | ((with_reducible refine gate_dst (N := 10) rfl ?_); refine Kd.event_run rfl (wf_al rfl hal) ?_) | ((with_reducible refine gate_store (t := 60) (p := 10) rfl ?_); refine store_event rfl rfl rfl (wf_st rfl hst) ?_; intro w4 hw4; rw [← hw4] at HR1 HB1 HRO; clear hst hal hbl hw4))
              have hrA := HRO.out
              have hrB := HR1.out
              have hBB := HB1.out
              clear HRO HR1 HB1
              generalize wr.heap.size = g10 at hne hge10 hrB ⊢
              go_loopw [42] (fun v42 wq => ∃ m : Nat, m ≤ i + 1 ∧ v42 = .int .i64 m ∧ wfRow wq g8 NOW ∧ wfRow wq g10 (wfM t NOW wfZs m) ∧ Below w.heap.size w wq) (fun v42 _ => i + 1 - (intOf v42).toNat)
              case atStart => exact ⟨0, Nat.zero_le _, rfl, hrA, hrB, hBB⟩
              case round =>
                obtain ⟨m, hm, rfl, hrow8, hrow10, hB⟩ := hrel
                clear hrA hrB hBB
                by_cases hml : m < i + 1
                · have q2 : decide ((m : Int) < (i : Int) + 1) = true := decide_eq_true (by omega)
                  have p1 : (0 : Int) ≤ (m : Int) := by omega
                  have p2 : (m : Int) < 61 := by omega
                  have HL4 := wf_hid (wf_load4 hrow8 m (show m < 61 by omega))
                  have HA := wf_hid hrow8
                  have HBq := wf_hid hrow10
                  have HBB := wf_hid hB
                  clear hrow8 hrow10 hB
                  go_wp2_with ((with_reducible refine gate_dst (N := 47) rfl ?_); refine Kd.event_run rfl (wf_ld rfl HL4.out) ?_; clear HL4)
                  have hrA := HA.out
                  have hrB := HBq.out
                  have hBB := HBB.out
                  clear HA HBq HBB
                  obtain ⟨XM, hXM⟩ : ∃ XM, XM = wfM t NOW wfZs m := ⟨_, rfl⟩
                  rw [← hXM] at hrB
                  have HXM := wf_hid hXM
                  clear hXM
                  go_loopw [48] (fun v48 wq => ∃ h : Nat, h ≤ 4 ∧ v48 = .int .i64 h ∧ wfRow wq g8 NOW ∧ wfRow wq g10 (wfH t m NOW XM h) ∧ Below w.heap.size w wq) (fun v48 _ => 4 - (intOf v48).toNat)
                  case atStart => exact ⟨0, Nat.zero_le _, rfl, hrA, hrB, hBB⟩
                  case round =>
                    obtain ⟨h, hh, rfl, hrow8, hrow10, hB⟩ := hrel
                    clear hrA hrB hBB
                    by_cases hhl : h < 4
                    · have q3 : decide ((h : Int) < 4) = true := decide_eq_true (by omega)
                      obtain ⟨n, hn⟩ : ∃ n, n = NOW.getD (m * 4 + h) 0 := ⟨_, rfl⟩
                      have HI4 := fun W => wf_hid (show (Instr.index 59 (.agg (wfQ NOW m)) (.int .i64 (h : Int))).run Tryd.prog W = .ok (.int .i64 n) W by rw [hn]; exact wf_index4 NOW m h hhl)
                      have HN := wf_hid hn
                      clear hn
                      have HA := wf_hid hrow8
                      have HBq := wf_hid hrow10
                      have HBB := wf_hid hB
                      clear hrow8 hrow10 hB
                      go_wp2_with ((with_reducible refine gate_dst (N := 51) rfl ?_); refine Kd.event_run rfl (wf_ix rfl (HI4 _).out) ?_; clear HI4)
                      have hrA := HA.out
                      have hrB := HBq.out
                      have hBB := HBB.out
                      clear HA HBq HBB
                      obtain ⟨XH, hXH⟩ : ∃ XH, XH = wfH t m NOW XM h := ⟨_, rfl⟩
                      rw [← hXH] at hrB
                      have HXH := wf_hid hXH
                      clear hXH
                      have hx := bt_at a0 (i : Int)
                      simp only [Int.toNat_natCast] at hx
                      go_loopw [52] (fun v52 wq => ∃ b : Nat, b ≤ 4 ∧ v52 = .int .i64 b ∧ wfRow wq g8 NOW ∧ wfRow wq g10 (wfB t m h n XH b) ∧ Below w.heap.size w wq) (fun v52 _ => 4 - (intOf v52).toNat)
                      case atStart => exact ⟨0, Nat.zero_le _, rfl, hrA, hrB, hBB⟩
                      case round =>
                        obtain ⟨b, hb, rfl, hrow8, hrow10, hB⟩ := hrel
                        clear hrA hrB hBB
                        by_cases hbl : b < 4
                        · have q4 : decide ((b : Int) < 4) = true := decide_eq_true (by omega)
                          obtain ⟨XB, hXB⟩ : ∃ XB, XB = wfB t m h n XH b := ⟨_, rfl⟩
                          rw [← hXB] at hrow10
                          have hsucc : wfB t m h n XH (b + 1) = wfPut t m h n XB b := by rw [wfB, hXB]
                          have HSUCC := wf_hid hsucc
                          have hmo : wfMore t m b = if (b : Int) = t then m else m + 1 := rfl
                          have hmi : m ≤ 59 := by omega
                          have hcall : ∀ W, Calls Tryd.prog 39 #[.int .u8 (bt a0 (i : Int))] W fun e w' => e = .returned (.int .i64 t) ∧ w' = W := fun W => by
                            rw [HT.out]
                            exact wf_turnOf _ _
                          have p5 : (0 : Int) ≤ (h : Int) + (b : Int) := by omega
                          have p6 : ((h : Int) + (b : Int)) % 4 < 4 := by omega
                          have p7 : 0 ≤ ((h : Int) + (b : Int)) % 4 := by omega
                          have p8 : (((h : Int) + (b : Int)) % 4).toNat = (h + b) % 4 := by omega
                          by_cases hbt : (b : Int) = t
                          · rw [if_pos hbt] at hmo
                            have hc := wfRow_cell hrow10 (m * 4 + (h + b) % 4) (by omega)
                            have hset := wfRow_set hrow10 (m * 4 + (h + b) % 4) (mn (wrap64 (XB.getD (m * 4 + (h + b) % 4) 0 + n)) 1000000000000001)
                            have hse8 := wfRow_setOther (g' := g10) (j := m * 4 + (h + b) % 4) hrow8 hne (Value.int .i64 (mn (wrap64 (XB.getD (m * 4 + (h + b) % 4) 0 + n)) 1000000000000001))
                            have hBs : Below w.heap.size w (wr.setCell ⟨g10, m * 4 + (h + b) % 4, none⟩ (Value.int .i64 (mn (wrap64 (XB.getD (m * 4 + (h + b) % 4) 0 + n)) 1000000000000001))) := below_set hB hge10
                            rw [wfPut, hmo] at hsucc
                            rw [← hsucc] at hset
                            have q5 : ((b : Int) != t) = false := by simp [hbt]
                            have HS1 := wf_hid hset
                            have HS2 := wf_hid hse8
                            have HS3 := wf_hid hBs
                            obtain ⟨y, hy⟩ : ∃ y, y = XB.getD (m * 4 + (h + b) % 4) 0 := ⟨_, rfl⟩
                            rw [← hy] at hc HS1 HS2 HS3
                            obtain ⟨hc1, hc2⟩ := hc
                            clear hset hse8 hBs hsucc hmo hbt hy hrow8 hrow10 hB HSUCC hXB
                            go_wp2_with (refine (hcall _).mono ?_; rintro e w6 ⟨rfl, rfl⟩)
                            go_roundw
                            case rel => exact ⟨b + 1, by omega, by go_num, HS2.out, HS1.out, HS3.out⟩
                            case measure => simp [intOf]; omega
                          · rw [if_neg hbt] at hmo
                            have pm0 : (0 : Int) ≤ (m : Int) + 1 := by omega
                            have pm1 : (m : Int) + 1 < 61 := by omega
                            have pm2 : ((m : Int) + 1).toNat = m + 1 := by omega
                            have hc := wfRow_cell hrow10 ((m + 1) * 4 + (h + b) % 4) (by omega)
                            have hset := wfRow_set hrow10 ((m + 1) * 4 + (h + b) % 4) (mn (wrap64 (XB.getD ((m + 1) * 4 + (h + b) % 4) 0 + n)) 1000000000000001)
                            have hse8 := wfRow_setOther (g' := g10) (j := (m + 1) * 4 + (h + b) % 4) hrow8 hne (Value.int .i64 (mn (wrap64 (XB.getD ((m + 1) * 4 + (h + b) % 4) 0 + n)) 1000000000000001))
                            have hBs : Below w.heap.size w (wr.setCell ⟨g10, (m + 1) * 4 + (h + b) % 4, none⟩ (Value.int .i64 (mn (wrap64 (XB.getD ((m + 1) * 4 + (h + b) % 4) 0 + n)) 1000000000000001))) := below_set hB hge10
                            rw [wfPut, hmo] at hsucc
                            rw [← hsucc] at hset
                            have q5 : ((b : Int) != t) = true := by simp [hbt]
                            have HS1 := wf_hid hset
                            have HS2 := wf_hid hse8
                            have HS3 := wf_hid hBs
                            obtain ⟨y, hy⟩ : ∃ y, y = XB.getD ((m + 1) * 4 + (h + b) % 4) 0 := ⟨_, rfl⟩
                            rw [← hy] at hc HS1 HS2 HS3
                            obtain ⟨hc1, hc2⟩ := hc
                            clear hset hse8 hBs hsucc hmo hbt hy hrow8 hrow10 hB HSUCC hXB
                            go_wp2_with (refine (hcall _).mono ?_; rintro e w6 ⟨rfl, rfl⟩)
                            go_roundw
                            case rel => exact ⟨b + 1, by omega, by go_num, HS2.out, HS1.out, HS3.out⟩
                            case measure => simp [intOf]; omega
                        · have q4 : decide ((b : Int) < 4) = false := decide_eq_false (by omega)
                          obtain rfl : b = 4 := by omega
                          have HA := wf_hid hrow8
                          have HBq := wf_hid hrow10
                          have HBB := wf_hid hB
                          clear hrow8 hrow10 hB
                          go_wp2
                          go_roundw
                          case rel => exact ⟨h + 1, by omega, by go_num, HA.out, by rw [wfH, ← HXH.out, ← HN.out]; exact HBq.out, HBB.out⟩
                          case measure => simp [intOf]; omega
                    · have q3 : decide ((h : Int) < 4) = false := decide_eq_false (by omega)
                      obtain rfl : h = 4 := by omega
                      have HA := wf_hid hrow8
                      have HBq := wf_hid hrow10
                      have HBB := wf_hid hB
                      clear hrow8 hrow10 hB
                      go_wp2
                      go_roundw
                      case rel => exact ⟨m + 1, by omega, by go_num, HA.out, by rw [wfM, ← HXM.out]; exact HBq.out, HBB.out⟩
                      case measure => simp [intOf]; omega
                · have q2 : decide ((m : Int) < (i : Int) + 1) = false := decide_eq_false (by omega)
                  obtain rfl : m = i + 1 := by omega
                  have hml : (wfM t NOW wfZs (i + 1)).length = 244 := (wfM_len _ _ _ _).trans HZL.out
                  have hld := wf_load hrow10
                  have hst := wf_store hrow8 (wfM t NOW wfZs (i + 1)) hml
                  have hr1 := wfRow_setRow hrow8 (wfM t NOW wfZs (i + 1)) hml
                  have hB1 := below_setRow hB hge ((wfM t NOW wfZs (i + 1)).map fun x => Value.int .i64 x).toArray
                  have hall : wfM t NOW wfZs (i + 1) = wfAll a0 (i + 1) := by rw [wfAll, HNOW.out, HT.out]
                  generalize ((wfM t NOW wfZs (i + 1)).map fun x => Value.int .i64 x).toArray = C at hld hst hr1 hB1
                  rw [hall] at hr1
                  have HR1 := wf_hid hr1
                  have HB1 := wf_hid hB1
                  clear hr1 hB1 hrow8 hrow10 hB hml hall
                  go_wp2_with (first | ((with_reducible refine gate_dst (N := 82) rfl ?_); refine Kd.event_run rfl (wf_ld rfl hld) ?_) | ((with_reducible refine gate_store (t := 60) (p := 8) rfl ?_); refine store_event rfl rfl rfl (wf_st rfl hst) ?_; intro w7 hw7; rw [← hw7] at HR1 HB1; clear hst hld hw7))
                  go_roundw
                  case rel => exact ⟨i + 1, by omega, by go_num, HR1.out, HB1.out⟩
                  case measure => simp [intOf]; omega
            · have q1 : decide ((i : Int) < (a0.size : Int)) = false := decide_eq_false (by omega)
              obtain rfl : i = a0.size := by omega
              obtain ⟨p, rfl⟩ : ∃ p : Nat, a1 = p := ⟨a1.toNat, by omega⟩
              obtain ⟨q, rfl⟩ : ∃ q : Nat, a2 = q := ⟨a2.toNat, by omega⟩
              simp only [Int.toNat_natCast] at h
              have p1 : (0 : Int) ≤ (p : Int) := by omega
              have p2 : (p : Int) < 61 := by omega
              have p3 : (0 : Int) ≤ (q : Int) := by omega
              have p4 : (q : Int) < 4 := by omega
              have hc := (wfRow_cell hrow (p * 4 + q) (by omega)).1
              obtain ⟨y, hy⟩ : ∃ y, y = (wfAll a0 a0.size).getD (p * 4 + q) 0 := ⟨_, rfl⟩
              rw [← hy] at hc h
              have HB := wf_hid hB
              clear hy hrow hB g2 g3 g4 g5
              by_cases hy : y > 1000000000000000
              · rw [if_pos hy] at h
                injection h with h
                injection h with e1 e2
                subst e1 e2
                have q5 : decide (y > 1000000000000000) = true := decide_eq_true hy
                go_wp2
                go_ret2
                exact ⟨rfl, HB.out⟩
              · rw [if_neg hy] at h
                injection h with h
                injection h with e1 e2
                subst e1 e2
                have q5 : decide (y > 1000000000000000) = false := decide_eq_false hy
                go_wp2
                go_ret2
                exact ⟨rfl, HB.out⟩
        · rw [if_neg hg] at h; cases h

/-! ### spec_l1Least: function 43 -/
def spec_l1Least.f (a0 : Int) (a1 : Int) : Option (Int) := if a0 < a1 then (some a0) else (some a1)
set_option maxHeartbeats 8000000 in
set_option maxRecDepth 100000 in
theorem spec_l1Least.calls (a0 : Int) (a1 : Int) (r : Int) (w : World) (h : spec_l1Least.f a0 a1 = some r) :
  Calls Tryd.prog 43 #[.int .i64 a0, .int .i64 a1] w fun e w' => e = .returned (.int .i64 r) ∧ Drawn0 w w' := by
 have H : (if a0 < a1 then (some a0) else (some a1)) = some r := h
 clear h
 by_cases c3 : a0 < a1
 ·
  rw [if_pos c3] at H
  have c3b0 : decide (a0 < a1) = true := decide_eq_true c3
  clear c3
  obtain rfl := Option.some.inj H
  go_enter Tryd.func43, Tryd.ntmps43
  go_wp2
  go_ret
  exact ⟨by first | rfl | (simp; done) | (simp [*]; done), by repeat (first | exact Drawn0.refl _ | apply Drawn0.step)⟩
 ·
  rw [if_neg c3] at H
  have c3b0 : decide (a0 < a1) = false := decide_eq_false c3
  clear c3
  obtain rfl := Option.some.inj H
  go_enter Tryd.func43, Tryd.ntmps43
  go_wp2
  go_ret
  exact ⟨by first | rfl | (simp; done) | (simp [*]; done), by repeat (first | exact Drawn0.refl _ | apply Drawn0.step)⟩

end Go.Proofs.YtgdmbhldabeelaaRDoor.PFnDrillsMistaken
