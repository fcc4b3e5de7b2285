import Derived.Test.YtddenfnnnloagaaDoorRows
import Derived.Test.YtddenfnnnloagaaDoorPFnExactWrongSoldiersx8
import Derived.Test.YtddenfnnnloagaaDoorPureFnExactWrongSoldiers
import Derived.WalkKit
import Derived.ProofKit
import Derived.OpenShut
import Derived.ShutString
import Derived.ChangeOld
import Derived.Below
import Derived.SizedLaws
import Derived.Deep.Slices
import Derived.Deep.Fields
import Derived.ChangeSame
import Derived.Lib.SmallJoins
import Derived.Test.YtddenfnnnloagaaDoorLaid
import Derived.Test.YtddenfnnnloagaaDoorCards
import Derived.Test.YtddenfnnnloagaaDoorTie
import Derived.SevenTiedAt
namespace Go.Proofs.YtddenfnnnloagaaDoor.fnExactWrongSoldiers
open Go.ChangeShapes Go.WideShapes Go.ChangeAt Go.RowKit Go.Deep Go.Joins
open Go.ChangeMaps (open_string shut_string)
open Go.Proofs.YtddenfnnnloagaaDoor.PFnExactWrongSoldiers Go.Proofs.YtddenfnnnloagaaDoorW.PrintWords
set_option linter.unusedVariables false
theorem own : ownKnob Tryd.prog.godebug = none := by kernel_rfl
theorem laidOut : laidOutB Tryd.prog = true := by kernel_rfl
section
variable {H : Type} {enc : TypeId × Value → H} {P : Program} {w : World} {base : Nat} {spare : Nat → Bool} {held : Bool}
theorem open_rows {t e : TypeId} {fs : Array Field} {fuel : Nat} {cs : List Value} {x : DataW H × List MemPlace} (ht : P.underlying t = some (.slice e)) (he : P.underlying e = some (.struct fs))
    (hone : oneCellFields P fs = true) (hC : P.cellsOf e = fs.size) (h : DataW.trod enc P w base spare held fuel t cs = some x) :
    (cs = [.slice none 0 0]) ∨
    ∃ (a : Addr) (len cap m : Nat), cs = [.slice (some a) len cap] ∧ len ≤ cap ∧ cap ≤ maxLen ∧ m = (if spare a.block then cap else len) ∧
      ∀ i, i < m → ∃ n : Nat, ∀ (j : Nat) (f : Field), fs[j]? = some f → ∃ (v : Value) (y : DataW H × List MemPlace), w.cell? (a.add (i * fs.size + j)) = some v ∧ DataW.trod enc P w base spare held n f.type [v] = some y := by
  rcases open_slice ht h with h0 | ⟨a, len, cap, m, n, D, Pl, hcs, hb, hl, hm, hmm, hx, hi⟩
  · exact .inl h0.1
  · refine .inr ⟨a, len, cap, m, hcs, hl, hm, hmm, fun i him => ?_⟩
    obtain ⟨cs', hc, ht'⟩ := hi i him
    rw [hC] at hc
    obtain ⟨ys, n', hn', hy, hlen, hyl, hf⟩ := DataW.trod_struct he ht'
    obtain ⟨_, hcl, hat⟩ := World.cells?_some hc
    refine ⟨n', fun j f hj => ?_⟩
    obtain ⟨ho, hk⟩ := hone_of hone j f hj
    have hjl : j < fs.size := (Array.getElem?_eq_some_iff.1 hj).1
    have hcell := hat j hjl
    have hv : cs'[j]? = some (cs'[j]'(by omega)) := List.getElem?_eq_getElem (by omega)
    have h1 := hf j f hj
    rw [ho, hk] at h1
    have hone' : (cs'.drop j).take 1 = [cs'[j]'(by omega)] := by
      rw [List.drop_eq_getElem_cons (by omega)]
      rfl
    rw [hone'] at h1
    have hys : ys[j]? = some (ys[j]'(by omega)) := List.getElem?_eq_getElem (by omega)
    refine ⟨_, _, ?_, h1.trans hys⟩
    rw [← Go.Deep.add_add, hcell, hv]
end
theorem row25 {H : Type} {enc : TypeId × Value → H} {W : World} {p : List MemPlace} {d : DataW H} {a : Option Addr} {len cap : Nat} (h : DataW.Trod enc Tryd.prog W 0 (fun _ => true) true 25 (.slice a len cap) d p) :
    ∃ zs : List S52, zs.length = len ∧ len ≤ cap ∧ len ≤ maxLen ∧ Kd.C k52 W a len zs ∧ ∀ z ∈ zs, (Lit.int .i64 z.f0).wf = true ∧ (Lit.int .i64 z.f1).wf = true ∧ z.f2.size ≤ maxLen := by
  obtain ⟨fuel, hf⟩ := h
  rcases open_rows Tryd.underlying25 Tryd.underlying52 (by kernel_rfl) (by kernel_rfl) hf with hcs | ⟨x, l, c, m, hcs, hl, hm, hmm, hi⟩
  · simp [Value.cells] at hcs
    obtain ⟨rfl, rfl, rfl⟩ := hcs
    exact ⟨[], rfl, Nat.le_refl _, Nat.zero_le _, ⟨rfl, by omega, fun h => absurd h (by omega)⟩, fun z hz => by cases hz⟩
  · simp [Value.cells] at hcs
    obtain ⟨rfl, rfl, rfl⟩ := hcs
    have ex : ∀ i, ∃ z : S52, i < len → (W.cell? (x.add (i * 3 + 0)) = some (.int .i64 z.f0) ∧ W.cell? (x.add (i * 3 + 1)) = some (.int .i64 z.f1) ∧ W.cell? (x.add (i * 3 + 2)) = some (.string z.f2) ∧ (Lit.int .i64 z.f0).wf = true ∧ (Lit.int .i64 z.f1).wf = true ∧ z.f2.size ≤ maxLen) := fun i => by
      by_cases hil : i < len
      · obtain ⟨n, hj⟩ := hi i (by rw [hmm]; simp; omega)
        obtain ⟨v0, y0, hc0, ht0⟩ := hj 0 _ rfl
        obtain ⟨x0, hv0, _, hw0⟩ := DataW.trod_int Tryd.underlying3 ht0
        injection hv0 with hv0
        subst hv0
        obtain ⟨v1, y1, hc1, ht1⟩ := hj 1 _ rfl
        obtain ⟨x1, hv1, _, hw1⟩ := DataW.trod_int Tryd.underlying3 ht1
        injection hv1 with hv1
        subst hv1
        obtain ⟨v2, y2, hc2, ht2⟩ := hj 2 _ rfl
        obtain ⟨x2, hv2, _, hw2⟩ := DataW.trod_string Tryd.underlying9 ht2
        injection hv2 with hv2
        subst hv2
        exact ⟨⟨x0, x1, x2⟩, fun _ => ⟨hc0, hc1, hc2, hw0, hw1, hw2⟩⟩
      · exact ⟨z52, fun h => absurd h hil⟩
    obtain ⟨F, hF⟩ := Classical.axiomOfChoice ex
    refine ⟨(List.range len).map F, by simp, hl, by omega, ⟨by simp, by unfold maxLen at hm; omega, fun _ => ⟨x, rfl, fun j p hj => ?_⟩⟩, fun z hz => ?_⟩
    · rw [List.getElem?_map] at hj
      obtain ⟨q, hq, rfl⟩ := Option.map_eq_some_iff.1 hj
      obtain ⟨hq1, hq2⟩ := List.getElem?_eq_some_iff.1 hq
      simp at hq1 hq2
      subst hq2
      have hz := hF j hq1
      refine ⟨_, rfl, k52_mk W (F j), fun i u hu => ?_⟩
      match i, hu with
      | 0, hu => injection hu with hu; subst hu; exact hz.1
      | 1, hu => injection hu with hu; subst hu; exact hz.2.1
      | 2, hu => injection hu with hu; subst hu; exact hz.2.2.1
    · obtain ⟨q, hq, rfl⟩ := List.mem_map.1 hz
      have hz := hF q (by simpa using hq)
      exact hz.2.2.2
set_option maxRecDepth 100000 in
theorem lifted (os : Os) (started : os.Started) (H : Type) (enc : TypeId × Value → H) :
    ReturnsInHanded {} Tryd.checked os 9 .any (fun w args => (Rows.fnExactWrongSoldiersSpec.pre enc Tryd.prog Tryd.f9 Rows.fnExactWrongSoldiersRow.domain false w args ∧ laidMetH Tryd.prog Rows.fnExactWrongSoldiersRow.laid w) ∧ sizedMet enc Tryd.prog Tryd.f9 (OpenSpec.ofChange Rows.fnExactWrongSoldiersSpec) false w args) (Rows.fnExactWrongSoldiersSpec.post enc Tryd.prog Tryd.f9 false true false false) := by
  refine returnsInHanded_of_change_and (C := Tryd.checked) (X := fun w _ => laidMetH Tryd.prog Rows.fnExactWrongSoldiersRow.laid w) (fun _ _ _ hh h => h.of_heap hh) own started (by kernel_rfl) Tryd.func9
    (ChangeSpec.witness_shaped (enc := enc) (C := Tryd.checked) (os := os) (X := fun w _ => laidMetH Tryd.prog Rows.fnExactWrongSoldiersRow.laid w) false (Laid.world os) #[.string ByteArray.empty, .string ByteArray.empty, .slice none 0 0] 8 rfl (Laid.shaped os _) (by kernel_rfl) (by kernel_rfl) (by kernel_rfl) (Laid.met os _)) ?_
  intro W base args ds gs before hval0 hW hcnd hsz0 hL _
  have hsz : (DataW.weightsEach Tryd.prog (Tryd.f9.params.toList ++ Rows.fnExactWrongSoldiersSpec.plain.varTypes Tryd.prog) (ds ++ gs)).all (· ≤ reachBytes) = true := hsz0
  have hval : ∀ (j : Nat) t v, Tryd.f9.params[j]? = some t → args[j]? = some v → Value.okWide Tryd.prog W .any base t v := hval0
  have hW' := hW
  obtain ⟨p, q, hA0, hV, rfl, hfz, hnd⟩ := hW
  have hA : DataW.TrodAll enc Tryd.prog W 0 (fun _ => true) true Tryd.f9.params.toList args.toList ds p := hA0
  rw [Tryd.params9] at hA hval hsz
  obtain ⟨v0, vs0, d0, ds0, p0, q0, hargs, rfl, rfl, h0, r0⟩ := trodAll_cons hA
  obtain ⟨v1, vs1, d1, ds1, p1, q1, rfl, rfl, rfl, h1, r1⟩ := trodAll_cons r0
  obtain ⟨v2, vs2, d2, ds2, p2, q2, rfl, rfl, rfl, h2, r2⟩ := trodAll_cons r1
  obtain ⟨rfl, rfl, rfl⟩ := trodAll_nil r2
  obtain rfl : args = #[v0, v1, v2] := by cases args; simp_all
  obtain ⟨rfl, rfl⟩ := trodVars_none hV
  obtain ⟨a0, rfl, rfl, rfl, y0⟩ := open_string Tryd.underlying9 (hval 0 9 v0 rfl rfl) h0
  have w0 : a0.size ≤ 140737488351232 := by
    have z := sized_string hsz (j := 0) (t := 9) rfl rfl
    rw [Array.length_toList] at z
    exact z
  obtain ⟨a1, rfl, rfl, rfl, y1⟩ := open_string Tryd.underlying9 (hval 1 9 v1 rfl rfl) h1
  have w1 : a1.size ≤ 140737488351232 := by
    have z := sized_string hsz (j := 1) (t := 9) rfl rfl
    rw [Array.length_toList] at z
    exact z
  obtain ⟨a2, len2, cap2, rfl⟩ := okWide_slice Tryd.underlying25 (hval 2 25 v2 rfl rfl)
  have k2 := h2
  have lt2 : ∀ x ∈ p2, x.block < W.heap.size := by obtain ⟨m, hm⟩ := k2; exact DataW.trod_lt m _ _ _ hm
  obtain ⟨l2, hl2, hlc2, hm2, hr2, hw2⟩ := row25 h2
  subst hl2
  clear hA0 hval0 hsz0 hsz
  obtain ⟨kr, hk⟩ := Pure.FnExactWrongSoldiers a0 a1 l2 w0 w1 hm2 hw2
  refine (laws_FnExactWrongSoldiers.calls kr a0 a1 _ _ l2 true W hr2 hlc2 hk).mono fun e W' ⟨he, bel⟩ => ?_
  subst he
  exact ⟨_, rfl, _, _, _, [], _, [], hW', trodAll_mk1 (shut_bool Tryd.underlying4 _), (trodAll_cons_mk (shut_string Tryd.underlying9 y0) (trodAll_cons_mk (shut_string Tryd.underlying9 y1) (trodAll_cons_mk (Below.trod laidOut (by kernel_rfl) (of_decide_eq_true (by kernel_rfl)) k2 bel lt2) trodAll_mk0))), rfl, bel.frame _, fun h => by cases h⟩
theorem over : Rows.fnExactWrongSoldiersRow.holds Tryd.pinned (OpenSpec.ofChange Rows.fnExactWrongSoldiersSpec) :=
  OpenClaim.holds_of_wide 9 Tryd.f9 rfl rfl rfl rfl rfl rfl rfl ⟨rfl, rfl, rfl, rfl, rfl⟩ rfl rfl rfl rfl rfl (by kernel_rfl) Tryd.func9 (by kernel_rfl)
    (of_decide_eq_true (by kernel_rfl)) (by unfold Func.isWrapper; first | (rw [if_pos (by decide +kernel)]; kernel_rfl) | (rw [if_neg (by decide +kernel)]; exact ⟨rfl, rfl⟩))
    (fun os started H enc _ => lifted os started H enc)
theorem proved : Rows.FnExactWrongSoldiersSaid := over
theorem card : Rows.FnExactWrongSoldiersCardSaid :=
  Claim7.holds_tied_plain_at .later [] [.data, .pinned] true (true, "9df33b694be121f8b0b6619e408316ef42e5c3abd0246d2343dceddeba6a25a2") true
    proved (fun _ h => by cases h) (by kernel_rfl) (fun _ h => by cases h) fnExactWrongSoldiers_row_tie rfl ⟨rfl, rfl⟩ (by kernel_rfl) rfl
    (fun f fn hf hfn => by
      obtain rfl : f = 9 := Option.some.inj ((show Tryd.prog.funcNamed Rows.fnExactWrongSoldiersRow.func = some 9 by kernel_rfl).symm.trans hf) |>.symm
      obtain rfl : fn = Tryd.f9 := (Option.some.inj (Tryd.func9.symm.trans hfn)).symm
      exact ⟨by kernel_rfl, fun j t ht => by
        rw [Tryd.params9] at ht
        have hm : t ∈ [9, 9, 25] := by simpa using Array.mem_of_getElem? ht
        have hall : ([9, 9, 25].all fun u => !Tryd.prog.wantsStandIn u) = true := by kernel_rfl
        exact (show Tryd.prog.wantsStandIn t = false by simpa using List.all_eq_true.1 hall t hm)⟩)
    (by kernel_rfl)
#print axioms card
end Go.Proofs.YtddenfnnnloagaaDoor.fnExactWrongSoldiers
namespace Go.Proofs.YtddenfnnnloagaaDoor
/-- The row, under a short name, for the claim. -/
theorem fnExactWrongSoldiers_holds : Rows.FnExactWrongSoldiersCardSaid := fnExactWrongSoldiers.card
end Go.Proofs.YtddenfnnnloagaaDoor
