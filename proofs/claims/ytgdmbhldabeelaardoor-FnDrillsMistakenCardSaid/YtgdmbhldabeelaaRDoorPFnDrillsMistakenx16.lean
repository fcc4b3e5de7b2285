-- Written by a program of this session's (pg.py) over the kit's print.
import Derived.Test.YtgdmbhldabeelaaRDoorPFnDrillsMistakenx0
import Derived.Test.YtgdmbhldabeelaaRDoorPFnDrillsMistakenx3
import Derived.Test.YtgdmbhldabeelaaRDoorPFnDrillsMistakenx6
import Derived.Test.YtgdmbhldabeelaaRDoorPFnDrillsMistakenx7
import Derived.Test.YtgdmbhldabeelaaRDoorPFnDrillsMistakenx8
import Derived.Test.YtgdmbhldabeelaaRDoorPFnDrillsMistakenx9
import Derived.Test.YtgdmbhldabeelaaRDoorPFnDrillsMistakenx10
import Derived.Test.YtgdmbhldabeelaaRDoorPFnDrillsMistakenx13
import Derived.Test.YtgdmbhldabeelaaRDoorPFnDrillsMistakenx14
import Derived.Deep.CutRange
import Derived.Test.YtgdmbhldabeelaaRDoorPFnDrillsMistakenx15
namespace Go.Proofs.YtgdmbhldabeelaaRDoor.PFnDrillsMistaken
open Go.RowKit Go.Proofs.YtgdmbhldabeelaaRDoorW.PrintWords Go.Proofs.YtgdmbhldabeelaaRDoorW.PrintLast Go.Proofs.YtgdmbhldabeelaaRDoorW.PrintMore
attribute [local go_sem] max2_int min2_int max_two min_two max_three min_three max_four min_four   -- for this text's walks alone
set_option linter.unusedVariables false
set_option linter.unusedSimpArgs false


set_option maxHeartbeats 8000000 in
set_option maxRecDepth 100000 in
def laws_FnDrillsMistaken.part3 : Σ' (R1 R2 : Prop), PLift R1 → PLift R2 → (laws_FnDrillsMistaken.part2.1) := by
 refine' ⟨_, _, fun hole1 hole2 => _⟩
 rotate_left 2
 ·
  conv => whnf
  intro t385 t383 t384 t388 t390 t400 t402 A0 A1 Ao14 l0 l1 A3 t392 t396 r HE_ t389 t391 t393 t397 t401 t403 k A5 A6 A7 A8 A9 A10 A11 c0 HC0 c1 HC1 nd co14 kj11 HJ11 HC32 K J K' a v394 v398 u99 u100 u101 u102 u103 u104 u105 u106 u107 u108 u109 u110 u111 u112 u113 u114 u115 u116 u117 u118 u119 u120 u121 u122 u123 u124 u125 u126 u127 u128 u129 u130 u131 u132 u133 u134 u135 u136 w HR0 HR1 Q' a a w13 w15 w16 w17 w18 w19 w20 HO387 HO395 HO399 HB wc HO_7 HO_12 HB
  have H := HC32.out
  clear HC32
  by_cases c33 : t389 = true
  ·
   subst c33
   have H1 : ((impl_FacingAfter.f kj11 t383 t384).bind fun bt405 => (if bt405.2 = true then (if (t388.size : Int) = (t383.size : Int) then (if (t400.size : Int) = (t383.size : Int) then ((laws_vRises.f kj11 t392).bind fun t407 => (if t407 = true then ((impl_AreMistakes.f kj11 (t383.size : Int) t384 t385).bind fun t408 => (laws_FnDrillsMistaken.j1 kj11 l1 t383 t385 t388 t392 t400 bt405.1 (!t408))) else (laws_FnDrillsMistaken.j1 kj11 l1 t383 t385 t388 t392 t400 bt405.1 true))) else (laws_FnDrillsMistaken.j1 kj11 l1 t383 t385 t388 t392 t400 bt405.1 true)) else (laws_FnDrillsMistaken.j1 kj11 l1 t383 t385 t388 t392 t400 bt405.1 true)) else (laws_FnDrillsMistaken.j1 kj11 l1 t383 t385 t388 t392 t400 bt405.1 true))) = some r := by rw [if_pos rfl] at H; exact H
   clear H
   have H := H1
   clear H1
   replace H := Option.bind_eq_some_iff.mp H
   obtain ⟨⟨t405, t406⟩, A340, H⟩ := H
   replace H : (if t406 = true then (if (t388.size : Int) = (t383.size : Int) then (if (t400.size : Int) = (t383.size : Int) then ((laws_vRises.f kj11 t392).bind fun t407 => (if t407 = true then ((impl_AreMistakes.f kj11 (t383.size : Int) t384 t385).bind fun t408 => (laws_FnDrillsMistaken.j1 kj11 l1 t383 t385 t388 t392 t400 t405 (!t408))) else (laws_FnDrillsMistaken.j1 kj11 l1 t383 t385 t388 t392 t400 t405 true))) else (laws_FnDrillsMistaken.j1 kj11 l1 t383 t385 t388 t392 t400 t405 true)) else (laws_FnDrillsMistaken.j1 kj11 l1 t383 t385 t388 t392 t400 t405 true)) else (laws_FnDrillsMistaken.j1 kj11 l1 t383 t385 t388 t392 t400 t405 true)) = some r := H
   have A34 := Aside0.mk A340
   clear A340
   have HC35 := Aside0.mk H
   clear H
   go_upto_region 14 with (first | ((with_reducible refine gate_callee (f := 12) rfl ?_); refine goesL_ (some 142) rfl rfl Tryd.func12 (by kernel_rfl) rfl #[.string t383, .string t384] rfl (by (try simp only [List.map_toArray, List.map_cons, List.map_nil]); first | done | rfl | (simp only [List.length_drop, List.length_take]; rfl)) ?_; (with_reducible refine (impl_FacingAfter.calls kj11 t383 t384 t405 t406 _ A34.out).mono ?_); rintro e w36 ⟨rfl, hb⟩; refine ⟨_, rfl, ?_⟩; have n0_ := Aside0.mk (Kd.R_below (by (with_reducible repeat (first | apply Kd.R_alloc | apply Kd.R_drewN | apply Kd.R_drew)); exact HO_7.out) hb); have n1_ := Aside0.mk (Kd.R_below (by (with_reducible repeat (first | apply Kd.R_alloc | apply Kd.R_drewN | apply Kd.R_drew)); exact HO_12.out) hb); have n2_ := Aside0.mk (below_step (by repeat (first | (with_reducible first | exact HB.out | apply below_alloc | apply pw_below_drewN | apply below_drew1) | exact HB.out)) hb); clear HO_7; clear HO_12; clear HB; have HO_7 := n0_; have HO_12 := n1_; have HB := n2_; clear n0_ n1_ n2_; (try clear hb); (try clear hb2); (try clear hk); (try clear hi)))
   (try simp only [Act.put, List.setIfInBounds_toArray, List.set_cons_zero, List.set_cons_succ])
   go_cut [173] from 137 to 173 (fun v173 wc => ∃ (kq : Nat) (x173_34 : Bool), v173 = .bool x173_34 ∧ Aside0 (laws_FnDrillsMistaken.j1 kq l1 t383 t385 t388 t392 t400 t405 x173_34 = some r) ∧ Aside0 (kq ≤ kj11) ∧ Aside0 (Kd.R k34 34 wc w.heap.size (fun _ => True) (.slice Ao14 t385.length co14) t385) ∧ Aside0 (Kd.R (Kd.int .i64) 3 wc w.heap.size (fun _ => True) v394 t392) ∧ Aside0 (Below w.heap.size w wc))
   case first =>
    -- part 4
    (repeat revert ‹World›)
    (repeat revert ‹Value›)
    (repeat revert ‹Nat → Act → World → Prop›)
    (repeat revert ‹Act → World → Prop›)
    (repeat revert ‹Int›)
    (repeat revert ‹Nat›)
    (repeat revert ‹Bool›)
    (repeat revert ‹List (List Int)›)
    (repeat revert ‹List Int›)
    (repeat revert ‹Addr›)
    (repeat revert ‹Option Addr›)
    (repeat revert ‹ByteArray›)
    (repeat revert ‹List ByteArray›)
    (repeat revert ‹List (S34)›)
    exact hole1.down
   case rest =>
    -- part 5
    (repeat revert ‹World›)
    (repeat revert ‹Value›)
    (repeat revert ‹Nat → Act → World → Prop›)
    (repeat revert ‹Act → World → Prop›)
    (repeat revert ‹Int›)
    (repeat revert ‹Nat›)
    (repeat revert ‹Bool›)
    (repeat revert ‹List (List Int)›)
    (repeat revert ‹List Int›)
    (repeat revert ‹Addr›)
    (repeat revert ‹Option Addr›)
    (repeat revert ‹ByteArray›)
    (repeat revert ‹List ByteArray›)
    (repeat revert ‹List (S34)›)
    exact hole2.down
  ·
   replace c33 := Bool.eq_false_iff.mpr c33
   subst c33
   have H1 : (laws_FnDrillsMistaken.j3 kj11 l1) = some r := by rw [if_neg (show ¬ (false = true) by decide)] at H; exact H
   clear H
   have H := H1
   clear H1
   have H' := Aside0.mk H
   clear H
   go_wp2
   go_meet
   case rel => exact ⟨_, H', ⟨by have := HJ11.out; first | omega | exact Nat.le_refl _⟩, ⟨by repeat (first | (with_reducible first | exact HB.out | apply below_alloc | apply pw_below_drewN | apply below_drew1) | exact HB.out)⟩⟩

set_option maxHeartbeats 8000000 in
set_option maxRecDepth 100000 in
theorem laws_FnDrillsMistaken.part4 : laws_FnDrillsMistaken.part3.1 := by
 conv => whnf
 intro t385 t383 t384 t388 t390 t400 t402 t405 A0 A1 Ao14 l0 l1 A3 t392 t396 r HE_ t391 t393 t397 t401 t403 t406 k A5 A7 A8 A9 A10 A11 A6 c0 HC0 c1 HC1 nd co14 kj11 HJ11 A34 HC35 K J K' a K K J K' a v394 v398 u99 u100 u101 u102 u103 u104 u105 u106 u107 u108 u109 u110 u111 u112 u113 u114 u115 u116 u117 u118 u119 u120 u121 u122 u123 u124 u125 u126 u127 u128 u129 u130 u131 u132 u133 u134 u135 u136 w HR0 HR1 Q' a a a a a w13 w15 w16 w17 w18 w19 w20 HO387 HO395 HO399 HB wc w36 HO_7 HO_12 HB
 have H := HC35.out
 clear HC35
 by_cases c37 : t406 = true
 ·
  subst c37
  have H1 : (if (t388.size : Int) = (t383.size : Int) then (if (t400.size : Int) = (t383.size : Int) then ((laws_vRises.f kj11 t392).bind fun t407 => (if t407 = true then ((impl_AreMistakes.f kj11 (t383.size : Int) t384 t385).bind fun t408 => (laws_FnDrillsMistaken.j1 kj11 l1 t383 t385 t388 t392 t400 t405 (!t408))) else (laws_FnDrillsMistaken.j1 kj11 l1 t383 t385 t388 t392 t400 t405 true))) else (laws_FnDrillsMistaken.j1 kj11 l1 t383 t385 t388 t392 t400 t405 true)) else (laws_FnDrillsMistaken.j1 kj11 l1 t383 t385 t388 t392 t400 t405 true)) = some r := by rw [if_pos rfl] at H; exact H
  clear H
  have H := H1
  clear H1
  by_cases c38 : (t388.size : Int) = (t383.size : Int)
  ·
   rw [if_pos c38] at H
   have c38b0 : ((t388.size : Int) == (t383.size : Int)) = true := beq_iff_eq.mpr c38
   have c38b1 : ((t388.size : Int) != (t383.size : Int)) = false := bne_eq_false_iff_eq.mpr c38
   have c38b2 : (t388.size == t383.size) = true := by first | simpa using c38 | (simp at c38 ⊢; omega)
   clear c38
   (first | rw [c38b0] | (simp only [i64_w, i32_w]; rw [c38b0]) | skip)
   by_cases c39 : (t400.size : Int) = (t383.size : Int)
   ·
    rw [if_pos c39] at H
    have c39b0 : ((t400.size : Int) == (t383.size : Int)) = true := beq_iff_eq.mpr c39
    have c39b1 : ((t400.size : Int) != (t383.size : Int)) = false := bne_eq_false_iff_eq.mpr c39
    have c39b2 : (t400.size == t383.size) = true := by first | simpa using c39 | (simp at c39 ⊢; omega)
    clear c39
    replace H := Option.bind_eq_some_iff.mp H
    obtain ⟨t407, A400, H⟩ := H
    replace H : (if t407 = true then ((impl_AreMistakes.f kj11 (t383.size : Int) t384 t385).bind fun t408 => (laws_FnDrillsMistaken.j1 kj11 l1 t383 t385 t388 t392 t400 t405 (!t408))) else (laws_FnDrillsMistaken.j1 kj11 l1 t383 t385 t388 t392 t400 t405 true)) = some r := H
    have A40 := Aside0.mk A400
    clear A400
    by_cases c41 : t407 = true
    ·
     subst c41
     have H1 : ((impl_AreMistakes.f kj11 (t383.size : Int) t384 t385).bind fun t408 => (laws_FnDrillsMistaken.j1 kj11 l1 t383 t385 t388 t392 t400 t405 (!t408))) = some r := by rw [if_pos rfl] at H; exact H
     clear H
     have H := H1
     clear H1
     replace H := Option.bind_eq_some_iff.mp H
     obtain ⟨t408, A420, H⟩ := H
     replace H : (laws_FnDrillsMistaken.j1 kj11 l1 t383 t385 t388 t392 t400 t405 (!t408)) = some r := H
     have A42 := Aside0.mk A420
     clear A420
     have H' := Aside0.mk H
     clear H
     obtain ⟨Ao43, co43, eo43⟩ := Kd.R_slice HO_12.out
     subst eo43
     go_wp2_with (first | (go_at_call 13; (with_reducible refine (laws_vRises.calls kj11 _ _ t392 true _ ?side1 ?side2 A40.out).mono ?_); (case side1 => repeat (first | exact (Kd.R_reads' HO_12.out).2.2 | (with_reducible refine Kd.C_alloc ?_ _) | (with_reducible refine Kd.C_drewN ?_ _) | (with_reducible refine Kd.C_drew ?_))); (case side2 => exact (Kd.R_reads' HO_12.out).2.1); rintro e w' ⟨rfl, ⟨nd, rfl⟩⟩) | (go_at_call 14; (with_reducible refine (impl_AreMistakes.calls kj11 (t383.size : Int) t384 _ _ t385 t408 _ ?side1 ?side2 A42.out).mono ?_); (case side1 => repeat (first | exact (Kd.R_reads' HO_7.out).2.2 | (with_reducible refine Kd.C_alloc ?_ _) | (with_reducible refine Kd.C_drewN ?_ _) | (with_reducible refine Kd.C_drew ?_))); (case side2 => exact (Kd.R_reads' HO_7.out).2.1); rintro e w44 ⟨rfl, hb⟩; have n0_ := Aside0.mk (Kd.R_below (by (with_reducible repeat (first | apply Kd.R_alloc | apply Kd.R_drewN | apply Kd.R_drew)); exact HO_7.out) hb); have n1_ := Aside0.mk (Kd.R_below (by (with_reducible repeat (first | apply Kd.R_alloc | apply Kd.R_drewN | apply Kd.R_drew)); exact HO_12.out) hb); have n2_ := Aside0.mk (below_step (by repeat (first | (with_reducible first | exact HB.out | apply below_alloc | apply pw_below_drewN | apply below_drew1) | exact HB.out)) hb); clear HO_7; clear HO_12; clear HB; have HO_7 := n0_; have HO_12 := n1_; have HB := n2_; clear n0_ n1_ n2_; (try clear hb); (try clear hb2); (try clear hk); (try clear hi)))
     go_meet
     case rel => exact ⟨_, (!t408), (by first | rfl | (simp; done) | (simp [*]; done)), H', ⟨by have := HJ11.out; first | omega | exact Nat.le_refl _⟩, ⟨by (with_reducible repeat (first | apply Kd.R_alloc | apply Kd.R_drewN | apply Kd.R_drew)); exact HO_7.out⟩, ⟨by (with_reducible repeat (first | apply Kd.R_alloc | apply Kd.R_drewN | apply Kd.R_drew)); exact HO_12.out⟩, ⟨by repeat (first | (with_reducible first | exact HB.out | apply below_alloc | apply pw_below_drewN | apply below_drew1) | exact HB.out)⟩⟩
    ·
     replace c41 := Bool.eq_false_iff.mpr c41
     subst c41
     have H1 : (laws_FnDrillsMistaken.j1 kj11 l1 t383 t385 t388 t392 t400 t405 true) = some r := by rw [if_neg (show ¬ (false = true) by decide)] at H; exact H
     clear H
     have H := H1
     clear H1
     exact (laws_FnDrillsMistaken.j1_no _ _ _ _ _ _ _ _ (H.trans (congrArg some HE_.out))).elim
   ·
    rw [if_neg c39] at H
    exact (laws_FnDrillsMistaken.j1_no _ _ _ _ _ _ _ _ (H.trans (congrArg some HE_.out))).elim
  ·
   rw [if_neg c38] at H
   exact (laws_FnDrillsMistaken.j1_no _ _ _ _ _ _ _ _ (H.trans (congrArg some HE_.out))).elim
 ·
  replace c37 := Bool.eq_false_iff.mpr c37
  subst c37
  have H1 : (laws_FnDrillsMistaken.j1 kj11 l1 t383 t385 t388 t392 t400 t405 true) = some r := by rw [if_neg (show ¬ (false = true) by decide)] at H; exact H
  clear H
  have H := H1
  clear H1
  exact (laws_FnDrillsMistaken.j1_no _ _ _ _ _ _ _ _ (H.trans (congrArg some HE_.out))).elim

set_option maxHeartbeats 8000000 in
set_option maxRecDepth 100000 in
theorem laws_FnDrillsMistaken.part5 : laws_FnDrillsMistaken.part3.2.1 := by
 conv => whnf
 intro t385 t383 t384 t388 t390 t400 t402 t405 A0 A1 Ao14 l0 l1 A3 t392 t396 r HE_ t391 t393 t397 t401 t403 t406 k A5 A7 A8 A9 A10 A11 A6 c0 HC0 c1 HC1 nd co14 kj11 HJ11 A34 HC35 K J K' a K K v394 v398 u99 u100 u101 u102 u103 u104 u105 u106 u107 u108 u109 u110 u111 u112 u113 u114 u115 u116 u117 u118 u119 u120 u121 u122 u123 u124 u125 u126 u127 u128 u129 u130 u131 u132 u133 u134 u135 u136 u137 u138 u139 u140 u141 u142 u143 u144 u145 u146 u147 u148 u149 u150 u151 u152 u153 u154 u155 u156 u157 u158 u159 u160 u161 u162 u163 u164 u165 u166 u167 u168 u169 u170 u171 u172 u173 w HR0 HR1 Q' a a a a w13 w15 w16 w17 w18 w19 w20 HO387 HO395 HO399 HB wc w36 HO_7 HO_12 HB wc hcut
 clear HC35
 try clear c1
 try clear c4
 try clear c31
 try clear c33
 obtain ⟨kq, x173_34, rfl, HA, HJ34, HO_7, HO_12, HB⟩ := hcut
 cases kq with
 | zero => exact absurd HA.out (by simp [laws_FnDrillsMistaken.j1])
 | succ kj34 =>
  have H := HA.out
  clear HA
  simp only [laws_FnDrillsMistaken.j1] at H
  by_cases c45 : x173_34 = true
  ·
   subst c45
   have H1 : (some false) = some r := by rw [if_pos rfl] at H; exact H
   clear H
   have H := H1
   clear H1
   exact absurd (H.trans (congrArg some HE_.out)) (by simp)
  ·
   replace c45 := Bool.eq_false_iff.mpr c45
   subst c45
   have H1 : ((laws_doneLoop.f kj34 t383 t388 t400 t405 t392).bind fun t409 => (if t409 = true then (laws_FnDrillsMistaken.l0 kj34 l1 t392 0 t385 (t385.length : Int) 0) else (some false))) = some r := by rw [if_neg (show ¬ (false = true) by decide)] at H; exact H
   clear H
   have H := H1
   clear H1
   replace H := Option.bind_eq_some_iff.mp H
   obtain ⟨t409, A460, H⟩ := H
   replace H : (if t409 = true then (laws_FnDrillsMistaken.l0 kj34 l1 t392 0 t385 (t385.length : Int) 0) else (some false)) = some r := H
   have A46 := Aside0.mk A460
   clear A460
   by_cases c47 : t409 = true
   ·
    subst c47
    have H1 : (laws_FnDrillsMistaken.l0 kj34 l1 t392 0 t385 (t385.length : Int) 0) = some r := by rw [if_pos rfl] at H; exact H
    clear H
    have H := H1
    clear H1
    have H' := Aside0.mk H
    clear H
    obtain ⟨Ao48, co48, eo48⟩ := Kd.R_slice HO_12.out
    subst eo48
    go_wp2
    have hl1 : t383.size ≤ 1000000000 ∧ laws_doneLoop.l0 kj34 t383 t388 t400 t405 t392 0 = some true := by
     have h := A46.out
     unfold laws_doneLoop.f at h
     split at h
     · rename_i c; exact ⟨c, h⟩
     · cases h
    have HZ := Aside0.mk hl1.1
    have HL := Aside0.mk hl1.2
    clear hl1 A46
    go_loopg [] kj34 (fun kq wr => ∃ i : Nat, Aside0 (laws_doneLoop.l0 kq t383 t388 t400 t405 t392 i = some true) ∧ Aside0 (kq ≤ kj34) ∧ Aside0 (Below w.heap.size w wr) ∧ Aside0 (Below wc.heap.size wc wr) ∧ Aside0 (wr.heap[wc.heap.size]? = some (.stringIter t383 i)))
    case atStart => exact ⟨0, HL, ⟨Nat.le_refl _⟩, ⟨below_alloc HB.out _⟩, ⟨below_alloc (Below.refl _ _) _⟩, ⟨World.iter_heap _ _ 0⟩⟩
    case round =>
     have HW : Aside0 (w.heap.size ≤ wc.heap.size) := ⟨HB.out.size⟩
     clear HL HB
     obtain ⟨i, HA, HK, HB, HC, HI⟩ := hrel
     cases gk with
     | zero => exact absurd HA.out (by simp [laws_doneLoop.l0])
     | succ kl =>
      have h := HA.out
      clear HA
      rw [laws_doneLoop.l0] at h
      by_cases c : i < t383.size
      ·
       rw [if_pos c] at h
       by_cases c2 : bt t383 (i : Int) < 128 ∧ i < t388.size ∧ i < t400.size ∧ i < t405.size
       ·
        rw [if_pos c2] at h
        replace h := Option.bind_eq_some_iff.mp h
        obtain ⟨⟨y1, y2⟩, hy, h⟩ := h
        replace h := Option.bind_eq_some_iff.mp h
        obtain ⟨y3, hv, h⟩ := h
        by_cases c3 : y2 = true ∧ y1 = t405.extract i (i + 1) ∧ y3 = (bt t388 (i : Int) != bt t405 (i : Int)) ∧ y3 = !(bt t400 (i : Int) == 83)
        ·
         obtain ⟨e1, e2, e3, e4⟩ := c3
         have H2 : Aside0 (laws_doneLoop.l0 kl t383 t388 t400 t405 t392 (i + 1) = some true) := ⟨by
          have h2 := h
          rw [if_pos ⟨e1, e2, e3, e4⟩] at h2
          exact h2⟩
         clear h
         subst e1
         subst e2
         obtain ⟨c2, ca, cc, cp⟩ := c2
         have hz := HZ.out
         have ha : (t383[i]'c).toNat < 128 := by
          have e := bt_at t383 (i : Int) (by simpa using c)
          simp only [Int.toNat_natCast] at e
          rw [← e] at c2
          omega
         obtain ⟨x, hx⟩ : ∃ x : Int, x = (i : Int) := ⟨_, rfl⟩
         obtain ⟨rn, hnx⟩ : ∃ rn : Int, ∀ ty, (Instr.next (.pointer (some ⟨wc.heap.size, 0, none⟩)) true ty).run Tryd.prog wr = .ok (.tuple #[.bool true, .int .i64 x, .int .i32 rn]) (wr.iterAt wc.heap.size t383 (i + 1)) := ⟨_, fun ty => by rw [hx]; exact Lib.run_next_ascii_at wr wc.heap.size t383 i ty HI.out c ha⟩
         have hw1 : wrap64 (x + 1) = x + 1 := by rw [hx]; unfold wrap64; omega
         have hxn : x.toNat = i := by rw [hx, Int.toNat_natCast]
         have hxn1 : (wrap64 (x + 1)).toNat = i + 1 := by rw [hw1, hx]; omega
         rw [← hx] at hv e3 e4
         have hy2 : impl_FacingAfter.f kl (t388.extract x.toNat (wrap64 (x + 1)).toNat) (t400.extract x.toNat (wrap64 (x + 1)).toNat) = some (t405.extract x.toNat (wrap64 (x + 1)).toNat, true) := by rw [hxn, hxn1]; exact hy
         have HY := Aside0.mk hy2
         have HV := Aside0.mk hv
         have HI2 := Aside0.mk (Lib.iterAt_heap wr wc.heap.size t383 i (i + 1) HI.out)
         have HB2 := Aside0.mk (Lib.below_iterAt HB.out (k := wc.heap.size) HW.out t383 (i + 1))
         have HC2 := Aside0.mk (Lib.below_iterAt HC.out (k := wc.heap.size) (Nat.le_refl _) t383 (i + 1))
         obtain ⟨W, hWd⟩ : ∃ W, wr.iterAt wc.heap.size t383 (i + 1) = W := ⟨_, rfl⟩
         rw [hWd] at hnx HI2 HB2 HC2
         have s1 : decide ((0 : Int) ≤ x) = true := decide_eq_true (by rw [hx]; omega)
         have s2 : decide (x ≤ wrap64 (x + 1)) = true := decide_eq_true (by rw [hw1]; omega)
         have sa : decide (wrap64 (x + 1) ≤ (t388.size : Int)) = true := decide_eq_true (by rw [hw1, hx]; omega)
         have sc : decide (wrap64 (x + 1) ≤ (t400.size : Int)) = true := decide_eq_true (by rw [hw1, hx]; omega)
         have sp : decide (wrap64 (x + 1) ≤ (t405.size : Int)) = true := decide_eq_true (by rw [hw1, hx]; omega)
         have ja : decide (x < (t388.size : Int)) = true := decide_eq_true (by rw [hx]; omega)
         have jc : decide (x < (t400.size : Int)) = true := decide_eq_true (by rw [hx]; omega)
         have jp : decide (x < (t405.size : Int)) = true := decide_eq_true (by rw [hx]; omega)
         have u1 := eq_true (of_decide_eq_true s1)
         have u2 := eq_true (of_decide_eq_true s2)
         have ua := eq_true (of_decide_eq_true sa)
         have uc := eq_true (of_decide_eq_true sc)
         have up := eq_true (of_decide_eq_true sp)
         have va := eq_true (of_decide_eq_true ja)
         have vc := eq_true (of_decide_eq_true jc)
         have vp := eq_true (of_decide_eq_true jp)
         have hwx : IntKind.i64.wrap (x + 1) = wrap64 (x + 1) := i64_w _
         have ba := bt_at t388 x
         have bc := bt_at t400 x
         have bp := bt_at t405 x
         have HE3 := Aside0.mk (And.intro e3 e4)
         clear hy hy2 hv HI HB HC hWd hw1 hz ha c2 c ca cc cp hxn hxn1 e3 e4 hx
         go_wp2
         have n0_ := Aside0.mk (below_drew HB2.out)
         have n1_ : Aside0 (W.drew.heap[wc.heap.size]? = some (.stringIter t383 (i + 1))) := ⟨HI2.out⟩
         have n2_ := Aside0.mk (below_drew HC2.out)
         clear HB2 HI2 HC2
         have HB2 := n0_
         have HI2 := n1_
         have HC2 := n2_
         clear n0_ n1_ n2_
         go_region_with (go_at_call 12; (with_reducible refine (impl_FacingAfter.calls kl (t388.extract x.toNat (wrap64 (x + 1)).toNat) (t400.extract x.toNat (wrap64 (x + 1)).toNat) (t405.extract x.toNat (wrap64 (x + 1)).toNat) true _ HY.out).mono ?_); rintro e w1 ⟨rfl, hb⟩; have n0_ := Aside0.mk (below_step HB2.out hb); have n1_ := Aside0.mk ((hb.block _ (Array.getElem?_eq_some_iff.1 HI2.out).1).trans HI2.out); have n2_ := Aside0.mk (below_then HC2.out HC2.out.size hb); have HO_ := Aside0.mk (Kd.R_below HO_12.out n2_.out); clear HB2 HI2 HC2 hb; have HB2 := n0_; have HI2 := n1_; have HC2 := n2_; clear n0_ n1_ n2_)
         go_wp2_with (go_at_call 15; (with_reducible refine (laws_vHas.calls kl _ _ t392 x y3 _ ?side1 ?side2 HV.out).mono ?_); (case side1 => repeat (first | exact (Kd.R_reads' HO_.out).2.2 | (with_reducible refine Kd.C_alloc ?_ _) | (with_reducible refine Kd.C_drewN ?_ _) | (with_reducible refine Kd.C_drew ?_))); (case side2 => exact (Kd.R_reads' HO_.out).2.1); rintro e w' ⟨rfl, ⟨nd, rfl⟩⟩)
         by_cases q : bt t388 x = bt t405 x
         ·
          have q1 : (bt t388 x == bt t405 x) = true := by simpa using q
          have q2 : (bt t388 x != bt t405 x) = false := by simpa using q
          have q3 : decide (bt t388 x = bt t405 x) = true := by simpa using q
          obtain ⟨e3, e4⟩ := HE3.out
          rw [q2] at e3
          have r1 : (bt t400 x == 83) = true := by rw [e3] at e4; simpa using e4.symm
          have r2 : (bt t400 x != 83) = false := by simpa using r1
          have r3 : decide (bt t400 x = 83) = true := by simpa using r1
          clear HE3 e4 q
          subst e3
          go_quiet (fail)
          go_wp2
          go_roundg kl
          case measure => omega
          case rel => exact ⟨i + 1, H2, ⟨by have := HK.out; omega⟩, ⟨by repeat (first | (with_reducible first | exact HB2.out | apply below_alloc | apply pw_below_drewN | apply below_drew1) | exact HB2.out)⟩, ⟨by repeat (first | (with_reducible first | exact HC2.out | apply below_alloc | apply pw_below_drewN | apply below_drew1) | exact HC2.out)⟩, ⟨HI2.out⟩⟩
         ·
          have q1 : (bt t388 x == bt t405 x) = false := by simpa using q
          have q2 : (bt t388 x != bt t405 x) = true := by simpa using q
          have q3 : decide (bt t388 x = bt t405 x) = false := by simpa using q
          obtain ⟨e3, e4⟩ := HE3.out
          rw [q2] at e3
          have r1 : (bt t400 x == 83) = false := by rw [e3] at e4; simpa using e4.symm
          have r2 : (bt t400 x != 83) = true := by simpa using r1
          have r3 : decide (bt t400 x = 83) = false := by simpa using r1
          clear HE3 e4 q
          subst e3
          go_quiet (fail)
          go_wp2
          go_roundg kl
          case measure => omega
          case rel => exact ⟨i + 1, H2, ⟨by have := HK.out; omega⟩, ⟨by repeat (first | (with_reducible first | exact HB2.out | apply below_alloc | apply pw_below_drewN | apply below_drew1) | exact HB2.out)⟩, ⟨by repeat (first | (with_reducible first | exact HC2.out | apply below_alloc | apply pw_below_drewN | apply below_drew1) | exact HC2.out)⟩, ⟨HI2.out⟩⟩
        · exact absurd h (by rw [if_neg c3]; simp)
       · rw [if_neg c2] at h; cases h
      ·
       have hnx : ∀ ty, (Instr.next (.pointer (some ⟨wc.heap.size, 0, none⟩)) true ty).run Tryd.prog wr = _ := fun ty => Lib.run_next_end_at wr wc.heap.size t383 i ty HI.out c
       have n0_ := Aside0.mk (Kd.R_below HO_12.out HC.out)
       clear HO_12
       have HO_12 := n0_
       clear n0_
       have n0_ := Aside0.mk (Kd.R_below HO_7.out HC.out)
       clear HO_7
       have HO_7 := n0_
       clear n0_
       clear h c HI HC
       go_wp2
       go_loopg [26, 228] kj34 (fun kq v26 v228 w' => ∃ (x26_3 : Int) (x228_3 : Int), v26 = .int .i64 x26_3 ∧ v228 = .int .i64 x228_3 ∧ Aside0 (laws_FnDrillsMistaken.l0 kq l1 t392 x26_3 t385 (t385.length : Int) x228_3 = some r) ∧ Aside0 (kq ≤ kj34) ∧ Aside0 (Kd.R (Kd.int .i64) 3 w' w.heap.size (fun _ => True) (.slice Ao48 t392.length co48) t392) ∧ Aside0 (Kd.R k34 34 w' w.heap.size (fun _ => True) (.slice Ao14 t385.length co14) t385) ∧ Aside0 (Below w.heap.size w w'))
       case atStart => exact ⟨(0), (0), (by first | rfl | (simp; done) | (simp [*]; done)), (by first | rfl | (simp; done) | (simp [*]; done)), H', ⟨Nat.le_refl _⟩, ⟨by (with_reducible repeat (first | apply Kd.R_alloc | apply Kd.R_drewN | apply Kd.R_drew)); exact HO_12.out⟩, ⟨by (with_reducible repeat (first | apply Kd.R_alloc | apply Kd.R_drewN | apply Kd.R_drew)); exact HO_7.out⟩, ⟨by repeat (first | (with_reducible first | exact HB.out | apply below_alloc | apply pw_below_drewN | apply below_drew1) | exact HB.out)⟩⟩
       case round =>
        clear H'
        try clear c1
        try clear c4
        try clear c31
        try clear c33
        try clear c45
        try clear c47
        obtain ⟨x26_3, x228_3, rfl, rfl, HA, HK3, HO_12, HO_226, HB⟩ := hrel
        cases gk with
        | zero => exact absurd HA.out (by simp [laws_FnDrillsMistaken.l0])
        | succ k3 =>
         have H := HA.out
         clear HA
         simp only [laws_FnDrillsMistaken.l0] at H
         by_cases c50 : x228_3 < (t385.length : Int)
         ·
          rw [if_pos c50] at H
          have c50b0 : decide (x228_3 < (t385.length : Int)) = true := decide_eq_true c50
          clear c50
          by_cases c51 : 0 ≤ x228_3
          ·
           rw [if_pos c51] at H
           have c51b0 : decide (0 ≤ x228_3) = true := decide_eq_true c51
           clear c51
           by_cases c52 : x228_3 < (t385.length : Int)
           ·
            rw [if_pos c52] at H
            have c52b0 : decide (x228_3 < (t385.length : Int)) = true := decide_eq_true c52
            clear c52
            by_cases c53 : ((rd_T34 t385 x228_3).f0) = 0
            ·
             rw [if_pos c53] at H
             have c53b0 : (((rd_T34 t385 x228_3).f0) == 0) = true := beq_iff_eq.mpr c53
             have c53b1 : (((rd_T34 t385 x228_3).f0) != 0) = false := bne_eq_false_iff_eq.mpr c53
             clear c53
             have H' := Aside0.mk H
             clear H
             have p410 : 0 ≤ (x228_3 : Int) := of_decide_eq_true (by first | (with_reducible assumption) | assumption)
             have q410 : x228_3 < (t385.length : Int) := of_decide_eq_true (by first | (with_reducible assumption) | assumption)
             obtain ⟨ad410, e410, hx410_0, hx410_1, hx410_2⟩ := at_T34 (Kd.R_reads' HO_226.out).2.2 x228_3 p410 q410
             cases e410
             replace p410 := eq_true p410
             replace q410 := eq_true q410
             go_wp2_with (first | ((with_reducible refine gate_dst (N := 28) rfl ?_); (try (refine gate_guard (by rfl) ?_; dsimp only)); refine box_event ?hg (N := 28) ?hd (cs := #[.int .i64 0, .int .i64 0, .string (⟨#[]⟩ : ByteArray)]) (t := 34) ?hr ?_; (case hd => rfl); (case hg => rfl); (case hr => first | (go_simp; done) | (go_simp; rfl)); intro gb411 hg w54 hbox hb; have n0_ := Aside0.mk (Kd.R_below (by (with_reducible repeat (first | apply Kd.R_alloc | apply Kd.R_drewN | apply Kd.R_drew)); exact HO_12.out) hb); have n1_ := Aside0.mk (Kd.R_below (Kd.R_elderB (by (with_reducible repeat (first | apply Kd.R_alloc | apply Kd.R_drewN | apply Kd.R_drew)); exact HO_226.out) gb411 (Nat.le_of_eq hg.symm)) hb); have n2_ := Aside0.mk (below_step (by repeat (first | (with_reducible first | exact HB.out | apply below_alloc | apply pw_below_drewN | apply below_drew1) | exact HB.out)) hb); have n3_ := Aside0.mk (hbox); have n4_ := Aside0.mk ((by rw [hg]; exact (below_size (by repeat (first | (with_reducible first | exact HB.out | apply below_alloc | apply pw_below_drewN | apply below_drew1) | exact HB.out))) : w.heap.size ≤ gb411)); have n5_ := Aside0.mk ((by rw [hg]; exact (below_size (by repeat (first | (with_reducible first | exact HB.out | apply below_alloc | apply pw_below_drewN | apply below_drew1) | exact HB.out))) : w.heap.size ≤ gb411)); clear HO_12; clear HO_226; clear HB; have HO_12 := n0_; have HO_226 := n1_; have HB := n2_; have BK411 := n3_; have GW411 := n4_; have GE411 := n5_; clear n0_ n1_ n2_ n3_ n4_ n5_; clear hb hbox hg; have hcz55_0 : w54.cell? ⟨gb411, 0, none⟩ = some (.int .i64 0) := (blk_cell BK411.out 0).trans rfl; have hcz55_1 : w54.cell? ⟨gb411, 1, none⟩ = some (.int .i64 0) := (blk_cell BK411.out 1).trans rfl; have hcz55_2 : w54.cell? ⟨gb411, 2, none⟩ = some (.string (⟨#[]⟩ : ByteArray)) := (blk_cell BK411.out 2).trans rfl; have hfz55_0 := blk_frozen BK411.out 0; have hfz55_1 := blk_frozen BK411.out 1; have hfz55_2 := blk_frozen BK411.out 2))
             go_roundg k3
             case measure => have := HJ11.out; have := HJ34.out; have := HK3.out; omega
             case rel => exact ⟨(wrap64 (x26_3 + 1)), (wrap64 (x228_3 + 1)), (by first | rfl | (simp; done) | (simp [*]; done)), (by first | rfl | (simp; done) | (simp [*]; done)), H', ⟨by have := HJ11.out; have := HJ34.out; have := HK3.out; omega⟩, ⟨by (with_reducible repeat (first | apply Kd.R_alloc | apply Kd.R_drewN | apply Kd.R_drew)); exact Kd.R_mono (Kd.R_far (p := ⟨gb411, 2, none⟩) (Kd.R_far (p := ⟨gb411, 1, none⟩) (Kd.R_far (p := ⟨gb411, 0, none⟩) (Kd.R_types HO_12.out BK411.out (by decide)) (fun _ hk => hk.2) (.int .i64 ((rd_T34 t385 x228_3).f0))) (fun _ hk => hk.2) (.int .i64 ((rd_T34 t385 x228_3).f1))) (fun _ hk => hk.2) (.string ((rd_T34 t385 x228_3).f2))) (fun _ hk => trivial)⟩, ⟨by (with_reducible repeat (first | apply Kd.R_alloc | apply Kd.R_drewN | apply Kd.R_drew)); exact Kd.R_mono (Kd.R_far (p := ⟨gb411, 2, none⟩) (Kd.R_far (p := ⟨gb411, 1, none⟩) (Kd.R_far (p := ⟨gb411, 0, none⟩) (Kd.R_mono HO_226.out (fun k_ hk => (⟨hk, hk.2⟩ : _ ∧ k_ ≠ gb411))) (fun _ hk => hk.2) (.int .i64 ((rd_T34 t385 x228_3).f0))) (fun _ hk => hk.2) (.int .i64 ((rd_T34 t385 x228_3).f1))) (fun _ hk => hk.2) (.string ((rd_T34 t385 x228_3).f2))) (fun _ hk => trivial)⟩, ⟨by repeat (first | (with_reducible first | exact HB.out | apply below_alloc | apply pw_below_drewN | apply below_drew1 | refine below_set ?_ GE411.out) | exact HB.out)⟩⟩
            ·
             rw [if_neg c53] at H
             have c53b0 : (((rd_T34 t385 x228_3).f0) == 0) = false := beq_eq_false_iff_ne.mpr c53
             have c53b1 : (((rd_T34 t385 x228_3).f0) != 0) = true := bne_iff_ne.mpr c53
             have H' := Aside0.mk H
             clear H
             have p410 : 0 ≤ (x228_3 : Int) := of_decide_eq_true (by first | (with_reducible assumption) | assumption)
             have q410 : x228_3 < (t385.length : Int) := of_decide_eq_true (by first | (with_reducible assumption) | assumption)
             obtain ⟨ad410, e410, hx410_0, hx410_1, hx410_2⟩ := at_T34 (Kd.R_reads' HO_226.out).2.2 x228_3 p410 q410
             cases e410
             replace p410 := eq_true p410
             replace q410 := eq_true q410
             go_wp2_with (first | ((with_reducible refine gate_dst (N := 28) rfl ?_); (try (refine gate_guard (by rfl) ?_; dsimp only)); refine box_event ?hg (N := 28) ?hd (cs := #[.int .i64 0, .int .i64 0, .string (⟨#[]⟩ : ByteArray)]) (t := 34) ?hr ?_; (case hd => rfl); (case hg => rfl); (case hr => first | (go_simp; done) | (go_simp; rfl)); intro gb411 hg w56 hbox hb; have n0_ := Aside0.mk (Kd.R_below (by (with_reducible repeat (first | apply Kd.R_alloc | apply Kd.R_drewN | apply Kd.R_drew)); exact HO_12.out) hb); have n1_ := Aside0.mk (Kd.R_below (Kd.R_elderB (by (with_reducible repeat (first | apply Kd.R_alloc | apply Kd.R_drewN | apply Kd.R_drew)); exact HO_226.out) gb411 (Nat.le_of_eq hg.symm)) hb); have n2_ := Aside0.mk (below_step (by repeat (first | (with_reducible first | exact HB.out | apply below_alloc | apply pw_below_drewN | apply below_drew1) | exact HB.out)) hb); have n3_ := Aside0.mk (hbox); have n4_ := Aside0.mk ((by rw [hg]; exact (below_size (by repeat (first | (with_reducible first | exact HB.out | apply below_alloc | apply pw_below_drewN | apply below_drew1) | exact HB.out))) : w.heap.size ≤ gb411)); have n5_ := Aside0.mk ((by rw [hg]; exact (below_size (by repeat (first | (with_reducible first | exact HB.out | apply below_alloc | apply pw_below_drewN | apply below_drew1) | exact HB.out))) : w.heap.size ≤ gb411)); clear HO_12; clear HO_226; clear HB; have HO_12 := n0_; have HO_226 := n1_; have HB := n2_; have BK411 := n3_; have GW411 := n4_; have GE411 := n5_; clear n0_ n1_ n2_ n3_ n4_ n5_; clear hb hbox hg; have hcz57_0 : w56.cell? ⟨gb411, 0, none⟩ = some (.int .i64 0) := (blk_cell BK411.out 0).trans rfl; have hcz57_1 : w56.cell? ⟨gb411, 1, none⟩ = some (.int .i64 0) := (blk_cell BK411.out 1).trans rfl; have hcz57_2 : w56.cell? ⟨gb411, 2, none⟩ = some (.string (⟨#[]⟩ : ByteArray)) := (blk_cell BK411.out 2).trans rfl; have hfz57_0 := blk_frozen BK411.out 0; have hfz57_1 := blk_frozen BK411.out 1; have hfz57_2 := blk_frozen BK411.out 2))
             go_roundg k3
             case measure => have := HJ11.out; have := HJ34.out; have := HK3.out; omega
             case rel => exact ⟨(x26_3), (wrap64 (x228_3 + 1)), (by first | rfl | (simp; done) | (simp [*]; done)), (by first | rfl | (simp; done) | (simp [*]; done)), H', ⟨by have := HJ11.out; have := HJ34.out; have := HK3.out; omega⟩, ⟨by (with_reducible repeat (first | apply Kd.R_alloc | apply Kd.R_drewN | apply Kd.R_drew)); exact Kd.R_mono (Kd.R_far (p := ⟨gb411, 2, none⟩) (Kd.R_far (p := ⟨gb411, 1, none⟩) (Kd.R_far (p := ⟨gb411, 0, none⟩) (Kd.R_types HO_12.out BK411.out (by decide)) (fun _ hk => hk.2) (.int .i64 ((rd_T34 t385 x228_3).f0))) (fun _ hk => hk.2) (.int .i64 ((rd_T34 t385 x228_3).f1))) (fun _ hk => hk.2) (.string ((rd_T34 t385 x228_3).f2))) (fun _ hk => trivial)⟩, ⟨by (with_reducible repeat (first | apply Kd.R_alloc | apply Kd.R_drewN | apply Kd.R_drew)); exact Kd.R_mono (Kd.R_far (p := ⟨gb411, 2, none⟩) (Kd.R_far (p := ⟨gb411, 1, none⟩) (Kd.R_far (p := ⟨gb411, 0, none⟩) (Kd.R_mono HO_226.out (fun k_ hk => (⟨hk, hk.2⟩ : _ ∧ k_ ≠ gb411))) (fun _ hk => hk.2) (.int .i64 ((rd_T34 t385 x228_3).f0))) (fun _ hk => hk.2) (.int .i64 ((rd_T34 t385 x228_3).f1))) (fun _ hk => hk.2) (.string ((rd_T34 t385 x228_3).f2))) (fun _ hk => trivial)⟩, ⟨by repeat (first | (with_reducible first | exact HB.out | apply below_alloc | apply pw_below_drewN | apply below_drew1 | refine below_set ?_ GE411.out) | exact HB.out)⟩⟩
           ·
            rw [if_neg c52] at H
            exact absurd H (by simp)
          ·
           rw [if_neg c51] at H
           exact absurd H (by simp)
         ·
          rw [if_neg c50] at H
          have c50b0 : decide (x228_3 < (t385.length : Int)) = false := decide_eq_false c50
          clear c50
          by_cases c58 : x26_3 = 0
          ·
           rw [if_pos c58] at H
           have c58b0 : (x26_3 == 0) = true := beq_iff_eq.mpr c58
           have c58b1 : (x26_3 != 0) = false := bne_eq_false_iff_eq.mpr c58
           clear c58
           replace H := Option.bind_eq_some_iff.mp H
           obtain ⟨t412, A590, H⟩ := H
           replace H : (if t412 = true then (some false) else (if x26_3 = 1 then ((laws_vHas.f k3 t392 0).bind fun t413 => (if t413 = true then (laws_FnDrillsMistaken.j3 k3 l1) else (some false))) else (laws_FnDrillsMistaken.j3 k3 l1))) = some r := H
           have A59 := Aside0.mk A590
           clear A590
           by_cases c60 : t412 = true
           ·
            subst c60
            have H1 : (some false) = some r := by rw [if_pos rfl] at H; exact H
            clear H
            have H := H1
            clear H1
            exact absurd (H.trans (congrArg some HE_.out)) (by simp)
           ·
            replace c60 := Bool.eq_false_iff.mpr c60
            subst c60
            have H1 : (if x26_3 = 1 then ((laws_vHas.f k3 t392 0).bind fun t413 => (if t413 = true then (laws_FnDrillsMistaken.j3 k3 l1) else (some false))) else (laws_FnDrillsMistaken.j3 k3 l1)) = some r := by rw [if_neg (show ¬ (false = true) by decide)] at H; exact H
            clear H
            have H := H1
            clear H1
            by_cases c61 : x26_3 = 1
            ·
             rw [if_pos c61] at H
             have c61b0 : (x26_3 == 1) = true := beq_iff_eq.mpr c61
             have c61b1 : (x26_3 != 1) = false := bne_eq_false_iff_eq.mpr c61
             clear c61
             replace H := Option.bind_eq_some_iff.mp H
             obtain ⟨t413, A620, H⟩ := H
             replace H : (if t413 = true then (laws_FnDrillsMistaken.j3 k3 l1) else (some false)) = some r := H
             have A62 := Aside0.mk A620
             clear A620
             by_cases c63 : t413 = true
             ·
              subst c63
              have H1 : (laws_FnDrillsMistaken.j3 k3 l1) = some r := by rw [if_pos rfl] at H; exact H
              clear H
              have H := H1
              clear H1
              have H' := Aside0.mk H
              clear H
              exact absurd (A59.out.symm.trans A62.out) (by simp)
             ·
              replace c63 := Bool.eq_false_iff.mpr c63
              subst c63
              have H1 : (some false) = some r := by rw [if_neg (show ¬ (false = true) by decide)] at H; exact H
              clear H
              have H := H1
              clear H1
              exact absurd (H.trans (congrArg some HE_.out)) (by simp)
            ·
             rw [if_neg c61] at H
             have c61b0 : (x26_3 == 1) = false := beq_eq_false_iff_ne.mpr c61
             have c61b1 : (x26_3 != 1) = true := bne_iff_ne.mpr c61
             have H' := Aside0.mk H
             clear H
             go_wp2_with (first | (go_at_call 15; (with_reducible refine (laws_vHas.calls k3 _ _ t392 0 false _ ?side1 ?side2 A59.out).mono ?_); (case side1 => repeat (first | exact (Kd.R_reads' HO_12.out).2.2 | (with_reducible refine Kd.C_alloc ?_ _) | (with_reducible refine Kd.C_drewN ?_ _) | (with_reducible refine Kd.C_drew ?_))); (case side2 => exact (Kd.R_reads' HO_12.out).2.1); rintro e w' ⟨rfl, ⟨nd, rfl⟩⟩))
             go_meet
             case rel => exact ⟨_, H', ⟨by have := HJ11.out; have := HJ34.out; have := HK3.out; first | omega | exact Nat.le_refl _⟩, ⟨by repeat (first | (with_reducible first | exact HB.out | apply below_alloc | apply pw_below_drewN | apply below_drew1) | exact HB.out)⟩⟩
          ·
           rw [if_neg c58] at H
           have c58b0 : (x26_3 == 0) = false := beq_eq_false_iff_ne.mpr c58
           have c58b1 : (x26_3 != 0) = true := bne_iff_ne.mpr c58
           by_cases c64 : x26_3 = 1
           ·
            rw [if_pos c64] at H
            have c64b0 : (x26_3 == 1) = true := beq_iff_eq.mpr c64
            have c64b1 : (x26_3 != 1) = false := bne_eq_false_iff_eq.mpr c64
            clear c64
            replace H := Option.bind_eq_some_iff.mp H
            obtain ⟨t414, A650, H⟩ := H
            replace H : (if t414 = true then (laws_FnDrillsMistaken.j3 k3 l1) else (some false)) = some r := H
            have A65 := Aside0.mk A650
            clear A650
            by_cases c66 : t414 = true
            ·
             subst c66
             have H1 : (laws_FnDrillsMistaken.j3 k3 l1) = some r := by rw [if_pos rfl] at H; exact H
             clear H
             have H := H1
             clear H1
             have H' := Aside0.mk H
             clear H
             go_wp2_with (first | (go_at_call 15; (with_reducible refine (laws_vHas.calls k3 _ _ t392 0 true _ ?side1 ?side2 A65.out).mono ?_); (case side1 => repeat (first | exact (Kd.R_reads' HO_12.out).2.2 | (with_reducible refine Kd.C_alloc ?_ _) | (with_reducible refine Kd.C_drewN ?_ _) | (with_reducible refine Kd.C_drew ?_))); (case side2 => exact (Kd.R_reads' HO_12.out).2.1); rintro e w' ⟨rfl, ⟨nd, rfl⟩⟩))
             go_meet
             case rel => exact ⟨_, H', ⟨by have := HJ11.out; have := HJ34.out; have := HK3.out; first | omega | exact Nat.le_refl _⟩, ⟨by repeat (first | (with_reducible first | exact HB.out | apply below_alloc | apply pw_below_drewN | apply below_drew1) | exact HB.out)⟩⟩
            ·
             replace c66 := Bool.eq_false_iff.mpr c66
             subst c66
             have H1 : (some false) = some r := by rw [if_neg (show ¬ (false = true) by decide)] at H; exact H
             clear H
             have H := H1
             clear H1
             exact absurd (H.trans (congrArg some HE_.out)) (by simp)
           ·
            rw [if_neg c64] at H
            have c64b0 : (x26_3 == 1) = false := beq_eq_false_iff_ne.mpr c64
            have c64b1 : (x26_3 != 1) = true := bne_iff_ne.mpr c64
            have H' := Aside0.mk H
            clear H
            go_wp2
            go_meet
            case rel => exact ⟨_, H', ⟨by have := HJ11.out; have := HJ34.out; have := HK3.out; first | omega | exact Nat.le_refl _⟩, ⟨by repeat (first | (with_reducible first | exact HB.out | apply below_alloc | apply pw_below_drewN | apply below_drew1) | exact HB.out)⟩⟩
   ·
    replace c47 := Bool.eq_false_iff.mpr c47
    subst c47
    have H1 : (some false) = some r := by rw [if_neg (show ¬ (false = true) by decide)] at H; exact H
    clear H
    have H := H1
    clear H1
    exact absurd (H.trans (congrArg some HE_.out)) (by simp)
end Go.Proofs.YtgdmbhldabeelaaRDoor.PFnDrillsMistaken
