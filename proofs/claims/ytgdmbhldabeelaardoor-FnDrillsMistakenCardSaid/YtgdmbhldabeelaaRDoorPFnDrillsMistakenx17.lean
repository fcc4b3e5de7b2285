-- Written by a program of this session's (pg.py) over the kit's print.
import Derived.Test.YtgdmbhldabeelaaRDoorPFnDrillsMistakenx0
import Derived.Test.YtgdmbhldabeelaaRDoorPFnDrillsMistakenx3
import Derived.Test.YtgdmbhldabeelaaRDoorPFnDrillsMistakenx6
import Derived.Test.YtgdmbhldabeelaaRDoorPFnDrillsMistakenx7
import Derived.Test.YtgdmbhldabeelaaRDoorPFnDrillsMistakenx8
import Derived.Test.YtgdmbhldabeelaaRDoorPFnDrillsMistakenx9
import Derived.Test.YtgdmbhldabeelaaRDoorPFnDrillsMistakenx10
import Derived.Test.YtgdmbhldabeelaaRDoorPFnDrillsMistakenx13
import Derived.Test.YtgdmbhldabeelaaRDoorPFnDrillsMistakenx14
import Derived.Deep.CutRange
import Derived.Test.YtgdmbhldabeelaaRDoorPFnDrillsMistakenx15
namespace Go.Proofs.YtgdmbhldabeelaaRDoor.PFnDrillsMistaken
open Go.RowKit Go.Proofs.YtgdmbhldabeelaaRDoorW.PrintWords Go.Proofs.YtgdmbhldabeelaaRDoorW.PrintLast Go.Proofs.YtgdmbhldabeelaaRDoorW.PrintMore
attribute [local go_sem] max2_int min2_int max_two min_two max_three min_three max_four min_four   -- for this text's walks alone
set_option linter.unusedVariables false
set_option linter.unusedSimpArgs false


set_option maxHeartbeats 8000000 in
set_option maxRecDepth 100000 in
def laws_FnDrillsMistaken.part6 : Σ' (R1 R2 : Prop), PLift R1 → PLift R2 → (laws_FnDrillsMistaken.part2.2.1) := by
 refine' ⟨_, _, fun hole1 hole2 => _⟩
 rotate_left 2
 ·
  conv => whnf
  intro t385 t383 t384 t388 t390 t400 t402 A0 A1 Ao14 l0 l1 A3 t392 t396 r HE_ t389 t391 t393 t397 t401 t403 k A5 A6 A7 A8 A9 A10 A11 c0 HC0 c1 HC1 nd co14 kj11 HJ11 HC32 K v394 v398 u99 u100 u101 u102 u103 u104 u105 u106 u107 u108 u109 u110 u111 u112 u113 u114 u115 u116 u117 u118 u119 u120 u121 u122 u123 u124 u125 u126 u127 u128 u129 u130 u131 u132 u133 u134 u135 u136 u4 u20 u21 u22 u23 u24 u25 u26 u28 u137 u138 u139 u140 u141 u142 u143 u144 u145 u146 u147 u148 u149 u150 u151 u152 u153 u154 u155 u156 u157 u158 u159 u160 u161 u162 u163 u164 u165 u166 u167 u168 u169 u170 u171 u172 u173 u174 u175 u176 u177 u178 u179 u180 u181 u182 u183 u184 u185 u186 u187 u188 u189 u190 u191 u192 u193 u194 u195 u196 u197 u198 u199 u200 u201 u202 u203 u204 u205 u206 u207 u208 u209 u210 u211 u212 u213 u214 u215 u216 u217 u218 u219 u220 u221 u222 u223 u224 u225 u226 u227 u228 u229 u230 u231 u232 u233 u234 u235 u236 u237 u238 u239 u240 u241 u242 u243 u244 u245 u246 u247 u248 u249 u250 u251 u252 w HR0 HR1 Q' a w13 w15 w16 w17 w18 w19 w20 HO387 HO395 HO399 HB wc HO_7 HO_12 HB wc hcut
  clear HC32
  try clear c1
  try clear c4
  try clear c31
  obtain ⟨kq, HA, HJ31, HB⟩ := hcut
  cases kq with
  | zero => exact absurd HA.out (by simp [laws_FnDrillsMistaken.j3])
  | succ kj31 =>
   have H := HA.out
   clear HA
   simp only [laws_FnDrillsMistaken.j3] at H
   replace H := Option.bind_eq_some_iff.mp H
   obtain ⟨⟨t415, t416, t417⟩, A670, H⟩ := H
   replace H : ((impl_WaysToFace.f kj31 t415 t416 t417).bind fun bt418 => ((spec_WaysToFace.f kj31 t415 t416 t417).bind fun bt420 => ((spec_DrawAreMistakes.f kj31 l1).bind fun bt422 => (if (bt418.2 != bt420.2) = true then (laws_FnDrillsMistaken.j4 kj31 t415 t416 t417 bt418.1 bt418.2 true) else (if bt418.1 = bt420.1 then ((impl_AreMistakes.f kj31 bt422.1 bt422.2.1 bt422.2.2).bind fun t427 => ((spec_AreMistakes.f kj31 bt422.1 bt422.2.1 bt422.2.2).bind fun t428 => (laws_FnDrillsMistaken.j4 kj31 t415 t416 t417 bt418.1 bt418.2 (t427 != t428)))) else (laws_FnDrillsMistaken.j4 kj31 t415 t416 t417 bt418.1 bt418.2 true)))))) = some r := H
   have A67 := Aside0.mk A670
   clear A670
   replace H := Option.bind_eq_some_iff.mp H
   obtain ⟨⟨t418, t419⟩, A680, H⟩ := H
   replace H : ((spec_WaysToFace.f kj31 t415 t416 t417).bind fun bt420 => ((spec_DrawAreMistakes.f kj31 l1).bind fun bt422 => (if (t419 != bt420.2) = true then (laws_FnDrillsMistaken.j4 kj31 t415 t416 t417 t418 t419 true) else (if t418 = bt420.1 then ((impl_AreMistakes.f kj31 bt422.1 bt422.2.1 bt422.2.2).bind fun t427 => ((spec_AreMistakes.f kj31 bt422.1 bt422.2.1 bt422.2.2).bind fun t428 => (laws_FnDrillsMistaken.j4 kj31 t415 t416 t417 t418 t419 (t427 != t428)))) else (laws_FnDrillsMistaken.j4 kj31 t415 t416 t417 t418 t419 true))))) = some r := H
   have A68 := Aside0.mk A680
   clear A680
   replace H := Option.bind_eq_some_iff.mp H
   obtain ⟨⟨t420, t421⟩, A690, H⟩ := H
   replace H : ((spec_DrawAreMistakes.f kj31 l1).bind fun bt422 => (if (t419 != t421) = true then (laws_FnDrillsMistaken.j4 kj31 t415 t416 t417 t418 t419 true) else (if t418 = t420 then ((impl_AreMistakes.f kj31 bt422.1 bt422.2.1 bt422.2.2).bind fun t427 => ((spec_AreMistakes.f kj31 bt422.1 bt422.2.1 bt422.2.2).bind fun t428 => (laws_FnDrillsMistaken.j4 kj31 t415 t416 t417 t418 t419 (t427 != t428)))) else (laws_FnDrillsMistaken.j4 kj31 t415 t416 t417 t418 t419 true)))) = some r := H
   have A69 := Aside0.mk A690
   clear A690
   replace H := Option.bind_eq_some_iff.mp H
   obtain ⟨⟨t422, t423, t424⟩, A700, H⟩ := H
   replace H : (if (t419 != t421) = true then (laws_FnDrillsMistaken.j4 kj31 t415 t416 t417 t418 t419 true) else (if t418 = t420 then ((impl_AreMistakes.f kj31 t422 t423 t424).bind fun t427 => ((spec_AreMistakes.f kj31 t422 t423 t424).bind fun t428 => (laws_FnDrillsMistaken.j4 kj31 t415 t416 t417 t418 t419 (t427 != t428)))) else (laws_FnDrillsMistaken.j4 kj31 t415 t416 t417 t418 t419 true))) = some r := H
   have A70 := Aside0.mk A700
   clear A700
   have HC71 := Aside0.mk H
   clear H
   go_upto_region 36 with (first | ((with_reducible refine gate_callee (f := 22) rfl ?_); refine goesL_ (some 255) rfl rfl Tryd.func22 (by kernel_rfl) rfl #[.slice A1 l1.length c1] rfl (by (try simp only [List.map_toArray, List.map_cons, List.map_nil]); first | done | rfl | (simp only [List.length_drop, List.length_take]; rfl)) ?_; (with_reducible refine (spec_DrawWaysToFace.calls kj31 _ _ l1 t415 t416 t417 _ ?side1 ?side2 A67.out).mono ?_); (case side1 => repeat (first | exact (Kd.C_below HR1.out HB.out) | (with_reducible refine Kd.C_alloc ?_ _) | (with_reducible refine Kd.C_drewN ?_ _) | (with_reducible refine Kd.C_drew ?_))); (case side2 => exact HC1.out); rintro e w72 ⟨rfl, hb⟩; refine ⟨_, rfl, ?_⟩; have n0_ := Aside0.mk (below_step (by repeat (first | (with_reducible first | exact HB.out | apply below_alloc | apply pw_below_drewN | apply below_drew1) | exact HB.out)) hb); clear HB; have HB := n0_; clear n0_; (try clear hb); (try clear hb2); (try clear hk); (try clear hi)) | ((with_reducible refine gate_callee (f := 16) rfl ?_); refine goesL_ (some 263) rfl rfl Tryd.func16 (by kernel_rfl) rfl #[.string t415, .int .i64 t416, .int .i64 t417] rfl (by (try simp only [List.map_toArray, List.map_cons, List.map_nil]); first | done | rfl | (simp only [List.length_drop, List.length_take]; rfl)) ?_; (with_reducible refine (impl_WaysToFace.calls kj31 t415 t416 t417 t418 t419 _ A68.out).mono ?_); rintro e w73 ⟨rfl, hb⟩; refine ⟨_, rfl, ?_⟩; have n0_ := Aside0.mk (below_step (by repeat (first | (with_reducible first | exact HB.out | apply below_alloc | apply pw_below_drewN | apply below_drew1) | exact HB.out)) hb); clear HB; have HB := n0_; clear n0_; (try clear hb); (try clear hb2); (try clear hk); (try clear hi)) | ((with_reducible refine gate_callee (f := 17) rfl ?_); refine goesL_ (some 270) rfl rfl Tryd.func17 (by kernel_rfl) rfl #[.string t415, .int .i64 t416, .int .i64 t417] rfl (by (try simp only [List.map_toArray, List.map_cons, List.map_nil]); first | done | rfl | (simp only [List.length_drop, List.length_take]; rfl)) ?_; (with_reducible refine (spec_WaysToFace.calls kj31 t415 t416 t417 t420 t421 _ A69.out).mono ?_); rintro e w74 ⟨rfl, hb⟩; refine ⟨_, rfl, ?_⟩; have n0_ := Aside0.mk (below_step (by repeat (first | (with_reducible first | exact HB.out | apply below_alloc | apply pw_below_drewN | apply below_drew1) | exact HB.out)) hb); clear HB; have HB := n0_; clear n0_; (try clear hb); (try clear hb2); (try clear hk); (try clear hi)) | ((with_reducible refine gate_callee (f := 23) rfl ?_); refine goesL_ (some 275) rfl rfl Tryd.func23 (by kernel_rfl) rfl #[.slice A1 l1.length c1] rfl (by (try simp only [List.map_toArray, List.map_cons, List.map_nil]); first | done | rfl | (simp only [List.length_drop, List.length_take]; rfl)) ?_; (with_reducible refine (spec_DrawAreMistakes.calls kj31 _ _ l1 t422 t423 t424 _ ?side1 ?side2 A70.out).mono ?_); (case side1 => repeat (first | exact (Kd.C_below HR1.out HB.out) | (with_reducible refine Kd.C_alloc ?_ _) | (with_reducible refine Kd.C_drewN ?_ _) | (with_reducible refine Kd.C_drew ?_))); (case side2 => exact HC1.out); rintro e w75 ⟨v425, rfl, ho0, hb⟩; refine ⟨_, rfl, ?_⟩; have n0_ := Aside0.mk (Kd.R_lower ho0 (below_size (by repeat (first | (with_reducible first | exact HB.out | apply below_alloc | apply pw_below_drewN | apply below_drew1) | exact HB.out)))); have n1_ := Aside0.mk (below_step (by repeat (first | (with_reducible first | exact HB.out | apply below_alloc | apply pw_below_drewN | apply below_drew1) | exact HB.out)) hb); clear HB; have HO426 := n0_; have HB := n1_; clear n0_ n1_; (try clear hb); (try clear hb2); (try clear hk); (try clear hi); (try clear ho0)))
   (try simp only [Act.put, List.setIfInBounds_toArray, List.set_cons_zero, List.set_cons_succ])
   go_cut [297] from 173 to 297 (fun v297 wc => ∃ (kq : Nat) (x297_70 : Bool), v297 = .bool x297_70 ∧ Aside0 (laws_FnDrillsMistaken.j4 kq t415 t416 t417 t418 t419 x297_70 = some r) ∧ Aside0 (kq ≤ kj31) ∧ Aside0 (Below w.heap.size w wc))
   case first =>
    -- part 7
    (repeat revert ‹World›)
    (repeat revert ‹Value›)
    (repeat revert ‹Nat → Act → World → Prop›)
    (repeat revert ‹Act → World → Prop›)
    (repeat revert ‹Int›)
    (repeat revert ‹Nat›)
    (repeat revert ‹Bool›)
    (repeat revert ‹List (List Int)›)
    (repeat revert ‹List Int›)
    (repeat revert ‹Addr›)
    (repeat revert ‹Option Addr›)
    (repeat revert ‹ByteArray›)
    (repeat revert ‹List ByteArray›)
    (repeat revert ‹List (S34)›)
    exact hole1.down
   case rest =>
    -- part 8
    (repeat revert ‹World›)
    (repeat revert ‹Value›)
    (repeat revert ‹Nat → Act → World → Prop›)
    (repeat revert ‹Act → World → Prop›)
    (repeat revert ‹Int›)
    (repeat revert ‹Nat›)
    (repeat revert ‹Bool›)
    (repeat revert ‹List (List Int)›)
    (repeat revert ‹List Int›)
    (repeat revert ‹Addr›)
    (repeat revert ‹Option Addr›)
    (repeat revert ‹ByteArray›)
    (repeat revert ‹List ByteArray›)
    (repeat revert ‹List (S34)›)
    exact hole2.down

set_option maxHeartbeats 8000000 in
set_option maxRecDepth 100000 in
theorem laws_FnDrillsMistaken.part7 : laws_FnDrillsMistaken.part6.1 := by
 conv => whnf
 intro t385 t424 t383 t384 t388 t390 t400 t402 t415 t423 A0 A1 Ao14 l0 l1 A3 t392 t396 r HE_ t389 t391 t393 t397 t401 t403 t419 t421 k A5 A6 A7 A8 A9 A10 A11 c0 HC0 c1 HC1 nd co14 kj11 HJ11 kj31 HJ31 t416 t417 A67 t418 A68 t420 A69 t422 A70 HC71 K K J K' a v394 v398 u99 u100 u101 u102 u103 u104 u105 u106 u107 u108 u109 u110 u111 u112 u113 u114 u115 u116 u117 u118 u119 u120 u121 u122 u123 u124 u125 u126 u127 u128 u129 u130 u131 u132 u133 u134 u135 u136 u4 u20 u21 u22 u23 u24 u25 u26 u28 u137 u138 u139 u140 u141 u142 u143 u144 u145 u146 u147 u148 u149 u150 u151 u152 u153 u154 u155 u156 u157 u158 u159 u160 u161 u162 u163 u164 u165 u166 u167 u168 u169 u170 u171 u172 u173 u174 u175 u176 u177 u178 u179 u180 u181 u182 u183 u184 u185 u186 u187 u188 u189 u190 u191 u192 u193 u194 u195 u196 u197 u198 u199 u200 u201 u202 u203 u204 u205 u206 u207 u208 u209 u210 u211 u212 u213 u214 u215 u216 u217 u218 u219 u220 u221 u222 u223 u224 u225 u226 u227 u228 u229 u230 u231 u232 u233 u234 u235 u236 u237 u238 u239 u240 u241 u242 u243 u244 u245 u246 u247 u248 u249 u250 u251 u252 v425 w HR0 HR1 Q' a a a w13 w15 w16 w17 w18 w19 w20 HO387 HO395 HO399 HB wc HO_7 HO_12 HB wc w72 w73 w74 w75 HO426 HB
 have H := HC71.out
 clear HC71
 by_cases c76 : (t419 != t421) = true
 ·
  rw [if_pos c76] at H
  exact (laws_FnDrillsMistaken.j4_no _ _ _ _ _ _ (H.trans (congrArg some HE_.out))).elim
 ·
  rw [if_neg c76] at H
  have c76b0 : (t419 != t421) = false := by simpa using c76
  (try (have c76b1 : decide (t419 = t421) = true := by simpa using c76))
  (try (have c76b2 : (t419 == t421) = true := by simpa using c76))
  clear c76
  (first | rw [c76b0] | (simp only [i64_w, i32_w]; rw [c76b0]) | skip)
  by_cases c77 : t418 = t420
  ·
   rw [if_pos c77] at H
   have c77b0 : (t418 == t420) = true := beq_iff_eq.mpr c77
   have c77b1 : (t418 != t420) = false := bne_eq_false_iff_eq.mpr c77
   clear c77
   replace H := Option.bind_eq_some_iff.mp H
   obtain ⟨t427, A780, H⟩ := H
   replace H : ((spec_AreMistakes.f kj31 t422 t423 t424).bind fun t428 => (laws_FnDrillsMistaken.j4 kj31 t415 t416 t417 t418 t419 (t427 != t428))) = some r := H
   have A78 := Aside0.mk A780
   clear A780
   replace H := Option.bind_eq_some_iff.mp H
   obtain ⟨t428, A790, H⟩ := H
   replace H : (laws_FnDrillsMistaken.j4 kj31 t415 t416 t417 t418 t419 (t427 != t428)) = some r := H
   have A79 := Aside0.mk A790
   clear A790
   have H' := Aside0.mk H
   clear H
   obtain ⟨Ao80, co80, eo80⟩ := Kd.R_slice HO426.out
   subst eo80
   go_wp2_with (first | (go_at_call 14; (with_reducible refine (impl_AreMistakes.calls kj31 t422 t423 _ _ t424 t427 _ ?side1 ?side2 A78.out).mono ?_); (case side1 => repeat (first | exact (Kd.R_reads' HO426.out).2.2 | (with_reducible refine Kd.C_alloc ?_ _) | (with_reducible refine Kd.C_drewN ?_ _) | (with_reducible refine Kd.C_drew ?_))); (case side2 => exact (Kd.R_reads' HO426.out).2.1); rintro e w81 ⟨rfl, hb⟩; have n0_ := Aside0.mk (Kd.R_below (by (with_reducible repeat (first | apply Kd.R_alloc | apply Kd.R_drewN | apply Kd.R_drew)); exact HO426.out) hb); have n1_ := Aside0.mk (below_step (by repeat (first | (with_reducible first | exact HB.out | apply below_alloc | apply pw_below_drewN | apply below_drew1) | exact HB.out)) hb); clear HO426; clear HB; have HO426 := n0_; have HB := n1_; clear n0_ n1_; (try clear hb); (try clear hb2); (try clear hk); (try clear hi)) | (go_at_call 18; (with_reducible refine (spec_AreMistakes.calls kj31 t422 t423 _ _ t424 t428 _ ?side1 ?side2 A79.out).mono ?_); (case side1 => repeat (first | exact (Kd.R_reads' HO426.out).2.2 | (with_reducible refine Kd.C_alloc ?_ _) | (with_reducible refine Kd.C_drewN ?_ _) | (with_reducible refine Kd.C_drew ?_))); (case side2 => exact (Kd.R_reads' HO426.out).2.1); rintro e w82 ⟨rfl, hb⟩; have n0_ := Aside0.mk (Kd.R_below (by (with_reducible repeat (first | apply Kd.R_alloc | apply Kd.R_drewN | apply Kd.R_drew)); exact HO426.out) hb); have n1_ := Aside0.mk (below_step (by repeat (first | (with_reducible first | exact HB.out | apply below_alloc | apply pw_below_drewN | apply below_drew1) | exact HB.out)) hb); clear HO426; clear HB; have HO426 := n0_; have HB := n1_; clear n0_ n1_; (try clear hb); (try clear hb2); (try clear hk); (try clear hi)))
   go_meet
   case rel => exact ⟨_, ((t427 != t428)), (by first | rfl | (simp; done) | (simp [*]; done)), H', ⟨by have := HJ11.out; have := HJ31.out; first | omega | exact Nat.le_refl _⟩, ⟨by repeat (first | (with_reducible first | exact HB.out | apply below_alloc | apply pw_below_drewN | apply below_drew1) | exact HB.out)⟩⟩
  ·
   rw [if_neg c77] at H
   exact (laws_FnDrillsMistaken.j4_no _ _ _ _ _ _ (H.trans (congrArg some HE_.out))).elim

set_option maxHeartbeats 8000000 in
set_option maxRecDepth 100000 in
def laws_FnDrillsMistaken.part8 : Σ' (R1 R2 : Prop), PLift R1 → PLift R2 → (laws_FnDrillsMistaken.part6.2.1) := by
 refine' ⟨_, _, fun hole1 hole2 => _⟩
 rotate_left 2
 ·
  conv => whnf
  intro t385 t424 t383 t384 t388 t390 t400 t402 t415 t423 A0 A1 Ao14 l0 l1 A3 t392 t396 r HE_ t389 t391 t393 t397 t401 t403 t419 t421 k A5 A6 A7 A8 A9 A10 A11 c0 HC0 c1 HC1 nd co14 kj11 HJ11 kj31 HJ31 t416 t417 A67 t418 A68 t420 A69 t422 A70 HC71 K K v394 v398 u99 u100 u101 u102 u103 u104 u105 u106 u107 u108 u109 u110 u111 u112 u113 u114 u115 u116 u117 u118 u119 u120 u121 u122 u123 u124 u125 u126 u127 u128 u129 u130 u131 u132 u133 u134 u135 u136 u4 u20 u21 u22 u23 u24 u25 u26 u28 u137 u138 u139 u140 u141 u142 u143 u144 u145 u146 u147 u148 u149 u150 u151 u152 u153 u154 u155 u156 u157 u158 u159 u160 u161 u162 u163 u164 u165 u166 u167 u168 u169 u170 u171 u172 u173 u174 u175 u176 u177 u178 u179 u180 u181 u182 u183 u184 u185 u186 u187 u188 u189 u190 u191 u192 u193 u194 u195 u196 u197 u198 u199 u200 u201 u202 u203 u204 u205 u206 u207 u208 u209 u210 u211 u212 u213 u214 u215 u216 u217 u218 u219 u220 u221 u222 u223 u224 u225 u226 u227 u228 u229 u230 u231 u232 u233 u234 u235 u236 u237 u238 u239 u240 u241 u242 u243 u244 u245 u246 u247 u248 u249 u250 u251 u252 v425 u173 u174 u175 u176 u177 u178 u179 u180 u181 u182 u183 u184 u185 u186 u187 u188 u189 u190 u191 u192 u193 u194 u195 u196 u197 u198 u199 u200 u201 u202 u203 u204 u205 u206 u207 u208 u209 u210 u211 u212 u213 u214 u215 u216 u217 u218 u219 u220 u221 u222 u223 u224 u225 u226 u227 u228 u229 u230 u231 u232 u233 u234 u235 u236 u237 u238 u239 u240 u241 u242 u243 u244 u245 u246 u247 u248 u249 u250 u251 u252 u253 u254 u255 u256 u257 u258 u259 u260 u261 u262 u263 u264 u265 u266 u267 u268 u269 u270 u271 u272 u273 u274 u275 u276 u277 u278 u279 u280 u281 u282 u283 u284 u285 u286 u287 u288 u289 u290 u291 u292 u293 u294 u295 u296 u297 w HR0 HR1 Q' a a w13 w15 w16 w17 w18 w19 w20 HO387 HO395 HO399 HB wc HO_7 HO_12 HB wc w72 w73 w74 w75 HO426 HB wc hcut
  clear HC71
  try clear c1
  try clear c4
  try clear c31
  obtain ⟨kq, x297_70, rfl, HA, HJ70, HB⟩ := hcut
  cases kq with
  | zero => exact absurd HA.out (by simp [laws_FnDrillsMistaken.j4])
  | succ kj70 =>
   have H := HA.out
   clear HA
   simp only [laws_FnDrillsMistaken.j4] at H
   by_cases c83 : x297_70 = true
   ·
    subst c83
    have H1 : (some false) = some r := by rw [if_pos rfl] at H; exact H
    clear H
    have H := H1
    clear H1
    exact absurd (H.trans (congrArg some HE_.out)) (by simp)
   ·
    replace c83 := Bool.eq_false_iff.mpr c83
    subst c83
    have H1 : (if t419 = true then (laws_FnDrillsMistaken.j5 kj70 t415 t416 t417 t418 (decide ((t415.size : Int) ≤ 12))) else (laws_FnDrillsMistaken.j5 kj70 t415 t416 t417 t418 false)) = some r := by rw [if_neg (show ¬ (false = true) by decide)] at H; exact H
    clear H
    have H := H1
    clear H1
    have HC84 := Aside0.mk H
    clear H
    go_upto_region 38 with (fail)
    go_cut [303] from 297 to 303 (fun v303 wc => ∃ (kq : Nat) (x303_83 : Bool), v303 = .bool x303_83 ∧ Aside0 (laws_FnDrillsMistaken.j5 kq t415 t416 t417 t418 x303_83 = some r) ∧ Aside0 (kq ≤ kj70) ∧ Aside0 (Below w.heap.size w wc))
    case first =>
     -- part 9
     (repeat revert ‹World›)
     (repeat revert ‹Value›)
     (repeat revert ‹Nat → Act → World → Prop›)
     (repeat revert ‹Act → World → Prop›)
     (repeat revert ‹Int›)
     (repeat revert ‹Nat›)
     (repeat revert ‹Bool›)
     (repeat revert ‹List (List Int)›)
     (repeat revert ‹List Int›)
     (repeat revert ‹Addr›)
     (repeat revert ‹Option Addr›)
     (repeat revert ‹ByteArray›)
     (repeat revert ‹List ByteArray›)
     (repeat revert ‹List (S34)›)
     exact hole1.down
    case rest =>
     -- part 10
     (repeat revert ‹World›)
     (repeat revert ‹Value›)
     (repeat revert ‹Nat → Act → World → Prop›)
     (repeat revert ‹Act → World → Prop›)
     (repeat revert ‹Int›)
     (repeat revert ‹Nat›)
     (repeat revert ‹Bool›)
     (repeat revert ‹List (List Int)›)
     (repeat revert ‹List Int›)
     (repeat revert ‹Addr›)
     (repeat revert ‹Option Addr›)
     (repeat revert ‹ByteArray›)
     (repeat revert ‹List ByteArray›)
     (repeat revert ‹List (S34)›)
     exact hole2.down

set_option maxHeartbeats 8000000 in
set_option maxRecDepth 100000 in
theorem laws_FnDrillsMistaken.part9 : laws_FnDrillsMistaken.part8.1 := by
 conv => whnf
 intro t385 t424 t383 t384 t388 t390 t400 t402 t415 t423 A0 A1 Ao14 l0 l1 A3 t392 t396 r HE_ t389 t391 t393 t397 t401 t403 t419 t421 k A5 A6 A7 A8 A9 A10 A11 c0 HC0 c1 HC1 nd co14 kj11 HJ11 kj31 HJ31 kj70 HJ70 t416 t417 A67 t418 A68 HC84 t420 A69 t422 A70 K K J K' a v394 v398 u99 u100 u101 u102 u103 u104 u105 u106 u107 u108 u109 u110 u111 u112 u113 u114 u115 u116 u117 u118 u119 u120 u121 u122 u123 u124 u125 u126 u127 u128 u129 u130 u131 u132 u133 u134 u135 u136 u4 u20 u21 u22 u23 u24 u25 u26 u28 u137 u138 u139 u140 u141 u142 u143 u144 u145 u146 u147 u148 u149 u150 u151 u152 u153 u154 u155 u156 u157 u158 u159 u160 u161 u162 u163 u164 u165 u166 u167 u168 u169 u170 u171 u172 u173 u174 u175 u176 u177 u178 u179 u180 u181 u182 u183 u184 u185 u186 u187 u188 u189 u190 u191 u192 u193 u194 u195 u196 u197 u198 u199 u200 u201 u202 u203 u204 u205 u206 u207 u208 u209 u210 u211 u212 u213 u214 u215 u216 u217 u218 u219 u220 u221 u222 u223 u224 u225 u226 u227 u228 u229 u230 u231 u232 u233 u234 u235 u236 u237 u238 u239 u240 u241 u242 u243 u244 u245 u246 u247 u248 u249 u250 u251 u252 v425 u173 u174 u175 u176 u177 u178 u179 u180 u181 u182 u183 u184 u185 u186 u187 u188 u189 u190 u191 u192 u193 u194 u195 u196 u197 u198 u199 u200 u201 u202 u203 u204 u205 u206 u207 u208 u209 u210 u211 u212 u213 u214 u215 u216 u217 u218 u219 u220 u221 u222 u223 u224 u225 u226 u227 u228 u229 u230 u231 u232 u233 u234 u235 u236 u237 u238 u239 u240 u241 u242 u243 u244 u245 u246 u247 u248 u249 u250 u251 u252 u253 u254 u255 u256 u257 u258 u259 u260 u261 u262 u263 u264 u265 u266 u267 u268 u269 u270 u271 u272 u273 u274 u275 u276 u277 u278 u279 u280 u281 u282 u283 u284 u285 u286 u287 u288 u289 u290 u291 u292 u293 u294 u295 u296 w HR0 HR1 Q' a a a w13 w15 w16 w17 w18 w19 w20 HO387 HO395 HO399 HB wc HO_7 HO_12 HB wc w72 w73 w74 w75 HO426 HB wc HB
 have H := HC84.out
 clear HC84
 by_cases c85 : t419 = true
 ·
  subst c85
  have H1 : (laws_FnDrillsMistaken.j5 kj70 t415 t416 t417 t418 (decide ((t415.size : Int) ≤ 12))) = some r := by rw [if_pos rfl] at H; exact H
  clear H
  have H := H1
  clear H1
  have H' := Aside0.mk H
  clear H
  go_wp2
  go_meet
  case rel => exact ⟨_, (decide ((t415.size : Int) ≤ 12)), (by first | rfl | (simp; done) | (simp [*]; done)), H', ⟨by have := HJ11.out; have := HJ31.out; have := HJ70.out; first | omega | exact Nat.le_refl _⟩, ⟨by repeat (first | (with_reducible first | exact HB.out | apply below_alloc | apply pw_below_drewN | apply below_drew1) | exact HB.out)⟩⟩
 ·
  replace c85 := Bool.eq_false_iff.mpr c85
  subst c85
  have H1 : (laws_FnDrillsMistaken.j5 kj70 t415 t416 t417 t418 false) = some r := by rw [if_neg (show ¬ (false = true) by decide)] at H; exact H
  clear H
  have H := H1
  clear H1
  have H' := Aside0.mk H
  clear H
  go_wp2
  go_meet
  case rel => exact ⟨_, (false), (by first | rfl | (simp; done) | (simp [*]; done)), H', ⟨by have := HJ11.out; have := HJ31.out; have := HJ70.out; first | omega | exact Nat.le_refl _⟩, ⟨by repeat (first | (with_reducible first | exact HB.out | apply below_alloc | apply pw_below_drewN | apply below_drew1) | exact HB.out)⟩⟩

set_option maxHeartbeats 8000000 in
set_option maxRecDepth 100000 in
def laws_FnDrillsMistaken.part10 : Σ' (R1 : Prop), PLift R1 → (laws_FnDrillsMistaken.part8.2.1) := by
 refine' ⟨_, fun hole1 => _⟩
 rotate_left 1
 ·
  conv => whnf
  intro t385 t424 t383 t384 t388 t390 t400 t402 t415 t423 A0 A1 Ao14 l0 l1 A3 t392 t396 r HE_ t389 t391 t393 t397 t401 t403 t419 t421 k A5 A6 A7 A8 A9 A10 A11 c0 HC0 c1 HC1 nd co14 kj11 HJ11 kj31 HJ31 kj70 HJ70 t416 t417 A67 t418 A68 HC84 t420 A69 t422 A70 K K v394 v398 u99 u100 u101 u102 u103 u104 u105 u106 u107 u108 u109 u110 u111 u112 u113 u114 u115 u116 u117 u118 u119 u120 u121 u122 u123 u124 u125 u126 u127 u128 u129 u130 u131 u132 u133 u134 u135 u136 u4 u20 u21 u22 u23 u24 u25 u26 u28 u137 u138 u139 u140 u141 u142 u143 u144 u145 u146 u147 u148 u149 u150 u151 u152 u153 u154 u155 u156 u157 u158 u159 u160 u161 u162 u163 u164 u165 u166 u167 u168 u169 u170 u171 u172 u173 u174 u175 u176 u177 u178 u179 u180 u181 u182 u183 u184 u185 u186 u187 u188 u189 u190 u191 u192 u193 u194 u195 u196 u197 u198 u199 u200 u201 u202 u203 u204 u205 u206 u207 u208 u209 u210 u211 u212 u213 u214 u215 u216 u217 u218 u219 u220 u221 u222 u223 u224 u225 u226 u227 u228 u229 u230 u231 u232 u233 u234 u235 u236 u237 u238 u239 u240 u241 u242 u243 u244 u245 u246 u247 u248 u249 u250 u251 u252 v425 u173 u174 u175 u176 u177 u178 u179 u180 u181 u182 u183 u184 u185 u186 u187 u188 u189 u190 u191 u192 u193 u194 u195 u196 u197 u198 u199 u200 u201 u202 u203 u204 u205 u206 u207 u208 u209 u210 u211 u212 u213 u214 u215 u216 u217 u218 u219 u220 u221 u222 u223 u224 u225 u226 u227 u228 u229 u230 u231 u232 u233 u234 u235 u236 u237 u238 u239 u240 u241 u242 u243 u244 u245 u246 u247 u248 u249 u250 u251 u252 u253 u254 u255 u256 u257 u258 u259 u260 u261 u262 u263 u264 u265 u266 u267 u268 u269 u270 u271 u272 u273 u274 u275 u276 u277 u278 u279 u280 u281 u282 u283 u284 u285 u286 u287 u288 u289 u290 u291 u292 u293 u294 u295 u296 u297 u298 u299 u300 u301 u302 u303 w HR0 HR1 Q' a a w13 w15 w16 w17 w18 w19 w20 HO387 HO395 HO399 HB wc HO_7 HO_12 HB wc w72 w73 w74 w75 HO426 HB wc HB wc hcut
  clear HC84
  try clear c1
  try clear c4
  try clear c31
  try clear c83
  obtain ⟨kq, x303_83, rfl, HA, HJ83, HB⟩ := hcut
  cases kq with
  | zero => exact absurd HA.out (by simp [laws_FnDrillsMistaken.j5])
  | succ kj83 =>
   have H := HA.out
   clear HA
   simp only [laws_FnDrillsMistaken.j5] at H
   by_cases c86 : x303_83 = true
   ·
    subst c86
    have H1 : (laws_FnDrillsMistaken.l1 kj83 t415 t416 t417 t418 0 0) = some r := by rw [if_pos rfl] at H; exact H
    clear H
    have H := H1
    clear H1
    have H' := Aside0.mk H
    clear H
    go_wp2
    go_loopg [39, 40] kj83 (fun kq v39 v40 w' => ∃ (x39_5 : Int) (x40_5 : Int), v39 = .int .i64 x39_5 ∧ v40 = .int .i64 x40_5 ∧ Aside0 (laws_FnDrillsMistaken.l1 kq t415 t416 t417 t418 x39_5 x40_5 = some r) ∧ Aside0 (kq ≤ kj83) ∧ Aside0 (Below w.heap.size w w'))
    case atStart => exact ⟨(0), (0), (by first | rfl | (simp; done) | (simp [*]; done)), (by first | rfl | (simp; done) | (simp [*]; done)), H', ⟨Nat.le_refl _⟩, ⟨by repeat (first | (with_reducible first | exact HB.out | apply below_alloc | apply pw_below_drewN | apply below_drew1) | exact HB.out)⟩⟩
    case round =>
     clear H'
     try clear c1
     try clear c4
     try clear c31
     try clear c83
     try clear c86
     obtain ⟨x39_5, x40_5, rfl, rfl, HA, HK5, HB⟩ := hrel
     cases gk with
     | zero => exact absurd HA.out (by simp [laws_FnDrillsMistaken.l1])
     | succ k5 =>
      have H := HA.out
      clear HA
      simp only [laws_FnDrillsMistaken.l1] at H
      by_cases c87 : x40_5 < 4
      ·
       rw [if_pos c87] at H
       have c87b0 : decide (x40_5 < 4) = true := decide_eq_true c87
       clear c87
       replace H := Option.bind_eq_some_iff.mp H
       obtain ⟨⟨t429, t430⟩, A880, H⟩ := H
       replace H : (if t430 = true then (if t429 < 0 then (some false) else (laws_FnDrillsMistaken.l1 k5 t415 t416 t417 t418 (wrap64 (x39_5 + t429)) (wrap64 (x40_5 + 1)))) else (some false)) = some r := H
       have A88 := Aside0.mk A880
       clear A880
       by_cases c89 : t430 = true
       ·
        subst c89
        have H1 : (if t429 < 0 then (some false) else (laws_FnDrillsMistaken.l1 k5 t415 t416 t417 t418 (wrap64 (x39_5 + t429)) (wrap64 (x40_5 + 1)))) = some r := by rw [if_pos rfl] at H; exact H
        clear H
        have H := H1
        clear H1
        by_cases c90 : t429 < 0
        ·
         rw [if_pos c90] at H
         exact absurd (H.trans (congrArg some HE_.out)) (by simp)
        ·
         rw [if_neg c90] at H
         have c90b0 : decide (t429 < 0) = false := decide_eq_false c90
         clear c90
         have H' := Aside0.mk H
         clear H
         go_wp2_with (first | ((with_reducible refine gate_callee (f := 16) rfl ?_); refine goesL_ (some 312) rfl rfl Tryd.func16 (by kernel_rfl) rfl #[.string t415, .int .i64 t416, .int .i64 x40_5] rfl (by (try simp only [List.map_toArray, List.map_cons, List.map_nil]); first | done | rfl | (simp only [List.length_drop, List.length_take]; rfl)) ?_; (with_reducible refine (impl_WaysToFace.calls k5 t415 t416 x40_5 t429 true _ A88.out).mono ?_); rintro e w91 ⟨rfl, hb⟩; refine ⟨_, rfl, ?_⟩; have n0_ := Aside0.mk (below_step (by repeat (first | (with_reducible first | exact HB.out | apply below_alloc | apply pw_below_drewN | apply below_drew1) | exact HB.out)) hb); clear HB; have HB := n0_; clear n0_; (try clear hb); (try clear hb2); (try clear hk); (try clear hi)))
         go_roundg k5
         case measure => have := HJ11.out; have := HJ31.out; have := HJ70.out; have := HJ83.out; have := HK5.out; omega
         case rel => exact ⟨(wrap64 (x39_5 + t429)), (wrap64 (x40_5 + 1)), (by first | rfl | (simp; done) | (simp [*]; done)), (by first | rfl | (simp; done) | (simp [*]; done)), H', ⟨by have := HJ11.out; have := HJ31.out; have := HJ70.out; have := HJ83.out; have := HK5.out; omega⟩, ⟨by repeat (first | (with_reducible first | exact HB.out | apply below_alloc | apply pw_below_drewN | apply below_drew1) | exact HB.out)⟩⟩
       ·
        replace c89 := Bool.eq_false_iff.mpr c89
        subst c89
        have H1 : (some false) = some r := by rw [if_neg (show ¬ (false = true) by decide)] at H; exact H
        clear H
        have H := H1
        clear H1
        exact absurd (H.trans (congrArg some HE_.out)) (by simp)
      ·
       rw [if_neg c87] at H
       have c87b0 : decide (x40_5 < 4) = false := decide_eq_false c87
       clear c87
       have H' := Aside0.mk H
       clear H
       -- part 11
       (repeat revert ‹World›)
       (repeat revert ‹Value›)
       (repeat revert ‹Nat → Act → World → Prop›)
       (repeat revert ‹Act → World → Prop›)
       (repeat revert ‹Int›)
       (repeat revert ‹Nat›)
       (repeat revert ‹Bool›)
       (repeat revert ‹List (List Int)›)
       (repeat revert ‹List Int›)
       (repeat revert ‹Addr›)
       (repeat revert ‹Option Addr›)
       (repeat revert ‹ByteArray›)
       (repeat revert ‹List ByteArray›)
       (repeat revert ‹List (S34)›)
       exact hole1.down
   ·
    replace c86 := Bool.eq_false_iff.mpr c86
    subst c86
    have H1 : (some true) = some r := by rw [if_neg (show ¬ (false = true) by decide)] at H; exact H
    clear H
    have H := H1
    clear H1
    obtain rfl := Option.some.inj H
    go_wp2
    go_ret
    exact ⟨by first | rfl | (simp [errW_none, errW_some] <;> rfl) | (simp [*, errW_none, errW_some] <;> rfl), by repeat (first | (with_reducible first | exact HB.out | apply below_alloc | apply pw_below_drewN | apply below_drew1) | exact HB.out)⟩

set_option maxHeartbeats 8000000 in
set_option maxRecDepth 100000 in
def laws_FnDrillsMistaken.part11 : Σ' (R1 : Prop), PLift R1 → (laws_FnDrillsMistaken.part10.1) := by
 refine' ⟨_, fun hole1 => _⟩
 rotate_left 1
 ·
  conv => whnf
  intro t385 t424 t383 t384 t388 t390 t400 t402 t415 t423 A0 A1 Ao14 l0 l1 A3 t392 t396 r HE_ t389 t391 t393 t397 t401 t403 t419 t421 k A5 A6 A7 A8 A9 A10 A11 c0 HC0 c1 HC1 nd co14 kj11 HJ11 kj31 HJ31 kj70 HJ70 kj83 HJ83 k5 HK5 t416 t417 A67 t418 A68 t420 A69 t422 A70 x39_5 H' x40_5 c87b0 K K K J a v394 v398 u99 u100 u101 u102 u103 u104 u105 u106 u107 u108 u109 u110 u111 u112 u113 u114 u115 u116 u117 u118 u119 u120 u121 u122 u123 u124 u125 u126 u127 u128 u129 u130 u131 u132 u133 u134 u135 u136 u4 u20 u21 u22 u23 u24 u25 u26 u28 u137 u138 u139 u140 u141 u142 u143 u144 u145 u146 u147 u148 u149 u150 u151 u152 u153 u154 u155 u156 u157 u158 u159 u160 u161 u162 u163 u164 u165 u166 u167 u168 u169 u170 u171 u172 u173 u174 u175 u176 u177 u178 u179 u180 u181 u182 u183 u184 u185 u186 u187 u188 u189 u190 u191 u192 u193 u194 u195 u196 u197 u198 u199 u200 u201 u202 u203 u204 u205 u206 u207 u208 u209 u210 u211 u212 u213 u214 u215 u216 u217 u218 u219 u220 u221 u222 u223 u224 u225 u226 u227 u228 u229 u230 u231 u232 u233 u234 u235 u236 u237 u238 u239 u240 u241 u242 u243 u244 u245 u246 u247 u248 u249 u250 u251 u252 v425 u173 u174 u175 u176 u177 u178 u179 u180 u181 u182 u183 u184 u185 u186 u187 u188 u189 u190 u191 u192 u193 u194 u195 u196 u197 u198 u199 u200 u201 u202 u203 u204 u205 u206 u207 u208 u209 u210 u211 u212 u213 u214 u215 u216 u217 u218 u219 u220 u221 u222 u223 u224 u225 u226 u227 u228 u229 u230 u231 u232 u233 u234 u235 u236 u237 u238 u239 u240 u241 u242 u243 u244 u245 u246 u247 u248 u249 u250 u251 u252 u253 u254 u255 u256 u257 u258 u259 u260 u261 u262 u263 u264 u265 u266 u267 u268 u269 u270 u271 u272 u273 u274 u275 u276 u277 u278 u279 u280 u281 u282 u283 u284 u285 u286 u287 u288 u289 u290 u291 u292 u293 u294 u295 u296 u297 u298 u299 u300 u301 u302 u4 u41 u42 u304 u305 u306 u307 u308 u309 u310 u311 u312 u313 u314 u315 u316 u317 u318 u319 u320 u321 u322 u323 w HR0 HR1 Q' a a a w13 w15 w16 w17 w18 w19 w20 HO387 HO395 HO399 HB wc HO_7 HO_12 HB wc w72 w73 w74 w75 HO426 HB wc HB wc HB wr HB
  go_wp2
  go_loopg [43, 44] k5 (fun kq v43 v44 w' => ∃ (x43_6 : Int) (x44_6 : Int), v43 = .int .i64 x43_6 ∧ v44 = .int .i64 x44_6 ∧ Aside0 (laws_FnDrillsMistaken.l2 kq t415 t416 t417 t418 x39_5 x43_6 x44_6 = some r) ∧ Aside0 (kq ≤ k5) ∧ Aside0 (Below w.heap.size w w'))
  case atStart => exact ⟨(1), (1), (by first | rfl | (simp; done) | (simp [*]; done)), (by first | rfl | (simp; done) | (simp [*]; done)), H', ⟨Nat.le_refl _⟩, ⟨by repeat (first | (with_reducible first | exact HB.out | apply below_alloc | apply pw_below_drewN | apply below_drew1) | exact HB.out)⟩⟩
  case round =>
   clear H'
   try clear c1
   try clear c4
   try clear c31
   try clear c83
   try clear c86
   try clear c87
   try clear c87b0
   obtain ⟨x43_6, x44_6, rfl, rfl, HA, HK6, HB⟩ := hrel
   cases gk with
   | zero => exact absurd HA.out (by simp [laws_FnDrillsMistaken.l2])
   | succ k6 =>
    have H := HA.out
    clear HA
    simp only [laws_FnDrillsMistaken.l2] at H
    by_cases c92 : x44_6 ≤ t416
    ·
     rw [if_pos c92] at H
     have c92b0 : decide (x44_6 ≤ t416) = true := decide_eq_true c92
     clear c92
     by_cases c93 : x44_6 = 0
     ·
      rw [if_pos c93] at H
      exact absurd H (by simp)
     ·
      rw [if_neg c93] at H
      have c93b0 : (x44_6 == 0) = false := beq_eq_false_iff_ne.mpr c93
      have c93b1 : (x44_6 != 0) = true := bne_iff_ne.mpr c93
      have H' := Aside0.mk H
      clear H
      go_wp2
      go_roundg k6
      case measure => have := HJ11.out; have := HJ31.out; have := HJ70.out; have := HJ83.out; have := HK5.out; have := HK6.out; omega
      case rel => exact ⟨(wrap64 (Int.tdiv (wrap64 (x43_6 * (wrap64 ((wrap64 ((t415.size : Int) - x44_6)) + 1)))) x44_6)), (wrap64 (x44_6 + 1)), (by first | rfl | (simp; done) | (simp [*]; done)), (by first | rfl | (simp; done) | (simp [*]; done)), H', ⟨by have := HJ11.out; have := HJ31.out; have := HJ70.out; have := HJ83.out; have := HK5.out; have := HK6.out; omega⟩, ⟨by repeat (first | (with_reducible first | exact HB.out | apply below_alloc | apply pw_below_drewN | apply below_drew1) | exact HB.out)⟩⟩
    ·
     rw [if_neg c92] at H
     have c92b0 : decide (x44_6 ≤ t416) = false := decide_eq_false c92
     clear c92
     have H' := Aside0.mk H
     clear H
     -- part 12
     (repeat revert ‹World›)
     (repeat revert ‹Value›)
     (repeat revert ‹Nat → Act → World → Prop›)
     (repeat revert ‹Act → World → Prop›)
     (repeat revert ‹Int›)
     (repeat revert ‹Nat›)
     (repeat revert ‹Bool›)
     (repeat revert ‹List (List Int)›)
     (repeat revert ‹List Int›)
     (repeat revert ‹Addr›)
     (repeat revert ‹Option Addr›)
     (repeat revert ‹ByteArray›)
     (repeat revert ‹List ByteArray›)
     (repeat revert ‹List (S34)›)
     exact hole1.down

set_option maxHeartbeats 8000000 in
set_option maxRecDepth 100000 in
def laws_FnDrillsMistaken.part12 : Σ' (R1 : Prop), PLift R1 → (laws_FnDrillsMistaken.part11.1) := by
 refine' ⟨_, fun hole1 => _⟩
 rotate_left 1
 ·
  conv => whnf
  intro t385 t424 t383 t384 t388 t390 t400 t402 t415 t423 A0 A1 Ao14 l0 l1 A3 t392 t396 r HE_ t389 t391 t393 t397 t401 t403 t419 t421 k A5 A6 A7 A8 A9 A10 A11 c0 HC0 c1 HC1 nd co14 kj11 HJ11 kj31 HJ31 kj70 HJ70 kj83 HJ83 k5 HK5 k6 HK6 t416 t417 A67 t418 A68 t420 A69 t422 A70 x39_5 x40_5 x43_6 H' x44_6 c92b0 K K K K K K J a J a v394 v398 u99 u100 u101 u102 u103 u104 u105 u106 u107 u108 u109 u110 u111 u112 u113 u114 u115 u116 u117 u118 u119 u120 u121 u122 u123 u124 u125 u126 u127 u128 u129 u130 u131 u132 u133 u134 u135 u136 u4 u20 u21 u22 u23 u24 u25 u26 u28 u137 u138 u139 u140 u141 u142 u143 u144 u145 u146 u147 u148 u149 u150 u151 u152 u153 u154 u155 u156 u157 u158 u159 u160 u161 u162 u163 u164 u165 u166 u167 u168 u169 u170 u171 u172 u173 u174 u175 u176 u177 u178 u179 u180 u181 u182 u183 u184 u185 u186 u187 u188 u189 u190 u191 u192 u193 u194 u195 u196 u197 u198 u199 u200 u201 u202 u203 u204 u205 u206 u207 u208 u209 u210 u211 u212 u213 u214 u215 u216 u217 u218 u219 u220 u221 u222 u223 u224 u225 u226 u227 u228 u229 u230 u231 u232 u233 u234 u235 u236 u237 u238 u239 u240 u241 u242 u243 u244 u245 u246 u247 u248 u249 u250 u251 u252 v425 u173 u174 u175 u176 u177 u178 u179 u180 u181 u182 u183 u184 u185 u186 u187 u188 u189 u190 u191 u192 u193 u194 u195 u196 u197 u198 u199 u200 u201 u202 u203 u204 u205 u206 u207 u208 u209 u210 u211 u212 u213 u214 u215 u216 u217 u218 u219 u220 u221 u222 u223 u224 u225 u226 u227 u228 u229 u230 u231 u232 u233 u234 u235 u236 u237 u238 u239 u240 u241 u242 u243 u244 u245 u246 u247 u248 u249 u250 u251 u252 u253 u254 u255 u256 u257 u258 u259 u260 u261 u262 u263 u264 u265 u266 u267 u268 u269 u270 u271 u272 u273 u274 u275 u276 u277 u278 u279 u280 u281 u282 u283 u284 u285 u286 u287 u288 u289 u290 u291 u292 u293 u294 u295 u296 u297 u298 u299 u300 u301 u302 u4 u41 u42 u304 u305 u306 u307 u308 u309 u310 u311 u312 u313 u314 u315 u316 u317 u318 u319 u320 u321 u322 u323 u324 u325 u326 u327 u328 u329 u330 u331 u332 u333 u334 u335 u336 u337 w HR0 HR1 Q' a a a a a w13 w15 w16 w17 w18 w19 w20 HO387 HO395 HO399 HB wc HO_7 HO_12 HB wc w72 w73 w74 w75 HO426 HB wc HB wc HB wr HB wr HB
  go_wp2
  go_loopg [43, 45] k6 (fun kq v43 v45 w' => ∃ (x43_7 : Int) (x45_7 : Int), v43 = .int .i64 x43_7 ∧ v45 = .int .i64 x45_7 ∧ Aside0 (laws_FnDrillsMistaken.l3 kq t415 t416 t417 t418 x39_5 x43_7 x45_7 = some r) ∧ Aside0 (kq ≤ k6) ∧ Aside0 (Below w.heap.size w w'))
  case atStart => exact ⟨(x43_6), (0), (by first | rfl | (simp; done) | (simp [*]; done)), (by first | rfl | (simp; done) | (simp [*]; done)), H', ⟨Nat.le_refl _⟩, ⟨by repeat (first | (with_reducible first | exact HB.out | apply below_alloc | apply pw_below_drewN | apply below_drew1) | exact HB.out)⟩⟩
  case round =>
   clear H'
   try clear c1
   try clear c4
   try clear c31
   try clear c83
   try clear c86
   try clear c87
   try clear c87b0
   try clear c92
   try clear c92b0
   obtain ⟨x43_7, x45_7, rfl, rfl, HA, HK7, HB⟩ := hrel
   cases gk with
   | zero => exact absurd HA.out (by simp [laws_FnDrillsMistaken.l3])
   | succ k7 =>
    have H := HA.out
    clear HA
    simp only [laws_FnDrillsMistaken.l3] at H
    by_cases c94 : x45_7 < t416
    ·
     rw [if_pos c94] at H
     have c94b0 : decide (x45_7 < t416) = true := decide_eq_true c94
     clear c94
     have H' := Aside0.mk H
     clear H
     go_wp2
     go_roundg k7
     case measure => have := HJ11.out; have := HJ31.out; have := HJ70.out; have := HJ83.out; have := HK5.out; have := HK6.out; have := HK7.out; omega
     case rel => exact ⟨(wrap64 (x43_7 * 3)), (wrap64 (x45_7 + 1)), (by first | rfl | (simp; done) | (simp [*]; done)), (by first | rfl | (simp; done) | (simp [*]; done)), H', ⟨by have := HJ11.out; have := HJ31.out; have := HJ70.out; have := HJ83.out; have := HK5.out; have := HK6.out; have := HK7.out; omega⟩, ⟨by repeat (first | (with_reducible first | exact HB.out | apply below_alloc | apply pw_below_drewN | apply below_drew1) | exact HB.out)⟩⟩
    ·
     rw [if_neg c94] at H
     have c94b0 : decide (x45_7 < t416) = false := decide_eq_false c94
     clear c94
     have HC95 := Aside0.mk H
     clear H
     -- part 13
     (repeat revert ‹World›)
     (repeat revert ‹Value›)
     (repeat revert ‹Nat → Act → World → Prop›)
     (repeat revert ‹Act → World → Prop›)
     (repeat revert ‹Int›)
     (repeat revert ‹Nat›)
     (repeat revert ‹Bool›)
     (repeat revert ‹List (List Int)›)
     (repeat revert ‹List Int›)
     (repeat revert ‹Addr›)
     (repeat revert ‹Option Addr›)
     (repeat revert ‹ByteArray›)
     (repeat revert ‹List ByteArray›)
     (repeat revert ‹List (S34)›)
     exact hole1.down
end Go.Proofs.YtgdmbhldabeelaaRDoor.PFnDrillsMistaken
