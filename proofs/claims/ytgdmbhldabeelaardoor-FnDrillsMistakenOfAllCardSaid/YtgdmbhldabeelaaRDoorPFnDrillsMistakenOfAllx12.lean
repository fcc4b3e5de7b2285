-- Written by a program of this session's (pg.py) over the kit's print.
import Derived.Test.YtgdmbhldabeelaaRDoorPFnDrillsMistakenOfAllx0
import Derived.Test.YtgdmbhldabeelaaRDoorPFnDrillsMistakenOfAllx3
import Derived.Test.YtgdmbhldabeelaaRDoorPFnDrillsMistakenOfAllx6
import Derived.Test.YtgdmbhldabeelaaRDoorPFnDrillsMistakenOfAllx7
import Derived.Test.YtgdmbhldabeelaaRDoorPFnDrillsMistakenOfAllx8
import Derived.Test.YtgdmbhldabeelaaRDoorPFnDrillsMistakenOfAllx9
import Derived.Test.YtgdmbhldabeelaaRDoorPFnDrillsMistakenOfAllx10
import Derived.Deep.CutRange
import Derived.Test.YtgdmbhldabeelaaRDoorPFnDrillsMistakenOfAllx11
namespace Go.Proofs.YtgdmbhldabeelaaRDoor.PFnDrillsMistakenOfAll
open Go.RowKit Go.Proofs.YtgdmbhldabeelaaRDoorW.PrintWords Go.Proofs.YtgdmbhldabeelaaRDoorW.PrintLast Go.Proofs.YtgdmbhldabeelaaRDoorW.PrintMore
attribute [local go_sem] max2_int min2_int max_two min_two max_three min_three max_four min_four   -- for this text's walks alone
set_option linter.unusedVariables false
set_option linter.unusedSimpArgs false


set_option maxHeartbeats 8000000 in
set_option maxRecDepth 100000 in
def laws_FnDrillsMistakenOfAll.part5 : Σ' (R1 R2 : Prop), PLift R1 → PLift R2 → (laws_FnDrillsMistakenOfAll.part4.1) := by
 refine' ⟨_, _, fun hole1 hole2 => _⟩
 rotate_left 2
 ·
  conv => whnf
  intro l2 l8 a0 a1 a3 a7 t233 t235 t245 t247 A2 A8 t237 t241 r HE_ t234 t236 t238 t242 t246 t248 k c2 HC2 c8 HC8 kj9 HJ9 A17 A18 A19 A20 A21 A22 kj22 HJ22 a4 a5 a6 HC41 K J K' a u53 u54 u55 u56 u57 u58 u59 u60 u61 u62 u63 u64 u65 u66 u67 u68 u69 u70 u71 u72 u73 u74 u75 u76 u77 u78 u79 v239 v243 u80 u81 u82 u83 u84 u85 u86 u87 u88 u89 u90 u91 u92 u93 u94 u95 u96 u97 u98 u99 u100 u101 u102 u103 u104 u105 u106 u107 u108 u109 u110 u111 u112 u113 u114 u115 u116 u117 u118 u119 u120 u121 u122 u123 u124 u125 u126 u127 u128 u129 u130 u131 u132 u133 u134 u135 u136 u137 u138 u139 u140 u141 u142 u143 u144 u145 u146 u147 u148 u149 u150 u151 u152 u153 u154 u155 u156 u157 u158 u159 u160 w HR2 HR8 HB Q' a a wc w24 w25 w26 w27 w28 w29 HO240 HO244 HB wc HO_23 HB
  have H := HC41.out
  clear HC41
  by_cases c42 : t234 = true
  ·
   subst c42
   have H1 : ((impl_FacingAfter.f kj22 a0 a1).bind fun bt250 => (if bt250.2 = true then (if (t233.size : Int) = (a0.size : Int) then (if (t245.size : Int) = (a0.size : Int) then ((laws_vRises.f kj22 t237).bind fun t252 => (if t252 = true then ((impl_AreMistakes.f kj22 (a0.size : Int) a1 l2).bind fun t253 => (laws_FnDrillsMistakenOfAll.j2 kj22 a0 l2 a3 a4 a5 a6 a7 l8 t233 t237 t245 bt250.1 (!t253))) else (laws_FnDrillsMistakenOfAll.j2 kj22 a0 l2 a3 a4 a5 a6 a7 l8 t233 t237 t245 bt250.1 true))) else (laws_FnDrillsMistakenOfAll.j2 kj22 a0 l2 a3 a4 a5 a6 a7 l8 t233 t237 t245 bt250.1 true)) else (laws_FnDrillsMistakenOfAll.j2 kj22 a0 l2 a3 a4 a5 a6 a7 l8 t233 t237 t245 bt250.1 true)) else (laws_FnDrillsMistakenOfAll.j2 kj22 a0 l2 a3 a4 a5 a6 a7 l8 t233 t237 t245 bt250.1 true))) = some r := by rw [if_pos rfl] at H; exact H
   clear H
   have H := H1
   clear H1
   replace H := Option.bind_eq_some_iff.mp H
   obtain ⟨⟨t250, t251⟩, A430, H⟩ := H
   replace H : (if t251 = true then (if (t233.size : Int) = (a0.size : Int) then (if (t245.size : Int) = (a0.size : Int) then ((laws_vRises.f kj22 t237).bind fun t252 => (if t252 = true then ((impl_AreMistakes.f kj22 (a0.size : Int) a1 l2).bind fun t253 => (laws_FnDrillsMistakenOfAll.j2 kj22 a0 l2 a3 a4 a5 a6 a7 l8 t233 t237 t245 t250 (!t253))) else (laws_FnDrillsMistakenOfAll.j2 kj22 a0 l2 a3 a4 a5 a6 a7 l8 t233 t237 t245 t250 true))) else (laws_FnDrillsMistakenOfAll.j2 kj22 a0 l2 a3 a4 a5 a6 a7 l8 t233 t237 t245 t250 true)) else (laws_FnDrillsMistakenOfAll.j2 kj22 a0 l2 a3 a4 a5 a6 a7 l8 t233 t237 t245 t250 true)) else (laws_FnDrillsMistakenOfAll.j2 kj22 a0 l2 a3 a4 a5 a6 a7 l8 t233 t237 t245 t250 true)) = some r := H
   have A43 := Aside0.mk A430
   clear A430
   have HC44 := Aside0.mk H
   clear H
   go_upto_region 13 with (first | ((with_reducible refine gate_callee (f := 12) rfl ?_); refine goesL_ (some 166) rfl rfl Tryd.func12 (by kernel_rfl) rfl #[.string a0, .string a1] rfl (by (try simp only [List.map_toArray, List.map_cons, List.map_nil]); first | done | rfl | (simp only [List.length_drop, List.length_take]; rfl)) ?_; (with_reducible refine (impl_FacingAfter.calls kj22 a0 a1 t250 t251 _ A43.out).mono ?_); rintro e w45 ⟨rfl, hb⟩; refine ⟨_, rfl, ?_⟩; have n0_ := Aside0.mk (Kd.R_below (by (with_reducible repeat (first | apply Kd.R_alloc | apply Kd.R_drewN | apply Kd.R_drew)); exact HO_23.out) hb); have n1_ := Aside0.mk (below_step (by repeat (first | (with_reducible first | exact HB.out | apply below_alloc | apply pw_below_drewN | apply below_drew1) | exact HB.out)) hb); clear HO_23; clear HB; have HO_23 := n0_; have HB := n1_; clear n0_ n1_; (try clear hb); (try clear hb2); (try clear hk); (try clear hi)))
   (try simp only [Act.put, List.setIfInBounds_toArray, List.set_cons_zero, List.set_cons_succ])
   go_cut [197] from 161 to 197 (fun v197 wc => ∃ (kq : Nat) (x197_43 : Bool), v197 = .bool x197_43 ∧ Aside0 (laws_FnDrillsMistakenOfAll.j2 kq a0 l2 a3 a4 a5 a6 a7 l8 t233 t237 t245 t250 x197_43 = some r) ∧ Aside0 (kq ≤ kj22) ∧ Aside0 (Kd.R (Kd.int .i64) 3 wc w.heap.size (fun _ => True) v239 t237) ∧ Aside0 (Below w.heap.size w wc))
   case first =>
    -- part 6
    (repeat revert ‹World›)
    (repeat revert ‹Value›)
    (repeat revert ‹Nat → Act → World → Prop›)
    (repeat revert ‹Act → World → Prop›)
    (repeat revert ‹Int›)
    (repeat revert ‹Nat›)
    (repeat revert ‹Bool›)
    (repeat revert ‹List (List Int)›)
    (repeat revert ‹List Int›)
    (repeat revert ‹Addr›)
    (repeat revert ‹Option Addr›)
    (repeat revert ‹ByteArray›)
    (repeat revert ‹List ByteArray›)
    (repeat revert ‹List (S34)›)
    exact hole1.down
   case rest =>
    -- part 7
    (repeat revert ‹World›)
    (repeat revert ‹Value›)
    (repeat revert ‹Nat → Act → World → Prop›)
    (repeat revert ‹Act → World → Prop›)
    (repeat revert ‹Int›)
    (repeat revert ‹Nat›)
    (repeat revert ‹Bool›)
    (repeat revert ‹List (List Int)›)
    (repeat revert ‹List Int›)
    (repeat revert ‹Addr›)
    (repeat revert ‹Option Addr›)
    (repeat revert ‹ByteArray›)
    (repeat revert ‹List ByteArray›)
    (repeat revert ‹List (S34)›)
    exact hole2.down
  ·
   replace c42 := Bool.eq_false_iff.mpr c42
   subst c42
   have H1 : (laws_FnDrillsMistakenOfAll.j4 kj22 a3 a4 a5 a6 a7 l8) = some r := by rw [if_neg (show ¬ (false = true) by decide)] at H; exact H
   clear H
   have H := H1
   clear H1
   have H' := Aside0.mk H
   clear H
   go_wp2
   go_meet
   case rel => exact ⟨_, H', ⟨by have := HJ9.out; have := HJ22.out; first | omega | exact Nat.le_refl _⟩, ⟨by repeat (first | (with_reducible first | exact HB.out | apply below_alloc | apply pw_below_drewN | apply below_drew1) | exact HB.out)⟩⟩

set_option maxHeartbeats 8000000 in
set_option maxRecDepth 100000 in
theorem laws_FnDrillsMistakenOfAll.part6 : laws_FnDrillsMistakenOfAll.part5.1 := by
 conv => whnf
 intro l2 l8 a0 a1 a3 a7 t233 t235 t245 t247 t250 A2 A8 t237 t241 r HE_ t236 t238 t242 t246 t248 t251 k c2 HC2 c8 HC8 kj9 HJ9 A18 A19 A20 A21 A22 A17 kj22 HJ22 A43 a4 a5 a6 HC44 K J K' a K K J K' a u53 u54 u55 u56 u57 u58 u59 u60 u61 u62 u63 u64 u65 u66 u67 u68 u69 u70 u71 u72 u73 u74 u75 u76 u77 u78 u79 v239 v243 u80 u81 u82 u83 u84 u85 u86 u87 u88 u89 u90 u91 u92 u93 u94 u95 u96 u97 u98 u99 u100 u101 u102 u103 u104 u105 u106 u107 u108 u109 u110 u111 u112 u113 u114 u115 u116 u117 u118 u119 u120 u121 u122 u123 u124 u125 u126 u127 u128 u129 u130 u131 u132 u133 u134 u135 u136 u137 u138 u139 u140 u141 u142 u143 u144 u145 u146 u147 u148 u149 u150 u151 u152 u153 u154 u155 u156 u157 u158 u159 u160 w HR2 HR8 HB Q' a a a a a wc w24 w25 w26 w27 w28 w29 HO240 HO244 HB wc w45 HO_23 HB
 have H := HC44.out
 clear HC44
 by_cases c46 : t251 = true
 ·
  subst c46
  have H1 : (if (t233.size : Int) = (a0.size : Int) then (if (t245.size : Int) = (a0.size : Int) then ((laws_vRises.f kj22 t237).bind fun t252 => (if t252 = true then ((impl_AreMistakes.f kj22 (a0.size : Int) a1 l2).bind fun t253 => (laws_FnDrillsMistakenOfAll.j2 kj22 a0 l2 a3 a4 a5 a6 a7 l8 t233 t237 t245 t250 (!t253))) else (laws_FnDrillsMistakenOfAll.j2 kj22 a0 l2 a3 a4 a5 a6 a7 l8 t233 t237 t245 t250 true))) else (laws_FnDrillsMistakenOfAll.j2 kj22 a0 l2 a3 a4 a5 a6 a7 l8 t233 t237 t245 t250 true)) else (laws_FnDrillsMistakenOfAll.j2 kj22 a0 l2 a3 a4 a5 a6 a7 l8 t233 t237 t245 t250 true)) = some r := by rw [if_pos rfl] at H; exact H
  clear H
  have H := H1
  clear H1
  by_cases c47 : (t233.size : Int) = (a0.size : Int)
  ·
   rw [if_pos c47] at H
   have c47b0 : ((t233.size : Int) == (a0.size : Int)) = true := beq_iff_eq.mpr c47
   have c47b1 : ((t233.size : Int) != (a0.size : Int)) = false := bne_eq_false_iff_eq.mpr c47
   have c47b2 : (t233.size == a0.size) = true := by first | simpa using c47 | (simp at c47 ⊢; omega)
   clear c47
   (first | rw [c47b0] | (simp only [i64_w, i32_w]; rw [c47b0]) | skip)
   by_cases c48 : (t245.size : Int) = (a0.size : Int)
   ·
    rw [if_pos c48] at H
    have c48b0 : ((t245.size : Int) == (a0.size : Int)) = true := beq_iff_eq.mpr c48
    have c48b1 : ((t245.size : Int) != (a0.size : Int)) = false := bne_eq_false_iff_eq.mpr c48
    have c48b2 : (t245.size == a0.size) = true := by first | simpa using c48 | (simp at c48 ⊢; omega)
    clear c48
    replace H := Option.bind_eq_some_iff.mp H
    obtain ⟨t252, A490, H⟩ := H
    replace H : (if t252 = true then ((impl_AreMistakes.f kj22 (a0.size : Int) a1 l2).bind fun t253 => (laws_FnDrillsMistakenOfAll.j2 kj22 a0 l2 a3 a4 a5 a6 a7 l8 t233 t237 t245 t250 (!t253))) else (laws_FnDrillsMistakenOfAll.j2 kj22 a0 l2 a3 a4 a5 a6 a7 l8 t233 t237 t245 t250 true)) = some r := H
    have A49 := Aside0.mk A490
    clear A490
    by_cases c50 : t252 = true
    ·
     subst c50
     have H1 : ((impl_AreMistakes.f kj22 (a0.size : Int) a1 l2).bind fun t253 => (laws_FnDrillsMistakenOfAll.j2 kj22 a0 l2 a3 a4 a5 a6 a7 l8 t233 t237 t245 t250 (!t253))) = some r := by rw [if_pos rfl] at H; exact H
     clear H
     have H := H1
     clear H1
     replace H := Option.bind_eq_some_iff.mp H
     obtain ⟨t253, A510, H⟩ := H
     replace H : (laws_FnDrillsMistakenOfAll.j2 kj22 a0 l2 a3 a4 a5 a6 a7 l8 t233 t237 t245 t250 (!t253)) = some r := H
     have A51 := Aside0.mk A510
     clear A510
     have H' := Aside0.mk H
     clear H
     obtain ⟨Ao52, co52, eo52⟩ := Kd.R_slice HO_23.out
     subst eo52
     go_wp2_with (first | (go_at_call 13; (with_reducible refine (laws_vRises.calls kj22 _ _ t237 true _ ?side1 ?side2 A49.out).mono ?_); (case side1 => repeat (first | exact (Kd.R_reads' HO_23.out).2.2 | (with_reducible refine Kd.C_alloc ?_ _) | (with_reducible refine Kd.C_drewN ?_ _) | (with_reducible refine Kd.C_drew ?_))); (case side2 => exact (Kd.R_reads' HO_23.out).2.1); rintro e w' ⟨rfl, ⟨nd, rfl⟩⟩) | (go_at_call 14; (with_reducible refine (impl_AreMistakes.calls kj22 (a0.size : Int) a1 _ _ l2 t253 _ ?side1 ?side2 A51.out).mono ?_); (case side1 => repeat (first | exact (Kd.C_below HR2.out (by repeat (first | (with_reducible first | exact HB.out | apply below_alloc | apply pw_below_drewN | apply below_drew1) | exact HB.out))) | (with_reducible refine Kd.C_alloc ?_ _) | (with_reducible refine Kd.C_drewN ?_ _) | (with_reducible refine Kd.C_drew ?_))); (case side2 => exact HC2.out); rintro e w53 ⟨rfl, hb⟩; have n0_ := Aside0.mk (Kd.R_below (by (with_reducible repeat (first | apply Kd.R_alloc | apply Kd.R_drewN | apply Kd.R_drew)); exact HO_23.out) hb); have n1_ := Aside0.mk (below_step (by repeat (first | (with_reducible first | exact HB.out | apply below_alloc | apply pw_below_drewN | apply below_drew1) | exact HB.out)) hb); clear HO_23; clear HB; have HO_23 := n0_; have HB := n1_; clear n0_ n1_; (try clear hb); (try clear hb2); (try clear hk); (try clear hi)))
     go_meet
     case rel => exact ⟨_, (!t253), (by first | rfl | (simp; done) | (simp [*]; done)), H', ⟨by have := HJ9.out; have := HJ22.out; first | omega | exact Nat.le_refl _⟩, ⟨by (with_reducible repeat (first | apply Kd.R_alloc | apply Kd.R_drewN | apply Kd.R_drew)); exact HO_23.out⟩, ⟨by repeat (first | (with_reducible first | exact HB.out | apply below_alloc | apply pw_below_drewN | apply below_drew1) | exact HB.out)⟩⟩
    ·
     replace c50 := Bool.eq_false_iff.mpr c50
     subst c50
     have H1 : (laws_FnDrillsMistakenOfAll.j2 kj22 a0 l2 a3 a4 a5 a6 a7 l8 t233 t237 t245 t250 true) = some r := by rw [if_neg (show ¬ (false = true) by decide)] at H; exact H
     clear H
     have H := H1
     clear H1
     exact (laws_FnDrillsMistakenOfAll.j2_no _ _ _ _ _ _ _ _ _ _ _ _ _ (H.trans (congrArg some HE_.out))).elim
   ·
    rw [if_neg c48] at H
    exact (laws_FnDrillsMistakenOfAll.j2_no _ _ _ _ _ _ _ _ _ _ _ _ _ (H.trans (congrArg some HE_.out))).elim
  ·
   rw [if_neg c47] at H
   exact (laws_FnDrillsMistakenOfAll.j2_no _ _ _ _ _ _ _ _ _ _ _ _ _ (H.trans (congrArg some HE_.out))).elim
 ·
  replace c46 := Bool.eq_false_iff.mpr c46
  subst c46
  have H1 : (laws_FnDrillsMistakenOfAll.j2 kj22 a0 l2 a3 a4 a5 a6 a7 l8 t233 t237 t245 t250 true) = some r := by rw [if_neg (show ¬ (false = true) by decide)] at H; exact H
  clear H
  have H := H1
  clear H1
  exact (laws_FnDrillsMistakenOfAll.j2_no _ _ _ _ _ _ _ _ _ _ _ _ _ (H.trans (congrArg some HE_.out))).elim

set_option maxHeartbeats 8000000 in
set_option maxRecDepth 100000 in
theorem laws_FnDrillsMistakenOfAll.part7 : laws_FnDrillsMistakenOfAll.part5.2.1 := by
 conv => whnf
 intro l2 l8 a0 a1 a3 a7 t233 t235 t245 t247 t250 A2 A8 t237 t241 r HE_ t236 t238 t242 t246 t248 t251 k c2 HC2 c8 HC8 kj9 HJ9 A18 A19 A20 A21 A22 A17 kj22 HJ22 A43 a4 a5 a6 HC44 K J K' a K K u53 u54 u55 u56 u57 u58 u59 u60 u61 u62 u63 u64 u65 u66 u67 u68 u69 u70 u71 u72 u73 u74 u75 u76 u77 u78 u79 v239 v243 u80 u81 u82 u83 u84 u85 u86 u87 u88 u89 u90 u91 u92 u93 u94 u95 u96 u97 u98 u99 u100 u101 u102 u103 u104 u105 u106 u107 u108 u109 u110 u111 u112 u113 u114 u115 u116 u117 u118 u119 u120 u121 u122 u123 u124 u125 u126 u127 u128 u129 u130 u131 u132 u133 u134 u135 u136 u137 u138 u139 u140 u141 u142 u143 u144 u145 u146 u147 u148 u149 u150 u151 u152 u153 u154 u155 u156 u157 u158 u159 u160 u161 u162 u163 u164 u165 u166 u167 u168 u169 u170 u171 u172 u173 u174 u175 u176 u177 u178 u179 u180 u181 u182 u183 u184 u185 u186 u187 u188 u189 u190 u191 u192 u193 u194 u195 u196 u197 w HR2 HR8 HB Q' a a a a wc w24 w25 w26 w27 w28 w29 HO240 HO244 HB wc w45 HO_23 HB wc hcut
 clear HC44
 try clear c2
 try clear c8
 try clear c16
 try clear c40
 try clear c42
 obtain ⟨kq, x197_43, rfl, HA, HJ43, HO_23, HB⟩ := hcut
 cases kq with
 | zero => exact absurd HA.out (by simp [laws_FnDrillsMistakenOfAll.j2])
 | succ kj43 =>
  have H := HA.out
  clear HA
  simp only [laws_FnDrillsMistakenOfAll.j2] at H
  by_cases c54 : x197_43 = true
  ·
   subst c54
   have H1 : (some false) = some r := by rw [if_pos rfl] at H; exact H
   clear H
   have H := H1
   clear H1
   exact absurd (H.trans (congrArg some HE_.out)) (by simp)
  ·
   replace c54 := Bool.eq_false_iff.mpr c54
   subst c54
   have H1 : ((laws_doneLoop.f kj43 a0 t233 t245 t250 t237).bind fun t254 => (if t254 = true then (laws_FnDrillsMistakenOfAll.l0 kj43 a3 a4 a5 a6 a7 l8 t237 0 l2 (l2.length : Int) 0) else (some false))) = some r := by rw [if_neg (show ¬ (false = true) by decide)] at H; exact H
   clear H
   have H := H1
   clear H1
   replace H := Option.bind_eq_some_iff.mp H
   obtain ⟨t254, A550, H⟩ := H
   replace H : (if t254 = true then (laws_FnDrillsMistakenOfAll.l0 kj43 a3 a4 a5 a6 a7 l8 t237 0 l2 (l2.length : Int) 0) else (some false)) = some r := H
   have A55 := Aside0.mk A550
   clear A550
   by_cases c56 : t254 = true
   ·
    subst c56
    have H1 : (laws_FnDrillsMistakenOfAll.l0 kj43 a3 a4 a5 a6 a7 l8 t237 0 l2 (l2.length : Int) 0) = some r := by rw [if_pos rfl] at H; exact H
    clear H
    have H := H1
    clear H1
    have H' := Aside0.mk H
    clear H
    obtain ⟨Ao57, co57, eo57⟩ := Kd.R_slice HO_23.out
    subst eo57
    go_wp2
    have hl1 : a0.size ≤ 1000000000 ∧ laws_doneLoop.l0 kj43 a0 t233 t245 t250 t237 0 = some true := by
     have h := A55.out
     unfold laws_doneLoop.f at h
     split at h
     · rename_i c; exact ⟨c, h⟩
     · cases h
    have HZ := Aside0.mk hl1.1
    have HL := Aside0.mk hl1.2
    clear hl1 A55
    go_loopg [] kj43 (fun kq wr => ∃ i : Nat, Aside0 (laws_doneLoop.l0 kq a0 t233 t245 t250 t237 i = some true) ∧ Aside0 (kq ≤ kj43) ∧ Aside0 (Below w.heap.size w wr) ∧ Aside0 (Below wc.heap.size wc wr) ∧ Aside0 (wr.heap[wc.heap.size]? = some (.stringIter a0 i)))
    case atStart => exact ⟨0, HL, ⟨Nat.le_refl _⟩, ⟨below_alloc HB.out _⟩, ⟨below_alloc (Below.refl _ _) _⟩, ⟨World.iter_heap _ _ 0⟩⟩
    case round =>
     have HW : Aside0 (w.heap.size ≤ wc.heap.size) := ⟨HB.out.size⟩
     clear HL HB
     obtain ⟨i, HA, HK, HB, HC, HI⟩ := hrel
     cases gk with
     | zero => exact absurd HA.out (by simp [laws_doneLoop.l0])
     | succ kl =>
      have h := HA.out
      clear HA
      rw [laws_doneLoop.l0] at h
      by_cases c : i < a0.size
      ·
       rw [if_pos c] at h
       by_cases c2 : bt a0 (i : Int) < 128 ∧ i < t233.size ∧ i < t245.size ∧ i < t250.size
       ·
        rw [if_pos c2] at h
        replace h := Option.bind_eq_some_iff.mp h
        obtain ⟨⟨y1, y2⟩, hy, h⟩ := h
        replace h := Option.bind_eq_some_iff.mp h
        obtain ⟨y3, hv, h⟩ := h
        by_cases c3 : y2 = true ∧ y1 = t250.extract i (i + 1) ∧ y3 = (bt t233 (i : Int) != bt t250 (i : Int)) ∧ y3 = !(bt t245 (i : Int) == 83)
        ·
         obtain ⟨e1, e2, e3, e4⟩ := c3
         have H2 : Aside0 (laws_doneLoop.l0 kl a0 t233 t245 t250 t237 (i + 1) = some true) := ⟨by
          have h2 := h
          rw [if_pos ⟨e1, e2, e3, e4⟩] at h2
          exact h2⟩
         clear h
         subst e1
         subst e2
         obtain ⟨c2, ca, cc, cp⟩ := c2
         have hz := HZ.out
         have ha : (a0[i]'c).toNat < 128 := by
          have e := bt_at a0 (i : Int) (by simpa using c)
          simp only [Int.toNat_natCast] at e
          rw [← e] at c2
          omega
         obtain ⟨x, hx⟩ : ∃ x : Int, x = (i : Int) := ⟨_, rfl⟩
         obtain ⟨rn, hnx⟩ : ∃ rn : Int, ∀ ty, (Instr.next (.pointer (some ⟨wc.heap.size, 0, none⟩)) true ty).run Tryd.prog wr = .ok (.tuple #[.bool true, .int .i64 x, .int .i32 rn]) (wr.iterAt wc.heap.size a0 (i + 1)) := ⟨_, fun ty => by rw [hx]; exact Lib.run_next_ascii_at wr wc.heap.size a0 i ty HI.out c ha⟩
         have hw1 : wrap64 (x + 1) = x + 1 := by rw [hx]; unfold wrap64; omega
         have hxn : x.toNat = i := by rw [hx, Int.toNat_natCast]
         have hxn1 : (wrap64 (x + 1)).toNat = i + 1 := by rw [hw1, hx]; omega
         rw [← hx] at hv e3 e4
         have hy2 : impl_FacingAfter.f kl (t233.extract x.toNat (wrap64 (x + 1)).toNat) (t245.extract x.toNat (wrap64 (x + 1)).toNat) = some (t250.extract x.toNat (wrap64 (x + 1)).toNat, true) := by rw [hxn, hxn1]; exact hy
         have HY := Aside0.mk hy2
         have HV := Aside0.mk hv
         have HI2 := Aside0.mk (Lib.iterAt_heap wr wc.heap.size a0 i (i + 1) HI.out)
         have HB2 := Aside0.mk (Lib.below_iterAt HB.out (k := wc.heap.size) HW.out a0 (i + 1))
         have HC2 := Aside0.mk (Lib.below_iterAt HC.out (k := wc.heap.size) (Nat.le_refl _) a0 (i + 1))
         obtain ⟨W, hWd⟩ : ∃ W, wr.iterAt wc.heap.size a0 (i + 1) = W := ⟨_, rfl⟩
         rw [hWd] at hnx HI2 HB2 HC2
         have s1 : decide ((0 : Int) ≤ x) = true := decide_eq_true (by rw [hx]; omega)
         have s2 : decide (x ≤ wrap64 (x + 1)) = true := decide_eq_true (by rw [hw1]; omega)
         have sa : decide (wrap64 (x + 1) ≤ (t233.size : Int)) = true := decide_eq_true (by rw [hw1, hx]; omega)
         have sc : decide (wrap64 (x + 1) ≤ (t245.size : Int)) = true := decide_eq_true (by rw [hw1, hx]; omega)
         have sp : decide (wrap64 (x + 1) ≤ (t250.size : Int)) = true := decide_eq_true (by rw [hw1, hx]; omega)
         have ja : decide (x < (t233.size : Int)) = true := decide_eq_true (by rw [hx]; omega)
         have jc : decide (x < (t245.size : Int)) = true := decide_eq_true (by rw [hx]; omega)
         have jp : decide (x < (t250.size : Int)) = true := decide_eq_true (by rw [hx]; omega)
         have u1 := eq_true (of_decide_eq_true s1)
         have u2 := eq_true (of_decide_eq_true s2)
         have ua := eq_true (of_decide_eq_true sa)
         have uc := eq_true (of_decide_eq_true sc)
         have up := eq_true (of_decide_eq_true sp)
         have va := eq_true (of_decide_eq_true ja)
         have vc := eq_true (of_decide_eq_true jc)
         have vp := eq_true (of_decide_eq_true jp)
         have hwx : IntKind.i64.wrap (x + 1) = wrap64 (x + 1) := i64_w _
         have ba := bt_at t233 x
         have bc := bt_at t245 x
         have bp := bt_at t250 x
         have HE3 := Aside0.mk (And.intro e3 e4)
         clear hy hy2 hv HI HB HC hWd hw1 hz ha c2 c ca cc cp hxn hxn1 e3 e4 hx
         go_wp2
         have n0_ := Aside0.mk (below_drew HB2.out)
         have n1_ : Aside0 (W.drew.heap[wc.heap.size]? = some (.stringIter a0 (i + 1))) := ⟨HI2.out⟩
         have n2_ := Aside0.mk (below_drew HC2.out)
         clear HB2 HI2 HC2
         have HB2 := n0_
         have HI2 := n1_
         have HC2 := n2_
         clear n0_ n1_ n2_
         go_region_with (go_at_call 12; (with_reducible refine (impl_FacingAfter.calls kl (t233.extract x.toNat (wrap64 (x + 1)).toNat) (t245.extract x.toNat (wrap64 (x + 1)).toNat) (t250.extract x.toNat (wrap64 (x + 1)).toNat) true _ HY.out).mono ?_); rintro e w1 ⟨rfl, hb⟩; have n0_ := Aside0.mk (below_step HB2.out hb); have n1_ := Aside0.mk ((hb.block _ (Array.getElem?_eq_some_iff.1 HI2.out).1).trans HI2.out); have n2_ := Aside0.mk (below_then HC2.out HC2.out.size hb); have HO_ := Aside0.mk (Kd.R_below HO_23.out n2_.out); clear HB2 HI2 HC2 hb; have HB2 := n0_; have HI2 := n1_; have HC2 := n2_; clear n0_ n1_ n2_)
         go_wp2_with (go_at_call 15; (with_reducible refine (laws_vHas.calls kl _ _ t237 x y3 _ ?side1 ?side2 HV.out).mono ?_); (case side1 => repeat (first | exact (Kd.R_reads' HO_.out).2.2 | (with_reducible refine Kd.C_alloc ?_ _) | (with_reducible refine Kd.C_drewN ?_ _) | (with_reducible refine Kd.C_drew ?_))); (case side2 => exact (Kd.R_reads' HO_.out).2.1); rintro e w' ⟨rfl, ⟨nd, rfl⟩⟩)
         by_cases q : bt t233 x = bt t250 x
         ·
          have q1 : (bt t233 x == bt t250 x) = true := by simpa using q
          have q2 : (bt t233 x != bt t250 x) = false := by simpa using q
          have q3 : decide (bt t233 x = bt t250 x) = true := by simpa using q
          obtain ⟨e3, e4⟩ := HE3.out
          rw [q2] at e3
          have r1 : (bt t245 x == 83) = true := by rw [e3] at e4; simpa using e4.symm
          have r2 : (bt t245 x != 83) = false := by simpa using r1
          have r3 : decide (bt t245 x = 83) = true := by simpa using r1
          clear HE3 e4 q
          subst e3
          go_quiet (fail)
          go_wp2
          go_roundg kl
          case measure => omega
          case rel => exact ⟨i + 1, H2, ⟨by have := HK.out; omega⟩, ⟨by repeat (first | (with_reducible first | exact HB2.out | apply below_alloc | apply pw_below_drewN | apply below_drew1) | exact HB2.out)⟩, ⟨by repeat (first | (with_reducible first | exact HC2.out | apply below_alloc | apply pw_below_drewN | apply below_drew1) | exact HC2.out)⟩, ⟨HI2.out⟩⟩
         ·
          have q1 : (bt t233 x == bt t250 x) = false := by simpa using q
          have q2 : (bt t233 x != bt t250 x) = true := by simpa using q
          have q3 : decide (bt t233 x = bt t250 x) = false := by simpa using q
          obtain ⟨e3, e4⟩ := HE3.out
          rw [q2] at e3
          have r1 : (bt t245 x == 83) = false := by rw [e3] at e4; simpa using e4.symm
          have r2 : (bt t245 x != 83) = true := by simpa using r1
          have r3 : decide (bt t245 x = 83) = false := by simpa using r1
          clear HE3 e4 q
          subst e3
          go_quiet (fail)
          go_wp2
          go_roundg kl
          case measure => omega
          case rel => exact ⟨i + 1, H2, ⟨by have := HK.out; omega⟩, ⟨by repeat (first | (with_reducible first | exact HB2.out | apply below_alloc | apply pw_below_drewN | apply below_drew1) | exact HB2.out)⟩, ⟨by repeat (first | (with_reducible first | exact HC2.out | apply below_alloc | apply pw_below_drewN | apply below_drew1) | exact HC2.out)⟩, ⟨HI2.out⟩⟩
        · exact absurd h (by rw [if_neg c3]; simp)
       · rw [if_neg c2] at h; cases h
      ·
       have hnx : ∀ ty, (Instr.next (.pointer (some ⟨wc.heap.size, 0, none⟩)) true ty).run Tryd.prog wr = _ := fun ty => Lib.run_next_end_at wr wc.heap.size a0 i ty HI.out c
       have n0_ := Aside0.mk (Kd.R_below HO_23.out HC.out)
       clear HO_23
       have HO_23 := n0_
       clear h c HI HC n0_
       go_wp2
       go_loopg [37, 252] kj43 (fun kq v37 v252 w' => ∃ (x37_4 : Int) (x252_4 : Int), v37 = .int .i64 x37_4 ∧ v252 = .int .i64 x252_4 ∧ Aside0 (laws_FnDrillsMistakenOfAll.l0 kq a3 a4 a5 a6 a7 l8 t237 x37_4 l2 (l2.length : Int) x252_4 = some r) ∧ Aside0 (kq ≤ kj43) ∧ Aside0 (Kd.R (Kd.int .i64) 3 w' w.heap.size (fun _ => True) (.slice Ao57 t237.length co57) t237) ∧ Aside0 (Below w.heap.size w w'))
       case atStart => exact ⟨(0), (0), (by first | rfl | (simp; done) | (simp [*]; done)), (by first | rfl | (simp; done) | (simp [*]; done)), H', ⟨Nat.le_refl _⟩, ⟨by (with_reducible repeat (first | apply Kd.R_alloc | apply Kd.R_drewN | apply Kd.R_drew)); exact HO_23.out⟩, ⟨by repeat (first | (with_reducible first | exact HB.out | apply below_alloc | apply pw_below_drewN | apply below_drew1) | exact HB.out)⟩⟩
       case round =>
        clear H'
        try clear c2
        try clear c8
        try clear c16
        try clear c40
        try clear c42
        try clear c54
        try clear c56
        obtain ⟨x37_4, x252_4, rfl, rfl, HA, HK4, HO_23, HB⟩ := hrel
        cases gk with
        | zero => exact absurd HA.out (by simp [laws_FnDrillsMistakenOfAll.l0])
        | succ k4 =>
         have H := HA.out
         clear HA
         simp only [laws_FnDrillsMistakenOfAll.l0] at H
         by_cases c59 : x252_4 < (l2.length : Int)
         ·
          rw [if_pos c59] at H
          have c59b0 : decide (x252_4 < (l2.length : Int)) = true := decide_eq_true c59
          clear c59
          by_cases c60 : 0 ≤ x252_4
          ·
           rw [if_pos c60] at H
           have c60b0 : decide (0 ≤ x252_4) = true := decide_eq_true c60
           clear c60
           by_cases c61 : x252_4 < (l2.length : Int)
           ·
            rw [if_pos c61] at H
            have c61b0 : decide (x252_4 < (l2.length : Int)) = true := decide_eq_true c61
            clear c61
            by_cases c62 : ((rd_T34 l2 x252_4).f0) = 0
            ·
             rw [if_pos c62] at H
             have c62b0 : (((rd_T34 l2 x252_4).f0) == 0) = true := beq_iff_eq.mpr c62
             have c62b1 : (((rd_T34 l2 x252_4).f0) != 0) = false := bne_eq_false_iff_eq.mpr c62
             clear c62
             have H' := Aside0.mk H
             clear H
             have p255 : 0 ≤ (x252_4 : Int) := of_decide_eq_true (by first | (with_reducible assumption) | assumption)
             have q255 : x252_4 < (l2.length : Int) := of_decide_eq_true (by first | (with_reducible assumption) | assumption)
             obtain ⟨ad255, e255, hx255_0, hx255_1, hx255_2⟩ := at_T34 HR2.out x252_4 p255 q255
             cases e255
             replace hx255_0 := (HB.out.cell (World.block_lt_of_cell? w _ hx255_0)).trans hx255_0
             replace hx255_1 := (HB.out.cell (World.block_lt_of_cell? w _ hx255_1)).trans hx255_1
             replace hx255_2 := (HB.out.cell (World.block_lt_of_cell? w _ hx255_2)).trans hx255_2
             replace p255 := eq_true p255
             replace q255 := eq_true q255
             go_wp2_with (first | ((with_reducible refine gate_dst (N := 39) rfl ?_); (try (refine gate_guard (by rfl) ?_; dsimp only)); refine box_event ?hg (N := 39) ?hd (cs := #[.int .i64 0, .int .i64 0, .string (⟨#[]⟩ : ByteArray)]) (t := 34) ?hr ?_; (case hd => rfl); (case hg => rfl); (case hr => first | (go_simp; done) | (go_simp; rfl)); intro gb256 hg w63 hbox hb; have n0_ := Aside0.mk (Kd.R_below (by (with_reducible repeat (first | apply Kd.R_alloc | apply Kd.R_drewN | apply Kd.R_drew)); exact HO_23.out) hb); have n1_ := Aside0.mk (below_step (by repeat (first | (with_reducible first | exact HB.out | apply below_alloc | apply pw_below_drewN | apply below_drew1) | exact HB.out)) hb); have n2_ := Aside0.mk (hbox); have n3_ := Aside0.mk ((by rw [hg]; exact (below_size (by repeat (first | (with_reducible first | exact HB.out | apply below_alloc | apply pw_below_drewN | apply below_drew1) | exact HB.out))) : w.heap.size ≤ gb256)); have n4_ := Aside0.mk ((by rw [hg]; exact (below_size (by repeat (first | (with_reducible first | exact HB.out | apply below_alloc | apply pw_below_drewN | apply below_drew1) | exact HB.out))) : w.heap.size ≤ gb256)); clear HO_23; clear HB; have HO_23 := n0_; have HB := n1_; have BK256 := n2_; have GW256 := n3_; have GE256 := n4_; clear n0_ n1_ n2_ n3_ n4_; clear hb hbox hg; have hcz64_0 : w63.cell? ⟨gb256, 0, none⟩ = some (.int .i64 0) := (blk_cell BK256.out 0).trans rfl; have hcz64_1 : w63.cell? ⟨gb256, 1, none⟩ = some (.int .i64 0) := (blk_cell BK256.out 1).trans rfl; have hcz64_2 : w63.cell? ⟨gb256, 2, none⟩ = some (.string (⟨#[]⟩ : ByteArray)) := (blk_cell BK256.out 2).trans rfl; have hfz64_0 := blk_frozen BK256.out 0; have hfz64_1 := blk_frozen BK256.out 1; have hfz64_2 := blk_frozen BK256.out 2))
             go_roundg k4
             case measure => have := HJ9.out; have := HJ22.out; have := HJ43.out; have := HK4.out; omega
             case rel => exact ⟨(wrap64 (x37_4 + 1)), (wrap64 (x252_4 + 1)), (by first | rfl | (simp; done) | (simp [*]; done)), (by first | rfl | (simp; done) | (simp [*]; done)), H', ⟨by have := HJ9.out; have := HJ22.out; have := HJ43.out; have := HK4.out; omega⟩, ⟨by (with_reducible repeat (first | apply Kd.R_alloc | apply Kd.R_drewN | apply Kd.R_drew)); exact Kd.R_mono (Kd.R_far (p := ⟨gb256, 2, none⟩) (Kd.R_far (p := ⟨gb256, 1, none⟩) (Kd.R_far (p := ⟨gb256, 0, none⟩) (Kd.R_types HO_23.out BK256.out (by decide)) (fun _ hk => hk.2) (.int .i64 ((rd_T34 l2 x252_4).f0))) (fun _ hk => hk.2) (.int .i64 ((rd_T34 l2 x252_4).f1))) (fun _ hk => hk.2) (.string ((rd_T34 l2 x252_4).f2))) (fun _ hk => trivial)⟩, ⟨by repeat (first | (with_reducible first | exact HB.out | apply below_alloc | apply pw_below_drewN | apply below_drew1 | refine below_set ?_ GE256.out) | exact HB.out)⟩⟩
            ·
             rw [if_neg c62] at H
             have c62b0 : (((rd_T34 l2 x252_4).f0) == 0) = false := beq_eq_false_iff_ne.mpr c62
             have c62b1 : (((rd_T34 l2 x252_4).f0) != 0) = true := bne_iff_ne.mpr c62
             have H' := Aside0.mk H
             clear H
             have p255 : 0 ≤ (x252_4 : Int) := of_decide_eq_true (by first | (with_reducible assumption) | assumption)
             have q255 : x252_4 < (l2.length : Int) := of_decide_eq_true (by first | (with_reducible assumption) | assumption)
             obtain ⟨ad255, e255, hx255_0, hx255_1, hx255_2⟩ := at_T34 HR2.out x252_4 p255 q255
             cases e255
             replace hx255_0 := (HB.out.cell (World.block_lt_of_cell? w _ hx255_0)).trans hx255_0
             replace hx255_1 := (HB.out.cell (World.block_lt_of_cell? w _ hx255_1)).trans hx255_1
             replace hx255_2 := (HB.out.cell (World.block_lt_of_cell? w _ hx255_2)).trans hx255_2
             replace p255 := eq_true p255
             replace q255 := eq_true q255
             go_wp2_with (first | ((with_reducible refine gate_dst (N := 39) rfl ?_); (try (refine gate_guard (by rfl) ?_; dsimp only)); refine box_event ?hg (N := 39) ?hd (cs := #[.int .i64 0, .int .i64 0, .string (⟨#[]⟩ : ByteArray)]) (t := 34) ?hr ?_; (case hd => rfl); (case hg => rfl); (case hr => first | (go_simp; done) | (go_simp; rfl)); intro gb256 hg w65 hbox hb; have n0_ := Aside0.mk (Kd.R_below (by (with_reducible repeat (first | apply Kd.R_alloc | apply Kd.R_drewN | apply Kd.R_drew)); exact HO_23.out) hb); have n1_ := Aside0.mk (below_step (by repeat (first | (with_reducible first | exact HB.out | apply below_alloc | apply pw_below_drewN | apply below_drew1) | exact HB.out)) hb); have n2_ := Aside0.mk (hbox); have n3_ := Aside0.mk ((by rw [hg]; exact (below_size (by repeat (first | (with_reducible first | exact HB.out | apply below_alloc | apply pw_below_drewN | apply below_drew1) | exact HB.out))) : w.heap.size ≤ gb256)); have n4_ := Aside0.mk ((by rw [hg]; exact (below_size (by repeat (first | (with_reducible first | exact HB.out | apply below_alloc | apply pw_below_drewN | apply below_drew1) | exact HB.out))) : w.heap.size ≤ gb256)); clear HO_23; clear HB; have HO_23 := n0_; have HB := n1_; have BK256 := n2_; have GW256 := n3_; have GE256 := n4_; clear n0_ n1_ n2_ n3_ n4_; clear hb hbox hg; have hcz66_0 : w65.cell? ⟨gb256, 0, none⟩ = some (.int .i64 0) := (blk_cell BK256.out 0).trans rfl; have hcz66_1 : w65.cell? ⟨gb256, 1, none⟩ = some (.int .i64 0) := (blk_cell BK256.out 1).trans rfl; have hcz66_2 : w65.cell? ⟨gb256, 2, none⟩ = some (.string (⟨#[]⟩ : ByteArray)) := (blk_cell BK256.out 2).trans rfl; have hfz66_0 := blk_frozen BK256.out 0; have hfz66_1 := blk_frozen BK256.out 1; have hfz66_2 := blk_frozen BK256.out 2))
             go_roundg k4
             case measure => have := HJ9.out; have := HJ22.out; have := HJ43.out; have := HK4.out; omega
             case rel => exact ⟨(x37_4), (wrap64 (x252_4 + 1)), (by first | rfl | (simp; done) | (simp [*]; done)), (by first | rfl | (simp; done) | (simp [*]; done)), H', ⟨by have := HJ9.out; have := HJ22.out; have := HJ43.out; have := HK4.out; omega⟩, ⟨by (with_reducible repeat (first | apply Kd.R_alloc | apply Kd.R_drewN | apply Kd.R_drew)); exact Kd.R_mono (Kd.R_far (p := ⟨gb256, 2, none⟩) (Kd.R_far (p := ⟨gb256, 1, none⟩) (Kd.R_far (p := ⟨gb256, 0, none⟩) (Kd.R_types HO_23.out BK256.out (by decide)) (fun _ hk => hk.2) (.int .i64 ((rd_T34 l2 x252_4).f0))) (fun _ hk => hk.2) (.int .i64 ((rd_T34 l2 x252_4).f1))) (fun _ hk => hk.2) (.string ((rd_T34 l2 x252_4).f2))) (fun _ hk => trivial)⟩, ⟨by repeat (first | (with_reducible first | exact HB.out | apply below_alloc | apply pw_below_drewN | apply below_drew1 | refine below_set ?_ GE256.out) | exact HB.out)⟩⟩
           ·
            rw [if_neg c61] at H
            exact absurd H (by simp)
          ·
           rw [if_neg c60] at H
           exact absurd H (by simp)
         ·
          rw [if_neg c59] at H
          have c59b0 : decide (x252_4 < (l2.length : Int)) = false := decide_eq_false c59
          clear c59
          by_cases c67 : x37_4 = 0
          ·
           rw [if_pos c67] at H
           have c67b0 : (x37_4 == 0) = true := beq_iff_eq.mpr c67
           have c67b1 : (x37_4 != 0) = false := bne_eq_false_iff_eq.mpr c67
           clear c67
           replace H := Option.bind_eq_some_iff.mp H
           obtain ⟨t257, A680, H⟩ := H
           replace H : (if t257 = true then (some false) else (if x37_4 = 1 then ((laws_vHas.f k4 t237 0).bind fun t258 => (if t258 = true then (laws_FnDrillsMistakenOfAll.j4 k4 a3 a4 a5 a6 a7 l8) else (some false))) else (laws_FnDrillsMistakenOfAll.j4 k4 a3 a4 a5 a6 a7 l8))) = some r := H
           have A68 := Aside0.mk A680
           clear A680
           by_cases c69 : t257 = true
           ·
            subst c69
            have H1 : (some false) = some r := by rw [if_pos rfl] at H; exact H
            clear H
            have H := H1
            clear H1
            exact absurd (H.trans (congrArg some HE_.out)) (by simp)
           ·
            replace c69 := Bool.eq_false_iff.mpr c69
            subst c69
            have H1 : (if x37_4 = 1 then ((laws_vHas.f k4 t237 0).bind fun t258 => (if t258 = true then (laws_FnDrillsMistakenOfAll.j4 k4 a3 a4 a5 a6 a7 l8) else (some false))) else (laws_FnDrillsMistakenOfAll.j4 k4 a3 a4 a5 a6 a7 l8)) = some r := by rw [if_neg (show ¬ (false = true) by decide)] at H; exact H
            clear H
            have H := H1
            clear H1
            by_cases c70 : x37_4 = 1
            ·
             rw [if_pos c70] at H
             have c70b0 : (x37_4 == 1) = true := beq_iff_eq.mpr c70
             have c70b1 : (x37_4 != 1) = false := bne_eq_false_iff_eq.mpr c70
             clear c70
             replace H := Option.bind_eq_some_iff.mp H
             obtain ⟨t258, A710, H⟩ := H
             replace H : (if t258 = true then (laws_FnDrillsMistakenOfAll.j4 k4 a3 a4 a5 a6 a7 l8) else (some false)) = some r := H
             have A71 := Aside0.mk A710
             clear A710
             by_cases c72 : t258 = true
             ·
              subst c72
              have H1 : (laws_FnDrillsMistakenOfAll.j4 k4 a3 a4 a5 a6 a7 l8) = some r := by rw [if_pos rfl] at H; exact H
              clear H
              have H := H1
              clear H1
              have H' := Aside0.mk H
              clear H
              exact absurd (A68.out.symm.trans A71.out) (by simp)
             ·
              replace c72 := Bool.eq_false_iff.mpr c72
              subst c72
              have H1 : (some false) = some r := by rw [if_neg (show ¬ (false = true) by decide)] at H; exact H
              clear H
              have H := H1
              clear H1
              exact absurd (H.trans (congrArg some HE_.out)) (by simp)
            ·
             rw [if_neg c70] at H
             have c70b0 : (x37_4 == 1) = false := beq_eq_false_iff_ne.mpr c70
             have c70b1 : (x37_4 != 1) = true := bne_iff_ne.mpr c70
             have H' := Aside0.mk H
             clear H
             go_wp2_with (first | (go_at_call 15; (with_reducible refine (laws_vHas.calls k4 _ _ t237 0 false _ ?side1 ?side2 A68.out).mono ?_); (case side1 => repeat (first | exact (Kd.R_reads' HO_23.out).2.2 | (with_reducible refine Kd.C_alloc ?_ _) | (with_reducible refine Kd.C_drewN ?_ _) | (with_reducible refine Kd.C_drew ?_))); (case side2 => exact (Kd.R_reads' HO_23.out).2.1); rintro e w' ⟨rfl, ⟨nd, rfl⟩⟩))
             go_meet
             case rel => exact ⟨_, H', ⟨by have := HJ9.out; have := HJ22.out; have := HJ43.out; have := HK4.out; first | omega | exact Nat.le_refl _⟩, ⟨by repeat (first | (with_reducible first | exact HB.out | apply below_alloc | apply pw_below_drewN | apply below_drew1) | exact HB.out)⟩⟩
          ·
           rw [if_neg c67] at H
           have c67b0 : (x37_4 == 0) = false := beq_eq_false_iff_ne.mpr c67
           have c67b1 : (x37_4 != 0) = true := bne_iff_ne.mpr c67
           by_cases c73 : x37_4 = 1
           ·
            rw [if_pos c73] at H
            have c73b0 : (x37_4 == 1) = true := beq_iff_eq.mpr c73
            have c73b1 : (x37_4 != 1) = false := bne_eq_false_iff_eq.mpr c73
            clear c73
            replace H := Option.bind_eq_some_iff.mp H
            obtain ⟨t259, A740, H⟩ := H
            replace H : (if t259 = true then (laws_FnDrillsMistakenOfAll.j4 k4 a3 a4 a5 a6 a7 l8) else (some false)) = some r := H
            have A74 := Aside0.mk A740
            clear A740
            by_cases c75 : t259 = true
            ·
             subst c75
             have H1 : (laws_FnDrillsMistakenOfAll.j4 k4 a3 a4 a5 a6 a7 l8) = some r := by rw [if_pos rfl] at H; exact H
             clear H
             have H := H1
             clear H1
             have H' := Aside0.mk H
             clear H
             go_wp2_with (first | (go_at_call 15; (with_reducible refine (laws_vHas.calls k4 _ _ t237 0 true _ ?side1 ?side2 A74.out).mono ?_); (case side1 => repeat (first | exact (Kd.R_reads' HO_23.out).2.2 | (with_reducible refine Kd.C_alloc ?_ _) | (with_reducible refine Kd.C_drewN ?_ _) | (with_reducible refine Kd.C_drew ?_))); (case side2 => exact (Kd.R_reads' HO_23.out).2.1); rintro e w' ⟨rfl, ⟨nd, rfl⟩⟩))
             go_meet
             case rel => exact ⟨_, H', ⟨by have := HJ9.out; have := HJ22.out; have := HJ43.out; have := HK4.out; first | omega | exact Nat.le_refl _⟩, ⟨by repeat (first | (with_reducible first | exact HB.out | apply below_alloc | apply pw_below_drewN | apply below_drew1) | exact HB.out)⟩⟩
            ·
             replace c75 := Bool.eq_false_iff.mpr c75
             subst c75
             have H1 : (some false) = some r := by rw [if_neg (show ¬ (false = true) by decide)] at H; exact H
             clear H
             have H := H1
             clear H1
             exact absurd (H.trans (congrArg some HE_.out)) (by simp)
           ·
            rw [if_neg c73] at H
            have c73b0 : (x37_4 == 1) = false := beq_eq_false_iff_ne.mpr c73
            have c73b1 : (x37_4 != 1) = true := bne_iff_ne.mpr c73
            have H' := Aside0.mk H
            clear H
            go_wp2
            go_meet
            case rel => exact ⟨_, H', ⟨by have := HJ9.out; have := HJ22.out; have := HJ43.out; have := HK4.out; first | omega | exact Nat.le_refl _⟩, ⟨by repeat (first | (with_reducible first | exact HB.out | apply below_alloc | apply pw_below_drewN | apply below_drew1) | exact HB.out)⟩⟩
   ·
    replace c56 := Bool.eq_false_iff.mpr c56
    subst c56
    have H1 : (some false) = some r := by rw [if_neg (show ¬ (false = true) by decide)] at H; exact H
    clear H
    have H := H1
    clear H1
    exact absurd (H.trans (congrArg some HE_.out)) (by simp)
end Go.Proofs.YtgdmbhldabeelaaRDoor.PFnDrillsMistakenOfAll
