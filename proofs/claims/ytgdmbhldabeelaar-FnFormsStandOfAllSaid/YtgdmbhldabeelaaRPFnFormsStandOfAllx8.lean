-- Written by a program of this session's (pg.py) over the kit's print.
import Derived.Test.YtgdmbhldabeelaaRPFnFormsStandOfAllx0
import Derived.Test.YtgdmbhldabeelaaRPFnFormsStandOfAllx1
import Derived.Test.YtgdmbhldabeelaaRPFnFormsStandOfAllx2
import Derived.Test.YtgdmbhldabeelaaRPFnFormsStandOfAllx3
import Derived.Test.YtgdmbhldabeelaaRPFnFormsStandOfAllx4
import Derived.Test.YtgdmbhldabeelaaRPFnFormsStandOfAllx5
import Derived.Test.YtgdmbhldabeelaaRPFnFormsStandOfAllx6
import Derived.Deep.CutRange
import Derived.Test.YtgdmbhldabeelaaRPFnFormsStandOfAllx7
namespace Go.Proofs.YtgdmbhldabeelaaR.PFnFormsStandOfAll
open Go.RowKit Go.Proofs.YtgdmbhldabeelaaRW.PrintWords Go.Proofs.YtgdmbhldabeelaaRW.PrintLast Go.Proofs.YtgdmbhldabeelaaRW.PrintMore
attribute [local go_sem] max2_int min2_int max_two min_two max_three min_three max_four min_four   -- for this text's walks alone
set_option linter.unusedVariables false
set_option linter.unusedSimpArgs false


set_option maxHeartbeats 8000000 in
set_option maxRecDepth 100000 in
def laws_FnFormsStandOfAll.part2 : Σ' (R1 R2 : Prop), PLift R1 → PLift R2 → (laws_FnFormsStandOfAll.part0.2.1) := by
 refine' ⟨_, _, fun hole1 hole2 => _⟩
 rotate_left 2
 ·
  conv => whnf
  intro t255 t259 t219 t223 t227 t231 t247 t251 r HE_ t220 t224 t228 t232 t237 t240 t243 t246 t248 t252 t256 t260 k nd nd nd nd a0 A11 A12 A13 A14 A19 A20 A21 A22 a1 a2 a3 a4 a5 a6 a7 a8 a9 t235 t236 A15 t238 t239 A16 t241 t242 A17 t244 t245 A18 HC23 K K v221 v225 v229 v233 v249 v253 v257 v261 u164 u165 u166 u167 u168 u169 u170 u171 u172 u173 u174 u175 u176 u177 u178 u179 u180 u181 u182 u183 u184 u185 u186 u187 u188 u189 u190 u191 u192 u193 u194 u195 u196 u197 u198 u199 u200 u201 u202 u203 u204 u205 u206 u207 u208 u209 u210 u211 u212 u213 u214 u215 u216 u217 u218 u219 u220 u221 u222 u223 u224 u225 u226 u227 u228 u229 u230 u231 u232 u233 u234 u235 u236 u237 u238 u239 u240 u241 u242 u243 u244 u245 u246 u247 u248 u249 u250 u251 u252 u253 u254 u255 u256 u257 u258 u259 u260 w Q' a a w24 w25 w26 w27 w28 w29 w30 w31 HO222 HO226 HO230 HO234 HO250 HO254 HO258 HO262 HB wc hcut
  clear HC23
  obtain ⟨kq, x260_22, rfl, HA, HJ22, HO_21, HO_25, HO_41, HO_45, HB⟩ := hcut
  cases kq with
  | zero => exact absurd HA.out (by simp [laws_FnFormsStandOfAll.j0])
  | succ kj22 =>
   have H := HA.out
   clear HA
   simp only [laws_FnFormsStandOfAll.j0] at H
   by_cases c62 : x260_22 = true
   ·
    subst c62
    have H1 : (some false) = some r := by rw [if_pos rfl] at H; exact H
    clear H
    have H := H1
    clear H1
    exact absurd (H.trans (congrArg some HE_.out)) (by simp)
   ·
    replace c62 := Bool.eq_false_iff.mpr c62
    subst c62
    have H1 : (if t220 = true then (laws_FnFormsStandOfAll.l0 kj22 a0 a1 a2 a3 a4 a5 a6 a7 a8 a9 t219 t227 t235 t236 t241 t242 t247 t255 t219 (t219.length : Int) 0) else (laws_FnFormsStandOfAll.j6 kj22 a1 a2 a3 a4 a5 a6 a7 a8 a9)) = some r := by rw [if_neg (show ¬ (false = true) by decide)] at H; exact H
    clear H
    have H := H1
    clear H1
    have HC63 := Aside0.mk H
    clear H
    go_upto_if 261 with (fail)
    repeat (go_quiet (fail); go_upto_if 261 with (fail))
    go_cut [] from 260 to 525 (fun wc => ∃ (kq : Nat), Aside0 (laws_FnFormsStandOfAll.j6 kq a1 a2 a3 a4 a5 a6 a7 a8 a9 = some r) ∧ Aside0 (kq ≤ kj22) ∧ Aside0 (Below w.heap.size w wc))
    case first =>
     -- part 3
     (repeat revert ‹World›)
     (repeat revert ‹Value›)
     (repeat revert ‹Nat → Act → World → Prop›)
     (repeat revert ‹Act → World → Prop›)
     (repeat revert ‹Int›)
     (repeat revert ‹Nat›)
     (repeat revert ‹Bool›)
     (repeat revert ‹List (List Int)›)
     (repeat revert ‹List Int›)
     (repeat revert ‹Addr›)
     (repeat revert ‹Option Addr›)
     exact hole1.down
    case rest =>
     -- part 7
     (repeat revert ‹World›)
     (repeat revert ‹Value›)
     (repeat revert ‹Nat → Act → World → Prop›)
     (repeat revert ‹Act → World → Prop›)
     (repeat revert ‹Int›)
     (repeat revert ‹Nat›)
     (repeat revert ‹Bool›)
     (repeat revert ‹List (List Int)›)
     (repeat revert ‹List Int›)
     (repeat revert ‹Addr›)
     (repeat revert ‹Option Addr›)
     exact hole2.down

set_option maxHeartbeats 8000000 in
set_option maxRecDepth 100000 in
def laws_FnFormsStandOfAll.part3 : Σ' (R1 : Prop), PLift R1 → (laws_FnFormsStandOfAll.part2.1) := by
 refine' ⟨_, fun hole1 => _⟩
 rotate_left 1
 ·
  conv => whnf
  intro t255 t259 t219 t223 t227 t231 t247 t251 r HE_ t220 t224 t228 t232 t237 t240 t243 t246 t248 t252 t256 t260 k nd nd nd nd kj22 HJ22 a0 A11 A12 A13 A14 A19 A20 A21 A22 a1 a2 a3 a4 a5 a6 a7 a8 a9 t235 t236 A15 t238 t239 A16 t241 t242 A17 HC63 t244 t245 A18 K J K' a v221 v225 v229 v233 v249 v253 v257 v261 u164 u165 u166 u167 u168 u169 u170 u171 u172 u173 u174 u175 u176 u177 u178 u179 u180 u181 u182 u183 u184 u185 u186 u187 u188 u189 u190 u191 u192 u193 u194 u195 u196 u197 u198 u199 u200 u201 u202 u203 u204 u205 u206 u207 u208 u209 u210 u211 u212 u213 u214 u215 u216 u217 u218 u219 u220 u221 u222 u223 u224 u225 u226 u227 u228 u229 u230 u231 u232 u233 u234 u235 u236 u237 u238 u239 u240 u241 u242 u243 u244 u245 u246 u247 u248 u249 u250 u251 u252 u253 u254 u255 u256 u257 u258 u259 w Q' a a w24 w25 w26 w27 w28 w29 w30 w31 HO222 HO226 HO230 HO234 HO250 HO254 HO258 HO262 HB wc HO_21 HO_25 HO_41 HO_45 HB
  have H := HC63.out
  clear HC63
  by_cases c64 : t220 = true
  ·
   subst c64
   have H1 : (laws_FnFormsStandOfAll.l0 kj22 a0 a1 a2 a3 a4 a5 a6 a7 a8 a9 t219 t227 t235 t236 t241 t242 t247 t255 t219 (t219.length : Int) 0) = some r := by rw [if_pos rfl] at H; exact H
   clear H
   have H := H1
   clear H1
   have H' := Aside0.mk H
   clear H
   obtain ⟨Ao65, co65, eo65⟩ := Kd.S_slice HO_21.out
   subst eo65
   go_wp2
   repeat (go_quiet (fail); try go_wp2)
   go_loopg [264] kj22 (fun kq v264 w' => ∃ (x264_2 : Int), v264 = .int .i64 x264_2 ∧ Aside0 (laws_FnFormsStandOfAll.l0 kq a0 a1 a2 a3 a4 a5 a6 a7 a8 a9 t219 t227 t235 t236 t241 t242 t247 t255 t219 (t219.length : Int) x264_2 = some r) ∧ Aside0 (kq ≤ kj22) ∧ Aside0 (Kd.S (Kd.slice 3 (Kd.int .i64)) 27 w' w.heap.size (fun k_ => some k_ ≠ (v229 : Value).ownBlock ∧ some k_ ≠ (v249 : Value).ownBlock ∧ some k_ ≠ (v257 : Value).ownBlock) (.slice Ao65 t219.length co65) t219) ∧ Aside0 (Kd.S (Kd.slice 3 (Kd.int .i64)) 27 w' w.heap.size (fun k_ => some k_ ≠ ((.slice Ao65 t219.length co65) : Value).ownBlock ∧ some k_ ≠ (v249 : Value).ownBlock ∧ some k_ ≠ (v257 : Value).ownBlock ∧ some k_ ≠ ((.slice Ao65 t219.length co65) : Value).ownBlock) v229 t227) ∧ Aside0 (Kd.S (Kd.slice 3 (Kd.int .i64)) 27 w' w.heap.size (fun k_ => some k_ ≠ ((.slice Ao65 t219.length co65) : Value).ownBlock ∧ some k_ ≠ (v229 : Value).ownBlock ∧ some k_ ≠ (v257 : Value).ownBlock ∧ some k_ ≠ ((.slice Ao65 t219.length co65) : Value).ownBlock) v249 t247) ∧ Aside0 (Kd.R (Kd.int .i64) 3 w' w.heap.size (fun _ => True) v257 t255) ∧ Aside0 (Kd.S (Kd.slice 3 (Kd.int .i64)) 27 w' w.heap.size (fun k_ => some k_ ≠ (v229 : Value).ownBlock ∧ some k_ ≠ (v249 : Value).ownBlock ∧ some k_ ≠ (v257 : Value).ownBlock) (.slice Ao65 t219.length co65) t219) ∧ Aside0 (Below w.heap.size w w'))
   case atStart => exact ⟨(0), (by first | rfl | (simp; done) | (simp [*]; done)), H', ⟨Nat.le_refl _⟩, ⟨by (with_reducible repeat (first | apply Kd.S_alloc | apply Kd.S_drewN | apply Kd.S_drew)); exact HO_21.out⟩, ⟨by (with_reducible repeat (first | apply Kd.S_alloc | apply Kd.S_drewN | apply Kd.S_drew)); exact Kd.S_mono HO_25.out (fun _ hk => ⟨hk.1, ⟨hk.2.1, ⟨hk.2.2, hk.1⟩⟩⟩)⟩, ⟨by (with_reducible repeat (first | apply Kd.S_alloc | apply Kd.S_drewN | apply Kd.S_drew)); exact Kd.S_mono HO_41.out (fun _ hk => ⟨hk.1, ⟨hk.2.1, ⟨hk.2.2, hk.1⟩⟩⟩)⟩, ⟨by (with_reducible repeat (first | apply Kd.R_alloc | apply Kd.R_drewN | apply Kd.R_drew)); exact HO_45.out⟩, ⟨by (with_reducible repeat (first | apply Kd.S_alloc | apply Kd.S_drewN | apply Kd.S_drew)); exact HO_21.out⟩, ⟨by repeat (first | (with_reducible first | exact HB.out | apply below_alloc | apply pw_below_drewN | apply below_drew1) | exact HB.out)⟩⟩
   case round =>
    clear H'
    try clear c62
    try clear c64
    obtain ⟨x264_2, rfl, HA, HK2, HO_21, HO_25, HO_41, HO_45, HO_262, HB⟩ := hrel
    cases gk with
    | zero => exact absurd HA.out (by simp [laws_FnFormsStandOfAll.l0])
    | succ k2 =>
     have H := HA.out
     clear HA
     simp only [laws_FnFormsStandOfAll.l0] at H
     by_cases c66 : x264_2 < (t219.length : Int)
     ·
      rw [if_pos c66] at H
      have c66b0 : decide (x264_2 < (t219.length : Int)) = true := decide_eq_true c66
      clear c66
      (first | rw [c66b0] | (simp only [i64_w, i32_w]; rw [c66b0]) | skip)
      by_cases c67 : 0 ≤ x264_2
      ·
       rw [if_pos c67] at H
       have c67b0 : decide (0 ≤ x264_2) = true := decide_eq_true c67
       clear c67
       by_cases c68 : x264_2 < (t219.length : Int)
       ·
        rw [if_pos c68] at H
        have c68b0 : decide (x264_2 < (t219.length : Int)) = true := decide_eq_true c68
        clear c68
        by_cases c69 : ((rd_L1 t219 x264_2).length : Int) = 2
        ·
         rw [if_pos c69] at H
         have c69b0 : (((rd_L1 t219 x264_2).length : Int) == 2) = true := beq_iff_eq.mpr c69
         have c69b1 : (((rd_L1 t219 x264_2).length : Int) != 2) = false := bne_eq_false_iff_eq.mpr c69
         clear c69
         by_cases c70 : 0 < ((rd_L1 t219 x264_2).length : Int)
         ·
          rw [if_pos c70] at H
          have c70b0 : decide (0 < ((rd_L1 t219 x264_2).length : Int)) = true := decide_eq_true c70
          have c70b1 : decide (0 < (rd_L1 t219 x264_2).length) = true := decide_eq_true (by omega)
          clear c70
          by_cases c71 : (rd (rd_L1 t219 x264_2) 0) < 1
          ·
           rw [if_pos c71] at H
           exact absurd (H.trans (congrArg some HE_.out)) (by simp)
          ·
           rw [if_neg c71] at H
           have c71b0 : decide ((rd (rd_L1 t219 x264_2) 0) < 1) = false := decide_eq_false c71
           clear c71
           by_cases c72 : 1 < ((rd_L1 t219 x264_2).length : Int)
           ·
            rw [if_pos c72] at H
            have c72b0 : decide (1 < ((rd_L1 t219 x264_2).length : Int)) = true := decide_eq_true c72
            have c72b1 : decide (1 < (rd_L1 t219 x264_2).length) = true := decide_eq_true (by omega)
            clear c72
            by_cases c73 : (rd (rd_L1 t219 x264_2) 0) > (rd (rd_L1 t219 x264_2) 1)
            ·
             rw [if_pos c73] at H
             exact absurd (H.trans (congrArg some HE_.out)) (by simp)
            ·
             rw [if_neg c73] at H
             have c73b0 : decide ((rd (rd_L1 t219 x264_2) 1) < (rd (rd_L1 t219 x264_2) 0)) = false := decide_eq_false c73
             clear c73
             by_cases c74 : (wrap64 ((rd (rd_L1 t219 x264_2) 0) * (rd (rd_L1 t219 x264_2) 1))) = a0
             ·
              rw [if_pos c74] at H
              have c74b0 : ((wrap64 ((rd (rd_L1 t219 x264_2) 0) * (rd (rd_L1 t219 x264_2) 1))) == a0) = true := beq_iff_eq.mpr c74
              have c74b1 : ((wrap64 ((rd (rd_L1 t219 x264_2) 0) * (rd (rd_L1 t219 x264_2) 1))) != a0) = false := bne_eq_false_iff_eq.mpr c74
              clear c74
              by_cases c75 : x264_2 > 0
              ·
               rw [if_pos c75] at H
               have c75b0 : decide (0 < x264_2) = true := decide_eq_true c75
               clear c75
               obtain ⟨ji76, hji76⟩ : ∃ j_ : Int, (wrap64 (x264_2 - 1)) = j_ := ⟨_, rfl⟩
               replace H : (if 0 ≤ (ji76) then (if (ji76) < (t219.length : Int) then (if 0 < ((rd_L1 t219 (ji76)).length : Int) then (if (rd (rd_L1 t219 (ji76)) 0) ≥ (rd (rd_L1 t219 x264_2) 0) then (some false) else (laws_FnFormsStandOfAll.l0 k2 a0 a1 a2 a3 a4 a5 a6 a7 a8 a9 t219 t227 t235 t236 t241 t242 t247 t255 t219 (t219.length : Int) (wrap64 (x264_2 + 1)))) else (none)) else (none)) else (none)) = some r := by first | (rw [hji76] at H; exact H) | (simp only [hji76] at H ⊢; exact H)
               have hji76w : (IntKind.i64.wrap (x264_2 - 1)) = ji76 := (i64_w _).trans hji76
               by_cases c77 : 0 ≤ (ji76)
               ·
                rw [if_pos c77] at H
                have c77b0 : decide (0 ≤ (ji76)) = true := decide_eq_true c77
                clear c77
                by_cases c78 : (ji76) < (t219.length : Int)
                ·
                 rw [if_pos c78] at H
                 have c78b0 : decide ((ji76) < (t219.length : Int)) = true := decide_eq_true c78
                 clear c78
                 by_cases c79 : 0 < ((rd_L1 t219 (ji76)).length : Int)
                 ·
                  rw [if_pos c79] at H
                  have c79b0 : decide (0 < ((rd_L1 t219 (ji76)).length : Int)) = true := decide_eq_true c79
                  have c79b1 : decide (0 < (rd_L1 t219 (ji76)).length) = true := decide_eq_true (by omega)
                  clear c79
                  by_cases c80 : (rd (rd_L1 t219 (ji76)) 0) ≥ (rd (rd_L1 t219 x264_2) 0)
                  ·
                   rw [if_pos c80] at H
                   exact absurd (H.trans (congrArg some HE_.out)) (by simp)
                  ·
                   rw [if_neg c80] at H
                   have c80b0 : decide ((rd (rd_L1 t219 x264_2) 0) ≤ (rd (rd_L1 t219 (ji76)) 0)) = false := decide_eq_false c80
                   clear c80
                   have H' := Aside0.mk H
                   clear H
                   have p267 : 0 ≤ (x264_2 : Int) := of_decide_eq_true (by first | (with_reducible assumption) | assumption)
                   have q267 : x264_2 < (t219.length : Int) := of_decide_eq_true (by first | (with_reducible assumption) | assumption)
                   obtain ⟨ad267, A267_0, c267_0, e267, hx267_0, hl267_0, hi267_0⟩ := at_L1 (Kd.S_reads' HO_262.out).2.2 x264_2 p267 q267
                   cases e267
                   obtain ⟨ce267, hce267, hMe267, hcc267⟩ := Kd.S_get HO_262.out [] x264_2 p267 (by first | exact q267 | exact of_decide_eq_true (by first | (with_reducible assumption) | assumption) | (have e_ := (Kd.S_reads' HO_262.out).1; omega))
                   obtain ⟨ve267_0, rfl, ge267_0⟩ := hMe267
                   have hv267_0 := hcc267 0 _ rfl
                   rw [Nat.add_zero, show ((Kd.slice 3 (Kd.int .i64))).sz = 1 from rfl, Nat.mul_one] at hv267_0
                   replace hv267_0 := Option.some.inj (hv267_0.symm.trans hx267_0)
                   rw [hv267_0] at ge267_0
                   have HL267_0 := Aside0.mk (show Kd.R (Kd.int .i64) 3 _ _ _ _ (rd_L1 t219 x264_2) from ge267_0)
                   clear hv267_0 ge267_0
                   clear hcc267 hce267
                   have HR267_0 := Aside0.mk hi267_0
                   have HC267_0 := Aside0.mk hl267_0
                   clear hi267_0 hl267_0
                   replace p267 := eq_true p267
                   replace q267 := eq_true q267
                   have p268 : 0 ≤ (0 : Int) := (by omega)
                   have q268 : 0 < ((rd_L1 t219 x264_2).length : Int) := of_decide_eq_true (by first | (with_reducible assumption) | assumption)
                   obtain ⟨ad268, e268, hx268_0⟩ := Kd.at_int (by repeat (first | (with_reducible exact HR267_0.out) | (with_reducible refine Kd.C_alloc ?_ _) | (with_reducible refine Kd.C_drewN ?_ _) | (with_reducible refine Kd.C_drew ?_) | exact HR267_0.out)) 0 p268 q268
                   cases e268
                   have qi268 : (0 < (rd_L1 t219 x264_2).length) = True := eq_true (by omega)
                   (try rw [show ((0 : Int)).toNat = 0 from rfl] at hx268_0)
                   (try rw [Addr.add_zero'] at hx268_0)
                   replace p268 := eq_true p268
                   replace q268 := eq_true q268
                   have p269 : 0 ≤ (0 : Int) := (by omega)
                   have q269 : 0 < ((rd_L1 t219 x264_2).length : Int) := of_decide_eq_true (by first | (with_reducible assumption) | assumption)
                   obtain ⟨ad269, e269, hx269_0⟩ := Kd.at_int (by repeat (first | (with_reducible exact HR267_0.out) | (with_reducible refine Kd.C_alloc ?_ _) | (with_reducible refine Kd.C_drewN ?_ _) | (with_reducible refine Kd.C_drew ?_) | exact HR267_0.out)) 0 p269 q269
                   obtain rfl : ad268 = ad269 := (by injection e269)
                   have qi269 : (0 < (rd_L1 t219 x264_2).length) = True := eq_true (by omega)
                   (try rw [show ((0 : Int)).toNat = 0 from rfl] at hx269_0)
                   (try rw [Addr.add_zero'] at hx269_0)
                   replace p269 := eq_true p269
                   replace q269 := eq_true q269
                   have p270 : 0 ≤ (1 : Int) := (by omega)
                   have q270 : 1 < ((rd_L1 t219 x264_2).length : Int) := of_decide_eq_true (by first | (with_reducible assumption) | assumption)
                   obtain ⟨ad270, e270, hx270_0⟩ := Kd.at_int (by repeat (first | (with_reducible exact HR267_0.out) | (with_reducible refine Kd.C_alloc ?_ _) | (with_reducible refine Kd.C_drewN ?_ _) | (with_reducible refine Kd.C_drew ?_) | exact HR267_0.out)) 1 p270 q270
                   obtain rfl : ad268 = ad270 := (by injection e270)
                   (try simp only [show (1 : Int).toNat = 1 from rfl, Nat.reduceMul, Nat.reduceEqDiff, Go.Addr.add, ↓reduceIte] at hx270_0)
                   have qi270 : (1 < (rd_L1 t219 x264_2).length) = True := eq_true (by omega)
                   (try rw [show ((1 : Int)).toNat = 1 from rfl] at hx270_0)
                   replace p270 := eq_true p270
                   replace q270 := eq_true q270
                   have p271 : 0 ≤ (0 : Int) := (by omega)
                   have q271 : 0 < ((rd_L1 t219 x264_2).length : Int) := of_decide_eq_true (by first | (with_reducible assumption) | assumption)
                   obtain ⟨ad271, e271, hx271_0⟩ := Kd.at_int (by repeat (first | (with_reducible exact HR267_0.out) | (with_reducible refine Kd.C_alloc ?_ _) | (with_reducible refine Kd.C_drewN ?_ _) | (with_reducible refine Kd.C_drew ?_) | exact HR267_0.out)) 0 p271 q271
                   obtain rfl : ad268 = ad271 := (by injection e271)
                   have qi271 : (0 < (rd_L1 t219 x264_2).length) = True := eq_true (by omega)
                   (try rw [show ((0 : Int)).toNat = 0 from rfl] at hx271_0)
                   (try rw [Addr.add_zero'] at hx271_0)
                   replace p271 := eq_true p271
                   replace q271 := eq_true q271
                   have p272 : 0 ≤ (1 : Int) := (by omega)
                   have q272 : 1 < ((rd_L1 t219 x264_2).length : Int) := of_decide_eq_true (by first | (with_reducible assumption) | assumption)
                   obtain ⟨ad272, e272, hx272_0⟩ := Kd.at_int (by repeat (first | (with_reducible exact HR267_0.out) | (with_reducible refine Kd.C_alloc ?_ _) | (with_reducible refine Kd.C_drewN ?_ _) | (with_reducible refine Kd.C_drew ?_) | exact HR267_0.out)) 1 p272 q272
                   obtain rfl : ad268 = ad272 := (by injection e272)
                   (try simp only [show (1 : Int).toNat = 1 from rfl, Nat.reduceMul, Nat.reduceEqDiff, Go.Addr.add, ↓reduceIte] at hx272_0)
                   have qi272 : (1 < (rd_L1 t219 x264_2).length) = True := eq_true (by omega)
                   (try rw [show ((1 : Int)).toNat = 1 from rfl] at hx272_0)
                   replace p272 := eq_true p272
                   replace q272 := eq_true q272
                   have p273 : 0 ≤ ((ji76) : Int) := of_decide_eq_true (by first | (with_reducible assumption) | assumption)
                   have q273 : (ji76) < (t219.length : Int) := of_decide_eq_true (by first | (with_reducible assumption) | assumption)
                   obtain ⟨ad273, A273_0, c273_0, e273, hx273_0, hl273_0, hi273_0⟩ := at_L1 (Kd.S_reads' HO_21.out).2.2 (ji76) p273 q273
                   obtain rfl : ad267 = ad273 := (by injection e273)
                   obtain ⟨ce273, hce273, hMe273, hcc273⟩ := Kd.S_get HO_21.out [] (ji76) p273 (by first | exact q273 | exact of_decide_eq_true (by first | (with_reducible assumption) | assumption) | (have e_ := (Kd.S_reads' HO_21.out).1; omega))
                   obtain ⟨ve273_0, rfl, ge273_0⟩ := hMe273
                   have hv273_0 := hcc273 0 _ rfl
                   rw [Nat.add_zero, show ((Kd.slice 3 (Kd.int .i64))).sz = 1 from rfl, Nat.mul_one] at hv273_0
                   replace hv273_0 := Option.some.inj (hv273_0.symm.trans hx273_0)
                   rw [hv273_0] at ge273_0
                   have HL273_0 := Aside0.mk (show Kd.R (Kd.int .i64) 3 _ _ _ _ (rd_L1 t219 (ji76)) from ge273_0)
                   clear hv273_0 ge273_0
                   clear hcc273 hce273
                   have HR273_0 := Aside0.mk hi273_0
                   have HC273_0 := Aside0.mk hl273_0
                   clear hi273_0 hl273_0
                   replace p273 := eq_true p273
                   replace q273 := eq_true q273
                   have p274 : 0 ≤ (0 : Int) := (by omega)
                   have q274 : 0 < ((rd_L1 t219 (ji76)).length : Int) := of_decide_eq_true (by first | (with_reducible assumption) | assumption)
                   obtain ⟨ad274, e274, hx274_0⟩ := Kd.at_int (by repeat (first | (with_reducible exact HR273_0.out) | (with_reducible refine Kd.C_alloc ?_ _) | (with_reducible refine Kd.C_drewN ?_ _) | (with_reducible refine Kd.C_drew ?_) | exact HR273_0.out)) 0 p274 q274
                   cases e274
                   have qi274 : (0 < (rd_L1 t219 (ji76)).length) = True := eq_true (by omega)
                   (try rw [show ((0 : Int)).toNat = 0 from rfl] at hx274_0)
                   (try rw [Addr.add_zero'] at hx274_0)
                   replace p274 := eq_true p274
                   replace q274 := eq_true q274
                   have p275 : 0 ≤ (0 : Int) := (by omega)
                   have q275 : 0 < ((rd_L1 t219 x264_2).length : Int) := of_decide_eq_true (by first | (with_reducible assumption) | assumption)
                   obtain ⟨ad275, e275, hx275_0⟩ := Kd.at_int (by repeat (first | (with_reducible exact HR267_0.out) | (with_reducible refine Kd.C_alloc ?_ _) | (with_reducible refine Kd.C_drewN ?_ _) | (with_reducible refine Kd.C_drew ?_) | exact HR267_0.out)) 0 p275 q275
                   obtain rfl : ad268 = ad275 := (by injection e275)
                   have qi275 : (0 < (rd_L1 t219 x264_2).length) = True := eq_true (by omega)
                   (try rw [show ((0 : Int)).toNat = 0 from rfl] at hx275_0)
                   (try rw [Addr.add_zero'] at hx275_0)
                   replace p275 := eq_true p275
                   replace q275 := eq_true q275
                   go_wp2
                   repeat (go_quiet (fail); try go_wp2)
                   go_roundg k2
                   case measure => have := HJ22.out; have := HK2.out; omega
                   case rel => exact ⟨(wrap64 (x264_2 + 1)), (by first | rfl | (simp; done) | (simp [*]; done)), H', ⟨by have := HJ22.out; have := HK2.out; omega⟩, ⟨by (with_reducible repeat (first | apply Kd.S_alloc | apply Kd.S_drewN | apply Kd.S_drew)); exact HO_21.out⟩, ⟨by (with_reducible repeat (first | apply Kd.S_alloc | apply Kd.S_drewN | apply Kd.S_drew)); exact HO_25.out⟩, ⟨by (with_reducible repeat (first | apply Kd.S_alloc | apply Kd.S_drewN | apply Kd.S_drew)); exact HO_41.out⟩, ⟨by (with_reducible repeat (first | apply Kd.R_alloc | apply Kd.R_drewN | apply Kd.R_drew)); exact HO_45.out⟩, ⟨by (with_reducible repeat (first | apply Kd.S_alloc | apply Kd.S_drewN | apply Kd.S_drew)); exact HO_262.out⟩, ⟨by repeat (first | (with_reducible first | exact HB.out | apply below_alloc | apply pw_below_drewN | apply below_drew1) | exact HB.out)⟩⟩
                 ·
                  rw [if_neg c79] at H
                  exact absurd H (by simp)
                ·
                 rw [if_neg c78] at H
                 exact absurd H (by simp)
               ·
                rw [if_neg c77] at H
                exact absurd H (by simp)
              ·
               rw [if_neg c75] at H
               have c75b0 : decide (0 < x264_2) = false := decide_eq_false c75
               clear c75
               have H' := Aside0.mk H
               clear H
               have p267 : 0 ≤ (x264_2 : Int) := of_decide_eq_true (by first | (with_reducible assumption) | assumption)
               have q267 : x264_2 < (t219.length : Int) := of_decide_eq_true (by first | (with_reducible assumption) | assumption)
               obtain ⟨ad267, A267_0, c267_0, e267, hx267_0, hl267_0, hi267_0⟩ := at_L1 (Kd.S_reads' HO_262.out).2.2 x264_2 p267 q267
               cases e267
               obtain ⟨ce267, hce267, hMe267, hcc267⟩ := Kd.S_get HO_262.out [] x264_2 p267 (by first | exact q267 | exact of_decide_eq_true (by first | (with_reducible assumption) | assumption) | (have e_ := (Kd.S_reads' HO_262.out).1; omega))
               obtain ⟨ve267_0, rfl, ge267_0⟩ := hMe267
               have hv267_0 := hcc267 0 _ rfl
               rw [Nat.add_zero, show ((Kd.slice 3 (Kd.int .i64))).sz = 1 from rfl, Nat.mul_one] at hv267_0
               replace hv267_0 := Option.some.inj (hv267_0.symm.trans hx267_0)
               rw [hv267_0] at ge267_0
               have HL267_0 := Aside0.mk (show Kd.R (Kd.int .i64) 3 _ _ _ _ (rd_L1 t219 x264_2) from ge267_0)
               clear hv267_0 ge267_0
               clear hcc267 hce267
               have HR267_0 := Aside0.mk hi267_0
               have HC267_0 := Aside0.mk hl267_0
               clear hi267_0 hl267_0
               replace p267 := eq_true p267
               replace q267 := eq_true q267
               have p268 : 0 ≤ (0 : Int) := (by omega)
               have q268 : 0 < ((rd_L1 t219 x264_2).length : Int) := of_decide_eq_true (by first | (with_reducible assumption) | assumption)
               obtain ⟨ad268, e268, hx268_0⟩ := Kd.at_int (by repeat (first | (with_reducible exact HR267_0.out) | (with_reducible refine Kd.C_alloc ?_ _) | (with_reducible refine Kd.C_drewN ?_ _) | (with_reducible refine Kd.C_drew ?_) | exact HR267_0.out)) 0 p268 q268
               cases e268
               have qi268 : (0 < (rd_L1 t219 x264_2).length) = True := eq_true (by omega)
               (try rw [show ((0 : Int)).toNat = 0 from rfl] at hx268_0)
               (try rw [Addr.add_zero'] at hx268_0)
               replace p268 := eq_true p268
               replace q268 := eq_true q268
               have p269 : 0 ≤ (0 : Int) := (by omega)
               have q269 : 0 < ((rd_L1 t219 x264_2).length : Int) := of_decide_eq_true (by first | (with_reducible assumption) | assumption)
               obtain ⟨ad269, e269, hx269_0⟩ := Kd.at_int (by repeat (first | (with_reducible exact HR267_0.out) | (with_reducible refine Kd.C_alloc ?_ _) | (with_reducible refine Kd.C_drewN ?_ _) | (with_reducible refine Kd.C_drew ?_) | exact HR267_0.out)) 0 p269 q269
               obtain rfl : ad268 = ad269 := (by injection e269)
               have qi269 : (0 < (rd_L1 t219 x264_2).length) = True := eq_true (by omega)
               (try rw [show ((0 : Int)).toNat = 0 from rfl] at hx269_0)
               (try rw [Addr.add_zero'] at hx269_0)
               replace p269 := eq_true p269
               replace q269 := eq_true q269
               have p270 : 0 ≤ (1 : Int) := (by omega)
               have q270 : 1 < ((rd_L1 t219 x264_2).length : Int) := of_decide_eq_true (by first | (with_reducible assumption) | assumption)
               obtain ⟨ad270, e270, hx270_0⟩ := Kd.at_int (by repeat (first | (with_reducible exact HR267_0.out) | (with_reducible refine Kd.C_alloc ?_ _) | (with_reducible refine Kd.C_drewN ?_ _) | (with_reducible refine Kd.C_drew ?_) | exact HR267_0.out)) 1 p270 q270
               obtain rfl : ad268 = ad270 := (by injection e270)
               (try simp only [show (1 : Int).toNat = 1 from rfl, Nat.reduceMul, Nat.reduceEqDiff, Go.Addr.add, ↓reduceIte] at hx270_0)
               have qi270 : (1 < (rd_L1 t219 x264_2).length) = True := eq_true (by omega)
               (try rw [show ((1 : Int)).toNat = 1 from rfl] at hx270_0)
               replace p270 := eq_true p270
               replace q270 := eq_true q270
               have p271 : 0 ≤ (0 : Int) := (by omega)
               have q271 : 0 < ((rd_L1 t219 x264_2).length : Int) := of_decide_eq_true (by first | (with_reducible assumption) | assumption)
               obtain ⟨ad271, e271, hx271_0⟩ := Kd.at_int (by repeat (first | (with_reducible exact HR267_0.out) | (with_reducible refine Kd.C_alloc ?_ _) | (with_reducible refine Kd.C_drewN ?_ _) | (with_reducible refine Kd.C_drew ?_) | exact HR267_0.out)) 0 p271 q271
               obtain rfl : ad268 = ad271 := (by injection e271)
               have qi271 : (0 < (rd_L1 t219 x264_2).length) = True := eq_true (by omega)
               (try rw [show ((0 : Int)).toNat = 0 from rfl] at hx271_0)
               (try rw [Addr.add_zero'] at hx271_0)
               replace p271 := eq_true p271
               replace q271 := eq_true q271
               have p272 : 0 ≤ (1 : Int) := (by omega)
               have q272 : 1 < ((rd_L1 t219 x264_2).length : Int) := of_decide_eq_true (by first | (with_reducible assumption) | assumption)
               obtain ⟨ad272, e272, hx272_0⟩ := Kd.at_int (by repeat (first | (with_reducible exact HR267_0.out) | (with_reducible refine Kd.C_alloc ?_ _) | (with_reducible refine Kd.C_drewN ?_ _) | (with_reducible refine Kd.C_drew ?_) | exact HR267_0.out)) 1 p272 q272
               obtain rfl : ad268 = ad272 := (by injection e272)
               (try simp only [show (1 : Int).toNat = 1 from rfl, Nat.reduceMul, Nat.reduceEqDiff, Go.Addr.add, ↓reduceIte] at hx272_0)
               have qi272 : (1 < (rd_L1 t219 x264_2).length) = True := eq_true (by omega)
               (try rw [show ((1 : Int)).toNat = 1 from rfl] at hx272_0)
               replace p272 := eq_true p272
               replace q272 := eq_true q272
               go_wp2
               repeat (go_quiet (fail); try go_wp2)
               go_roundg k2
               case measure => have := HJ22.out; have := HK2.out; omega
               case rel => exact ⟨(wrap64 (x264_2 + 1)), (by first | rfl | (simp; done) | (simp [*]; done)), H', ⟨by have := HJ22.out; have := HK2.out; omega⟩, ⟨by (with_reducible repeat (first | apply Kd.S_alloc | apply Kd.S_drewN | apply Kd.S_drew)); exact HO_21.out⟩, ⟨by (with_reducible repeat (first | apply Kd.S_alloc | apply Kd.S_drewN | apply Kd.S_drew)); exact HO_25.out⟩, ⟨by (with_reducible repeat (first | apply Kd.S_alloc | apply Kd.S_drewN | apply Kd.S_drew)); exact HO_41.out⟩, ⟨by (with_reducible repeat (first | apply Kd.R_alloc | apply Kd.R_drewN | apply Kd.R_drew)); exact HO_45.out⟩, ⟨by (with_reducible repeat (first | apply Kd.S_alloc | apply Kd.S_drewN | apply Kd.S_drew)); exact HO_262.out⟩, ⟨by repeat (first | (with_reducible first | exact HB.out | apply below_alloc | apply pw_below_drewN | apply below_drew1) | exact HB.out)⟩⟩
             ·
              rw [if_neg c74] at H
              exact absurd (H.trans (congrArg some HE_.out)) (by simp)
           ·
            rw [if_neg c72] at H
            exact absurd H (by simp)
         ·
          rw [if_neg c70] at H
          exact absurd H (by simp)
        ·
         rw [if_neg c69] at H
         exact absurd (H.trans (congrArg some HE_.out)) (by simp)
       ·
        rw [if_neg c68] at H
        exact absurd H (by simp)
      ·
       rw [if_neg c67] at H
       exact absurd H (by simp)
     ·
      rw [if_neg c66] at H
      have c66b0 : decide (x264_2 < (t219.length : Int)) = false := decide_eq_false c66
      clear c66
      (first | rw [c66b0] | (simp only [i64_w, i32_w]; rw [c66b0]) | skip)
      have H' := Aside0.mk H
      clear H
      -- part 4
      (repeat revert ‹World›)
      (repeat revert ‹Value›)
      (repeat revert ‹Nat → Act → World → Prop›)
      (repeat revert ‹Act → World → Prop›)
      (repeat revert ‹Int›)
      (repeat revert ‹Nat›)
      (repeat revert ‹Bool›)
      (repeat revert ‹List (List Int)›)
      (repeat revert ‹List Int›)
      (repeat revert ‹Addr›)
      (repeat revert ‹Option Addr›)
      exact hole1.down
  ·
   replace c64 := Bool.eq_false_iff.mpr c64
   subst c64
   have H1 : (laws_FnFormsStandOfAll.j6 kj22 a1 a2 a3 a4 a5 a6 a7 a8 a9) = some r := by rw [if_neg (show ¬ (false = true) by decide)] at H; exact H
   clear H
   have H := H1
   clear H1
   have H' := Aside0.mk H
   clear H
   go_wp2
   repeat (go_quiet (fail); try go_wp2)
   go_meet
   case rel => exact ⟨_, H', ⟨by have := HJ22.out; first | omega | exact Nat.le_refl _⟩, ⟨by repeat (first | (with_reducible first | exact HB.out | apply below_alloc | apply pw_below_drewN | apply below_drew1) | exact HB.out)⟩⟩
end Go.Proofs.YtgdmbhldabeelaaR.PFnFormsStandOfAll
