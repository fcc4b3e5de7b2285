-- Written by a program of this session's (pg.py) over the kit's print.
import Derived.Test.YtgdmbhldabeelaaRPFnFormsStandOfAllx0
import Derived.Test.YtgdmbhldabeelaaRPFnFormsStandOfAllx1
import Derived.Test.YtgdmbhldabeelaaRPFnFormsStandOfAllx2
import Derived.Test.YtgdmbhldabeelaaRPFnFormsStandOfAllx3
import Derived.Test.YtgdmbhldabeelaaRPFnFormsStandOfAllx4
import Derived.Test.YtgdmbhldabeelaaRPFnFormsStandOfAllx5
import Derived.Test.YtgdmbhldabeelaaRPFnFormsStandOfAllx6
import Derived.Deep.CutRange
import Derived.Test.YtgdmbhldabeelaaRPFnFormsStandOfAllx8
namespace Go.Proofs.YtgdmbhldabeelaaR.PFnFormsStandOfAll
open Go.RowKit Go.Proofs.YtgdmbhldabeelaaRW.PrintWords Go.Proofs.YtgdmbhldabeelaaRW.PrintLast Go.Proofs.YtgdmbhldabeelaaRW.PrintMore
attribute [local go_sem] max2_int min2_int max_two min_two max_three min_three max_four min_four   -- for this text's walks alone
set_option linter.unusedVariables false
set_option linter.unusedSimpArgs false


set_option maxHeartbeats 8000000 in
set_option maxRecDepth 100000 in
def laws_FnFormsStandOfAll.part4 : Σ' (R1 R2 R3 : Prop), PLift R1 → PLift R2 → PLift R3 → (laws_FnFormsStandOfAll.part3.1) := by
 refine' ⟨_, _, _, fun hole1 hole2 hole3 => _⟩
 rotate_left 3
 ·
  conv => whnf
  intro Ao65 t255 t259 t219 t223 t227 t231 t247 t251 r HE_ t224 t228 t232 t237 t240 t243 t246 t248 t252 t256 t260 k nd nd nd nd kj22 HJ22 co65 k2 HK2 a0 A12 A13 A14 A19 A20 A21 A22 A11 a1 a2 a3 a4 a5 a6 a7 a8 a9 t235 t236 A15 t238 t239 A16 t241 t242 A17 H' t244 t245 A18 x264_2 c66b0 K J K' a K K J a v225 v229 v233 v249 v253 v257 v261 u164 u165 u166 u167 u168 u169 u170 u171 u172 u173 u174 u175 u176 u177 u178 u179 u180 u181 u182 u183 u184 u185 u186 u187 u188 u189 u190 u191 u192 u193 u194 u195 u196 u197 u198 u199 u200 u201 u202 u203 u204 u205 u206 u207 u208 u209 u210 u211 u212 u213 u214 u215 u216 u217 u218 u219 u220 u221 u222 u223 u224 u225 u226 u227 u228 u229 u230 u231 u232 u233 u234 u235 u236 u237 u238 u239 u240 u241 u242 u243 u244 u245 u246 u247 u248 u249 u250 u251 u252 u253 u254 u255 u256 u257 u258 u259 u20 u49 u50 u265 u266 u267 u268 u269 u270 u271 u272 u273 u274 u275 u276 u277 u278 u279 u280 u281 u282 u283 u284 u285 u286 u287 u288 u289 u290 u291 u292 u293 u294 u295 u296 u297 u298 u299 u300 u301 u302 u303 u304 u305 u306 u307 u308 u309 u310 u311 u312 u313 u314 u315 w Q' a a a a w24 w25 w26 w27 w28 w29 w30 w31 HO258 HO262 HB HO222 HO226 HO230 HO234 HO250 HO254 wc HO_45 HB HO_21 HO_25 HO_41 wr HO_21 HO_25 HO_41 HO_45 HO_262 HB
  obtain ⟨Ao81, co81, eo81⟩ := Kd.S_slice HO_25.out
  subst eo81
  go_wp2
  repeat (go_quiet (fail); try go_wp2)
  go_loopg [318] k2 (fun kq v318 w' => ∃ (x318_3 : Int), v318 = .int .i64 x318_3 ∧ Aside0 (laws_FnFormsStandOfAll.l1 kq a0 a1 a2 a3 a4 a5 a6 a7 a8 a9 t219 t227 t235 t236 t241 t242 t247 t255 t227 (t227.length : Int) x318_3 = some r) ∧ Aside0 (kq ≤ k2) ∧ Aside0 (Kd.S (Kd.slice 3 (Kd.int .i64)) 27 w' w.heap.size (fun k_ => some k_ ≠ ((.slice Ao81 t227.length co81) : Value).ownBlock ∧ some k_ ≠ (v249 : Value).ownBlock ∧ some k_ ≠ (v257 : Value).ownBlock ∧ some k_ ≠ ((.slice Ao81 t227.length co81) : Value).ownBlock) (.slice Ao65 t219.length co65) t219) ∧ Aside0 (Kd.S (Kd.slice 3 (Kd.int .i64)) 27 w' w.heap.size (fun k_ => some k_ ≠ ((.slice Ao65 t219.length co65) : Value).ownBlock ∧ some k_ ≠ (v249 : Value).ownBlock ∧ some k_ ≠ (v257 : Value).ownBlock) (.slice Ao81 t227.length co81) t227) ∧ Aside0 (Kd.S (Kd.slice 3 (Kd.int .i64)) 27 w' w.heap.size (fun k_ => some k_ ≠ ((.slice Ao65 t219.length co65) : Value).ownBlock ∧ some k_ ≠ ((.slice Ao81 t227.length co81) : Value).ownBlock ∧ some k_ ≠ (v257 : Value).ownBlock ∧ some k_ ≠ ((.slice Ao81 t227.length co81) : Value).ownBlock) v249 t247) ∧ Aside0 (Kd.R (Kd.int .i64) 3 w' w.heap.size (fun _ => True) v257 t255) ∧ Aside0 (Kd.S (Kd.slice 3 (Kd.int .i64)) 27 w' w.heap.size (fun k_ => some k_ ≠ ((.slice Ao65 t219.length co65) : Value).ownBlock ∧ some k_ ≠ (v249 : Value).ownBlock ∧ some k_ ≠ (v257 : Value).ownBlock) (.slice Ao81 t227.length co81) t227) ∧ Aside0 (Below w.heap.size w w'))
  case atStart => exact ⟨(0), (by first | rfl | (simp; done) | (simp [*]; done)), H', ⟨Nat.le_refl _⟩, ⟨by (with_reducible repeat (first | apply Kd.S_alloc | apply Kd.S_drewN | apply Kd.S_drew)); exact Kd.S_mono HO_21.out (fun _ hk => ⟨hk.1, ⟨hk.2.1, ⟨hk.2.2, hk.1⟩⟩⟩)⟩, ⟨by (with_reducible repeat (first | apply Kd.S_alloc | apply Kd.S_drewN | apply Kd.S_drew)); exact Kd.S_mono HO_25.out (fun _ hk => ⟨hk.1, ⟨hk.2.1, hk.2.2.1⟩⟩)⟩, ⟨by (with_reducible repeat (first | apply Kd.S_alloc | apply Kd.S_drewN | apply Kd.S_drew)); exact Kd.S_mono HO_41.out (fun _ hk => ⟨hk.1, ⟨hk.2.1, ⟨hk.2.2.1, hk.2.1⟩⟩⟩)⟩, ⟨by (with_reducible repeat (first | apply Kd.R_alloc | apply Kd.R_drewN | apply Kd.R_drew)); exact HO_45.out⟩, ⟨by (with_reducible repeat (first | apply Kd.S_alloc | apply Kd.S_drewN | apply Kd.S_drew)); exact Kd.S_mono HO_25.out (fun _ hk => ⟨hk.1, ⟨hk.2.1, hk.2.2.1⟩⟩)⟩, ⟨by repeat (first | (with_reducible first | exact HB.out | apply below_alloc | apply pw_below_drewN | apply below_drew1) | exact HB.out)⟩⟩
  case round =>
   clear H'
   try clear c62
   try clear c64
   try clear c66
   try clear c66b0
   obtain ⟨x318_3, rfl, HA, HK3, HO_21, HO_25, HO_41, HO_45, HO_316, HB⟩ := hrel
   cases gk with
   | zero => exact absurd HA.out (by simp [laws_FnFormsStandOfAll.l1])
   | succ k3 =>
    have H := HA.out
    clear HA
    simp only [laws_FnFormsStandOfAll.l1] at H
    by_cases c82 : x318_3 < (t227.length : Int)
    ·
     rw [if_pos c82] at H
     have c82b0 : decide (x318_3 < (t227.length : Int)) = true := decide_eq_true c82
     clear c82
     by_cases c83 : 0 ≤ x318_3
     ·
      rw [if_pos c83] at H
      have c83b0 : decide (0 ≤ x318_3) = true := decide_eq_true c83
      clear c83
      by_cases c84 : x318_3 < (t227.length : Int)
      ·
       rw [if_pos c84] at H
       have c84b0 : decide (x318_3 < (t227.length : Int)) = true := decide_eq_true c84
       clear c84
       by_cases c85 : ((rd_L1 t227 x318_3).length : Int) = 2
       ·
        rw [if_pos c85] at H
        have c85b0 : (((rd_L1 t227 x318_3).length : Int) == 2) = true := beq_iff_eq.mpr c85
        have c85b1 : (((rd_L1 t227 x318_3).length : Int) != 2) = false := bne_eq_false_iff_eq.mpr c85
        clear c85
        by_cases c86 : 1 < ((rd_L1 t227 x318_3).length : Int)
        ·
         rw [if_pos c86] at H
         have c86b0 : decide (1 < ((rd_L1 t227 x318_3).length : Int)) = true := decide_eq_true c86
         have c86b1 : decide (1 < (rd_L1 t227 x318_3).length) = true := decide_eq_true (by omega)
         clear c86
         by_cases c87 : (rd (rd_L1 t227 x318_3) 1) < 1
         ·
          rw [if_pos c87] at H
          exact absurd (H.trans (congrArg some HE_.out)) (by simp)
         ·
          rw [if_neg c87] at H
          have c87b0 : decide ((rd (rd_L1 t227 x318_3) 1) < 1) = false := decide_eq_false c87
          clear c87
          by_cases c88 : 0 < ((rd_L1 t227 x318_3).length : Int)
          ·
           rw [if_pos c88] at H
           have c88b0 : decide (0 < ((rd_L1 t227 x318_3).length : Int)) = true := decide_eq_true c88
           have c88b1 : decide (0 < (rd_L1 t227 x318_3).length) = true := decide_eq_true (by omega)
           clear c88
           by_cases c89 : (rd (rd_L1 t227 x318_3) 0) ≤ (wrap64 (2 * (rd (rd_L1 t227 x318_3) 1)))
           ·
            rw [if_pos c89] at H
            exact absurd (H.trans (congrArg some HE_.out)) (by simp)
           ·
            rw [if_neg c89] at H
            have c89b0 : decide ((rd (rd_L1 t227 x318_3) 0) ≤ (wrap64 (2 * (rd (rd_L1 t227 x318_3) 1)))) = false := decide_eq_false c89
            clear c89
            by_cases c90 : (wrap64 ((wrap64 ((rd (rd_L1 t227 x318_3) 0) * (rd (rd_L1 t227 x318_3) 0))) - (wrap64 ((wrap64 ((rd (rd_L1 t227 x318_3) 0) - (wrap64 (2 * (rd (rd_L1 t227 x318_3) 1))))) * (wrap64 ((rd (rd_L1 t227 x318_3) 0) - (wrap64 (2 * (rd (rd_L1 t227 x318_3) 1))))))))) = a0
            ·
             rw [if_pos c90] at H
             have c90b0 : ((wrap64 ((wrap64 ((rd (rd_L1 t227 x318_3) 0) * (rd (rd_L1 t227 x318_3) 0))) - (wrap64 ((wrap64 ((rd (rd_L1 t227 x318_3) 0) - (wrap64 (2 * (rd (rd_L1 t227 x318_3) 1))))) * (wrap64 ((rd (rd_L1 t227 x318_3) 0) - (wrap64 (2 * (rd (rd_L1 t227 x318_3) 1))))))))) == a0) = true := beq_iff_eq.mpr c90
             have c90b1 : ((wrap64 ((wrap64 ((rd (rd_L1 t227 x318_3) 0) * (rd (rd_L1 t227 x318_3) 0))) - (wrap64 ((wrap64 ((rd (rd_L1 t227 x318_3) 0) - (wrap64 (2 * (rd (rd_L1 t227 x318_3) 1))))) * (wrap64 ((rd (rd_L1 t227 x318_3) 0) - (wrap64 (2 * (rd (rd_L1 t227 x318_3) 1))))))))) != a0) = false := bne_eq_false_iff_eq.mpr c90
             clear c90
             by_cases c91 : x318_3 > 0
             ·
              -- part 9
              (repeat revert ‹World›)
              (repeat revert ‹Value›)
              (repeat revert ‹Nat → Act → World → Prop›)
              (repeat revert ‹Act → World → Prop›)
              (repeat revert ‹Int›)
              (repeat revert ‹Nat›)
              (repeat revert ‹Bool›)
              (repeat revert ‹List (List Int)›)
              (repeat revert ‹List Int›)
              (repeat revert ‹Addr›)
              (repeat revert ‹Option Addr›)
              exact hole1.down
             ·
              -- part 10
              (repeat revert ‹World›)
              (repeat revert ‹Value›)
              (repeat revert ‹Nat → Act → World → Prop›)
              (repeat revert ‹Act → World → Prop›)
              (repeat revert ‹Int›)
              (repeat revert ‹Nat›)
              (repeat revert ‹Bool›)
              (repeat revert ‹List (List Int)›)
              (repeat revert ‹List Int›)
              (repeat revert ‹Addr›)
              (repeat revert ‹Option Addr›)
              exact hole2.down
            ·
             rw [if_neg c90] at H
             exact absurd (H.trans (congrArg some HE_.out)) (by simp)
          ·
           rw [if_neg c88] at H
           exact absurd H (by simp)
        ·
         rw [if_neg c86] at H
         exact absurd H (by simp)
       ·
        rw [if_neg c85] at H
        exact absurd (H.trans (congrArg some HE_.out)) (by simp)
      ·
       rw [if_neg c84] at H
       exact absurd H (by simp)
     ·
      rw [if_neg c83] at H
      exact absurd H (by simp)
    ·
     rw [if_neg c82] at H
     have c82b0 : decide (x318_3 < (t227.length : Int)) = false := decide_eq_false c82
     clear c82
     have H' := Aside0.mk H
     clear H
     -- part 5
     (repeat revert ‹World›)
     (repeat revert ‹Value›)
     (repeat revert ‹Nat → Act → World → Prop›)
     (repeat revert ‹Act → World → Prop›)
     (repeat revert ‹Int›)
     (repeat revert ‹Nat›)
     (repeat revert ‹Bool›)
     (repeat revert ‹List (List Int)›)
     (repeat revert ‹List Int›)
     (repeat revert ‹Addr›)
     (repeat revert ‹Option Addr›)
     exact hole3.down
end Go.Proofs.YtgdmbhldabeelaaR.PFnFormsStandOfAll
