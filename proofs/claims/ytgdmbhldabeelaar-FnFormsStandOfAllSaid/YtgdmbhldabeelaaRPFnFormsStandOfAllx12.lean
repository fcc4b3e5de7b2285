-- Written by a program of this session's (pg.py) over the kit's print.
import Derived.Test.YtgdmbhldabeelaaRPFnFormsStandOfAllx0
import Derived.Test.YtgdmbhldabeelaaRPFnFormsStandOfAllx1
import Derived.Test.YtgdmbhldabeelaaRPFnFormsStandOfAllx2
import Derived.Test.YtgdmbhldabeelaaRPFnFormsStandOfAllx3
import Derived.Test.YtgdmbhldabeelaaRPFnFormsStandOfAllx4
import Derived.Test.YtgdmbhldabeelaaRPFnFormsStandOfAllx5
import Derived.Test.YtgdmbhldabeelaaRPFnFormsStandOfAllx6
import Derived.Deep.CutRange
import Derived.Test.YtgdmbhldabeelaaRPFnFormsStandOfAllx9
namespace Go.Proofs.YtgdmbhldabeelaaR.PFnFormsStandOfAll
open Go.RowKit Go.Proofs.YtgdmbhldabeelaaRW.PrintWords Go.Proofs.YtgdmbhldabeelaaRW.PrintLast Go.Proofs.YtgdmbhldabeelaaRW.PrintMore
attribute [local go_sem] max2_int min2_int max_two min_two max_three min_three max_four min_four   -- for this text's walks alone
set_option linter.unusedVariables false
set_option linter.unusedSimpArgs false


set_option maxHeartbeats 8000000 in
set_option maxRecDepth 100000 in
def laws_FnFormsStandOfAll.part5 : Σ' (R1 : Prop), PLift R1 → (laws_FnFormsStandOfAll.part4.2.2.1) := by
 refine' ⟨_, fun hole1 => _⟩
 rotate_left 1
 ·
  conv => whnf
  intro Ao65 Ao81 t255 t259 t219 t223 t227 t231 t247 t251 r HE_ t224 t228 t232 t237 t240 t243 t246 t248 t252 t256 t260 k nd nd nd nd kj22 HJ22 co65 k2 HK2 co81 k3 HK3 a0 A12 A13 A14 A19 A20 A21 A22 A11 a1 a2 a3 a4 a5 a6 a7 a8 a9 t235 t236 A15 t238 t239 A16 t241 t242 A17 H' t244 t245 A18 x264_2 x318_3 c82b0 K J K' a K K K K K J a J a v225 v233 v249 v253 v257 v261 u164 u165 u166 u167 u168 u169 u170 u171 u172 u173 u174 u175 u176 u177 u178 u179 u180 u181 u182 u183 u184 u185 u186 u187 u188 u189 u190 u191 u192 u193 u194 u195 u196 u197 u198 u199 u200 u201 u202 u203 u204 u205 u206 u207 u208 u209 u210 u211 u212 u213 u214 u215 u216 u217 u218 u219 u220 u221 u222 u223 u224 u225 u226 u227 u228 u229 u230 u231 u232 u233 u234 u235 u236 u237 u238 u239 u240 u241 u242 u243 u244 u245 u246 u247 u248 u249 u250 u251 u252 u253 u254 u255 u256 u257 u258 u259 u20 u49 u50 u265 u266 u267 u268 u269 u270 u271 u272 u273 u274 u275 u276 u277 u278 u279 u280 u281 u282 u283 u284 u285 u286 u287 u288 u289 u290 u291 u292 u293 u294 u295 u296 u297 u298 u299 u300 u301 u302 u303 u304 u305 u306 u307 u308 u309 u310 u311 u312 u313 u314 u315 u20 u51 u52 u53 u54 u55 u319 u320 u321 u322 u323 u324 u325 u326 u327 u328 u329 u330 u331 u332 u333 u334 u335 u336 u337 u338 u339 u340 u341 u342 u343 u344 u345 u346 u347 u348 u349 u350 u351 u352 u353 u354 u355 u356 u357 u358 u359 u360 u361 u362 u363 u364 u365 u366 u367 u368 u369 u370 u371 u372 u373 u374 u375 u376 u377 u378 u379 u380 u381 u382 u383 u384 u385 u386 u387 u388 u389 u390 u391 u392 u393 u394 u395 u396 u397 u398 u399 u400 u401 u402 u403 u404 u405 u406 u407 u408 u409 u410 u411 u412 u413 u414 u415 u416 w Q' a a a a a a w24 w25 w26 w27 w28 w29 w30 w31 HO258 HO262 HB HO222 HO226 HO230 HO234 HO250 HO254 wc HO_45 HB HO_21 HO_25 HO_41 wr HO_45 HB HO_21 HO_25 HO_41 HO_262 wr HO_21 HO_25 HO_41 HO_45 HO_316 HB
  obtain ⟨Ao107, co107, eo107⟩ := Kd.S_slice HO_41.out
  subst eo107
  go_wp2
  repeat (go_quiet (fail); try go_wp2)
  go_loopg [419] k3 (fun kq v419 w' => ∃ (x419_4 : Int), v419 = .int .i64 x419_4 ∧ Aside0 (laws_FnFormsStandOfAll.l2 kq a0 a1 a2 a3 a4 a5 a6 a7 a8 a9 t219 t235 t236 t241 t242 t247 t255 t247 (t247.length : Int) x419_4 = some r) ∧ Aside0 (kq ≤ k3) ∧ Aside0 (Kd.S (Kd.slice 3 (Kd.int .i64)) 27 w' w.heap.size (fun k_ => some k_ ≠ ((.slice Ao107 t247.length co107) : Value).ownBlock ∧ some k_ ≠ (v257 : Value).ownBlock ∧ some k_ ≠ ((.slice Ao107 t247.length co107) : Value).ownBlock) (.slice Ao65 t219.length co65) t219) ∧ Aside0 (Kd.S (Kd.slice 3 (Kd.int .i64)) 27 w' w.heap.size (fun k_ => some k_ ≠ ((.slice Ao65 t219.length co65) : Value).ownBlock ∧ some k_ ≠ (v257 : Value).ownBlock) (.slice Ao107 t247.length co107) t247) ∧ Aside0 (Kd.R (Kd.int .i64) 3 w' w.heap.size (fun _ => True) v257 t255) ∧ Aside0 (Kd.S (Kd.slice 3 (Kd.int .i64)) 27 w' w.heap.size (fun k_ => some k_ ≠ ((.slice Ao65 t219.length co65) : Value).ownBlock ∧ some k_ ≠ (v257 : Value).ownBlock) (.slice Ao107 t247.length co107) t247) ∧ Aside0 (Below w.heap.size w w'))
  case atStart => exact ⟨(0), (by first | rfl | (simp; done) | (simp [*]; done)), H', ⟨Nat.le_refl _⟩, ⟨by (with_reducible repeat (first | apply Kd.S_alloc | apply Kd.S_drewN | apply Kd.S_drew)); exact Kd.S_mono HO_21.out (fun _ hk => ⟨hk.2.1, ⟨hk.2.2.1, hk.2.1⟩⟩)⟩, ⟨by (with_reducible repeat (first | apply Kd.S_alloc | apply Kd.S_drewN | apply Kd.S_drew)); exact Kd.S_mono HO_41.out (fun _ hk => ⟨hk.1, hk.2.2.1⟩)⟩, ⟨by (with_reducible repeat (first | apply Kd.R_alloc | apply Kd.R_drewN | apply Kd.R_drew)); exact HO_45.out⟩, ⟨by (with_reducible repeat (first | apply Kd.S_alloc | apply Kd.S_drewN | apply Kd.S_drew)); exact Kd.S_mono HO_41.out (fun _ hk => ⟨hk.1, hk.2.2.1⟩)⟩, ⟨by repeat (first | (with_reducible first | exact HB.out | apply below_alloc | apply pw_below_drewN | apply below_drew1) | exact HB.out)⟩⟩
  case round =>
   clear H'
   try clear c82
   try clear c82b0
   obtain ⟨x419_4, rfl, HA, HK4, HO_21, HO_41, HO_45, HO_417, HB⟩ := hrel
   cases gk with
   | zero => exact absurd HA.out (by simp [laws_FnFormsStandOfAll.l2])
   | succ k4 =>
    have H := HA.out
    clear HA
    simp only [laws_FnFormsStandOfAll.l2] at H
    by_cases c108 : x419_4 < (t247.length : Int)
    ·
     rw [if_pos c108] at H
     have c108b0 : decide (x419_4 < (t247.length : Int)) = true := decide_eq_true c108
     clear c108
     by_cases c109 : 0 ≤ x419_4
     ·
      rw [if_pos c109] at H
      have c109b0 : decide (0 ≤ x419_4) = true := decide_eq_true c109
      clear c109
      by_cases c110 : x419_4 < (t247.length : Int)
      ·
       rw [if_pos c110] at H
       have c110b0 : decide (x419_4 < (t247.length : Int)) = true := decide_eq_true c110
       clear c110
       by_cases c111 : ((rd_L1 t247 x419_4).length : Int) = 2
       ·
        rw [if_pos c111] at H
        have c111b0 : (((rd_L1 t247 x419_4).length : Int) == 2) = true := beq_iff_eq.mpr c111
        have c111b1 : (((rd_L1 t247 x419_4).length : Int) != 2) = false := bne_eq_false_iff_eq.mpr c111
        clear c111
        by_cases c112 : 0 < ((rd_L1 t247 x419_4).length : Int)
        ·
         rw [if_pos c112] at H
         have c112b0 : decide (0 < ((rd_L1 t247 x419_4).length : Int)) = true := decide_eq_true c112
         have c112b1 : decide (0 < (rd_L1 t247 x419_4).length) = true := decide_eq_true (by omega)
         clear c112
         by_cases c113 : (rd (rd_L1 t247 x419_4) 0) < 1
         ·
          rw [if_pos c113] at H
          exact absurd (H.trans (congrArg some HE_.out)) (by simp)
         ·
          rw [if_neg c113] at H
          have c113b0 : decide ((rd (rd_L1 t247 x419_4) 0) < 1) = false := decide_eq_false c113
          clear c113
          by_cases c114 : 1 < ((rd_L1 t247 x419_4).length : Int)
          ·
           rw [if_pos c114] at H
           have c114b0 : decide (1 < ((rd_L1 t247 x419_4).length : Int)) = true := decide_eq_true c114
           have c114b1 : decide (1 < (rd_L1 t247 x419_4).length) = true := decide_eq_true (by omega)
           clear c114
           by_cases c115 : (rd (rd_L1 t247 x419_4) 0) > (rd (rd_L1 t247 x419_4) 1)
           ·
            rw [if_pos c115] at H
            exact absurd (H.trans (congrArg some HE_.out)) (by simp)
           ·
            rw [if_neg c115] at H
            have c115b0 : decide ((rd (rd_L1 t247 x419_4) 1) < (rd (rd_L1 t247 x419_4) 0)) = false := decide_eq_false c115
            clear c115
            by_cases c116 : (wrap64 ((wrap64 ((rd (rd_L1 t247 x419_4) 0) * (rd (rd_L1 t247 x419_4) 0))) + (wrap64 ((rd (rd_L1 t247 x419_4) 1) * (rd (rd_L1 t247 x419_4) 1))))) = a0
            ·
             rw [if_pos c116] at H
             have c116b0 : ((wrap64 ((wrap64 ((rd (rd_L1 t247 x419_4) 0) * (rd (rd_L1 t247 x419_4) 0))) + (wrap64 ((rd (rd_L1 t247 x419_4) 1) * (rd (rd_L1 t247 x419_4) 1))))) == a0) = true := beq_iff_eq.mpr c116
             have c116b1 : ((wrap64 ((wrap64 ((rd (rd_L1 t247 x419_4) 0) * (rd (rd_L1 t247 x419_4) 0))) + (wrap64 ((rd (rd_L1 t247 x419_4) 1) * (rd (rd_L1 t247 x419_4) 1))))) != a0) = false := bne_eq_false_iff_eq.mpr c116
             clear c116
             by_cases c117 : x419_4 > 0
             ·
              rw [if_pos c117] at H
              have c117b0 : decide (0 < x419_4) = true := decide_eq_true c117
              clear c117
              obtain ⟨ji118, hji118⟩ : ∃ j_ : Int, (wrap64 (x419_4 - 1)) = j_ := ⟨_, rfl⟩
              replace H : (if 0 ≤ (ji118) then (if (ji118) < (t247.length : Int) then (if 0 < ((rd_L1 t247 (ji118)).length : Int) then (if (rd (rd_L1 t247 (ji118)) 0) ≥ (rd (rd_L1 t247 x419_4) 0) then (some false) else (laws_FnFormsStandOfAll.l2 k4 a0 a1 a2 a3 a4 a5 a6 a7 a8 a9 t219 t235 t236 t241 t242 t247 t255 t247 (t247.length : Int) (wrap64 (x419_4 + 1)))) else (none)) else (none)) else (none)) = some r := by first | (rw [hji118] at H; exact H) | (simp only [hji118] at H ⊢; exact H)
              have hji118w : (IntKind.i64.wrap (x419_4 - 1)) = ji118 := (i64_w _).trans hji118
              by_cases c119 : 0 ≤ (ji118)
              ·
               rw [if_pos c119] at H
               have c119b0 : decide (0 ≤ (ji118)) = true := decide_eq_true c119
               clear c119
               by_cases c120 : (ji118) < (t247.length : Int)
               ·
                rw [if_pos c120] at H
                have c120b0 : decide ((ji118) < (t247.length : Int)) = true := decide_eq_true c120
                clear c120
                by_cases c121 : 0 < ((rd_L1 t247 (ji118)).length : Int)
                ·
                 rw [if_pos c121] at H
                 have c121b0 : decide (0 < ((rd_L1 t247 (ji118)).length : Int)) = true := decide_eq_true c121
                 have c121b1 : decide (0 < (rd_L1 t247 (ji118)).length) = true := decide_eq_true (by omega)
                 clear c121
                 by_cases c122 : (rd (rd_L1 t247 (ji118)) 0) ≥ (rd (rd_L1 t247 x419_4) 0)
                 ·
                  rw [if_pos c122] at H
                  exact absurd (H.trans (congrArg some HE_.out)) (by simp)
                 ·
                  rw [if_neg c122] at H
                  have c122b0 : decide ((rd (rd_L1 t247 x419_4) 0) ≤ (rd (rd_L1 t247 (ji118)) 0)) = false := decide_eq_false c122
                  clear c122
                  have H' := Aside0.mk H
                  clear H
                  have p301 : 0 ≤ (x419_4 : Int) := of_decide_eq_true (by first | (with_reducible assumption) | assumption)
                  have q301 : x419_4 < (t247.length : Int) := of_decide_eq_true (by first | (with_reducible assumption) | assumption)
                  obtain ⟨ad301, A301_0, c301_0, e301, hx301_0, hl301_0, hi301_0⟩ := at_L1 (Kd.S_reads' HO_417.out).2.2 x419_4 p301 q301
                  cases e301
                  obtain ⟨ce301, hce301, hMe301, hcc301⟩ := Kd.S_get HO_417.out [] x419_4 p301 (by first | exact q301 | exact of_decide_eq_true (by first | (with_reducible assumption) | assumption) | (have e_ := (Kd.S_reads' HO_417.out).1; omega))
                  obtain ⟨ve301_0, rfl, ge301_0⟩ := hMe301
                  have hv301_0 := hcc301 0 _ rfl
                  rw [Nat.add_zero, show ((Kd.slice 3 (Kd.int .i64))).sz = 1 from rfl, Nat.mul_one] at hv301_0
                  replace hv301_0 := Option.some.inj (hv301_0.symm.trans hx301_0)
                  rw [hv301_0] at ge301_0
                  have HL301_0 := Aside0.mk (show Kd.R (Kd.int .i64) 3 _ _ _ _ (rd_L1 t247 x419_4) from ge301_0)
                  clear hv301_0 ge301_0
                  clear hcc301 hce301
                  have HR301_0 := Aside0.mk hi301_0
                  have HC301_0 := Aside0.mk hl301_0
                  clear hi301_0 hl301_0
                  replace p301 := eq_true p301
                  replace q301 := eq_true q301
                  have p302 : 0 ≤ (0 : Int) := (by omega)
                  have q302 : 0 < ((rd_L1 t247 x419_4).length : Int) := of_decide_eq_true (by first | (with_reducible assumption) | assumption)
                  obtain ⟨ad302, e302, hx302_0⟩ := Kd.at_int (by repeat (first | (with_reducible exact HR301_0.out) | (with_reducible refine Kd.C_alloc ?_ _) | (with_reducible refine Kd.C_drewN ?_ _) | (with_reducible refine Kd.C_drew ?_) | exact HR301_0.out)) 0 p302 q302
                  cases e302
                  have qi302 : (0 < (rd_L1 t247 x419_4).length) = True := eq_true (by omega)
                  (try rw [show ((0 : Int)).toNat = 0 from rfl] at hx302_0)
                  (try rw [Addr.add_zero'] at hx302_0)
                  replace p302 := eq_true p302
                  replace q302 := eq_true q302
                  have p303 : 0 ≤ (0 : Int) := (by omega)
                  have q303 : 0 < ((rd_L1 t247 x419_4).length : Int) := of_decide_eq_true (by first | (with_reducible assumption) | assumption)
                  obtain ⟨ad303, e303, hx303_0⟩ := Kd.at_int (by repeat (first | (with_reducible exact HR301_0.out) | (with_reducible refine Kd.C_alloc ?_ _) | (with_reducible refine Kd.C_drewN ?_ _) | (with_reducible refine Kd.C_drew ?_) | exact HR301_0.out)) 0 p303 q303
                  obtain rfl : ad302 = ad303 := (by injection e303)
                  have qi303 : (0 < (rd_L1 t247 x419_4).length) = True := eq_true (by omega)
                  (try rw [show ((0 : Int)).toNat = 0 from rfl] at hx303_0)
                  (try rw [Addr.add_zero'] at hx303_0)
                  replace p303 := eq_true p303
                  replace q303 := eq_true q303
                  have p304 : 0 ≤ (1 : Int) := (by omega)
                  have q304 : 1 < ((rd_L1 t247 x419_4).length : Int) := of_decide_eq_true (by first | (with_reducible assumption) | assumption)
                  obtain ⟨ad304, e304, hx304_0⟩ := Kd.at_int (by repeat (first | (with_reducible exact HR301_0.out) | (with_reducible refine Kd.C_alloc ?_ _) | (with_reducible refine Kd.C_drewN ?_ _) | (with_reducible refine Kd.C_drew ?_) | exact HR301_0.out)) 1 p304 q304
                  obtain rfl : ad302 = ad304 := (by injection e304)
                  (try simp only [show (1 : Int).toNat = 1 from rfl, Nat.reduceMul, Nat.reduceEqDiff, Go.Addr.add, ↓reduceIte] at hx304_0)
                  have qi304 : (1 < (rd_L1 t247 x419_4).length) = True := eq_true (by omega)
                  (try rw [show ((1 : Int)).toNat = 1 from rfl] at hx304_0)
                  replace p304 := eq_true p304
                  replace q304 := eq_true q304
                  have p305 : 0 ≤ (0 : Int) := (by omega)
                  have q305 : 0 < ((rd_L1 t247 x419_4).length : Int) := of_decide_eq_true (by first | (with_reducible assumption) | assumption)
                  obtain ⟨ad305, e305, hx305_0⟩ := Kd.at_int (by repeat (first | (with_reducible exact HR301_0.out) | (with_reducible refine Kd.C_alloc ?_ _) | (with_reducible refine Kd.C_drewN ?_ _) | (with_reducible refine Kd.C_drew ?_) | exact HR301_0.out)) 0 p305 q305
                  obtain rfl : ad302 = ad305 := (by injection e305)
                  have qi305 : (0 < (rd_L1 t247 x419_4).length) = True := eq_true (by omega)
                  (try rw [show ((0 : Int)).toNat = 0 from rfl] at hx305_0)
                  (try rw [Addr.add_zero'] at hx305_0)
                  replace p305 := eq_true p305
                  replace q305 := eq_true q305
                  have p306 : 0 ≤ (0 : Int) := (by omega)
                  have q306 : 0 < ((rd_L1 t247 x419_4).length : Int) := of_decide_eq_true (by first | (with_reducible assumption) | assumption)
                  obtain ⟨ad306, e306, hx306_0⟩ := Kd.at_int (by repeat (first | (with_reducible exact HR301_0.out) | (with_reducible refine Kd.C_alloc ?_ _) | (with_reducible refine Kd.C_drewN ?_ _) | (with_reducible refine Kd.C_drew ?_) | exact HR301_0.out)) 0 p306 q306
                  obtain rfl : ad302 = ad306 := (by injection e306)
                  have qi306 : (0 < (rd_L1 t247 x419_4).length) = True := eq_true (by omega)
                  (try rw [show ((0 : Int)).toNat = 0 from rfl] at hx306_0)
                  (try rw [Addr.add_zero'] at hx306_0)
                  replace p306 := eq_true p306
                  replace q306 := eq_true q306
                  have p307 : 0 ≤ (1 : Int) := (by omega)
                  have q307 : 1 < ((rd_L1 t247 x419_4).length : Int) := of_decide_eq_true (by first | (with_reducible assumption) | assumption)
                  obtain ⟨ad307, e307, hx307_0⟩ := Kd.at_int (by repeat (first | (with_reducible exact HR301_0.out) | (with_reducible refine Kd.C_alloc ?_ _) | (with_reducible refine Kd.C_drewN ?_ _) | (with_reducible refine Kd.C_drew ?_) | exact HR301_0.out)) 1 p307 q307
                  obtain rfl : ad302 = ad307 := (by injection e307)
                  (try simp only [show (1 : Int).toNat = 1 from rfl, Nat.reduceMul, Nat.reduceEqDiff, Go.Addr.add, ↓reduceIte] at hx307_0)
                  have qi307 : (1 < (rd_L1 t247 x419_4).length) = True := eq_true (by omega)
                  (try rw [show ((1 : Int)).toNat = 1 from rfl] at hx307_0)
                  replace p307 := eq_true p307
                  replace q307 := eq_true q307
                  have p308 : 0 ≤ (1 : Int) := (by omega)
                  have q308 : 1 < ((rd_L1 t247 x419_4).length : Int) := of_decide_eq_true (by first | (with_reducible assumption) | assumption)
                  obtain ⟨ad308, e308, hx308_0⟩ := Kd.at_int (by repeat (first | (with_reducible exact HR301_0.out) | (with_reducible refine Kd.C_alloc ?_ _) | (with_reducible refine Kd.C_drewN ?_ _) | (with_reducible refine Kd.C_drew ?_) | exact HR301_0.out)) 1 p308 q308
                  obtain rfl : ad302 = ad308 := (by injection e308)
                  (try simp only [show (1 : Int).toNat = 1 from rfl, Nat.reduceMul, Nat.reduceEqDiff, Go.Addr.add, ↓reduceIte] at hx308_0)
                  have qi308 : (1 < (rd_L1 t247 x419_4).length) = True := eq_true (by omega)
                  (try rw [show ((1 : Int)).toNat = 1 from rfl] at hx308_0)
                  replace p308 := eq_true p308
                  replace q308 := eq_true q308
                  have p309 : 0 ≤ ((ji118) : Int) := of_decide_eq_true (by first | (with_reducible assumption) | assumption)
                  have q309 : (ji118) < (t247.length : Int) := of_decide_eq_true (by first | (with_reducible assumption) | assumption)
                  obtain ⟨ad309, A309_0, c309_0, e309, hx309_0, hl309_0, hi309_0⟩ := at_L1 (Kd.S_reads' HO_41.out).2.2 (ji118) p309 q309
                  obtain rfl : ad301 = ad309 := (by injection e309)
                  obtain ⟨ce309, hce309, hMe309, hcc309⟩ := Kd.S_get HO_41.out [] (ji118) p309 (by first | exact q309 | exact of_decide_eq_true (by first | (with_reducible assumption) | assumption) | (have e_ := (Kd.S_reads' HO_41.out).1; omega))
                  obtain ⟨ve309_0, rfl, ge309_0⟩ := hMe309
                  have hv309_0 := hcc309 0 _ rfl
                  rw [Nat.add_zero, show ((Kd.slice 3 (Kd.int .i64))).sz = 1 from rfl, Nat.mul_one] at hv309_0
                  replace hv309_0 := Option.some.inj (hv309_0.symm.trans hx309_0)
                  rw [hv309_0] at ge309_0
                  have HL309_0 := Aside0.mk (show Kd.R (Kd.int .i64) 3 _ _ _ _ (rd_L1 t247 (ji118)) from ge309_0)
                  clear hv309_0 ge309_0
                  clear hcc309 hce309
                  have HR309_0 := Aside0.mk hi309_0
                  have HC309_0 := Aside0.mk hl309_0
                  clear hi309_0 hl309_0
                  replace p309 := eq_true p309
                  replace q309 := eq_true q309
                  have p310 : 0 ≤ (0 : Int) := (by omega)
                  have q310 : 0 < ((rd_L1 t247 (ji118)).length : Int) := of_decide_eq_true (by first | (with_reducible assumption) | assumption)
                  obtain ⟨ad310, e310, hx310_0⟩ := Kd.at_int (by repeat (first | (with_reducible exact HR309_0.out) | (with_reducible refine Kd.C_alloc ?_ _) | (with_reducible refine Kd.C_drewN ?_ _) | (with_reducible refine Kd.C_drew ?_) | exact HR309_0.out)) 0 p310 q310
                  cases e310
                  have qi310 : (0 < (rd_L1 t247 (ji118)).length) = True := eq_true (by omega)
                  (try rw [show ((0 : Int)).toNat = 0 from rfl] at hx310_0)
                  (try rw [Addr.add_zero'] at hx310_0)
                  replace p310 := eq_true p310
                  replace q310 := eq_true q310
                  have p311 : 0 ≤ (0 : Int) := (by omega)
                  have q311 : 0 < ((rd_L1 t247 x419_4).length : Int) := of_decide_eq_true (by first | (with_reducible assumption) | assumption)
                  obtain ⟨ad311, e311, hx311_0⟩ := Kd.at_int (by repeat (first | (with_reducible exact HR301_0.out) | (with_reducible refine Kd.C_alloc ?_ _) | (with_reducible refine Kd.C_drewN ?_ _) | (with_reducible refine Kd.C_drew ?_) | exact HR301_0.out)) 0 p311 q311
                  obtain rfl : ad302 = ad311 := (by injection e311)
                  have qi311 : (0 < (rd_L1 t247 x419_4).length) = True := eq_true (by omega)
                  (try rw [show ((0 : Int)).toNat = 0 from rfl] at hx311_0)
                  (try rw [Addr.add_zero'] at hx311_0)
                  replace p311 := eq_true p311
                  replace q311 := eq_true q311
                  go_wp2
                  repeat (go_quiet (fail); try go_wp2)
                  go_roundg k4
                  case measure => have := HJ22.out; have := HK2.out; have := HK3.out; have := HK4.out; omega
                  case rel => exact ⟨(wrap64 (x419_4 + 1)), (by first | rfl | (simp; done) | (simp [*]; done)), H', ⟨by have := HJ22.out; have := HK2.out; have := HK3.out; have := HK4.out; omega⟩, ⟨by (with_reducible repeat (first | apply Kd.S_alloc | apply Kd.S_drewN | apply Kd.S_drew)); exact HO_21.out⟩, ⟨by (with_reducible repeat (first | apply Kd.S_alloc | apply Kd.S_drewN | apply Kd.S_drew)); exact HO_41.out⟩, ⟨by (with_reducible repeat (first | apply Kd.R_alloc | apply Kd.R_drewN | apply Kd.R_drew)); exact HO_45.out⟩, ⟨by (with_reducible repeat (first | apply Kd.S_alloc | apply Kd.S_drewN | apply Kd.S_drew)); exact HO_417.out⟩, ⟨by repeat (first | (with_reducible first | exact HB.out | apply below_alloc | apply pw_below_drewN | apply below_drew1) | exact HB.out)⟩⟩
                ·
                 rw [if_neg c121] at H
                 exact absurd H (by simp)
               ·
                rw [if_neg c120] at H
                exact absurd H (by simp)
              ·
               rw [if_neg c119] at H
               exact absurd H (by simp)
             ·
              rw [if_neg c117] at H
              have c117b0 : decide (0 < x419_4) = false := decide_eq_false c117
              clear c117
              have H' := Aside0.mk H
              clear H
              have p301 : 0 ≤ (x419_4 : Int) := of_decide_eq_true (by first | (with_reducible assumption) | assumption)
              have q301 : x419_4 < (t247.length : Int) := of_decide_eq_true (by first | (with_reducible assumption) | assumption)
              obtain ⟨ad301, A301_0, c301_0, e301, hx301_0, hl301_0, hi301_0⟩ := at_L1 (Kd.S_reads' HO_417.out).2.2 x419_4 p301 q301
              cases e301
              obtain ⟨ce301, hce301, hMe301, hcc301⟩ := Kd.S_get HO_417.out [] x419_4 p301 (by first | exact q301 | exact of_decide_eq_true (by first | (with_reducible assumption) | assumption) | (have e_ := (Kd.S_reads' HO_417.out).1; omega))
              obtain ⟨ve301_0, rfl, ge301_0⟩ := hMe301
              have hv301_0 := hcc301 0 _ rfl
              rw [Nat.add_zero, show ((Kd.slice 3 (Kd.int .i64))).sz = 1 from rfl, Nat.mul_one] at hv301_0
              replace hv301_0 := Option.some.inj (hv301_0.symm.trans hx301_0)
              rw [hv301_0] at ge301_0
              have HL301_0 := Aside0.mk (show Kd.R (Kd.int .i64) 3 _ _ _ _ (rd_L1 t247 x419_4) from ge301_0)
              clear hv301_0 ge301_0
              clear hcc301 hce301
              have HR301_0 := Aside0.mk hi301_0
              have HC301_0 := Aside0.mk hl301_0
              clear hi301_0 hl301_0
              replace p301 := eq_true p301
              replace q301 := eq_true q301
              have p302 : 0 ≤ (0 : Int) := (by omega)
              have q302 : 0 < ((rd_L1 t247 x419_4).length : Int) := of_decide_eq_true (by first | (with_reducible assumption) | assumption)
              obtain ⟨ad302, e302, hx302_0⟩ := Kd.at_int (by repeat (first | (with_reducible exact HR301_0.out) | (with_reducible refine Kd.C_alloc ?_ _) | (with_reducible refine Kd.C_drewN ?_ _) | (with_reducible refine Kd.C_drew ?_) | exact HR301_0.out)) 0 p302 q302
              cases e302
              have qi302 : (0 < (rd_L1 t247 x419_4).length) = True := eq_true (by omega)
              (try rw [show ((0 : Int)).toNat = 0 from rfl] at hx302_0)
              (try rw [Addr.add_zero'] at hx302_0)
              replace p302 := eq_true p302
              replace q302 := eq_true q302
              have p303 : 0 ≤ (0 : Int) := (by omega)
              have q303 : 0 < ((rd_L1 t247 x419_4).length : Int) := of_decide_eq_true (by first | (with_reducible assumption) | assumption)
              obtain ⟨ad303, e303, hx303_0⟩ := Kd.at_int (by repeat (first | (with_reducible exact HR301_0.out) | (with_reducible refine Kd.C_alloc ?_ _) | (with_reducible refine Kd.C_drewN ?_ _) | (with_reducible refine Kd.C_drew ?_) | exact HR301_0.out)) 0 p303 q303
              obtain rfl : ad302 = ad303 := (by injection e303)
              have qi303 : (0 < (rd_L1 t247 x419_4).length) = True := eq_true (by omega)
              (try rw [show ((0 : Int)).toNat = 0 from rfl] at hx303_0)
              (try rw [Addr.add_zero'] at hx303_0)
              replace p303 := eq_true p303
              replace q303 := eq_true q303
              have p304 : 0 ≤ (1 : Int) := (by omega)
              have q304 : 1 < ((rd_L1 t247 x419_4).length : Int) := of_decide_eq_true (by first | (with_reducible assumption) | assumption)
              obtain ⟨ad304, e304, hx304_0⟩ := Kd.at_int (by repeat (first | (with_reducible exact HR301_0.out) | (with_reducible refine Kd.C_alloc ?_ _) | (with_reducible refine Kd.C_drewN ?_ _) | (with_reducible refine Kd.C_drew ?_) | exact HR301_0.out)) 1 p304 q304
              obtain rfl : ad302 = ad304 := (by injection e304)
              (try simp only [show (1 : Int).toNat = 1 from rfl, Nat.reduceMul, Nat.reduceEqDiff, Go.Addr.add, ↓reduceIte] at hx304_0)
              have qi304 : (1 < (rd_L1 t247 x419_4).length) = True := eq_true (by omega)
              (try rw [show ((1 : Int)).toNat = 1 from rfl] at hx304_0)
              replace p304 := eq_true p304
              replace q304 := eq_true q304
              have p305 : 0 ≤ (0 : Int) := (by omega)
              have q305 : 0 < ((rd_L1 t247 x419_4).length : Int) := of_decide_eq_true (by first | (with_reducible assumption) | assumption)
              obtain ⟨ad305, e305, hx305_0⟩ := Kd.at_int (by repeat (first | (with_reducible exact HR301_0.out) | (with_reducible refine Kd.C_alloc ?_ _) | (with_reducible refine Kd.C_drewN ?_ _) | (with_reducible refine Kd.C_drew ?_) | exact HR301_0.out)) 0 p305 q305
              obtain rfl : ad302 = ad305 := (by injection e305)
              have qi305 : (0 < (rd_L1 t247 x419_4).length) = True := eq_true (by omega)
              (try rw [show ((0 : Int)).toNat = 0 from rfl] at hx305_0)
              (try rw [Addr.add_zero'] at hx305_0)
              replace p305 := eq_true p305
              replace q305 := eq_true q305
              have p306 : 0 ≤ (0 : Int) := (by omega)
              have q306 : 0 < ((rd_L1 t247 x419_4).length : Int) := of_decide_eq_true (by first | (with_reducible assumption) | assumption)
              obtain ⟨ad306, e306, hx306_0⟩ := Kd.at_int (by repeat (first | (with_reducible exact HR301_0.out) | (with_reducible refine Kd.C_alloc ?_ _) | (with_reducible refine Kd.C_drewN ?_ _) | (with_reducible refine Kd.C_drew ?_) | exact HR301_0.out)) 0 p306 q306
              obtain rfl : ad302 = ad306 := (by injection e306)
              have qi306 : (0 < (rd_L1 t247 x419_4).length) = True := eq_true (by omega)
              (try rw [show ((0 : Int)).toNat = 0 from rfl] at hx306_0)
              (try rw [Addr.add_zero'] at hx306_0)
              replace p306 := eq_true p306
              replace q306 := eq_true q306
              have p307 : 0 ≤ (1 : Int) := (by omega)
              have q307 : 1 < ((rd_L1 t247 x419_4).length : Int) := of_decide_eq_true (by first | (with_reducible assumption) | assumption)
              obtain ⟨ad307, e307, hx307_0⟩ := Kd.at_int (by repeat (first | (with_reducible exact HR301_0.out) | (with_reducible refine Kd.C_alloc ?_ _) | (with_reducible refine Kd.C_drewN ?_ _) | (with_reducible refine Kd.C_drew ?_) | exact HR301_0.out)) 1 p307 q307
              obtain rfl : ad302 = ad307 := (by injection e307)
              (try simp only [show (1 : Int).toNat = 1 from rfl, Nat.reduceMul, Nat.reduceEqDiff, Go.Addr.add, ↓reduceIte] at hx307_0)
              have qi307 : (1 < (rd_L1 t247 x419_4).length) = True := eq_true (by omega)
              (try rw [show ((1 : Int)).toNat = 1 from rfl] at hx307_0)
              replace p307 := eq_true p307
              replace q307 := eq_true q307
              have p308 : 0 ≤ (1 : Int) := (by omega)
              have q308 : 1 < ((rd_L1 t247 x419_4).length : Int) := of_decide_eq_true (by first | (with_reducible assumption) | assumption)
              obtain ⟨ad308, e308, hx308_0⟩ := Kd.at_int (by repeat (first | (with_reducible exact HR301_0.out) | (with_reducible refine Kd.C_alloc ?_ _) | (with_reducible refine Kd.C_drewN ?_ _) | (with_reducible refine Kd.C_drew ?_) | exact HR301_0.out)) 1 p308 q308
              obtain rfl : ad302 = ad308 := (by injection e308)
              (try simp only [show (1 : Int).toNat = 1 from rfl, Nat.reduceMul, Nat.reduceEqDiff, Go.Addr.add, ↓reduceIte] at hx308_0)
              have qi308 : (1 < (rd_L1 t247 x419_4).length) = True := eq_true (by omega)
              (try rw [show ((1 : Int)).toNat = 1 from rfl] at hx308_0)
              replace p308 := eq_true p308
              replace q308 := eq_true q308
              go_wp2
              repeat (go_quiet (fail); try go_wp2)
              go_roundg k4
              case measure => have := HJ22.out; have := HK2.out; have := HK3.out; have := HK4.out; omega
              case rel => exact ⟨(wrap64 (x419_4 + 1)), (by first | rfl | (simp; done) | (simp [*]; done)), H', ⟨by have := HJ22.out; have := HK2.out; have := HK3.out; have := HK4.out; omega⟩, ⟨by (with_reducible repeat (first | apply Kd.S_alloc | apply Kd.S_drewN | apply Kd.S_drew)); exact HO_21.out⟩, ⟨by (with_reducible repeat (first | apply Kd.S_alloc | apply Kd.S_drewN | apply Kd.S_drew)); exact HO_41.out⟩, ⟨by (with_reducible repeat (first | apply Kd.R_alloc | apply Kd.R_drewN | apply Kd.R_drew)); exact HO_45.out⟩, ⟨by (with_reducible repeat (first | apply Kd.S_alloc | apply Kd.S_drewN | apply Kd.S_drew)); exact HO_417.out⟩, ⟨by repeat (first | (with_reducible first | exact HB.out | apply below_alloc | apply pw_below_drewN | apply below_drew1) | exact HB.out)⟩⟩
            ·
             rw [if_neg c116] at H
             exact absurd (H.trans (congrArg some HE_.out)) (by simp)
          ·
           rw [if_neg c114] at H
           exact absurd H (by simp)
        ·
         rw [if_neg c112] at H
         exact absurd H (by simp)
       ·
        rw [if_neg c111] at H
        exact absurd (H.trans (congrArg some HE_.out)) (by simp)
      ·
       rw [if_neg c110] at H
       exact absurd H (by simp)
     ·
      rw [if_neg c109] at H
      exact absurd H (by simp)
    ·
     rw [if_neg c108] at H
     have c108b0 : decide (x419_4 < (t247.length : Int)) = false := decide_eq_false c108
     clear c108
     have HC123 := Aside0.mk H
     clear H
     -- part 6
     (repeat revert ‹World›)
     (repeat revert ‹Value›)
     (repeat revert ‹Nat → Act → World → Prop›)
     (repeat revert ‹Act → World → Prop›)
     (repeat revert ‹Int›)
     (repeat revert ‹Nat›)
     (repeat revert ‹Bool›)
     (repeat revert ‹List (List Int)›)
     (repeat revert ‹List Int›)
     (repeat revert ‹Addr›)
     (repeat revert ‹Option Addr›)
     exact hole1.down
end Go.Proofs.YtgdmbhldabeelaaR.PFnFormsStandOfAll
