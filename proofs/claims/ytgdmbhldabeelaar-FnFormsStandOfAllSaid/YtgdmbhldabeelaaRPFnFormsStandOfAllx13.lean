-- Written by a program of this session's (pg.py) over the kit's print.
import Derived.Test.YtgdmbhldabeelaaRPFnFormsStandOfAllx0
import Derived.Test.YtgdmbhldabeelaaRPFnFormsStandOfAllx1
import Derived.Test.YtgdmbhldabeelaaRPFnFormsStandOfAllx2
import Derived.Test.YtgdmbhldabeelaaRPFnFormsStandOfAllx3
import Derived.Test.YtgdmbhldabeelaaRPFnFormsStandOfAllx4
import Derived.Test.YtgdmbhldabeelaaRPFnFormsStandOfAllx5
import Derived.Test.YtgdmbhldabeelaaRPFnFormsStandOfAllx6
import Derived.Deep.CutRange
import Derived.Test.YtgdmbhldabeelaaRPFnFormsStandOfAllx12
namespace Go.Proofs.YtgdmbhldabeelaaR.PFnFormsStandOfAll
open Go.RowKit Go.Proofs.YtgdmbhldabeelaaRW.PrintWords Go.Proofs.YtgdmbhldabeelaaRW.PrintLast Go.Proofs.YtgdmbhldabeelaaRW.PrintMore
attribute [local go_sem] max2_int min2_int max_two min_two max_three min_three max_four min_four   -- for this text's walks alone
set_option linter.unusedVariables false
set_option linter.unusedSimpArgs false


set_option maxHeartbeats 8000000 in
set_option maxRecDepth 100000 in
theorem laws_FnFormsStandOfAll.part6 : laws_FnFormsStandOfAll.part5.1 := by
 conv => whnf
 intro Ao65 Ao81 Ao107 t255 t259 t219 t223 t227 t231 t247 t251 r HE_ t224 t228 t232 t237 t240 t243 t246 t248 t252 t256 t260 k nd nd nd nd kj22 HJ22 co65 k2 HK2 co81 k3 HK3 co107 k4 HK4 a0 A12 A13 A14 A19 A20 A21 A22 A11 a1 a2 a3 a4 a5 a6 a7 a8 a9 t235 t236 A15 t238 t239 A16 t241 t242 A17 HC123 t244 t245 A18 x264_2 x318_3 x419_4 c108b0 K J K' a K K K K K K K K J a J a J a v225 v233 v253 v257 v261 u164 u165 u166 u167 u168 u169 u170 u171 u172 u173 u174 u175 u176 u177 u178 u179 u180 u181 u182 u183 u184 u185 u186 u187 u188 u189 u190 u191 u192 u193 u194 u195 u196 u197 u198 u199 u200 u201 u202 u203 u204 u205 u206 u207 u208 u209 u210 u211 u212 u213 u214 u215 u216 u217 u218 u219 u220 u221 u222 u223 u224 u225 u226 u227 u228 u229 u230 u231 u232 u233 u234 u235 u236 u237 u238 u239 u240 u241 u242 u243 u244 u245 u246 u247 u248 u249 u250 u251 u252 u253 u254 u255 u256 u257 u258 u259 u20 u49 u50 u265 u266 u267 u268 u269 u270 u271 u272 u273 u274 u275 u276 u277 u278 u279 u280 u281 u282 u283 u284 u285 u286 u287 u288 u289 u290 u291 u292 u293 u294 u295 u296 u297 u298 u299 u300 u301 u302 u303 u304 u305 u306 u307 u308 u309 u310 u311 u312 u313 u314 u315 u20 u51 u52 u53 u54 u55 u319 u320 u321 u322 u323 u324 u325 u326 u327 u328 u329 u330 u331 u332 u333 u334 u335 u336 u337 u338 u339 u340 u341 u342 u343 u344 u345 u346 u347 u348 u349 u350 u351 u352 u353 u354 u355 u356 u357 u358 u359 u360 u361 u362 u363 u364 u365 u366 u367 u368 u369 u370 u371 u372 u373 u374 u375 u376 u377 u378 u379 u380 u381 u382 u383 u384 u385 u386 u387 u388 u389 u390 u391 u392 u393 u394 u395 u396 u397 u398 u399 u400 u401 u402 u403 u404 u405 u406 u407 u408 u409 u410 u411 u412 u413 u414 u415 u416 u20 u56 u57 u420 u421 u422 u423 u424 u425 u426 u427 u428 u429 u430 u431 u432 u433 u434 u435 u436 u437 u438 u439 u440 u441 u442 u443 u444 u445 u446 u447 u448 u449 u450 u451 u452 u453 u454 u455 u456 u457 u458 u459 u460 u461 u462 u463 u464 u465 u466 u467 u468 u469 u470 u471 u472 u473 u474 u475 u476 u477 u478 w Q' a a a a a a a a w24 w25 w26 w27 w28 w29 w30 w31 HO258 HO262 HB HO222 HO226 HO230 HO234 HO250 HO254 wc HO_45 HB HO_21 HO_25 HO_41 wr HO_45 HB HO_21 HO_25 HO_41 HO_262 wr HO_45 HB HO_21 HO_25 HO_41 HO_316 wr HO_21 HO_41 HO_45 HO_417 HB
 go_upto_region 37 with (fail)
 repeat (go_quiet (fail); go_upto_region 37 with (fail))
 go_cut [525] from 260 to 525 (fun v525 wc => ∃ (kq : Nat) (x525_122 : Bool), v525 = .bool x525_122 ∧ Aside0 (laws_FnFormsStandOfAll.j4 kq a0 a1 a2 a3 a4 a5 a6 a7 a8 a9 t255 x525_122 = some r) ∧ Aside0 (kq ≤ k4) ∧ Aside0 (Kd.R (Kd.int .i64) 3 wc w.heap.size (fun _ => True) v257 t255) ∧ Aside0 (Below w.heap.size w wc))
 case first => as_aux_lemma =>
  have H := HC123.out
  clear HC123
  by_cases c124 : (t219.length : Int) < 1
  ·
   rw [if_pos c124] at H
   exact (laws_FnFormsStandOfAll.j4_no _ _ _ _ _ _ _ _ _ _ _ _ (H.trans (congrArg some HE_.out))).elim
  ·
   rw [if_neg c124] at H
   have c124b0 : decide ((t219.length : Int) < 1) = false := decide_eq_false c124
   have c124b1 : decide (t219.length < 1) = false := decide_eq_false (by omega)
   clear c124
   (first | rw [c124b0] | (simp only [i64_w, i32_w]; rw [c124b0]) | skip)
   by_cases c125 : (wrap64 ((wrap64 (t235 * t235)) + t236)) = a0
   ·
    rw [if_pos c125] at H
    have c125b0 : ((wrap64 ((wrap64 (t235 * t235)) + t236)) == a0) = true := beq_iff_eq.mpr c125
    have c125b1 : ((wrap64 ((wrap64 (t235 * t235)) + t236)) != a0) = false := bne_eq_false_iff_eq.mpr c125
    clear c125
    by_cases c126 : t236 < 0
    ·
     rw [if_pos c126] at H
     exact (laws_FnFormsStandOfAll.j4_no _ _ _ _ _ _ _ _ _ _ _ _ (H.trans (congrArg some HE_.out))).elim
    ·
     rw [if_neg c126] at H
     have c126b0 : decide (t236 < 0) = false := decide_eq_false c126
     clear c126
     by_cases c127 : t236 > (wrap64 (2 * t235))
     ·
      rw [if_pos c127] at H
      exact (laws_FnFormsStandOfAll.j4_no _ _ _ _ _ _ _ _ _ _ _ _ (H.trans (congrArg some HE_.out))).elim
     ·
      rw [if_neg c127] at H
      have c127b0 : decide ((wrap64 (2 * t235)) < t236) = false := decide_eq_false c127
      clear c127
      by_cases c128 : (wrap64 ((wrap64 (Int.tdiv (wrap64 (t241 * (wrap64 (t241 + 1)))) 2)) + t242)) = a0
      ·
       rw [if_pos c128] at H
       have c128b0 : ((wrap64 ((wrap64 (Int.tdiv (wrap64 (t241 * (wrap64 (t241 + 1)))) 2)) + t242)) == a0) = true := beq_iff_eq.mpr c128
       have c128b1 : ((wrap64 ((wrap64 (Int.tdiv (wrap64 (t241 * (wrap64 (t241 + 1)))) 2)) + t242)) != a0) = false := bne_eq_false_iff_eq.mpr c128
       clear c128
       by_cases c129 : t242 < 0
       ·
        rw [if_pos c129] at H
        exact (laws_FnFormsStandOfAll.j4_no _ _ _ _ _ _ _ _ _ _ _ _ (H.trans (congrArg some HE_.out))).elim
       ·
        rw [if_neg c129] at H
        have c129b0 : decide (t242 < 0) = false := decide_eq_false c129
        clear c129
        by_cases c130 : t242 > t241
        ·
         rw [if_pos c130] at H
         exact (laws_FnFormsStandOfAll.j4_no _ _ _ _ _ _ _ _ _ _ _ _ (H.trans (congrArg some HE_.out))).elim
        ·
         rw [if_neg c130] at H
         have c130b0 : decide (t241 < t242) = false := decide_eq_false c130
         clear c130
         replace H := Option.bind_eq_some_iff.mp H
         obtain ⟨t312, A1310, H⟩ := H
         replace H : (laws_FnFormsStandOfAll.j4 k4 a0 a1 a2 a3 a4 a5 a6 a7 a8 a9 t255 (!t312)) = some r := H
         have A131 := Aside0.mk A1310
         clear A1310
         have H' := Aside0.mk H
         clear H
         obtain ⟨Ao132, co132, eo132⟩ := Kd.R_slice HO_45.out
         subst eo132
         go_wp2_with (first | (go_at_call 19; (with_reducible refine (laws_mRises.calls k4 _ _ t255 t312 _ ?side1 ?side2 A131.out).mono ?_); (case side1 => repeat (first | exact (Kd.R_reads' HO_45.out).2.2 | (with_reducible refine Kd.C_alloc ?_ _) | (with_reducible refine Kd.C_drewN ?_ _) | (with_reducible refine Kd.C_drew ?_))); (case side2 => exact (Kd.R_reads' HO_45.out).2.1); rintro e w' ⟨rfl, ⟨nd, rfl⟩⟩; (try first | exact ⟨rfl, _, World.drewN_drewN _ _ _⟩ | exact ⟨rfl, _, Eq.trans (World.drewN_drewN _ _ _) (congrArg (World.drewN _) (Nat.add_assoc _ _ _))⟩)))
         repeat (go_quiet (first | (go_at_call 19; (with_reducible refine (laws_mRises.calls k4 _ _ t255 t312 _ ?side1 ?side2 A131.out).mono ?_); (case side1 => repeat (first | exact (Kd.R_reads' HO_45.out).2.2 | (with_reducible refine Kd.C_alloc ?_ _) | (with_reducible refine Kd.C_drewN ?_ _) | (with_reducible refine Kd.C_drew ?_))); (case side2 => exact (Kd.R_reads' HO_45.out).2.1); rintro e w' ⟨rfl, ⟨nd, rfl⟩⟩; (try first | exact ⟨rfl, _, World.drewN_drewN _ _ _⟩ | exact ⟨rfl, _, Eq.trans (World.drewN_drewN _ _ _) (congrArg (World.drewN _) (Nat.add_assoc _ _ _))⟩))); try go_wp2_with (first | (go_at_call 19; (with_reducible refine (laws_mRises.calls k4 _ _ t255 t312 _ ?side1 ?side2 A131.out).mono ?_); (case side1 => repeat (first | exact (Kd.R_reads' HO_45.out).2.2 | (with_reducible refine Kd.C_alloc ?_ _) | (with_reducible refine Kd.C_drewN ?_ _) | (with_reducible refine Kd.C_drew ?_))); (case side2 => exact (Kd.R_reads' HO_45.out).2.1); rintro e w' ⟨rfl, ⟨nd, rfl⟩⟩; (try first | exact ⟨rfl, _, World.drewN_drewN _ _ _⟩ | exact ⟨rfl, _, Eq.trans (World.drewN_drewN _ _ _) (congrArg (World.drewN _) (Nat.add_assoc _ _ _))⟩))))
         go_meet
         case rel => exact ⟨_, (!t312), (by first | rfl | (simp; done) | (simp [*]; done)), H', ⟨by have := HJ22.out; have := HK2.out; have := HK3.out; have := HK4.out; first | omega | exact Nat.le_refl _⟩, ⟨by (with_reducible repeat (first | apply Kd.R_alloc | apply Kd.R_drewN | apply Kd.R_drew)); exact HO_45.out⟩, ⟨by repeat (first | (with_reducible first | exact HB.out | apply below_alloc | apply pw_below_drewN | apply below_drew1) | exact HB.out)⟩⟩
      ·
       rw [if_neg c128] at H
       exact (laws_FnFormsStandOfAll.j4_no _ _ _ _ _ _ _ _ _ _ _ _ (H.trans (congrArg some HE_.out))).elim
   ·
    rw [if_neg c125] at H
    exact (laws_FnFormsStandOfAll.j4_no _ _ _ _ _ _ _ _ _ _ _ _ (H.trans (congrArg some HE_.out))).elim
 case rest => as_aux_lemma =>
  clear HC123
  try clear c82
  try clear c82b0
  try clear c108
  try clear c108b0
  obtain ⟨kq, x525_122, rfl, HA, HJ122, HO_45, HB⟩ := hcut
  cases kq with
  | zero => exact absurd HA.out (by simp [laws_FnFormsStandOfAll.j4])
  | succ kj122 =>
   have H := HA.out
   clear HA
   simp only [laws_FnFormsStandOfAll.j4] at H
   by_cases c133 : x525_122 = true
   ·
    subst c133
    have H1 : (some false) = some r := by rw [if_pos rfl] at H; exact H
    clear H
    have H := H1
    clear H1
    exact absurd (H.trans (congrArg some HE_.out)) (by simp)
   ·
    replace c133 := Bool.eq_false_iff.mpr c133
    subst c133
    have H1 : (laws_FnFormsStandOfAll.l3 kj122 a0 a1 a2 a3 a4 a5 a6 a7 a8 a9 t255 (t255.length : Int) 0) = some r := by rw [if_neg (show ¬ (false = true) by decide)] at H; exact H
    clear H
    have H := H1
    clear H1
    have H' := Aside0.mk H
    clear H
    obtain ⟨Ao134, co134, eo134⟩ := Kd.R_slice HO_45.out
    subst eo134
    go_wp2
    repeat (go_quiet (fail); try go_wp2)
    go_loopg [528] kj122 (fun kq v528 w' => ∃ (x528_6 : Int), v528 = .int .i64 x528_6 ∧ Aside0 (laws_FnFormsStandOfAll.l3 kq a0 a1 a2 a3 a4 a5 a6 a7 a8 a9 t255 (t255.length : Int) x528_6 = some r) ∧ Aside0 (kq ≤ kj122) ∧ Aside0 (Kd.R (Kd.int .i64) 3 w' w.heap.size (fun _ => True) (.slice Ao134 t255.length co134) t255) ∧ Aside0 (Below w.heap.size w w'))
    case atStart => exact ⟨(0), (by first | rfl | (simp; done) | (simp [*]; done)), H', ⟨Nat.le_refl _⟩, ⟨by (with_reducible repeat (first | apply Kd.R_alloc | apply Kd.R_drewN | apply Kd.R_drew)); exact HO_45.out⟩, ⟨by repeat (first | (with_reducible first | exact HB.out | apply below_alloc | apply pw_below_drewN | apply below_drew1) | exact HB.out)⟩⟩
    case round =>
     clear H'
     try clear c82
     try clear c82b0
     try clear c108
     try clear c108b0
     try clear c133
     obtain ⟨x528_6, rfl, HA, HK6, HO_526, HB⟩ := hrel
     cases gk with
     | zero => exact absurd HA.out (by simp [laws_FnFormsStandOfAll.l3])
     | succ k6 =>
      have H := HA.out
      clear HA
      simp only [laws_FnFormsStandOfAll.l3] at H
      by_cases c135 : x528_6 < (t255.length : Int)
      ·
       rw [if_pos c135] at H
       have c135b0 : decide (x528_6 < (t255.length : Int)) = true := decide_eq_true c135
       clear c135
       by_cases c136 : 0 ≤ x528_6
       ·
        rw [if_pos c136] at H
        have c136b0 : decide (0 ≤ x528_6) = true := decide_eq_true c136
        clear c136
        by_cases c137 : x528_6 < (t255.length : Int)
        ·
         rw [if_pos c137] at H
         have c137b0 : decide (x528_6 < (t255.length : Int)) = true := decide_eq_true c137
         clear c137
         replace H := Option.bind_eq_some_iff.mp H
         obtain ⟨⟨t314, t315, t316⟩, A1380, H⟩ := H
         replace H : ((impl_TriangleOf.f k6 (rd t255 x528_6)).bind fun bt317 => (if t316 = true then (if bt317.2.2 = true then (if t315 = 0 then (if bt317.2.1 = 0 then (if (rd t255 x528_6) > a0 then (some false) else (laws_FnFormsStandOfAll.l3 k6 a0 a1 a2 a3 a4 a5 a6 a7 a8 a9 t255 (t255.length : Int) (wrap64 (x528_6 + 1)))) else (some false)) else (some false)) else (some false)) else (some false))) = some r := H
         have A138 := Aside0.mk A1380
         clear A1380
         replace H := Option.bind_eq_some_iff.mp H
         obtain ⟨⟨t317, t318, t319⟩, A1390, H⟩ := H
         replace H : (if t316 = true then (if t319 = true then (if t315 = 0 then (if t318 = 0 then (if (rd t255 x528_6) > a0 then (some false) else (laws_FnFormsStandOfAll.l3 k6 a0 a1 a2 a3 a4 a5 a6 a7 a8 a9 t255 (t255.length : Int) (wrap64 (x528_6 + 1)))) else (some false)) else (some false)) else (some false)) else (some false)) = some r := H
         have A139 := Aside0.mk A1390
         clear A1390
         by_cases c140 : t316 = true
         ·
          subst c140
          have H1 : (if t319 = true then (if t315 = 0 then (if t318 = 0 then (if (rd t255 x528_6) > a0 then (some false) else (laws_FnFormsStandOfAll.l3 k6 a0 a1 a2 a3 a4 a5 a6 a7 a8 a9 t255 (t255.length : Int) (wrap64 (x528_6 + 1)))) else (some false)) else (some false)) else (some false)) = some r := by rw [if_pos rfl] at H; exact H
          clear H
          have H := H1
          clear H1
          by_cases c141 : t319 = true
          ·
           subst c141
           have H1 : (if t315 = 0 then (if t318 = 0 then (if (rd t255 x528_6) > a0 then (some false) else (laws_FnFormsStandOfAll.l3 k6 a0 a1 a2 a3 a4 a5 a6 a7 a8 a9 t255 (t255.length : Int) (wrap64 (x528_6 + 1)))) else (some false)) else (some false)) = some r := by rw [if_pos rfl] at H; exact H
           clear H
           have H := H1
           clear H1
           by_cases c142 : t315 = 0
           ·
            rw [if_pos c142] at H
            have c142b0 : (t315 == 0) = true := beq_iff_eq.mpr c142
            have c142b1 : (t315 != 0) = false := bne_eq_false_iff_eq.mpr c142
            clear c142
            by_cases c143 : t318 = 0
            ·
             rw [if_pos c143] at H
             have c143b0 : (t318 == 0) = true := beq_iff_eq.mpr c143
             have c143b1 : (t318 != 0) = false := bne_eq_false_iff_eq.mpr c143
             clear c143
             by_cases c144 : (rd t255 x528_6) > a0
             ·
              rw [if_pos c144] at H
              exact absurd (H.trans (congrArg some HE_.out)) (by simp)
             ·
              rw [if_neg c144] at H
              have c144b0 : decide (a0 < (rd t255 x528_6)) = false := decide_eq_false c144
              clear c144
              have H' := Aside0.mk H
              clear H
              have p313 : 0 ≤ (x528_6 : Int) := of_decide_eq_true (by first | (with_reducible assumption) | assumption)
              have q313 : x528_6 < (t255.length : Int) := of_decide_eq_true (by first | (with_reducible assumption) | assumption)
              obtain ⟨ad313, e313, hx313_0⟩ := Kd.at_int (Kd.R_reads' HO_526.out).2.2 x528_6 p313 q313
              cases e313
              replace p313 := eq_true p313
              replace q313 := eq_true q313
              go_wp2_with (first | (go_at_call 8; (with_reducible refine (impl_SquareOf.calls k6 (rd t255 x528_6) t314 t315 true _ A138.out).mono ?_); rintro e w' ⟨rfl, ⟨nd, rfl⟩⟩; (try first | exact ⟨rfl, _, World.drewN_drewN _ _ _⟩ | exact ⟨rfl, _, Eq.trans (World.drewN_drewN _ _ _) (congrArg (World.drewN _) (Nat.add_assoc _ _ _))⟩)) | (go_at_call 10; (with_reducible refine (impl_TriangleOf.calls k6 (rd t255 x528_6) t317 t318 true _ A139.out).mono ?_); rintro e w' ⟨rfl, ⟨nd, rfl⟩⟩; (try first | exact ⟨rfl, _, World.drewN_drewN _ _ _⟩ | exact ⟨rfl, _, Eq.trans (World.drewN_drewN _ _ _) (congrArg (World.drewN _) (Nat.add_assoc _ _ _))⟩)))
              repeat (go_quiet (first | (go_at_call 8; (with_reducible refine (impl_SquareOf.calls k6 (rd t255 x528_6) t314 t315 true _ A138.out).mono ?_); rintro e w' ⟨rfl, ⟨nd, rfl⟩⟩; (try first | exact ⟨rfl, _, World.drewN_drewN _ _ _⟩ | exact ⟨rfl, _, Eq.trans (World.drewN_drewN _ _ _) (congrArg (World.drewN _) (Nat.add_assoc _ _ _))⟩)) | (go_at_call 10; (with_reducible refine (impl_TriangleOf.calls k6 (rd t255 x528_6) t317 t318 true _ A139.out).mono ?_); rintro e w' ⟨rfl, ⟨nd, rfl⟩⟩; (try first | exact ⟨rfl, _, World.drewN_drewN _ _ _⟩ | exact ⟨rfl, _, Eq.trans (World.drewN_drewN _ _ _) (congrArg (World.drewN _) (Nat.add_assoc _ _ _))⟩))); try go_wp2_with (first | (go_at_call 8; (with_reducible refine (impl_SquareOf.calls k6 (rd t255 x528_6) t314 t315 true _ A138.out).mono ?_); rintro e w' ⟨rfl, ⟨nd, rfl⟩⟩; (try first | exact ⟨rfl, _, World.drewN_drewN _ _ _⟩ | exact ⟨rfl, _, Eq.trans (World.drewN_drewN _ _ _) (congrArg (World.drewN _) (Nat.add_assoc _ _ _))⟩)) | (go_at_call 10; (with_reducible refine (impl_TriangleOf.calls k6 (rd t255 x528_6) t317 t318 true _ A139.out).mono ?_); rintro e w' ⟨rfl, ⟨nd, rfl⟩⟩; (try first | exact ⟨rfl, _, World.drewN_drewN _ _ _⟩ | exact ⟨rfl, _, Eq.trans (World.drewN_drewN _ _ _) (congrArg (World.drewN _) (Nat.add_assoc _ _ _))⟩))))
              go_roundg k6
              case measure => have := HJ22.out; have := HK2.out; have := HK3.out; have := HK4.out; have := HJ122.out; have := HK6.out; omega
              case rel => exact ⟨(wrap64 (x528_6 + 1)), (by first | rfl | (simp; done) | (simp [*]; done)), H', ⟨by have := HJ22.out; have := HK2.out; have := HK3.out; have := HK4.out; have := HJ122.out; have := HK6.out; omega⟩, ⟨by (with_reducible repeat (first | apply Kd.R_alloc | apply Kd.R_drewN | apply Kd.R_drew)); exact HO_526.out⟩, ⟨by repeat (first | (with_reducible first | exact HB.out | apply below_alloc | apply pw_below_drewN | apply below_drew1) | exact HB.out)⟩⟩
            ·
             rw [if_neg c143] at H
             exact absurd (H.trans (congrArg some HE_.out)) (by simp)
           ·
            rw [if_neg c142] at H
            exact absurd (H.trans (congrArg some HE_.out)) (by simp)
          ·
           replace c141 := Bool.eq_false_iff.mpr c141
           subst c141
           have H1 : (some false) = some r := by rw [if_neg (show ¬ (false = true) by decide)] at H; exact H
           clear H
           have H := H1
           clear H1
           exact absurd (H.trans (congrArg some HE_.out)) (by simp)
         ·
          replace c140 := Bool.eq_false_iff.mpr c140
          subst c140
          have H1 : (some false) = some r := by rw [if_neg (show ¬ (false = true) by decide)] at H; exact H
          clear H
          have H := H1
          clear H1
          exact absurd (H.trans (congrArg some HE_.out)) (by simp)
        ·
         rw [if_neg c137] at H
         exact absurd H (by simp)
       ·
        rw [if_neg c136] at H
        exact absurd H (by simp)
      ·
       rw [if_neg c135] at H
       have c135b0 : decide (x528_6 < (t255.length : Int)) = false := decide_eq_false c135
       clear c135
       have H' := Aside0.mk H
       clear H
       go_wp2
       repeat (go_quiet (fail); try go_wp2)
       go_meet
       case rel => exact ⟨_, H', ⟨by have := HJ22.out; have := HK2.out; have := HK3.out; have := HK4.out; have := HJ122.out; have := HK6.out; first | omega | exact Nat.le_refl _⟩, ⟨by repeat (first | (with_reducible first | exact HB.out | apply below_alloc | apply pw_below_drewN | apply below_drew1) | exact HB.out)⟩⟩
end Go.Proofs.YtgdmbhldabeelaaR.PFnFormsStandOfAll
