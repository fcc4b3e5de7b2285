-- Written by a program of this session's (pg.py) over the kit's print.
import Derived.Test.YtgdmbhldabeelaaRPFnFormsStandOfAllx0
import Derived.Test.YtgdmbhldabeelaaRPFnFormsStandOfAllx1
import Derived.Test.YtgdmbhldabeelaaRPFnFormsStandOfAllx2
import Derived.Test.YtgdmbhldabeelaaRPFnFormsStandOfAllx3
import Derived.Test.YtgdmbhldabeelaaRPFnFormsStandOfAllx4
import Derived.Test.YtgdmbhldabeelaaRPFnFormsStandOfAllx5
import Derived.Test.YtgdmbhldabeelaaRPFnFormsStandOfAllx6
import Derived.Deep.CutRange
import Derived.Test.YtgdmbhldabeelaaRPFnFormsStandOfAllx14
namespace Go.Proofs.YtgdmbhldabeelaaR.PFnFormsStandOfAll
open Go.RowKit Go.Proofs.YtgdmbhldabeelaaRW.PrintWords Go.Proofs.YtgdmbhldabeelaaRW.PrintLast Go.Proofs.YtgdmbhldabeelaaRW.PrintMore
attribute [local go_sem] max2_int min2_int max_two min_two max_three min_three max_four min_four   -- for this text's walks alone
set_option linter.unusedVariables false
set_option linter.unusedSimpArgs false


set_option maxHeartbeats 8000000 in
set_option maxRecDepth 100000 in
theorem laws_FnFormsStandOfAll.part11 : laws_FnFormsStandOfAll.part7.1 := by
 conv => whnf
 intro t255 t259 t219 t223 t227 t231 t247 t251 r HE_ t220 t224 t228 t232 t237 t240 t243 t246 t248 t252 t256 t260 t321 t323 t326 t329 t332 t335 t338 t341 t343 t345 t347 t349 k nd nd nd nd kj22 HJ22 kj62 HJ62 nd nd nd nd nd nd nd nd nd nd nd nd a0 A11 A12 A13 A14 A19 A20 A21 A22 a1 a2 a3 a4 a5 a6 a7 a8 a9 t235 t236 A15 t238 t239 A16 t241 t242 A17 t244 t245 A18 t320 A145 t322 A146 t324 t325 A147 t327 t328 A148 t330 t331 A149 t333 t334 A150 t336 t337 A151 t339 t340 A152 t342 A153 t344 A154 t346 A155 t348 A156 HC157 K K J K' a v221 v225 v229 v233 v249 v253 v257 v261 u164 u165 u166 u167 u168 u169 u170 u171 u172 u173 u174 u175 u176 u177 u178 u179 u180 u181 u182 u183 u184 u185 u186 u187 u188 u189 u190 u191 u192 u193 u194 u195 u196 u197 u198 u199 u200 u201 u202 u203 u204 u205 u206 u207 u208 u209 u210 u211 u212 u213 u214 u215 u216 u217 u218 u219 u220 u221 u222 u223 u224 u225 u226 u227 u228 u229 u230 u231 u232 u233 u234 u235 u236 u237 u238 u239 u240 u241 u242 u243 u244 u245 u246 u247 u248 u249 u250 u251 u252 u253 u254 u255 u256 u257 u258 u259 u20 u49 u50 u51 u52 u53 u54 u55 u56 u57 u59 u60 u61 u62 u63 u64 u65 u260 u261 u262 u263 u264 u265 u266 u267 u268 u269 u270 u271 u272 u273 u274 u275 u276 u277 u278 u279 u280 u281 u282 u283 u284 u285 u286 u287 u288 u289 u290 u291 u292 u293 u294 u295 u296 u297 u298 u299 u300 u301 u302 u303 u304 u305 u306 u307 u308 u309 u310 u311 u312 u313 u314 u315 u316 u317 u318 u319 u320 u321 u322 u323 u324 u325 u326 u327 u328 u329 u330 u331 u332 u333 u334 u335 u336 u337 u338 u339 u340 u341 u342 u343 u344 u345 u346 u347 u348 u349 u350 u351 u352 u353 u354 u355 u356 u357 u358 u359 u360 u361 u362 u363 u364 u365 u366 u367 u368 u369 u370 u371 u372 u373 u374 u375 u376 u377 u378 u379 u380 u381 u382 u383 u384 u385 u386 u387 u388 u389 u390 u391 u392 u393 u394 u395 u396 u397 u398 u399 u400 u401 u402 u403 u404 u405 u406 u407 u408 u409 u410 u411 u412 u413 u414 u415 u416 u417 u418 u419 u420 u421 u422 u423 u424 u425 u426 u427 u428 u429 u430 u431 u432 u433 u434 u435 u436 u437 u438 u439 u440 u441 u442 u443 u444 u445 u446 u447 u448 u449 u450 u451 u452 u453 u454 u455 u456 u457 u458 u459 u460 u461 u462 u463 u464 u465 u466 u467 u468 u469 u470 u471 u472 u473 u474 u475 u476 u477 u478 u479 u480 u481 u482 u483 u484 u485 u486 u487 u488 u489 u490 u491 u492 u493 u494 u495 u496 u497 u498 u499 u500 u501 u502 u503 u504 u505 u506 u507 u508 u509 u510 u511 u512 u513 u514 u515 u516 u517 u518 u519 u520 u521 u522 u523 u524 u525 u526 u527 u528 u529 u530 u531 u532 u533 u534 u535 u536 u537 u538 u539 u540 u541 u542 u543 u544 u545 u546 u547 u548 u549 u550 u551 u552 u553 u554 u555 u556 u557 u558 u559 u560 u561 u562 u563 w Q' a a a w24 w25 w26 w27 w28 w29 w30 w31 HO222 HO226 HO230 HO234 HO250 HO254 HO258 HO262 HB wc HO_21 HO_25 HO_41 HO_45 HB wc HB
 have H := HC157.out
 clear HC157
 by_cases c158 : (t321 != t323) = true
 ·
  rw [if_pos c158] at H
  exact (laws_FnFormsStandOfAll.j7_no _ _ _ _ _ _ _ _ _ _ _ _ _ _ _ _ _ (H.trans (congrArg some HE_.out))).elim
 ·
  rw [if_neg c158] at H
  have c158b0 : (t321 != t323) = false := by simpa using c158
  (try (have c158b1 : decide (t321 = t323) = true := by simpa using c158))
  (try (have c158b2 : (t321 == t323) = true := by simpa using c158))
  clear c158
  (first | rw [c158b0] | (simp only [i64_w, i32_w]; rw [c158b0]) | skip)
  by_cases c159 : t320 = t322
  ·
   rw [if_pos c159] at H
   have c159b0 : (t320 == t322) = true := beq_iff_eq.mpr c159
   have c159b1 : (t320 != t322) = false := bne_eq_false_iff_eq.mpr c159
   clear c159
   by_cases c160 : (t326 != t329) = true
   ·
    rw [if_pos c160] at H
    exact (laws_FnFormsStandOfAll.j7_no _ _ _ _ _ _ _ _ _ _ _ _ _ _ _ _ _ (H.trans (congrArg some HE_.out))).elim
   ·
    rw [if_neg c160] at H
    have c160b0 : (t326 != t329) = false := by simpa using c160
    (try (have c160b1 : decide (t326 = t329) = true := by simpa using c160))
    (try (have c160b2 : (t326 == t329) = true := by simpa using c160))
    clear c160
    by_cases c161 : t324 = t327
    ·
     rw [if_pos c161] at H
     have c161b0 : (t324 == t327) = true := beq_iff_eq.mpr c161
     have c161b1 : (t324 != t327) = false := bne_eq_false_iff_eq.mpr c161
     clear c161
     by_cases c162 : t325 = t328
     ·
      rw [if_pos c162] at H
      have c162b0 : (t325 == t328) = true := beq_iff_eq.mpr c162
      have c162b1 : (t325 != t328) = false := bne_eq_false_iff_eq.mpr c162
      clear c162
      by_cases c163 : (t332 != t335) = true
      ·
       rw [if_pos c163] at H
       exact (laws_FnFormsStandOfAll.j7_no _ _ _ _ _ _ _ _ _ _ _ _ _ _ _ _ _ (H.trans (congrArg some HE_.out))).elim
      ·
       rw [if_neg c163] at H
       have c163b0 : (t332 != t335) = false := by simpa using c163
       (try (have c163b1 : decide (t332 = t335) = true := by simpa using c163))
       (try (have c163b2 : (t332 == t335) = true := by simpa using c163))
       clear c163
       by_cases c164 : t330 = t333
       ·
        rw [if_pos c164] at H
        have c164b0 : (t330 == t333) = true := beq_iff_eq.mpr c164
        have c164b1 : (t330 != t333) = false := bne_eq_false_iff_eq.mpr c164
        clear c164
        by_cases c165 : t331 = t334
        ·
         rw [if_pos c165] at H
         have c165b0 : (t331 == t334) = true := beq_iff_eq.mpr c165
         have c165b1 : (t331 != t334) = false := bne_eq_false_iff_eq.mpr c165
         clear c165
         by_cases c166 : (t338 != t341) = true
         ·
          rw [if_pos c166] at H
          exact (laws_FnFormsStandOfAll.j7_no _ _ _ _ _ _ _ _ _ _ _ _ _ _ _ _ _ (H.trans (congrArg some HE_.out))).elim
         ·
          rw [if_neg c166] at H
          have c166b0 : (t338 != t341) = false := by simpa using c166
          (try (have c166b1 : decide (t338 = t341) = true := by simpa using c166))
          (try (have c166b2 : (t338 == t341) = true := by simpa using c166))
          clear c166
          by_cases c167 : t336 = t339
          ·
           rw [if_pos c167] at H
           have c167b0 : (t336 == t339) = true := beq_iff_eq.mpr c167
           have c167b1 : (t336 != t339) = false := bne_eq_false_iff_eq.mpr c167
           clear c167
           by_cases c168 : t337 = t340
           ·
            rw [if_pos c168] at H
            have c168b0 : (t337 == t340) = true := beq_iff_eq.mpr c168
            have c168b1 : (t337 != t340) = false := bne_eq_false_iff_eq.mpr c168
            clear c168
            by_cases c169 : (t338 != t332) = true
            ·
             rw [if_pos c169] at H
             exact (laws_FnFormsStandOfAll.j7_no _ _ _ _ _ _ _ _ _ _ _ _ _ _ _ _ _ (H.trans (congrArg some HE_.out))).elim
            ·
             rw [if_neg c169] at H
             have c169b0 : (t338 != t332) = false := by simpa using c169
             (try (have c169b1 : decide (t338 = t332) = true := by simpa using c169))
             (try (have c169b2 : (t338 == t332) = true := by simpa using c169))
             clear c169
             by_cases c170 : (t343 != t345) = true
             ·
              rw [if_pos c170] at H
              exact (laws_FnFormsStandOfAll.j7_no _ _ _ _ _ _ _ _ _ _ _ _ _ _ _ _ _ (H.trans (congrArg some HE_.out))).elim
             ·
              rw [if_neg c170] at H
              have c170b0 : (t343 != t345) = false := by simpa using c170
              (try (have c170b1 : decide (t343 = t345) = true := by simpa using c170))
              (try (have c170b2 : (t343 == t345) = true := by simpa using c170))
              clear c170
              by_cases c171 : t342 = t344
              ·
               rw [if_pos c171] at H
               have c171b0 : (t342 == t344) = true := beq_iff_eq.mpr c171
               have c171b1 : (t342 != t344) = false := bne_eq_false_iff_eq.mpr c171
               clear c171
               by_cases c172 : (t347 != t349) = true
               ·
                rw [if_pos c172] at H
                exact (laws_FnFormsStandOfAll.j7_no _ _ _ _ _ _ _ _ _ _ _ _ _ _ _ _ _ (H.trans (congrArg some HE_.out))).elim
               ·
                rw [if_neg c172] at H
                have c172b0 : (t347 != t349) = false := by simpa using c172
                (try (have c172b1 : decide (t347 = t349) = true := by simpa using c172))
                (try (have c172b2 : (t347 == t349) = true := by simpa using c172))
                clear c172
                by_cases c173 : t346 = t348
                ·
                 rw [if_pos c173] at H
                 have c173b0 : (t346 == t348) = true := beq_iff_eq.mpr c173
                 have c173b1 : (t346 != t348) = false := bne_eq_false_iff_eq.mpr c173
                 clear c173
                 have H' := Aside0.mk H
                 clear H
                 go_wp2
                 repeat (go_quiet (fail); try go_wp2)
                 go_meet
                 case rel => exact ⟨_, ((t347 != t343)), (by first | rfl | (simp; done) | (simp [*]; done)), H', ⟨by have := HJ22.out; have := HJ62.out; first | omega | exact Nat.le_refl _⟩, ⟨by repeat (first | (with_reducible first | exact HB.out | apply below_alloc | apply pw_below_drewN | apply below_drew1) | exact HB.out)⟩⟩
                ·
                 rw [if_neg c173] at H
                 exact (laws_FnFormsStandOfAll.j7_no _ _ _ _ _ _ _ _ _ _ _ _ _ _ _ _ _ (H.trans (congrArg some HE_.out))).elim
              ·
               rw [if_neg c171] at H
               exact (laws_FnFormsStandOfAll.j7_no _ _ _ _ _ _ _ _ _ _ _ _ _ _ _ _ _ (H.trans (congrArg some HE_.out))).elim
           ·
            rw [if_neg c168] at H
            exact (laws_FnFormsStandOfAll.j7_no _ _ _ _ _ _ _ _ _ _ _ _ _ _ _ _ _ (H.trans (congrArg some HE_.out))).elim
          ·
           rw [if_neg c167] at H
           exact (laws_FnFormsStandOfAll.j7_no _ _ _ _ _ _ _ _ _ _ _ _ _ _ _ _ _ (H.trans (congrArg some HE_.out))).elim
        ·
         rw [if_neg c165] at H
         exact (laws_FnFormsStandOfAll.j7_no _ _ _ _ _ _ _ _ _ _ _ _ _ _ _ _ _ (H.trans (congrArg some HE_.out))).elim
       ·
        rw [if_neg c164] at H
        exact (laws_FnFormsStandOfAll.j7_no _ _ _ _ _ _ _ _ _ _ _ _ _ _ _ _ _ (H.trans (congrArg some HE_.out))).elim
     ·
      rw [if_neg c162] at H
      exact (laws_FnFormsStandOfAll.j7_no _ _ _ _ _ _ _ _ _ _ _ _ _ _ _ _ _ (H.trans (congrArg some HE_.out))).elim
    ·
     rw [if_neg c161] at H
     exact (laws_FnFormsStandOfAll.j7_no _ _ _ _ _ _ _ _ _ _ _ _ _ _ _ _ _ (H.trans (congrArg some HE_.out))).elim
  ·
   rw [if_neg c159] at H
   exact (laws_FnFormsStandOfAll.j7_no _ _ _ _ _ _ _ _ _ _ _ _ _ _ _ _ _ (H.trans (congrArg some HE_.out))).elim
end Go.Proofs.YtgdmbhldabeelaaR.PFnFormsStandOfAll
