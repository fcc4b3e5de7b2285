-- Written by a program of this session's (pg.py) over the kit's print.
import Derived.Test.YtgdmbhldabeelaaRPFnFormsStandOfAllx0
import Derived.Test.YtgdmbhldabeelaaRPFnFormsStandOfAllx1
import Derived.Test.YtgdmbhldabeelaaRPFnFormsStandOfAllx2
import Derived.Test.YtgdmbhldabeelaaRPFnFormsStandOfAllx3
import Derived.Test.YtgdmbhldabeelaaRPFnFormsStandOfAllx4
import Derived.Test.YtgdmbhldabeelaaRPFnFormsStandOfAllx5
import Derived.Test.YtgdmbhldabeelaaRPFnFormsStandOfAllx6
import Derived.Deep.CutRange
import Derived.Test.YtgdmbhldabeelaaRPFnFormsStandOfAllx7
import Derived.Test.YtgdmbhldabeelaaRPFnFormsStandOfAllx8
import Derived.Test.YtgdmbhldabeelaaRPFnFormsStandOfAllx9
import Derived.Test.YtgdmbhldabeelaaRPFnFormsStandOfAllx10
import Derived.Test.YtgdmbhldabeelaaRPFnFormsStandOfAllx11
import Derived.Test.YtgdmbhldabeelaaRPFnFormsStandOfAllx12
import Derived.Test.YtgdmbhldabeelaaRPFnFormsStandOfAllx13
import Derived.Test.YtgdmbhldabeelaaRPFnFormsStandOfAllx14
import Derived.Test.YtgdmbhldabeelaaRPFnFormsStandOfAllx15
namespace Go.Proofs.YtgdmbhldabeelaaR.PFnFormsStandOfAll
open Go.RowKit Go.Proofs.YtgdmbhldabeelaaRW.PrintWords Go.Proofs.YtgdmbhldabeelaaRW.PrintLast Go.Proofs.YtgdmbhldabeelaaRW.PrintMore
attribute [local go_sem] max2_int min2_int max_two min_two max_three min_three max_four min_four   -- for this text's walks alone
set_option linter.unusedVariables false
set_option linter.unusedSimpArgs false


set_option maxHeartbeats 8000000 in
set_option maxRecDepth 100000 in
theorem laws_FnFormsStandOfAll.part8 : laws_FnFormsStandOfAll.part7.2.1 := by
 conv => whnf
 intro t255 t259 t219 t223 t227 t231 t247 t251 r HE_ t220 t224 t228 t232 t237 t240 t243 t246 t248 t252 t256 t260 t321 t323 t326 t329 t332 t335 t338 t341 t343 t345 t347 t349 k nd nd nd nd kj22 HJ22 kj62 HJ62 nd nd nd nd nd nd nd nd nd nd nd nd a0 A11 A12 A13 A14 A19 A20 A21 A22 a1 a2 a3 a4 a5 a6 a7 a8 a9 t235 t236 A15 t238 t239 A16 t241 t242 A17 t244 t245 A18 t320 A145 t322 A146 t324 t325 A147 t327 t328 A148 t330 t331 A149 t333 t334 A150 t336 t337 A151 t339 t340 A152 t342 A153 t344 A154 t346 A155 t348 A156 HC157 K K v221 v225 v229 v233 v249 v253 v257 v261 u164 u165 u166 u167 u168 u169 u170 u171 u172 u173 u174 u175 u176 u177 u178 u179 u180 u181 u182 u183 u184 u185 u186 u187 u188 u189 u190 u191 u192 u193 u194 u195 u196 u197 u198 u199 u200 u201 u202 u203 u204 u205 u206 u207 u208 u209 u210 u211 u212 u213 u214 u215 u216 u217 u218 u219 u220 u221 u222 u223 u224 u225 u226 u227 u228 u229 u230 u231 u232 u233 u234 u235 u236 u237 u238 u239 u240 u241 u242 u243 u244 u245 u246 u247 u248 u249 u250 u251 u252 u253 u254 u255 u256 u257 u258 u259 u20 u49 u50 u51 u52 u53 u54 u55 u56 u57 u59 u60 u61 u62 u63 u64 u65 u260 u261 u262 u263 u264 u265 u266 u267 u268 u269 u270 u271 u272 u273 u274 u275 u276 u277 u278 u279 u280 u281 u282 u283 u284 u285 u286 u287 u288 u289 u290 u291 u292 u293 u294 u295 u296 u297 u298 u299 u300 u301 u302 u303 u304 u305 u306 u307 u308 u309 u310 u311 u312 u313 u314 u315 u316 u317 u318 u319 u320 u321 u322 u323 u324 u325 u326 u327 u328 u329 u330 u331 u332 u333 u334 u335 u336 u337 u338 u339 u340 u341 u342 u343 u344 u345 u346 u347 u348 u349 u350 u351 u352 u353 u354 u355 u356 u357 u358 u359 u360 u361 u362 u363 u364 u365 u366 u367 u368 u369 u370 u371 u372 u373 u374 u375 u376 u377 u378 u379 u380 u381 u382 u383 u384 u385 u386 u387 u388 u389 u390 u391 u392 u393 u394 u395 u396 u397 u398 u399 u400 u401 u402 u403 u404 u405 u406 u407 u408 u409 u410 u411 u412 u413 u414 u415 u416 u417 u418 u419 u420 u421 u422 u423 u424 u425 u426 u427 u428 u429 u430 u431 u432 u433 u434 u435 u436 u437 u438 u439 u440 u441 u442 u443 u444 u445 u446 u447 u448 u449 u450 u451 u452 u453 u454 u455 u456 u457 u458 u459 u460 u461 u462 u463 u464 u465 u466 u467 u468 u469 u470 u471 u472 u473 u474 u475 u476 u477 u478 u479 u480 u481 u482 u483 u484 u485 u486 u487 u488 u489 u490 u491 u492 u493 u494 u495 u496 u497 u498 u499 u500 u501 u502 u503 u504 u505 u506 u507 u508 u509 u510 u511 u512 u513 u514 u515 u516 u517 u518 u519 u520 u521 u522 u523 u524 u525 u526 u527 u528 u529 u530 u531 u532 u533 u534 u535 u536 u537 u538 u539 u540 u541 u542 u543 u544 u545 u546 u547 u548 u549 u550 u551 u552 u553 u554 u555 u556 u557 u558 u559 u560 u561 u562 u563 u525 u526 u527 u528 u529 u530 u531 u532 u533 u534 u535 u536 u537 u538 u539 u540 u541 u542 u543 u544 u545 u546 u547 u548 u549 u550 u551 u552 u553 u554 u555 u556 u557 u558 u559 u560 u561 u562 u563 u564 u565 u566 u567 u568 u569 u570 u571 u572 u573 u574 u575 u576 u577 u578 u579 u580 u581 u582 u583 u584 u585 u586 u587 u588 u589 u590 u591 u592 u593 u594 u595 u596 u597 u598 u599 u600 u601 u602 u603 u604 u605 u606 u607 u608 u609 u610 u611 u612 u613 u614 u615 u616 u617 u618 u619 u620 u621 u622 u623 u624 u625 u626 u627 u628 u629 u630 u631 u632 u633 u634 u635 u636 u637 u638 u639 u640 u641 u642 u643 u644 u645 u646 u647 u648 u649 u650 u651 u652 u653 u654 u655 u656 u657 u658 u659 u660 u661 u662 u663 u664 u665 u666 u667 u668 u669 u670 u671 u672 u673 u674 u675 u676 u677 u678 u679 u680 u681 u682 u683 u684 u685 u686 u687 u688 u689 u690 u691 u692 u693 u694 u695 u696 u697 u698 u699 u700 u701 u702 u703 u704 u705 u706 u707 u708 u709 u710 u711 u712 u713 u714 u715 u716 u717 u718 u719 u720 u721 u722 u723 u724 u725 u726 u727 u728 w Q' a a w24 w25 w26 w27 w28 w29 w30 w31 HO222 HO226 HO230 HO234 HO250 HO254 HO258 HO262 HB wc HO_21 HO_25 HO_41 HO_45 HB wc HB wc hcut
 clear HC157
 obtain ⟨kq, x728_156, rfl, HA, HJ156, HB⟩ := hcut
 cases kq with
 | zero => exact absurd HA.out (by simp [laws_FnFormsStandOfAll.j7])
 | succ kj156 =>
  have H := HA.out
  clear HA
  simp only [laws_FnFormsStandOfAll.j7] at H
  by_cases c174 : x728_156 = true
  ·
   subst c174
   have H1 : (some false) = some r := by rw [if_pos rfl] at H; exact H
   clear H
   have H := H1
   clear H1
   exact absurd (H.trans (congrArg some HE_.out)) (by simp)
  ·
   replace c174 := Bool.eq_false_iff.mpr c174
   subst c174
   have H1 : (if t321 = true then (laws_FnFormsStandOfAll.j8 kj156 a3 a4 a5 a6 t324 t325 t326 t330 t331 t332 t336 t337 (t320 != (wrap64 ((wrap64 (a1 * a1)) - (wrap64 ((wrap64 (a1 - (wrap64 (2 * a2)))) * (wrap64 (a1 - (wrap64 (2 * a2)))))))))) else (laws_FnFormsStandOfAll.j8 kj156 a3 a4 a5 a6 t324 t325 t326 t330 t331 t332 t336 t337 false)) = some r := by rw [if_neg (show ¬ (false = true) by decide)] at H; exact H
   clear H
   have H := H1
   clear H1
   have HC175 := Aside0.mk H
   clear H
   go_upto_region 61 with (fail)
   repeat (go_quiet (fail); go_upto_region 61 with (fail))
   go_cut [746] from 728 to 746 (fun v746 wc => ∃ (kq : Nat) (x746_174 : Bool), v746 = .bool x746_174 ∧ Aside0 (laws_FnFormsStandOfAll.j8 kq a3 a4 a5 a6 t324 t325 t326 t330 t331 t332 t336 t337 x746_174 = some r) ∧ Aside0 (kq ≤ kj156) ∧ Aside0 (Below w.heap.size w wc))
   case first => as_aux_lemma =>
    have H := HC175.out
    clear HC175
    by_cases c176 : t321 = true
    ·
     subst c176
     have H1 : (laws_FnFormsStandOfAll.j8 kj156 a3 a4 a5 a6 t324 t325 t326 t330 t331 t332 t336 t337 (t320 != (wrap64 ((wrap64 (a1 * a1)) - (wrap64 ((wrap64 (a1 - (wrap64 (2 * a2)))) * (wrap64 (a1 - (wrap64 (2 * a2)))))))))) = some r := by rw [if_pos rfl] at H; exact H
     clear H
     have H := H1
     clear H1
     have H' := Aside0.mk H
     clear H
     go_wp2
     repeat (go_quiet (fail); try go_wp2)
     go_meet
     case rel => exact ⟨_, ((t320 != (wrap64 ((wrap64 (a1 * a1)) - (wrap64 ((wrap64 (a1 - (wrap64 (2 * a2)))) * (wrap64 (a1 - (wrap64 (2 * a2)))))))))), (by first | rfl | (simp; done) | (simp [*]; done)), H', ⟨by have := HJ22.out; have := HJ62.out; have := HJ156.out; first | omega | exact Nat.le_refl _⟩, ⟨by repeat (first | (with_reducible first | exact HB.out | apply below_alloc | apply pw_below_drewN | apply below_drew1) | exact HB.out)⟩⟩
    ·
     replace c176 := Bool.eq_false_iff.mpr c176
     subst c176
     have H1 : (laws_FnFormsStandOfAll.j8 kj156 a3 a4 a5 a6 t324 t325 t326 t330 t331 t332 t336 t337 false) = some r := by rw [if_neg (show ¬ (false = true) by decide)] at H; exact H
     clear H
     have H := H1
     clear H1
     have H' := Aside0.mk H
     clear H
     go_wp2
     repeat (go_quiet (fail); try go_wp2)
     go_meet
     case rel => exact ⟨_, (false), (by first | rfl | (simp; done) | (simp [*]; done)), H', ⟨by have := HJ22.out; have := HJ62.out; have := HJ156.out; first | omega | exact Nat.le_refl _⟩, ⟨by repeat (first | (with_reducible first | exact HB.out | apply below_alloc | apply pw_below_drewN | apply below_drew1) | exact HB.out)⟩⟩
   case rest => as_aux_lemma =>
    clear HC175
    try clear c174
    obtain ⟨kq, x746_174, rfl, HA, HJ174, HB⟩ := hcut
    cases kq with
    | zero => exact absurd HA.out (by simp [laws_FnFormsStandOfAll.j8])
    | succ kj174 =>
     have H := HA.out
     clear HA
     simp only [laws_FnFormsStandOfAll.j8] at H
     by_cases c177 : x746_174 = true
     ·
      subst c177
      have H1 : (some false) = some r := by rw [if_pos rfl] at H; exact H
      clear H
      have H := H1
      clear H1
      exact absurd (H.trans (congrArg some HE_.out)) (by simp)
     ·
      replace c177 := Bool.eq_false_iff.mpr c177
      subst c177
      have H1 : (if t326 = true then (if t324 ≤ (wrap64 (2 * a4)) then (laws_FnFormsStandOfAll.j9 kj174 a5 a6 t330 t331 t332 t336 t337 true) else (if (wrap64 ((wrap64 ((wrap64 (4 * a4)) * (wrap64 (t324 - a4)))) + t325)) = a3 then (if t325 < 0 then (laws_FnFormsStandOfAll.j9 kj174 a5 a6 t330 t331 t332 t336 t337 true) else (laws_FnFormsStandOfAll.j9 kj174 a5 a6 t330 t331 t332 t336 t337 (decide (t325 ≥ (wrap64 (4 * a4)))))) else (laws_FnFormsStandOfAll.j9 kj174 a5 a6 t330 t331 t332 t336 t337 true))) else (laws_FnFormsStandOfAll.j9 kj174 a5 a6 t330 t331 t332 t336 t337 false)) = some r := by rw [if_neg (show ¬ (false = true) by decide)] at H; exact H
      clear H
      have H := H1
      clear H1
      have HC178 := Aside0.mk H
      clear H
      go_upto_region 63 with (fail)
      repeat (go_quiet (fail); go_upto_region 63 with (fail))
      go_cut [775] from 746 to 775 (fun v775 wc => ∃ (kq : Nat) (x775_177 : Bool), v775 = .bool x775_177 ∧ Aside0 (laws_FnFormsStandOfAll.j9 kq a5 a6 t330 t331 t332 t336 t337 x775_177 = some r) ∧ Aside0 (kq ≤ kj174) ∧ Aside0 (Below w.heap.size w wc))
      case first => as_aux_lemma =>
       have H := HC178.out
       clear HC178
       by_cases c179 : t326 = true
       ·
        subst c179
        have H1 : (if t324 ≤ (wrap64 (2 * a4)) then (laws_FnFormsStandOfAll.j9 kj174 a5 a6 t330 t331 t332 t336 t337 true) else (if (wrap64 ((wrap64 ((wrap64 (4 * a4)) * (wrap64 (t324 - a4)))) + t325)) = a3 then (if t325 < 0 then (laws_FnFormsStandOfAll.j9 kj174 a5 a6 t330 t331 t332 t336 t337 true) else (laws_FnFormsStandOfAll.j9 kj174 a5 a6 t330 t331 t332 t336 t337 (decide (t325 ≥ (wrap64 (4 * a4)))))) else (laws_FnFormsStandOfAll.j9 kj174 a5 a6 t330 t331 t332 t336 t337 true))) = some r := by rw [if_pos rfl] at H; exact H
        clear H
        have H := H1
        clear H1
        by_cases c180 : t324 ≤ (wrap64 (2 * a4))
        ·
         rw [if_pos c180] at H
         exact (laws_FnFormsStandOfAll.j9_no _ _ _ _ _ _ _ _ (H.trans (congrArg some HE_.out))).elim
        ·
         rw [if_neg c180] at H
         have c180b0 : decide (t324 ≤ (wrap64 (2 * a4))) = false := decide_eq_false c180
         clear c180
         (first | rw [c180b0] | (simp only [i64_w, i32_w]; rw [c180b0]) | skip)
         by_cases c181 : (wrap64 ((wrap64 ((wrap64 (4 * a4)) * (wrap64 (t324 - a4)))) + t325)) = a3
         ·
          rw [if_pos c181] at H
          have c181b0 : ((wrap64 ((wrap64 ((wrap64 (4 * a4)) * (wrap64 (t324 - a4)))) + t325)) == a3) = true := beq_iff_eq.mpr c181
          have c181b1 : ((wrap64 ((wrap64 ((wrap64 (4 * a4)) * (wrap64 (t324 - a4)))) + t325)) != a3) = false := bne_eq_false_iff_eq.mpr c181
          clear c181
          by_cases c182 : t325 < 0
          ·
           rw [if_pos c182] at H
           exact (laws_FnFormsStandOfAll.j9_no _ _ _ _ _ _ _ _ (H.trans (congrArg some HE_.out))).elim
          ·
           rw [if_neg c182] at H
           have c182b0 : decide (t325 < 0) = false := decide_eq_false c182
           clear c182
           have H' := Aside0.mk H
           clear H
           go_wp2
           repeat (go_quiet (fail); try go_wp2)
           go_meet
           case rel => exact ⟨_, (decide (t325 ≥ (wrap64 (4 * a4)))), (by first | rfl | (simp; done) | (simp [*]; done)), H', ⟨by have := HJ22.out; have := HJ62.out; have := HJ156.out; have := HJ174.out; first | omega | exact Nat.le_refl _⟩, ⟨by repeat (first | (with_reducible first | exact HB.out | apply below_alloc | apply pw_below_drewN | apply below_drew1) | exact HB.out)⟩⟩
         ·
          rw [if_neg c181] at H
          exact (laws_FnFormsStandOfAll.j9_no _ _ _ _ _ _ _ _ (H.trans (congrArg some HE_.out))).elim
       ·
        replace c179 := Bool.eq_false_iff.mpr c179
        subst c179
        have H1 : (laws_FnFormsStandOfAll.j9 kj174 a5 a6 t330 t331 t332 t336 t337 false) = some r := by rw [if_neg (show ¬ (false = true) by decide)] at H; exact H
        clear H
        have H := H1
        clear H1
        have H' := Aside0.mk H
        clear H
        go_wp2
        repeat (go_quiet (fail); try go_wp2)
        go_meet
        case rel => exact ⟨_, (false), (by first | rfl | (simp; done) | (simp [*]; done)), H', ⟨by have := HJ22.out; have := HJ62.out; have := HJ156.out; have := HJ174.out; first | omega | exact Nat.le_refl _⟩, ⟨by repeat (first | (with_reducible first | exact HB.out | apply below_alloc | apply pw_below_drewN | apply below_drew1) | exact HB.out)⟩⟩
      case rest => as_aux_lemma =>
       clear HC178
       try clear c174
       try clear c177
       obtain ⟨kq, x775_177, rfl, HA, HJ177, HB⟩ := hcut
       cases kq with
       | zero => exact absurd HA.out (by simp [laws_FnFormsStandOfAll.j9])
       | succ kj177 =>
        have H := HA.out
        clear HA
        simp only [laws_FnFormsStandOfAll.j9] at H
        by_cases c183 : x775_177 = true
        ·
         subst c183
         have H1 : (some false) = some r := by rw [if_pos rfl] at H; exact H
         clear H
         have H := H1
         clear H1
         exact absurd (H.trans (congrArg some HE_.out)) (by simp)
        ·
         replace c183 := Bool.eq_false_iff.mpr c183
         subst c183
         have H1 : (if t332 = true then (if t330 = t336 then (if (wrap64 ((wrap64 (t330 * a5)) + t331)) = a6 then (if (Int.tmod t330 2) = 0 then (if t337 = t331 then (if (Int.tmod t330 2) = 1 then (laws_FnFormsStandOfAll.j10 kj177 a5 a6 t330 t331 t336 t337 ((wrap64 (t337 + t331)) != (wrap64 (a5 - 1)))) else (laws_FnFormsStandOfAll.j10 kj177 a5 a6 t330 t331 t336 t337 false)) else (laws_FnFormsStandOfAll.j10 kj177 a5 a6 t330 t331 t336 t337 true)) else (if (Int.tmod t330 2) = 1 then (laws_FnFormsStandOfAll.j10 kj177 a5 a6 t330 t331 t336 t337 ((wrap64 (t337 + t331)) != (wrap64 (a5 - 1)))) else (laws_FnFormsStandOfAll.j10 kj177 a5 a6 t330 t331 t336 t337 false))) else (laws_FnFormsStandOfAll.j10 kj177 a5 a6 t330 t331 t336 t337 true)) else (laws_FnFormsStandOfAll.j10 kj177 a5 a6 t330 t331 t336 t337 true)) else (some true)) = some r := by rw [if_neg (show ¬ (false = true) by decide)] at H; exact H
         clear H
         have H := H1
         clear H1
         by_cases c184 : t332 = true
         ·
          subst c184
          have H1 : (if t330 = t336 then (if (wrap64 ((wrap64 (t330 * a5)) + t331)) = a6 then (if (Int.tmod t330 2) = 0 then (if t337 = t331 then (if (Int.tmod t330 2) = 1 then (laws_FnFormsStandOfAll.j10 kj177 a5 a6 t330 t331 t336 t337 ((wrap64 (t337 + t331)) != (wrap64 (a5 - 1)))) else (laws_FnFormsStandOfAll.j10 kj177 a5 a6 t330 t331 t336 t337 false)) else (laws_FnFormsStandOfAll.j10 kj177 a5 a6 t330 t331 t336 t337 true)) else (if (Int.tmod t330 2) = 1 then (laws_FnFormsStandOfAll.j10 kj177 a5 a6 t330 t331 t336 t337 ((wrap64 (t337 + t331)) != (wrap64 (a5 - 1)))) else (laws_FnFormsStandOfAll.j10 kj177 a5 a6 t330 t331 t336 t337 false))) else (laws_FnFormsStandOfAll.j10 kj177 a5 a6 t330 t331 t336 t337 true)) else (laws_FnFormsStandOfAll.j10 kj177 a5 a6 t330 t331 t336 t337 true)) = some r := by rw [if_pos rfl] at H; exact H
          clear H
          have H := H1
          clear H1
          have HC185 := Aside0.mk H
          clear H
          go_upto_region 66 with (fail)
          repeat (go_quiet (fail); go_upto_region 66 with (fail))
          go_cut [811] from 775 to 811 (fun v811 wc => ∃ (kq : Nat) (x811_184 : Bool), v811 = .bool x811_184 ∧ Aside0 (laws_FnFormsStandOfAll.j10 kq a5 a6 t330 t331 t336 t337 x811_184 = some r) ∧ Aside0 (kq ≤ kj177) ∧ Aside0 (Below w.heap.size w wc))
          case first => as_aux_lemma =>
           have H := HC185.out
           clear HC185
           by_cases c186 : t330 = t336
           ·
            rw [if_pos c186] at H
            have c186b0 : (t330 == t336) = true := beq_iff_eq.mpr c186
            have c186b1 : (t330 != t336) = false := bne_eq_false_iff_eq.mpr c186
            clear c186
            (first | rw [c186b0] | (simp only [i64_w, i32_w]; rw [c186b0]) | skip)
            by_cases c187 : (wrap64 ((wrap64 (t330 * a5)) + t331)) = a6
            ·
             rw [if_pos c187] at H
             have c187b0 : ((wrap64 ((wrap64 (t330 * a5)) + t331)) == a6) = true := beq_iff_eq.mpr c187
             have c187b1 : ((wrap64 ((wrap64 (t330 * a5)) + t331)) != a6) = false := bne_eq_false_iff_eq.mpr c187
             clear c187
             by_cases c188 : (Int.tmod t330 2) = 0
             ·
              rw [if_pos c188] at H
              have c188b0 : ((Int.tmod t330 2) == 0) = true := beq_iff_eq.mpr c188
              have c188b1 : ((Int.tmod t330 2) != 0) = false := bne_eq_false_iff_eq.mpr c188
              clear c188
              by_cases c189 : t337 = t331
              ·
               rw [if_pos c189] at H
               have c189b0 : (t337 == t331) = true := beq_iff_eq.mpr c189
               have c189b1 : (t337 != t331) = false := bne_eq_false_iff_eq.mpr c189
               clear c189
               by_cases c190 : (Int.tmod t330 2) = 1
               ·
                rw [if_pos c190] at H
                have c190b0 : ((Int.tmod t330 2) == 1) = true := beq_iff_eq.mpr c190
                have c190b1 : ((Int.tmod t330 2) != 1) = false := bne_eq_false_iff_eq.mpr c190
                clear c190
                have H' := Aside0.mk H
                clear H
                go_wp2
                repeat (go_quiet (fail); try go_wp2)
                go_meet
                case rel => exact ⟨_, (((wrap64 (t337 + t331)) != (wrap64 (a5 - 1)))), (by first | rfl | (simp; done) | (simp [*]; done)), H', ⟨by have := HJ22.out; have := HJ62.out; have := HJ156.out; have := HJ174.out; have := HJ177.out; first | omega | exact Nat.le_refl _⟩, ⟨by repeat (first | (with_reducible first | exact HB.out | apply below_alloc | apply pw_below_drewN | apply below_drew1) | exact HB.out)⟩⟩
               ·
                rw [if_neg c190] at H
                have c190b0 : ((Int.tmod t330 2) == 1) = false := beq_eq_false_iff_ne.mpr c190
                have c190b1 : ((Int.tmod t330 2) != 1) = true := bne_iff_ne.mpr c190
                have H' := Aside0.mk H
                clear H
                go_wp2
                repeat (go_quiet (fail); try go_wp2)
                go_meet
                case rel => exact ⟨_, (false), (by first | rfl | (simp; done) | (simp [*]; done)), H', ⟨by have := HJ22.out; have := HJ62.out; have := HJ156.out; have := HJ174.out; have := HJ177.out; first | omega | exact Nat.le_refl _⟩, ⟨by repeat (first | (with_reducible first | exact HB.out | apply below_alloc | apply pw_below_drewN | apply below_drew1) | exact HB.out)⟩⟩
              ·
               rw [if_neg c189] at H
               exact (laws_FnFormsStandOfAll.j10_no _ _ _ _ _ _ _ (H.trans (congrArg some HE_.out))).elim
             ·
              rw [if_neg c188] at H
              have c188b0 : ((Int.tmod t330 2) == 0) = false := beq_eq_false_iff_ne.mpr c188
              have c188b1 : ((Int.tmod t330 2) != 0) = true := bne_iff_ne.mpr c188
              by_cases c191 : (Int.tmod t330 2) = 1
              ·
               rw [if_pos c191] at H
               have c191b0 : ((Int.tmod t330 2) == 1) = true := beq_iff_eq.mpr c191
               have c191b1 : ((Int.tmod t330 2) != 1) = false := bne_eq_false_iff_eq.mpr c191
               clear c191
               have H' := Aside0.mk H
               clear H
               go_wp2
               repeat (go_quiet (fail); try go_wp2)
               go_meet
               case rel => exact ⟨_, (((wrap64 (t337 + t331)) != (wrap64 (a5 - 1)))), (by first | rfl | (simp; done) | (simp [*]; done)), H', ⟨by have := HJ22.out; have := HJ62.out; have := HJ156.out; have := HJ174.out; have := HJ177.out; first | omega | exact Nat.le_refl _⟩, ⟨by repeat (first | (with_reducible first | exact HB.out | apply below_alloc | apply pw_below_drewN | apply below_drew1) | exact HB.out)⟩⟩
              ·
               rw [if_neg c191] at H
               have c191b0 : ((Int.tmod t330 2) == 1) = false := beq_eq_false_iff_ne.mpr c191
               have c191b1 : ((Int.tmod t330 2) != 1) = true := bne_iff_ne.mpr c191
               have H' := Aside0.mk H
               clear H
               go_wp2
               repeat (go_quiet (fail); try go_wp2)
               go_meet
               case rel => exact ⟨_, (false), (by first | rfl | (simp; done) | (simp [*]; done)), H', ⟨by have := HJ22.out; have := HJ62.out; have := HJ156.out; have := HJ174.out; have := HJ177.out; first | omega | exact Nat.le_refl _⟩, ⟨by repeat (first | (with_reducible first | exact HB.out | apply below_alloc | apply pw_below_drewN | apply below_drew1) | exact HB.out)⟩⟩
            ·
             rw [if_neg c187] at H
             exact (laws_FnFormsStandOfAll.j10_no _ _ _ _ _ _ _ (H.trans (congrArg some HE_.out))).elim
           ·
            rw [if_neg c186] at H
            exact (laws_FnFormsStandOfAll.j10_no _ _ _ _ _ _ _ (H.trans (congrArg some HE_.out))).elim
          case rest => as_aux_lemma =>
           clear HC185
           try clear c174
           try clear c177
           try clear c183
           try clear c184
           obtain ⟨kq, x811_184, rfl, HA, HJ184, HB⟩ := hcut
           cases kq with
           | zero => exact absurd HA.out (by simp [laws_FnFormsStandOfAll.j10])
           | succ kj184 =>
            have H := HA.out
            clear HA
            simp only [laws_FnFormsStandOfAll.j10] at H
            by_cases c192 : x811_184 = true
            ·
             subst c192
             have H1 : (some false) = some r := by rw [if_pos rfl] at H; exact H
             clear H
             have H := H1
             clear H1
             exact absurd (H.trans (congrArg some HE_.out)) (by simp)
            ·
             replace c192 := Bool.eq_false_iff.mpr c192
             subst c192
             have H1 : (if t330 ≤ 1000 then ((impl_SoldierAt.f a5 t330 t331).bind fun bt350 => ((impl_SoldierOfSnake.f a5 t336 t337).bind fun bt352 => (if bt350.2 = true then (if bt350.1 = a6 then (if bt352.2 = true then (if bt352.1 = a6 then (some true) else (some false)) else (some false)) else (some false)) else (some false)))) else (some true)) = some r := by rw [if_neg (show ¬ (false = true) by decide)] at H; exact H
             clear H
             have H := H1
             clear H1
             by_cases c193 : t330 ≤ 1000
             ·
              rw [if_pos c193] at H
              have c193b0 : decide (t330 ≤ 1000) = true := decide_eq_true c193
              clear c193
              replace H := Option.bind_eq_some_iff.mp H
              obtain ⟨⟨t350, t351⟩, A1940, H⟩ := H
              replace H : ((impl_SoldierOfSnake.f a5 t336 t337).bind fun bt352 => (if t351 = true then (if t350 = a6 then (if bt352.2 = true then (if bt352.1 = a6 then (some true) else (some false)) else (some false)) else (some false)) else (some false))) = some r := H
              have A194 := Aside0.mk A1940
              clear A1940
              replace H := Option.bind_eq_some_iff.mp H
              obtain ⟨⟨t352, t353⟩, A1950, H⟩ := H
              replace H : (if t351 = true then (if t350 = a6 then (if t353 = true then (if t352 = a6 then (some true) else (some false)) else (some false)) else (some false)) else (some false)) = some r := H
              have A195 := Aside0.mk A1950
              clear A1950
              by_cases c196 : t351 = true
              ·
               subst c196
               have H1 : (if t350 = a6 then (if t353 = true then (if t352 = a6 then (some true) else (some false)) else (some false)) else (some false)) = some r := by rw [if_pos rfl] at H; exact H
               clear H
               have H := H1
               clear H1
               by_cases c197 : t350 = a6
               ·
                rw [if_pos c197] at H
                have c197b0 : (t350 == a6) = true := beq_iff_eq.mpr c197
                have c197b1 : (t350 != a6) = false := bne_eq_false_iff_eq.mpr c197
                clear c197
                by_cases c198 : t353 = true
                ·
                 subst c198
                 have H1 : (if t352 = a6 then (some true) else (some false)) = some r := by rw [if_pos rfl] at H; exact H
                 clear H
                 have H := H1
                 clear H1
                 by_cases c199 : t352 = a6
                 ·
                  rw [if_pos c199] at H
                  have c199b0 : (t352 == a6) = true := beq_iff_eq.mpr c199
                  have c199b1 : (t352 != a6) = false := bne_eq_false_iff_eq.mpr c199
                  clear c199
                  obtain rfl := Option.some.inj H
                  go_wp2_with (first | (go_at_call 27; (with_reducible refine (impl_SoldierAt.calls a5 t330 t331 t350 true _ A194.out).mono ?_); rintro e w' ⟨rfl, ⟨nd, rfl⟩⟩; (try first | exact ⟨rfl, _, World.drewN_drewN _ _ _⟩ | exact ⟨rfl, _, Eq.trans (World.drewN_drewN _ _ _) (congrArg (World.drewN _) (Nat.add_assoc _ _ _))⟩)) | (go_at_call 29; (with_reducible refine (impl_SoldierOfSnake.calls a5 t336 t337 t352 true _ A195.out).mono ?_); rintro e w' ⟨rfl, ⟨nd, rfl⟩⟩; (try first | exact ⟨rfl, _, World.drewN_drewN _ _ _⟩ | exact ⟨rfl, _, Eq.trans (World.drewN_drewN _ _ _) (congrArg (World.drewN _) (Nat.add_assoc _ _ _))⟩)))
                  repeat (go_quiet (first | (go_at_call 27; (with_reducible refine (impl_SoldierAt.calls a5 t330 t331 t350 true _ A194.out).mono ?_); rintro e w' ⟨rfl, ⟨nd, rfl⟩⟩; (try first | exact ⟨rfl, _, World.drewN_drewN _ _ _⟩ | exact ⟨rfl, _, Eq.trans (World.drewN_drewN _ _ _) (congrArg (World.drewN _) (Nat.add_assoc _ _ _))⟩)) | (go_at_call 29; (with_reducible refine (impl_SoldierOfSnake.calls a5 t336 t337 t352 true _ A195.out).mono ?_); rintro e w' ⟨rfl, ⟨nd, rfl⟩⟩; (try first | exact ⟨rfl, _, World.drewN_drewN _ _ _⟩ | exact ⟨rfl, _, Eq.trans (World.drewN_drewN _ _ _) (congrArg (World.drewN _) (Nat.add_assoc _ _ _))⟩))); try go_wp2_with (first | (go_at_call 27; (with_reducible refine (impl_SoldierAt.calls a5 t330 t331 t350 true _ A194.out).mono ?_); rintro e w' ⟨rfl, ⟨nd, rfl⟩⟩; (try first | exact ⟨rfl, _, World.drewN_drewN _ _ _⟩ | exact ⟨rfl, _, Eq.trans (World.drewN_drewN _ _ _) (congrArg (World.drewN _) (Nat.add_assoc _ _ _))⟩)) | (go_at_call 29; (with_reducible refine (impl_SoldierOfSnake.calls a5 t336 t337 t352 true _ A195.out).mono ?_); rintro e w' ⟨rfl, ⟨nd, rfl⟩⟩; (try first | exact ⟨rfl, _, World.drewN_drewN _ _ _⟩ | exact ⟨rfl, _, Eq.trans (World.drewN_drewN _ _ _) (congrArg (World.drewN _) (Nat.add_assoc _ _ _))⟩))))
                  go_ret
                  exact ⟨by first | rfl | (simp [errW_none, errW_some] <;> rfl) | (simp [*, errW_none, errW_some] <;> rfl), by repeat (first | (with_reducible first | exact HB.out | apply below_alloc | apply pw_below_drewN | apply below_drew1) | exact HB.out)⟩
                 ·
                  rw [if_neg c199] at H
                  exact absurd (H.trans (congrArg some HE_.out)) (by simp)
                ·
                 replace c198 := Bool.eq_false_iff.mpr c198
                 subst c198
                 have H1 : (some false) = some r := by rw [if_neg (show ¬ (false = true) by decide)] at H; exact H
                 clear H
                 have H := H1
                 clear H1
                 exact absurd (H.trans (congrArg some HE_.out)) (by simp)
               ·
                rw [if_neg c197] at H
                exact absurd (H.trans (congrArg some HE_.out)) (by simp)
              ·
               replace c196 := Bool.eq_false_iff.mpr c196
               subst c196
               have H1 : (some false) = some r := by rw [if_neg (show ¬ (false = true) by decide)] at H; exact H
               clear H
               have H := H1
               clear H1
               exact absurd (H.trans (congrArg some HE_.out)) (by simp)
             ·
              rw [if_neg c193] at H
              have c193b0 : decide (t330 ≤ 1000) = false := decide_eq_false c193
              clear c193
              obtain rfl := Option.some.inj H
              go_wp2
              repeat (go_quiet (fail); try go_wp2)
              go_ret
              exact ⟨by first | rfl | (simp [errW_none, errW_some] <;> rfl) | (simp [*, errW_none, errW_some] <;> rfl), by repeat (first | (with_reducible first | exact HB.out | apply below_alloc | apply pw_below_drewN | apply below_drew1) | exact HB.out)⟩
         ·
          replace c184 := Bool.eq_false_iff.mpr c184
          subst c184
          have H1 : (some true) = some r := by rw [if_neg (show ¬ (false = true) by decide)] at H; exact H
          clear H
          have H := H1
          clear H1
          obtain rfl := Option.some.inj H
          go_wp2
          repeat (go_quiet (fail); try go_wp2)
          go_ret
          exact ⟨by first | rfl | (simp [errW_none, errW_some] <;> rfl) | (simp [*, errW_none, errW_some] <;> rfl), by repeat (first | (with_reducible first | exact HB.out | apply below_alloc | apply pw_below_drewN | apply below_drew1) | exact HB.out)⟩

theorem laws_FnFormsStandOfAll.calls (k : Nat) (a0 : Int) (a1 : Int) (a2 : Int) (a3 : Int) (a4 : Int) (a5 : Int) (a6 : Int) (a7 : Int) (a8 : Int) (a9 : Int) (r : Bool) (w : World) (h : laws_FnFormsStandOfAll.f k a0 a1 a2 a3 a4 a5 a6 a7 a8 a9 = some r) (he_ : r = true) :
  Calls Try.prog 3 #[.int .i64 a0, .int .i64 a1, .int .i64 a2, .int .i64 a3, .int .i64 a4, .int .i64 a5, .int .i64 a6, .int .i64 a7, .int .i64 a8, .int .i64 a9] w fun e w' => e = .returned (.bool r) ∧ Below w.heap.size w w' :=
  (laws_FnFormsStandOfAll.part0.2.2 ⟨laws_FnFormsStandOfAll.part1⟩ ⟨(laws_FnFormsStandOfAll.part2.2.2 ⟨(laws_FnFormsStandOfAll.part3.2 ⟨(laws_FnFormsStandOfAll.part4.2.2.2 ⟨laws_FnFormsStandOfAll.part9⟩ ⟨laws_FnFormsStandOfAll.part10⟩ ⟨(laws_FnFormsStandOfAll.part5.2 ⟨laws_FnFormsStandOfAll.part6⟩)⟩)⟩)⟩ ⟨(laws_FnFormsStandOfAll.part7.2.2 ⟨laws_FnFormsStandOfAll.part11⟩ ⟨laws_FnFormsStandOfAll.part8⟩)⟩)⟩) k a0 a1 a2 a3 a4 a5 a6 a7 a8 a9 r w h he_
/-- THE ONE PURE STATEMENT of laws_FnFormsStandOfAll: yours. -/
def laws_FnFormsStandOfAll.Pure : Prop := ∀ (a0 : Int) (a1 : Int) (a2 : Int) (a3 : Int) (a4 : Int) (a5 : Int) (a6 : Int) (a7 : Int) (a8 : Int) (a9 : Int), (Lit.int .i64 a0).wf = true → (Lit.int .i64 a1).wf = true → (Lit.int .i64 a2).wf = true → (Lit.int .i64 a3).wf = true → (Lit.int .i64 a4).wf = true → (Lit.int .i64 a5).wf = true → (Lit.int .i64 a6).wf = true → (Lit.int .i64 a7).wf = true → (Lit.int .i64 a8).wf = true → (Lit.int .i64 a9).wf = true → ∃ k, laws_FnFormsStandOfAll.f k a0 a1 a2 a3 a4 a5 a6 a7 a8 a9 = some true
theorem laws_FnFormsStandOfAll.walk (P : laws_FnFormsStandOfAll.Pure) (a0 : Int) (a1 : Int) (a2 : Int) (a3 : Int) (a4 : Int) (a5 : Int) (a6 : Int) (a7 : Int) (a8 : Int) (a9 : Int) (w : World) (w0 : (Lit.int .i64 a0).wf = true) (w1 : (Lit.int .i64 a1).wf = true) (w2 : (Lit.int .i64 a2).wf = true) (w3 : (Lit.int .i64 a3).wf = true) (w4 : (Lit.int .i64 a4).wf = true) (w5 : (Lit.int .i64 a5).wf = true) (w6 : (Lit.int .i64 a6).wf = true) (w7 : (Lit.int .i64 a7).wf = true) (w8 : (Lit.int .i64 a8).wf = true) (w9 : (Lit.int .i64 a9).wf = true) :
    Calls Try.prog 3 #[.int .i64 a0, .int .i64 a1, .int .i64 a2, .int .i64 a3, .int .i64 a4, .int .i64 a5, .int .i64 a6, .int .i64 a7, .int .i64 a8, .int .i64 a9] w fun e w' => e = .returned (.bool true) ∧ Below w.heap.size w w' := by
  obtain ⟨k, h⟩ := P a0 a1 a2 a3 a4 a5 a6 a7 a8 a9 w0 w1 w2 w3 w4 w5 w6 w7 w8 w9
  refine (laws_FnFormsStandOfAll.calls k a0 a1 a2 a3 a4 a5 a6 a7 a8 a9 true w h rfl).mono ?_
  rintro e w' ⟨rfl, hd⟩
  exact ⟨rfl, hd⟩

end Go.Proofs.YtgdmbhldabeelaaR.PFnFormsStandOfAll
