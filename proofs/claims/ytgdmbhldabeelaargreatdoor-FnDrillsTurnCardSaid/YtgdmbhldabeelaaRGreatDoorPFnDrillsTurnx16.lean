-- Written by a program of this session's (pg.py) over the kit's print.
import Derived.Test.YtgdmbhldabeelaaRGreatDoorPFnDrillsTurnx0
import Derived.Test.YtgdmbhldabeelaaRGreatDoorPFnDrillsTurnx1
import Derived.Test.YtgdmbhldabeelaaRGreatDoorPFnDrillsTurnx2
import Derived.Test.YtgdmbhldabeelaaRGreatDoorPFnDrillsTurnx3
import Derived.Test.YtgdmbhldabeelaaRGreatDoorPFnDrillsTurnx4
import Derived.Test.YtgdmbhldabeelaaRGreatDoorPFnDrillsTurnx5
import Derived.Test.YtgdmbhldabeelaaRGreatDoorPFnDrillsTurnx6
import Derived.Test.YtgdmbhldabeelaaRGreatDoorPFnDrillsTurnx7
import Derived.Test.YtgdmbhldabeelaaRGreatDoorPFnDrillsTurnx8
import Derived.Test.YtgdmbhldabeelaaRGreatDoorPFnDrillsTurnx9
import Derived.Test.YtgdmbhldabeelaaRGreatDoorPFnDrillsTurnx10
import Derived.Deep.CutRange
import Derived.Test.YtgdmbhldabeelaaRGreatDoorPFnDrillsTurnx15
namespace Go.Proofs.YtgdmbhldabeelaaRGreatDoor.PFnDrillsTurn
open Go.RowKit Go.Proofs.YtgdmbhldabeelaaRGreatDoorW.PrintWords Go.Proofs.YtgdmbhldabeelaaRGreatDoorW.PrintLast Go.Proofs.YtgdmbhldabeelaaRGreatDoorW.PrintMore
attribute [local go_sem] max2_int min2_int max_two min_two max_three min_three max_four min_four   -- for this text's walks alone
set_option linter.unusedVariables false
set_option linter.unusedSimpArgs false


set_option maxHeartbeats 8000000 in
set_option maxRecDepth 100000 in
theorem laws_FnDrillsTurn.part9 : laws_FnDrillsTurn.part8.1 := by
 conv => whnf
 intro t270 t271 t272 t274 t280 t282 t284 t286 t288 t290 t327 t328 t329 t331 t333 t335 t338 t341 A0 A1 l0 l1 A3 r HE_ t273 t275 t277 t279 t281 t283 t285 A12 t287 t289 A14 t291 t293 t295 t324 t326 t330 t332 t337 t340 t344 t347 k A5 A6 A7 A10 A11 A13 A15 c0 HC0 c1 HC1 nd nd nd nd nd nd kj17 HJ17 kj63 HJ63 kj92 HJ92 A114 A115 A116 A120 nd nd nd nd t276 A8 t278 A9 t292 A16 t294 A17 t321 t322 A111 t323 A112 t325 A113 t334 A117 t336 A118 t339 A119 t342 t343 A121 t345 t346 A122 HC123 K K J K' a u156 u157 u158 u159 u160 u161 u162 u163 u164 u165 u166 u167 u168 u169 u170 u171 u172 u173 u174 u175 u176 u177 u178 u179 u180 u181 u182 u183 u184 u185 u186 u187 u188 u189 u190 u191 u192 u193 u194 u195 u196 u197 u198 u199 u200 u201 u202 u203 u204 u205 u206 u207 u208 u209 u210 u211 u212 u213 u214 u215 u216 u217 u218 u219 u220 u221 u222 u223 u224 u225 u226 u227 u228 u229 u230 u231 u232 u233 u234 u235 u236 u237 u238 u239 u240 u241 u242 u243 u244 u245 u246 u247 u248 u249 u250 u251 u252 u253 u254 u255 u256 u257 u258 u259 u260 u261 u4 u31 u32 u33 u34 u35 u36 u37 u38 u39 u40 u262 u263 u264 u265 u266 u267 u268 u269 u270 u271 u272 u273 u274 u275 u276 u277 u278 u279 u280 u281 u282 u283 u284 u285 u286 u287 u288 u289 u290 u291 u292 u293 u294 u295 u296 u297 u298 u299 u300 u301 u302 u303 u304 u305 u306 u307 u308 u309 u310 u311 u312 u313 u314 u315 u316 u317 u318 u319 u320 u321 u322 u323 u324 u325 u326 u327 u328 u329 u330 u331 u332 u333 u334 u335 u336 u337 u338 u339 u340 u341 u342 u343 u344 u345 u346 u347 u348 u349 u350 u351 u352 u353 u354 u355 u356 u357 u358 u359 u360 u361 u362 u363 u364 u365 u366 u367 u368 u369 u370 u371 u372 u373 u374 u375 u376 u377 u378 u379 u380 u381 u382 u383 u384 u385 u386 u387 u388 u389 u390 u391 u392 u393 u394 u395 u396 u397 u398 u399 u400 u401 u402 u403 u404 u405 u406 u407 u408 u409 u410 u411 u412 u413 u414 u4 u41 u42 u43 u44 u45 u46 u47 u48 u49 u262 u263 u264 u265 u266 u267 u268 u269 u270 u271 u272 u273 u274 u275 u276 u277 u278 u279 u280 u281 u282 u283 u284 u285 u286 u287 u288 u289 u290 u291 u292 u293 u294 u295 u296 u297 u298 u299 u300 u301 u302 u303 u304 u305 u306 u307 u308 u309 u310 u311 u312 u313 u314 u315 u316 u317 u318 u319 u320 u321 u322 u323 u324 u325 u326 u327 u328 u329 u330 u331 u332 u333 u334 u335 u336 u337 u338 u339 u340 u341 u342 u343 u344 u345 u346 u347 u348 u349 u350 u351 u352 u353 u354 u355 u356 u357 u358 u359 u360 u361 u362 u363 u364 u365 u366 u367 u368 u369 u370 u371 u372 u373 u374 u375 u376 u377 u378 u379 u380 u381 u382 u383 u384 u385 u386 u387 u388 u389 u390 u391 u392 u393 u394 u395 u396 u397 u398 u399 u400 u401 u402 u403 u404 u405 u406 u407 u408 u409 u410 u411 u412 u413 u414 u415 u416 u417 u418 u419 u420 u421 u422 u423 u424 u425 u426 u427 u428 u429 u430 u431 u432 u433 u434 u435 w HR0 HR1 Q' a a a w19 w20 w21 w22 w23 w24 w25 w26 HB wc HB wc HB wc w124 w125 w126 w127 w128 w129 w130 w131 HB
 have H := HC123.out
 clear HC123
 by_cases c132 : (t324 != t326) = true
 ·
  rw [if_pos c132] at H
  exact (laws_FnDrillsTurn.j4_no _ _ _ _ _ _ _ _ _ _ _ (H.trans (congrArg some HE_.out))).elim
 ·
  rw [if_neg c132] at H
  have c132b0 : (t324 != t326) = false := by simpa using c132
  (try (have c132b1 : decide (t324 = t326) = true := by simpa using c132))
  (try (have c132b2 : (t324 == t326) = true := by simpa using c132))
  clear c132
  (first | rw [c132b0] | (simp only [i64_w, i32_w]; rw [c132b0]) | skip)
  by_cases c133 : t323 = t325
  ·
   rw [if_pos c133] at H
   have c133b0 : (t323 == t325) = true := beq_iff_eq.mpr c133
   have c133b1 : (t323 != t325) = false := bne_eq_false_iff_eq.mpr c133
   clear c133
   by_cases c134 : (t330 != t332) = true
   ·
    rw [if_pos c134] at H
    exact (laws_FnDrillsTurn.j4_no _ _ _ _ _ _ _ _ _ _ _ (H.trans (congrArg some HE_.out))).elim
   ·
    rw [if_neg c134] at H
    have c134b0 : (t330 != t332) = false := by simpa using c134
    (try (have c134b1 : decide (t330 = t332) = true := by simpa using c134))
    (try (have c134b2 : (t330 == t332) = true := by simpa using c134))
    clear c134
    by_cases c135 : t329.toList = t331.toList
    ·
     rw [if_pos c135] at H
     have c135b0 : (t329.toList == t331.toList) = true := beq_iff_eq.mpr c135
     have c135b1 : (t329.toList != t331.toList) = false := bne_eq_false_iff_eq.mpr c135
     clear c135
     by_cases c136 : (t337 != t340) = true
     ·
      rw [if_pos c136] at H
      exact (laws_FnDrillsTurn.j4_no _ _ _ _ _ _ _ _ _ _ _ (H.trans (congrArg some HE_.out))).elim
     ·
      rw [if_neg c136] at H
      have c136b0 : (t337 != t340) = false := by simpa using c136
      (try (have c136b1 : decide (t337 = t340) = true := by simpa using c136))
      (try (have c136b2 : (t337 == t340) = true := by simpa using c136))
      clear c136
      by_cases c137 : t335.toList = t338.toList
      ·
       rw [if_pos c137] at H
       have c137b0 : (t335.toList == t338.toList) = true := beq_iff_eq.mpr c137
       have c137b1 : (t335.toList != t338.toList) = false := bne_eq_false_iff_eq.mpr c137
       clear c137
       by_cases c138 : t336 = t339
       ·
        rw [if_pos c138] at H
        have c138b0 : (t336 == t339) = true := beq_iff_eq.mpr c138
        have c138b1 : (t336 != t339) = false := bne_eq_false_iff_eq.mpr c138
        clear c138
        by_cases c139 : (t344 != t347) = true
        ·
         rw [if_pos c139] at H
         exact (laws_FnDrillsTurn.j4_no _ _ _ _ _ _ _ _ _ _ _ (H.trans (congrArg some HE_.out))).elim
        ·
         rw [if_neg c139] at H
         have c139b0 : (t344 != t347) = false := by simpa using c139
         (try (have c139b1 : decide (t344 = t347) = true := by simpa using c139))
         (try (have c139b2 : (t344 == t347) = true := by simpa using c139))
         clear c139
         by_cases c140 : t342 = t345
         ·
          rw [if_pos c140] at H
          have c140b0 : (t342 == t345) = true := beq_iff_eq.mpr c140
          have c140b1 : (t342 != t345) = false := bne_eq_false_iff_eq.mpr c140
          clear c140
          have H' := Aside0.mk H
          clear H
          go_wp2
          go_meet
          case rel => exact ⟨_, ((t343 != t346)), (by first | rfl | (simp; done) | (simp [*]; done)), H', ⟨by have := HJ17.out; have := HJ63.out; have := HJ92.out; first | omega | exact Nat.le_refl _⟩, ⟨by repeat (first | (with_reducible first | exact HB.out | apply below_alloc | apply pw_below_drewN | apply below_drew1) | exact HB.out)⟩⟩
         ·
          rw [if_neg c140] at H
          exact (laws_FnDrillsTurn.j4_no _ _ _ _ _ _ _ _ _ _ _ (H.trans (congrArg some HE_.out))).elim
       ·
        rw [if_neg c138] at H
        exact (laws_FnDrillsTurn.j4_no _ _ _ _ _ _ _ _ _ _ _ (H.trans (congrArg some HE_.out))).elim
      ·
       rw [if_neg c137] at H
       exact (laws_FnDrillsTurn.j4_no _ _ _ _ _ _ _ _ _ _ _ (H.trans (congrArg some HE_.out))).elim
    ·
     rw [if_neg c135] at H
     exact (laws_FnDrillsTurn.j4_no _ _ _ _ _ _ _ _ _ _ _ (H.trans (congrArg some HE_.out))).elim
  ·
   rw [if_neg c133] at H
   exact (laws_FnDrillsTurn.j4_no _ _ _ _ _ _ _ _ _ _ _ (H.trans (congrArg some HE_.out))).elim

set_option maxHeartbeats 8000000 in
set_option maxRecDepth 100000 in
def laws_FnDrillsTurn.part10 : Σ' (R1 R2 : Prop), PLift R1 → PLift R2 → (laws_FnDrillsTurn.part8.2.1) := by
 refine' ⟨_, _, fun hole1 hole2 => _⟩
 rotate_left 2
 ·
  conv => whnf
  intro t270 t271 t272 t274 t280 t282 t284 t286 t288 t290 t327 t328 t329 t331 t333 t335 t338 t341 A0 A1 l0 l1 A3 r HE_ t273 t275 t277 t279 t281 t283 t285 A12 t287 t289 A14 t291 t293 t295 t324 t326 t330 t332 t337 t340 t344 t347 k A5 A6 A7 A10 A11 A13 A15 c0 HC0 c1 HC1 nd nd nd nd nd nd kj17 HJ17 kj63 HJ63 kj92 HJ92 A114 A115 A116 A120 nd nd nd nd t276 A8 t278 A9 t292 A16 t294 A17 t321 t322 A111 t323 A112 t325 A113 t334 A117 t336 A118 t339 A119 t342 t343 A121 t345 t346 A122 HC123 K K u156 u157 u158 u159 u160 u161 u162 u163 u164 u165 u166 u167 u168 u169 u170 u171 u172 u173 u174 u175 u176 u177 u178 u179 u180 u181 u182 u183 u184 u185 u186 u187 u188 u189 u190 u191 u192 u193 u194 u195 u196 u197 u198 u199 u200 u201 u202 u203 u204 u205 u206 u207 u208 u209 u210 u211 u212 u213 u214 u215 u216 u217 u218 u219 u220 u221 u222 u223 u224 u225 u226 u227 u228 u229 u230 u231 u232 u233 u234 u235 u236 u237 u238 u239 u240 u241 u242 u243 u244 u245 u246 u247 u248 u249 u250 u251 u252 u253 u254 u255 u256 u257 u258 u259 u260 u261 u4 u31 u32 u33 u34 u35 u36 u37 u38 u39 u40 u262 u263 u264 u265 u266 u267 u268 u269 u270 u271 u272 u273 u274 u275 u276 u277 u278 u279 u280 u281 u282 u283 u284 u285 u286 u287 u288 u289 u290 u291 u292 u293 u294 u295 u296 u297 u298 u299 u300 u301 u302 u303 u304 u305 u306 u307 u308 u309 u310 u311 u312 u313 u314 u315 u316 u317 u318 u319 u320 u321 u322 u323 u324 u325 u326 u327 u328 u329 u330 u331 u332 u333 u334 u335 u336 u337 u338 u339 u340 u341 u342 u343 u344 u345 u346 u347 u348 u349 u350 u351 u352 u353 u354 u355 u356 u357 u358 u359 u360 u361 u362 u363 u364 u365 u366 u367 u368 u369 u370 u371 u372 u373 u374 u375 u376 u377 u378 u379 u380 u381 u382 u383 u384 u385 u386 u387 u388 u389 u390 u391 u392 u393 u394 u395 u396 u397 u398 u399 u400 u401 u402 u403 u404 u405 u406 u407 u408 u409 u410 u411 u412 u413 u414 u4 u41 u42 u43 u44 u45 u46 u47 u48 u49 u262 u263 u264 u265 u266 u267 u268 u269 u270 u271 u272 u273 u274 u275 u276 u277 u278 u279 u280 u281 u282 u283 u284 u285 u286 u287 u288 u289 u290 u291 u292 u293 u294 u295 u296 u297 u298 u299 u300 u301 u302 u303 u304 u305 u306 u307 u308 u309 u310 u311 u312 u313 u314 u315 u316 u317 u318 u319 u320 u321 u322 u323 u324 u325 u326 u327 u328 u329 u330 u331 u332 u333 u334 u335 u336 u337 u338 u339 u340 u341 u342 u343 u344 u345 u346 u347 u348 u349 u350 u351 u352 u353 u354 u355 u356 u357 u358 u359 u360 u361 u362 u363 u364 u365 u366 u367 u368 u369 u370 u371 u372 u373 u374 u375 u376 u377 u378 u379 u380 u381 u382 u383 u384 u385 u386 u387 u388 u389 u390 u391 u392 u393 u394 u395 u396 u397 u398 u399 u400 u401 u402 u403 u404 u405 u406 u407 u408 u409 u410 u411 u412 u413 u414 u415 u416 u417 u418 u419 u420 u421 u422 u423 u424 u425 u426 u427 u428 u429 u430 u431 u432 u433 u434 u435 u414 u415 u416 u417 u418 u419 u420 u421 u422 u423 u424 u425 u426 u427 u428 u429 u430 u431 u432 u433 u434 u435 u436 u437 u438 u439 u440 u441 u442 u443 u444 u445 u446 u447 u448 u449 u450 u451 u452 u453 u454 u455 u456 u457 u458 u459 u460 u461 u462 u463 u464 u465 u466 u467 u468 u469 u470 u471 u472 u473 u474 u475 u476 u477 u478 u479 u480 u481 u482 u483 u484 u485 u486 u487 u488 u489 u490 u491 u492 u493 u494 u495 u496 u497 u498 u499 u500 u501 u502 u503 u504 u505 u506 u507 u508 u509 u510 u511 u512 u513 u514 u515 u516 u517 u518 u519 u520 u521 u522 u523 u524 u525 u526 u527 u528 u529 u530 u531 u532 u533 u534 u535 u536 u537 u538 u539 u540 u541 u542 u543 u544 u545 u546 u547 u548 u549 u550 w HR0 HR1 Q' a a w19 w20 w21 w22 w23 w24 w25 w26 HB wc HB wc HB wc w124 w125 w126 w127 w128 w129 w130 w131 HB wc hcut
  clear HC123
  try clear c1
  try clear c4
  try clear c63
  obtain ⟨kq, x550_122, rfl, HA, HJ122, HB⟩ := hcut
  cases kq with
  | zero => exact absurd HA.out (by simp [laws_FnDrillsTurn.j4])
  | succ kj122 =>
   have H := HA.out
   clear HA
   simp only [laws_FnDrillsTurn.j4] at H
   by_cases c141 : x550_122 = true
   ·
    subst c141
    have H1 : (some false) = some r := by rw [if_pos rfl] at H; exact H
    clear H
    have H := H1
    clear H1
    exact absurd (H.trans (congrArg some HE_.out)) (by simp)
   ·
    replace c141 := Bool.eq_false_iff.mpr c141
    subst c141
    have H1 : (if t324 = true then (laws_FnDrillsTurn.l0 kj122 t321 t333 t335 t336 t337 t341 t342 t343 t344 0 1 0) else (laws_FnDrillsTurn.j7 kj122 t333 t335 t336 t337 t341 t342 t343 t344)) = some r := by rw [if_neg (show ¬ (false = true) by decide)] at H; exact H
    clear H
    have H := H1
    clear H1
    have HC142 := Aside0.mk H
    clear H
    go_upto_if 551 with (fail)
    go_cut [] from 414 to 590 (fun wc => ∃ (kq : Nat), Aside0 (laws_FnDrillsTurn.j7 kq t333 t335 t336 t337 t341 t342 t343 t344 = some r) ∧ Aside0 (kq ≤ kj122) ∧ Aside0 (Below w.heap.size w wc))
    case first =>
     -- part 11
     (repeat revert ‹World›)
     (repeat revert ‹Value›)
     (repeat revert ‹Nat → Act → World → Prop›)
     (repeat revert ‹Act → World → Prop›)
     (repeat revert ‹Int›)
     (repeat revert ‹Nat›)
     (repeat revert ‹Bool›)
     (repeat revert ‹List (List Int)›)
     (repeat revert ‹List Int›)
     (repeat revert ‹Addr›)
     (repeat revert ‹Option Addr›)
     (repeat revert ‹ByteArray›)
     (repeat revert ‹List ByteArray›)
     exact hole1.down
    case rest =>
     -- part 13
     (repeat revert ‹World›)
     (repeat revert ‹Value›)
     (repeat revert ‹Nat → Act → World → Prop›)
     (repeat revert ‹Act → World → Prop›)
     (repeat revert ‹Int›)
     (repeat revert ‹Nat›)
     (repeat revert ‹Bool›)
     (repeat revert ‹List (List Int)›)
     (repeat revert ‹List Int›)
     (repeat revert ‹Addr›)
     (repeat revert ‹Option Addr›)
     (repeat revert ‹ByteArray›)
     (repeat revert ‹List ByteArray›)
     exact hole2.down

set_option maxHeartbeats 8000000 in
set_option maxRecDepth 100000 in
def laws_FnDrillsTurn.part11 : Σ' (R1 : Prop), PLift R1 → (laws_FnDrillsTurn.part10.1) := by
 refine' ⟨_, fun hole1 => _⟩
 rotate_left 1
 ·
  conv => whnf
  intro t270 t271 t272 t274 t280 t282 t284 t286 t288 t290 t327 t328 t329 t331 t333 t335 t338 t341 A0 A1 l0 l1 A3 r HE_ t273 t275 t277 t279 t281 t283 t285 A12 t287 t289 A14 t291 t293 t295 t324 t326 t330 t332 t337 t340 t344 t347 k A5 A6 A7 A10 A11 A13 A15 c0 HC0 c1 HC1 nd nd nd nd nd nd kj17 HJ17 kj63 HJ63 kj92 HJ92 A114 A115 A116 A120 nd nd nd nd kj122 HJ122 t276 A8 t278 A9 t292 A16 t294 A17 t321 t322 A111 t323 A112 t325 A113 t334 A117 t336 A118 t339 A119 t342 t343 A121 HC142 t345 t346 A122 K J K' a u156 u157 u158 u159 u160 u161 u162 u163 u164 u165 u166 u167 u168 u169 u170 u171 u172 u173 u174 u175 u176 u177 u178 u179 u180 u181 u182 u183 u184 u185 u186 u187 u188 u189 u190 u191 u192 u193 u194 u195 u196 u197 u198 u199 u200 u201 u202 u203 u204 u205 u206 u207 u208 u209 u210 u211 u212 u213 u214 u215 u216 u217 u218 u219 u220 u221 u222 u223 u224 u225 u226 u227 u228 u229 u230 u231 u232 u233 u234 u235 u236 u237 u238 u239 u240 u241 u242 u243 u244 u245 u246 u247 u248 u249 u250 u251 u252 u253 u254 u255 u256 u257 u258 u259 u260 u261 u4 u31 u32 u33 u34 u35 u36 u37 u38 u39 u40 u262 u263 u264 u265 u266 u267 u268 u269 u270 u271 u272 u273 u274 u275 u276 u277 u278 u279 u280 u281 u282 u283 u284 u285 u286 u287 u288 u289 u290 u291 u292 u293 u294 u295 u296 u297 u298 u299 u300 u301 u302 u303 u304 u305 u306 u307 u308 u309 u310 u311 u312 u313 u314 u315 u316 u317 u318 u319 u320 u321 u322 u323 u324 u325 u326 u327 u328 u329 u330 u331 u332 u333 u334 u335 u336 u337 u338 u339 u340 u341 u342 u343 u344 u345 u346 u347 u348 u349 u350 u351 u352 u353 u354 u355 u356 u357 u358 u359 u360 u361 u362 u363 u364 u365 u366 u367 u368 u369 u370 u371 u372 u373 u374 u375 u376 u377 u378 u379 u380 u381 u382 u383 u384 u385 u386 u387 u388 u389 u390 u391 u392 u393 u394 u395 u396 u397 u398 u399 u400 u401 u402 u403 u404 u405 u406 u407 u408 u409 u410 u411 u412 u413 u414 u4 u41 u42 u43 u44 u45 u46 u47 u48 u49 u262 u263 u264 u265 u266 u267 u268 u269 u270 u271 u272 u273 u274 u275 u276 u277 u278 u279 u280 u281 u282 u283 u284 u285 u286 u287 u288 u289 u290 u291 u292 u293 u294 u295 u296 u297 u298 u299 u300 u301 u302 u303 u304 u305 u306 u307 u308 u309 u310 u311 u312 u313 u314 u315 u316 u317 u318 u319 u320 u321 u322 u323 u324 u325 u326 u327 u328 u329 u330 u331 u332 u333 u334 u335 u336 u337 u338 u339 u340 u341 u342 u343 u344 u345 u346 u347 u348 u349 u350 u351 u352 u353 u354 u355 u356 u357 u358 u359 u360 u361 u362 u363 u364 u365 u366 u367 u368 u369 u370 u371 u372 u373 u374 u375 u376 u377 u378 u379 u380 u381 u382 u383 u384 u385 u386 u387 u388 u389 u390 u391 u392 u393 u394 u395 u396 u397 u398 u399 u400 u401 u402 u403 u404 u405 u406 u407 u408 u409 u410 u411 u412 u413 u414 u415 u416 u417 u418 u419 u420 u421 u422 u423 u424 u425 u426 u427 u428 u429 u430 u431 u432 u433 u434 u435 u414 u415 u416 u417 u418 u419 u420 u421 u422 u423 u424 u425 u426 u427 u428 u429 u430 u431 u432 u433 u434 u435 u436 u437 u438 u439 u440 u441 u442 u443 u444 u445 u446 u447 u448 u449 u450 u451 u452 u453 u454 u455 u456 u457 u458 u459 u460 u461 u462 u463 u464 u465 u466 u467 u468 u469 u470 u471 u472 u473 u474 u475 u476 u477 u478 u479 u480 u481 u482 u483 u484 u485 u486 u487 u488 u489 u490 u491 u492 u493 u494 u495 u496 u497 u498 u499 u500 u501 u502 u503 u504 u505 u506 u507 u508 u509 u510 u511 u512 u513 u514 u515 u516 u517 u518 u519 u520 u521 u522 u523 u524 u525 u526 u527 u528 u529 u530 u531 u532 u533 u534 u535 u536 u537 u538 u539 u540 u541 u542 u543 u544 u545 u546 u547 u548 u549 w HR0 HR1 Q' a a w19 w20 w21 w22 w23 w24 w25 w26 HB wc HB wc HB wc w124 w125 w126 w127 w128 w129 w130 w131 HB wc HB
  have H := HC142.out
  clear HC142
  by_cases c143 : t324 = true
  ·
   subst c143
   have H1 : (laws_FnDrillsTurn.l0 kj122 t321 t333 t335 t336 t337 t341 t342 t343 t344 0 1 0) = some r := by rw [if_pos rfl] at H; exact H
   clear H
   have H := H1
   clear H1
   have H' := Aside0.mk H
   clear H
   go_wp2
   go_loopg [78, 79] kj122 (fun kq v78 v79 w' => ∃ (x78_5 : Int) (x79_5 : Int), v78 = .int .i64 x78_5 ∧ v79 = .int .i64 x79_5 ∧ Aside0 (laws_FnDrillsTurn.l0 kq t321 t333 t335 t336 t337 t341 t342 t343 t344 0 x78_5 x79_5 = some r) ∧ Aside0 (kq ≤ kj122) ∧ Aside0 (Below w.heap.size w w'))
   case atStart => exact ⟨(1), (0), (by first | rfl | (simp; done) | (simp [*]; done)), (by first | rfl | (simp; done) | (simp [*]; done)), H', ⟨Nat.le_refl _⟩, ⟨by repeat (first | (with_reducible first | exact HB.out | apply below_alloc | apply pw_below_drewN | apply below_drew1) | exact HB.out)⟩⟩
   case round =>
    clear H'
    try clear c1
    try clear c4
    try clear c63
    try clear c141
    try clear c143
    obtain ⟨x78_5, x79_5, rfl, rfl, HA, HK5, HB⟩ := hrel
    cases gk with
    | zero => exact absurd HA.out (by simp [laws_FnDrillsTurn.l0])
    | succ k5 =>
     have H := HA.out
     clear HA
     simp only [laws_FnDrillsTurn.l0] at H
     by_cases c144 : x79_5 < t321
     ·
      rw [if_pos c144] at H
      have c144b0 : decide (x79_5 < t321) = true := decide_eq_true c144
      clear c144
      (first | rw [c144b0] | (simp only [i64_w, i32_w]; rw [c144b0]) | skip)
      have H' := Aside0.mk H
      clear H
      go_wp2
      go_roundg k5
      case measure => have := HJ17.out; have := HJ63.out; have := HJ92.out; have := HJ122.out; have := HK5.out; omega
      case rel => exact ⟨(wrap64 (x78_5 * 4)), (wrap64 (x79_5 + 1)), (by first | rfl | (simp; done) | (simp [*]; done)), (by first | rfl | (simp; done) | (simp [*]; done)), H', ⟨by have := HJ17.out; have := HJ63.out; have := HJ92.out; have := HJ122.out; have := HK5.out; omega⟩, ⟨by repeat (first | (with_reducible first | exact HB.out | apply below_alloc | apply pw_below_drewN | apply below_drew1) | exact HB.out)⟩⟩
     ·
      rw [if_neg c144] at H
      have c144b0 : decide (x79_5 < t321) = false := decide_eq_false c144
      clear c144
      (first | rw [c144b0] | (simp only [i64_w, i32_w]; rw [c144b0]) | skip)
      have H' := Aside0.mk H
      clear H
      -- part 12
      (repeat revert ‹World›)
      (repeat revert ‹Value›)
      (repeat revert ‹Nat → Act → World → Prop›)
      (repeat revert ‹Act → World → Prop›)
      (repeat revert ‹Int›)
      (repeat revert ‹Nat›)
      (repeat revert ‹Bool›)
      (repeat revert ‹List (List Int)›)
      (repeat revert ‹List Int›)
      (repeat revert ‹Addr›)
      (repeat revert ‹Option Addr›)
      (repeat revert ‹ByteArray›)
      (repeat revert ‹List ByteArray›)
      exact hole1.down
  ·
   replace c143 := Bool.eq_false_iff.mpr c143
   subst c143
   have H1 : (laws_FnDrillsTurn.j7 kj122 t333 t335 t336 t337 t341 t342 t343 t344) = some r := by rw [if_neg (show ¬ (false = true) by decide)] at H; exact H
   clear H
   have H := H1
   clear H1
   have H' := Aside0.mk H
   clear H
   go_wp2
   go_meet
   case rel => exact ⟨_, H', ⟨by have := HJ17.out; have := HJ63.out; have := HJ92.out; have := HJ122.out; first | omega | exact Nat.le_refl _⟩, ⟨by repeat (first | (with_reducible first | exact HB.out | apply below_alloc | apply pw_below_drewN | apply below_drew1) | exact HB.out)⟩⟩

set_option maxHeartbeats 8000000 in
set_option maxRecDepth 100000 in
theorem laws_FnDrillsTurn.part12 : laws_FnDrillsTurn.part11.1 := by
 conv => whnf
 intro t270 t271 t272 t274 t280 t282 t284 t286 t288 t290 t327 t328 t329 t331 t333 t335 t338 t341 A0 A1 l0 l1 A3 r HE_ t273 t275 t277 t279 t281 t283 t285 A12 t287 t289 A14 t291 t293 t295 t326 t330 t332 t337 t340 t344 t347 k A5 A6 A7 A10 A11 A13 A15 c0 HC0 c1 HC1 nd nd nd nd nd nd kj17 HJ17 kj63 HJ63 kj92 HJ92 A114 A115 A116 A120 nd nd nd nd kj122 HJ122 k5 HK5 t276 A8 t278 A9 t292 A16 t294 A17 t321 t322 A111 t323 A112 t325 A113 t334 A117 t336 A118 t339 A119 t342 t343 A121 t345 t346 A122 x78_5 H' x79_5 c144b0 K J K' a K K J a u156 u157 u158 u159 u160 u161 u162 u163 u164 u165 u166 u167 u168 u169 u170 u171 u172 u173 u174 u175 u176 u177 u178 u179 u180 u181 u182 u183 u184 u185 u186 u187 u188 u189 u190 u191 u192 u193 u194 u195 u196 u197 u198 u199 u200 u201 u202 u203 u204 u205 u206 u207 u208 u209 u210 u211 u212 u213 u214 u215 u216 u217 u218 u219 u220 u221 u222 u223 u224 u225 u226 u227 u228 u229 u230 u231 u232 u233 u234 u235 u236 u237 u238 u239 u240 u241 u242 u243 u244 u245 u246 u247 u248 u249 u250 u251 u252 u253 u254 u255 u256 u257 u258 u259 u260 u261 u4 u31 u32 u33 u34 u35 u36 u37 u38 u39 u40 u262 u263 u264 u265 u266 u267 u268 u269 u270 u271 u272 u273 u274 u275 u276 u277 u278 u279 u280 u281 u282 u283 u284 u285 u286 u287 u288 u289 u290 u291 u292 u293 u294 u295 u296 u297 u298 u299 u300 u301 u302 u303 u304 u305 u306 u307 u308 u309 u310 u311 u312 u313 u314 u315 u316 u317 u318 u319 u320 u321 u322 u323 u324 u325 u326 u327 u328 u329 u330 u331 u332 u333 u334 u335 u336 u337 u338 u339 u340 u341 u342 u343 u344 u345 u346 u347 u348 u349 u350 u351 u352 u353 u354 u355 u356 u357 u358 u359 u360 u361 u362 u363 u364 u365 u366 u367 u368 u369 u370 u371 u372 u373 u374 u375 u376 u377 u378 u379 u380 u381 u382 u383 u384 u385 u386 u387 u388 u389 u390 u391 u392 u393 u394 u395 u396 u397 u398 u399 u400 u401 u402 u403 u404 u405 u406 u407 u408 u409 u410 u411 u412 u413 u414 u4 u41 u42 u43 u44 u45 u46 u47 u48 u49 u262 u263 u264 u265 u266 u267 u268 u269 u270 u271 u272 u273 u274 u275 u276 u277 u278 u279 u280 u281 u282 u283 u284 u285 u286 u287 u288 u289 u290 u291 u292 u293 u294 u295 u296 u297 u298 u299 u300 u301 u302 u303 u304 u305 u306 u307 u308 u309 u310 u311 u312 u313 u314 u315 u316 u317 u318 u319 u320 u321 u322 u323 u324 u325 u326 u327 u328 u329 u330 u331 u332 u333 u334 u335 u336 u337 u338 u339 u340 u341 u342 u343 u344 u345 u346 u347 u348 u349 u350 u351 u352 u353 u354 u355 u356 u357 u358 u359 u360 u361 u362 u363 u364 u365 u366 u367 u368 u369 u370 u371 u372 u373 u374 u375 u376 u377 u378 u379 u380 u381 u382 u383 u384 u385 u386 u387 u388 u389 u390 u391 u392 u393 u394 u395 u396 u397 u398 u399 u400 u401 u402 u403 u404 u405 u406 u407 u408 u409 u410 u411 u412 u413 u414 u415 u416 u417 u418 u419 u420 u421 u422 u423 u424 u425 u426 u427 u428 u429 u430 u431 u432 u433 u434 u435 u414 u415 u416 u417 u418 u419 u420 u421 u422 u423 u424 u425 u426 u427 u428 u429 u430 u431 u432 u433 u434 u435 u436 u437 u438 u439 u440 u441 u442 u443 u444 u445 u446 u447 u448 u449 u450 u451 u452 u453 u454 u455 u456 u457 u458 u459 u460 u461 u462 u463 u464 u465 u466 u467 u468 u469 u470 u471 u472 u473 u474 u475 u476 u477 u478 u479 u480 u481 u482 u483 u484 u485 u486 u487 u488 u489 u490 u491 u492 u493 u494 u495 u496 u497 u498 u499 u500 u501 u502 u503 u504 u505 u506 u507 u508 u509 u510 u511 u512 u513 u514 u515 u516 u517 u518 u519 u520 u521 u522 u523 u524 u525 u526 u527 u528 u529 u530 u531 u532 u533 u534 u535 u536 u537 u538 u539 u540 u541 u542 u543 u544 u545 u546 u547 u548 u549 u552 u553 u554 u555 u556 u557 u558 w HR0 HR1 Q' a a a a w19 w20 w21 w22 w23 w24 w25 w26 HB wc HB wc HB wc w124 w125 w126 w127 w128 w129 w130 w131 HB wc HB wr HB
 go_wp2
 go_loopg [77, 80] k5 (fun kq v77 v80 w' => ∃ (x77_6 : Int) (x80_6 : Int), v77 = .int .i64 x77_6 ∧ v80 = .int .i64 x80_6 ∧ Aside0 (laws_FnDrillsTurn.l1 kq t321 t333 t335 t336 t337 t341 t342 t343 t344 x77_6 x78_5 x80_6 = some r) ∧ Aside0 (kq ≤ k5) ∧ Aside0 (Below w.heap.size w w'))
 case atStart => exact ⟨(0), (0), (by first | rfl | (simp; done) | (simp [*]; done)), (by first | rfl | (simp; done) | (simp [*]; done)), H', ⟨Nat.le_refl _⟩, ⟨by repeat (first | (with_reducible first | exact HB.out | apply below_alloc | apply pw_below_drewN | apply below_drew1) | exact HB.out)⟩⟩
 case round =>
  clear H'
  try clear c1
  try clear c4
  try clear c63
  try clear c141
  try clear c143
  try clear c144
  try clear c144b0
  obtain ⟨x77_6, x80_6, rfl, rfl, HA, HK6, HB⟩ := hrel
  cases gk with
  | zero => exact absurd HA.out (by simp [laws_FnDrillsTurn.l1])
  | succ k6 =>
   have H := HA.out
   clear HA
   simp only [laws_FnDrillsTurn.l1] at H
   by_cases c145 : x80_6 < 4
   ·
    rw [if_pos c145] at H
    have c145b0 : decide (x80_6 < 4) = true := decide_eq_true c145
    clear c145
    replace H := Option.bind_eq_some_iff.mp H
    obtain ⟨⟨t348, t349⟩, A1460, H⟩ := H
    replace H : (if t349 = true then (laws_FnDrillsTurn.l1 k6 t321 t333 t335 t336 t337 t341 t342 t343 t344 (wrap64 (x77_6 + t348)) x78_5 (wrap64 (x80_6 + 1))) else (some false)) = some r := H
    have A146 := Aside0.mk A1460
    clear A1460
    by_cases c147 : t349 = true
    ·
     subst c147
     have H1 : (laws_FnDrillsTurn.l1 k6 t321 t333 t335 t336 t337 t341 t342 t343 t344 (wrap64 (x77_6 + t348)) x78_5 (wrap64 (x80_6 + 1))) = some r := by rw [if_pos rfl] at H; exact H
     clear H
     have H := H1
     clear H1
     have H' := Aside0.mk H
     clear H
     go_wp2_with (first | ((with_reducible refine gate_callee (f := 22) rfl ?_); refine goesL_ (some 566) rfl rfl Tryz.func22 (by kernel_rfl) rfl #[.int .i64 t321, .int .i64 x80_6] rfl (by (try simp only [List.map_toArray, List.map_cons, List.map_nil]); first | done | rfl | (simp only [List.length_drop, List.length_take]; rfl)) ?_; (with_reducible refine (impl_CountCommandWords.calls k6 t321 x80_6 t348 true _ A146.out).mono ?_); rintro e w' ⟨rfl, ⟨nd, rfl⟩⟩; refine ⟨_, rfl, ?_⟩))
     go_roundg k6
     case measure => have := HJ17.out; have := HJ63.out; have := HJ92.out; have := HJ122.out; have := HK5.out; have := HK6.out; omega
     case rel => exact ⟨(wrap64 (x77_6 + t348)), (wrap64 (x80_6 + 1)), (by first | rfl | (simp; done) | (simp [*]; done)), (by first | rfl | (simp; done) | (simp [*]; done)), H', ⟨by have := HJ17.out; have := HJ63.out; have := HJ92.out; have := HJ122.out; have := HK5.out; have := HK6.out; omega⟩, ⟨by repeat (first | (with_reducible first | exact HB.out | apply below_alloc | apply pw_below_drewN | apply below_drew1) | exact HB.out)⟩⟩
    ·
     replace c147 := Bool.eq_false_iff.mpr c147
     subst c147
     have H1 : (some false) = some r := by rw [if_neg (show ¬ (false = true) by decide)] at H; exact H
     clear H
     have H := H1
     clear H1
     exact absurd (H.trans (congrArg some HE_.out)) (by simp)
   ·
    rw [if_neg c145] at H
    have c145b0 : decide (x80_6 < 4) = false := decide_eq_false c145
    clear c145
    by_cases c148 : x77_6 = x78_5
    ·
     rw [if_pos c148] at H
     have c148b0 : (x77_6 == x78_5) = true := beq_iff_eq.mpr c148
     have c148b1 : (x77_6 != x78_5) = false := bne_eq_false_iff_eq.mpr c148
     clear c148
     have H' := Aside0.mk H
     clear H
     go_wp2
     go_meet
     case rel => exact ⟨_, H', ⟨by have := HJ17.out; have := HJ63.out; have := HJ92.out; have := HJ122.out; have := HK5.out; have := HK6.out; first | omega | exact Nat.le_refl _⟩, ⟨by repeat (first | (with_reducible first | exact HB.out | apply below_alloc | apply pw_below_drewN | apply below_drew1) | exact HB.out)⟩⟩
    ·
     rw [if_neg c148] at H
     exact absurd (H.trans (congrArg some HE_.out)) (by simp)

set_option maxHeartbeats 8000000 in
set_option maxRecDepth 100000 in
theorem laws_FnDrillsTurn.part13 : laws_FnDrillsTurn.part10.2.1 := by
 conv => whnf
 intro t270 t271 t272 t274 t280 t282 t284 t286 t288 t290 t327 t328 t329 t331 t333 t335 t338 t341 A0 A1 l0 l1 A3 r HE_ t273 t275 t277 t279 t281 t283 t285 A12 t287 t289 A14 t291 t293 t295 t324 t326 t330 t332 t337 t340 t344 t347 k A5 A6 A7 A10 A11 A13 A15 c0 HC0 c1 HC1 nd nd nd nd nd nd kj17 HJ17 kj63 HJ63 kj92 HJ92 A114 A115 A116 A120 nd nd nd nd kj122 HJ122 t276 A8 t278 A9 t292 A16 t294 A17 t321 t322 A111 t323 A112 t325 A113 t334 A117 t336 A118 t339 A119 t342 t343 A121 HC142 t345 t346 A122 K u156 u157 u158 u159 u160 u161 u162 u163 u164 u165 u166 u167 u168 u169 u170 u171 u172 u173 u174 u175 u176 u177 u178 u179 u180 u181 u182 u183 u184 u185 u186 u187 u188 u189 u190 u191 u192 u193 u194 u195 u196 u197 u198 u199 u200 u201 u202 u203 u204 u205 u206 u207 u208 u209 u210 u211 u212 u213 u214 u215 u216 u217 u218 u219 u220 u221 u222 u223 u224 u225 u226 u227 u228 u229 u230 u231 u232 u233 u234 u235 u236 u237 u238 u239 u240 u241 u242 u243 u244 u245 u246 u247 u248 u249 u250 u251 u252 u253 u254 u255 u256 u257 u258 u259 u260 u261 u4 u31 u32 u33 u34 u35 u36 u37 u38 u39 u40 u262 u263 u264 u265 u266 u267 u268 u269 u270 u271 u272 u273 u274 u275 u276 u277 u278 u279 u280 u281 u282 u283 u284 u285 u286 u287 u288 u289 u290 u291 u292 u293 u294 u295 u296 u297 u298 u299 u300 u301 u302 u303 u304 u305 u306 u307 u308 u309 u310 u311 u312 u313 u314 u315 u316 u317 u318 u319 u320 u321 u322 u323 u324 u325 u326 u327 u328 u329 u330 u331 u332 u333 u334 u335 u336 u337 u338 u339 u340 u341 u342 u343 u344 u345 u346 u347 u348 u349 u350 u351 u352 u353 u354 u355 u356 u357 u358 u359 u360 u361 u362 u363 u364 u365 u366 u367 u368 u369 u370 u371 u372 u373 u374 u375 u376 u377 u378 u379 u380 u381 u382 u383 u384 u385 u386 u387 u388 u389 u390 u391 u392 u393 u394 u395 u396 u397 u398 u399 u400 u401 u402 u403 u404 u405 u406 u407 u408 u409 u410 u411 u412 u413 u414 u4 u41 u42 u43 u44 u45 u46 u47 u48 u49 u262 u263 u264 u265 u266 u267 u268 u269 u270 u271 u272 u273 u274 u275 u276 u277 u278 u279 u280 u281 u282 u283 u284 u285 u286 u287 u288 u289 u290 u291 u292 u293 u294 u295 u296 u297 u298 u299 u300 u301 u302 u303 u304 u305 u306 u307 u308 u309 u310 u311 u312 u313 u314 u315 u316 u317 u318 u319 u320 u321 u322 u323 u324 u325 u326 u327 u328 u329 u330 u331 u332 u333 u334 u335 u336 u337 u338 u339 u340 u341 u342 u343 u344 u345 u346 u347 u348 u349 u350 u351 u352 u353 u354 u355 u356 u357 u358 u359 u360 u361 u362 u363 u364 u365 u366 u367 u368 u369 u370 u371 u372 u373 u374 u375 u376 u377 u378 u379 u380 u381 u382 u383 u384 u385 u386 u387 u388 u389 u390 u391 u392 u393 u394 u395 u396 u397 u398 u399 u400 u401 u402 u403 u404 u405 u406 u407 u408 u409 u410 u411 u412 u413 u414 u415 u416 u417 u418 u419 u420 u421 u422 u423 u424 u425 u426 u427 u428 u429 u430 u431 u432 u433 u434 u435 u414 u415 u416 u417 u418 u419 u420 u421 u422 u423 u424 u425 u426 u427 u428 u429 u430 u431 u432 u433 u434 u435 u436 u437 u438 u439 u440 u441 u442 u443 u444 u445 u446 u447 u448 u449 u450 u451 u452 u453 u454 u455 u456 u457 u458 u459 u460 u461 u462 u463 u464 u465 u466 u467 u468 u469 u470 u471 u472 u473 u474 u475 u476 u477 u478 u479 u480 u481 u482 u483 u484 u485 u486 u487 u488 u489 u490 u491 u492 u493 u494 u495 u496 u497 u498 u499 u500 u501 u502 u503 u504 u505 u506 u507 u508 u509 u510 u511 u512 u513 u514 u515 u516 u517 u518 u519 u520 u521 u522 u523 u524 u525 u526 u527 u528 u529 u530 u531 u532 u533 u534 u535 u536 u537 u538 u539 u540 u541 u542 u543 u544 u545 u546 u547 u548 u549 u4 u77 u78 u79 u80 u81 u82 u414 u415 u416 u417 u418 u419 u420 u421 u422 u423 u424 u425 u426 u427 u428 u429 u430 u431 u432 u433 u434 u435 u436 u437 u438 u439 u440 u441 u442 u443 u444 u445 u446 u447 u448 u449 u450 u451 u452 u453 u454 u455 u456 u457 u458 u459 u460 u461 u462 u463 u464 u465 u466 u467 u468 u469 u470 u471 u472 u473 u474 u475 u476 u477 u478 u479 u480 u481 u482 u483 u484 u485 u486 u487 u488 u489 u490 u491 u492 u493 u494 u495 u496 u497 u498 u499 u500 u501 u502 u503 u504 u505 u506 u507 u508 u509 u510 u511 u512 u513 u514 u515 u516 u517 u518 u519 u520 u521 u522 u523 u524 u525 u526 u527 u528 u529 u530 u531 u532 u533 u534 u535 u536 u537 u538 u539 u540 u541 u542 u543 u544 u545 u546 u547 u548 u549 u550 u551 u552 u553 u554 u555 u556 u557 u558 u559 u560 u561 u562 u563 u564 u565 u566 u567 u568 u569 u570 u571 u572 u573 u574 u575 u576 u577 u578 u579 u580 u581 u582 u583 u584 u585 u586 u587 u588 u589 u590 w HR0 HR1 Q' a w19 w20 w21 w22 w23 w24 w25 w26 HB wc HB wc HB wc w124 w125 w126 w127 w128 w129 w130 w131 HB wc HB wc hcut
 clear HC142
 try clear c1
 try clear c4
 try clear c63
 try clear c141
 obtain ⟨kq, HA, HJ141, HB⟩ := hcut
 cases kq with
 | zero => exact absurd HA.out (by simp [laws_FnDrillsTurn.j7])
 | succ kj141 =>
  have H := HA.out
  clear HA
  simp only [laws_FnDrillsTurn.j7] at H
  by_cases c149 : t337 = true
  ·
   subst c149
   have H1 : ((impl_MostFaced.f kj141 t333).bind fun bt350 => (if bt350.2.2 = true then (if bt350.2.1 = t336 then (if (t335.size : Int) = 1 then (if t344 = true then (if (wrap64 (4 * t343)) ≥ (t341.size : Int) then (if t342 ≥ 0 then (some (decide (t342 < 4))) else (some false)) else (some false)) else (some true)) else (some false)) else (some false)) else (some false))) = some r := by rw [if_pos rfl] at H; exact H
   clear H
   have H := H1
   clear H1
   replace H := Option.bind_eq_some_iff.mp H
   obtain ⟨⟨t350, t351, t352⟩, A1500, H⟩ := H
   replace H : (if t352 = true then (if t351 = t336 then (if (t335.size : Int) = 1 then (if t344 = true then (if (wrap64 (4 * t343)) ≥ (t341.size : Int) then (if t342 ≥ 0 then (some (decide (t342 < 4))) else (some false)) else (some false)) else (some true)) else (some false)) else (some false)) else (some false)) = some r := H
   have A150 := Aside0.mk A1500
   clear A1500
   by_cases c151 : t352 = true
   ·
    subst c151
    have H1 : (if t351 = t336 then (if (t335.size : Int) = 1 then (if t344 = true then (if (wrap64 (4 * t343)) ≥ (t341.size : Int) then (if t342 ≥ 0 then (some (decide (t342 < 4))) else (some false)) else (some false)) else (some true)) else (some false)) else (some false)) = some r := by rw [if_pos rfl] at H; exact H
    clear H
    have H := H1
    clear H1
    by_cases c152 : t351 = t336
    ·
     rw [if_pos c152] at H
     have c152b0 : (t351 == t336) = true := beq_iff_eq.mpr c152
     have c152b1 : (t351 != t336) = false := bne_eq_false_iff_eq.mpr c152
     clear c152
     by_cases c153 : (t335.size : Int) = 1
     ·
      rw [if_pos c153] at H
      have c153b0 : ((t335.size : Int) == 1) = true := beq_iff_eq.mpr c153
      have c153b1 : ((t335.size : Int) != 1) = false := bne_eq_false_iff_eq.mpr c153
      clear c153
      by_cases c154 : t344 = true
      ·
       subst c154
       have H1 : (if (wrap64 (4 * t343)) ≥ (t341.size : Int) then (if t342 ≥ 0 then (some (decide (t342 < 4))) else (some false)) else (some false)) = some r := by rw [if_pos rfl] at H; exact H
       clear H
       have H := H1
       clear H1
       by_cases c155 : (wrap64 (4 * t343)) ≥ (t341.size : Int)
       ·
        rw [if_pos c155] at H
        have c155b0 : decide ((t341.size : Int) ≤ (wrap64 (4 * t343))) = true := decide_eq_true c155
        clear c155
        by_cases c156 : t342 ≥ 0
        ·
         rw [if_pos c156] at H
         have c156b0 : decide (0 ≤ t342) = true := decide_eq_true c156
         clear c156
         obtain rfl := Option.some.inj H
         go_wp2_with (first | ((with_reducible refine gate_callee (f := 27) rfl ?_); refine goesL_ (some 580) rfl rfl Tryz.func27 (by kernel_rfl) rfl #[.string t333] rfl (by (try simp only [List.map_toArray, List.map_cons, List.map_nil]); first | done | rfl | (simp only [List.length_drop, List.length_take]; rfl)) ?_; (with_reducible refine (impl_MostFaced.calls kj141 t333 t350 t351 true _ A150.out).mono ?_); rintro e w157 ⟨rfl, hb⟩; refine ⟨_, rfl, ?_⟩; have n0_ := Aside0.mk (below_step (by repeat (first | (with_reducible first | exact HB.out | apply below_alloc | apply pw_below_drewN | apply below_drew1) | exact HB.out)) hb); clear HB; have HB := n0_; clear n0_; (try clear hb); (try clear hb2); (try clear hk); (try clear hi)))
         go_ret
         exact ⟨by first | rfl | (simp [errW_none, errW_some] <;> rfl) | (simp [*, errW_none, errW_some] <;> rfl), by repeat (first | (with_reducible first | exact HB.out | apply below_alloc | apply pw_below_drewN | apply below_drew1) | exact HB.out)⟩
        ·
         rw [if_neg c156] at H
         exact absurd (H.trans (congrArg some HE_.out)) (by simp)
       ·
        rw [if_neg c155] at H
        exact absurd (H.trans (congrArg some HE_.out)) (by simp)
      ·
       replace c154 := Bool.eq_false_iff.mpr c154
       subst c154
       have H1 : (some true) = some r := by rw [if_neg (show ¬ (false = true) by decide)] at H; exact H
       clear H
       have H := H1
       clear H1
       obtain rfl := Option.some.inj H
       go_wp2_with (first | ((with_reducible refine gate_callee (f := 27) rfl ?_); refine goesL_ (some 580) rfl rfl Tryz.func27 (by kernel_rfl) rfl #[.string t333] rfl (by (try simp only [List.map_toArray, List.map_cons, List.map_nil]); first | done | rfl | (simp only [List.length_drop, List.length_take]; rfl)) ?_; (with_reducible refine (impl_MostFaced.calls kj141 t333 t350 t351 true _ A150.out).mono ?_); rintro e w158 ⟨rfl, hb⟩; refine ⟨_, rfl, ?_⟩; have n0_ := Aside0.mk (below_step (by repeat (first | (with_reducible first | exact HB.out | apply below_alloc | apply pw_below_drewN | apply below_drew1) | exact HB.out)) hb); clear HB; have HB := n0_; clear n0_; (try clear hb); (try clear hb2); (try clear hk); (try clear hi)))
       go_ret
       exact ⟨by first | rfl | (simp [errW_none, errW_some] <;> rfl) | (simp [*, errW_none, errW_some] <;> rfl), by repeat (first | (with_reducible first | exact HB.out | apply below_alloc | apply pw_below_drewN | apply below_drew1) | exact HB.out)⟩
     ·
      rw [if_neg c153] at H
      exact absurd (H.trans (congrArg some HE_.out)) (by simp)
    ·
     rw [if_neg c152] at H
     exact absurd (H.trans (congrArg some HE_.out)) (by simp)
   ·
    replace c151 := Bool.eq_false_iff.mpr c151
    subst c151
    have H1 : (some false) = some r := by rw [if_neg (show ¬ (false = true) by decide)] at H; exact H
    clear H
    have H := H1
    clear H1
    exact absurd (H.trans (congrArg some HE_.out)) (by simp)
  ·
   replace c149 := Bool.eq_false_iff.mpr c149
   subst c149
   have H1 : (if t344 = true then (if (wrap64 (4 * t343)) ≥ (t341.size : Int) then (if t342 ≥ 0 then (some (decide (t342 < 4))) else (some false)) else (some false)) else (some true)) = some r := by rw [if_neg (show ¬ (false = true) by decide)] at H; exact H
   clear H
   have H := H1
   clear H1
   by_cases c159 : t344 = true
   ·
    subst c159
    have H1 : (if (wrap64 (4 * t343)) ≥ (t341.size : Int) then (if t342 ≥ 0 then (some (decide (t342 < 4))) else (some false)) else (some false)) = some r := by rw [if_pos rfl] at H; exact H
    clear H
    have H := H1
    clear H1
    by_cases c160 : (wrap64 (4 * t343)) ≥ (t341.size : Int)
    ·
     rw [if_pos c160] at H
     have c160b0 : decide ((t341.size : Int) ≤ (wrap64 (4 * t343))) = true := decide_eq_true c160
     clear c160
     by_cases c161 : t342 ≥ 0
     ·
      rw [if_pos c161] at H
      have c161b0 : decide (0 ≤ t342) = true := decide_eq_true c161
      clear c161
      obtain rfl := Option.some.inj H
      go_wp2
      go_ret
      exact ⟨by first | rfl | (simp [errW_none, errW_some] <;> rfl) | (simp [*, errW_none, errW_some] <;> rfl), by repeat (first | (with_reducible first | exact HB.out | apply below_alloc | apply pw_below_drewN | apply below_drew1) | exact HB.out)⟩
     ·
      rw [if_neg c161] at H
      exact absurd (H.trans (congrArg some HE_.out)) (by simp)
    ·
     rw [if_neg c160] at H
     exact absurd (H.trans (congrArg some HE_.out)) (by simp)
   ·
    replace c159 := Bool.eq_false_iff.mpr c159
    subst c159
    have H1 : (some true) = some r := by rw [if_neg (show ¬ (false = true) by decide)] at H; exact H
    clear H
    have H := H1
    clear H1
    obtain rfl := Option.some.inj H
    go_wp2
    go_ret
    exact ⟨by first | rfl | (simp [errW_none, errW_some] <;> rfl) | (simp [*, errW_none, errW_some] <;> rfl), by repeat (first | (with_reducible first | exact HB.out | apply below_alloc | apply pw_below_drewN | apply below_drew1) | exact HB.out)⟩
end Go.Proofs.YtgdmbhldabeelaaRGreatDoor.PFnDrillsTurn
