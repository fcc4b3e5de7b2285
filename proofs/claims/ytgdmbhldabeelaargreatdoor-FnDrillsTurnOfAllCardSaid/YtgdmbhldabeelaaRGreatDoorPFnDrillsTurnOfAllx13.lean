-- Written by a program of this session's (pg.py) over the kit's print.
import Derived.Test.YtgdmbhldabeelaaRGreatDoorPFnDrillsTurnOfAllx0
import Derived.Test.YtgdmbhldabeelaaRGreatDoorPFnDrillsTurnOfAllx1
import Derived.Test.YtgdmbhldabeelaaRGreatDoorPFnDrillsTurnOfAllx2
import Derived.Test.YtgdmbhldabeelaaRGreatDoorPFnDrillsTurnOfAllx3
import Derived.Test.YtgdmbhldabeelaaRGreatDoorPFnDrillsTurnOfAllx4
import Derived.Test.YtgdmbhldabeelaaRGreatDoorPFnDrillsTurnOfAllx5
import Derived.Test.YtgdmbhldabeelaaRGreatDoorPFnDrillsTurnOfAllx6
import Derived.Test.YtgdmbhldabeelaaRGreatDoorPFnDrillsTurnOfAllx7
import Derived.Test.YtgdmbhldabeelaaRGreatDoorPFnDrillsTurnOfAllx8
import Derived.Deep.CutRange
import Derived.Test.YtgdmbhldabeelaaRGreatDoorPFnDrillsTurnOfAllx12
namespace Go.Proofs.YtgdmbhldabeelaaRGreatDoor.PFnDrillsTurnOfAll
open Go.RowKit Go.Proofs.YtgdmbhldabeelaaRGreatDoorW.PrintWords Go.Proofs.YtgdmbhldabeelaaRGreatDoorW.PrintLast Go.Proofs.YtgdmbhldabeelaaRGreatDoorW.PrintMore
attribute [local go_sem] max2_int min2_int max_two min_two max_three min_three max_four min_four   -- for this text's walks alone
set_option linter.unusedVariables false
set_option linter.unusedSimpArgs false


set_option maxHeartbeats 8000000 in
set_option maxRecDepth 100000 in
theorem laws_FnDrillsTurnOfAll.part8 : laws_FnDrillsTurnOfAll.part7.1 := by
 conv => whnf
 intro a0 a1 a4 a5 a6 a8 t194 t196 t202 t204 t206 t208 t210 t212 t236 t238 t240 r HE_ t197 t199 t201 t203 t205 t207 A23 t209 t211 A25 t213 t215 t217 t237 t239 t241 k kj9 HJ9 A18 A21 A22 A24 A26 A17 nd nd nd nd nd kj28 HJ28 kj73 HJ73 A105 A106 A107 a2 a3 a7 t198 A19 HC108 t200 A20 t214 A27 t216 A28 K J K' a K K J K' a u91 u92 u93 u94 u95 u96 u97 u98 u99 u100 u101 u102 u103 u104 u105 u106 u107 u108 u109 u110 u111 u112 u113 u114 u115 u116 u117 u118 u119 u120 u121 u122 u123 u124 u125 u126 u127 u128 u129 u130 u131 u132 u133 u134 u135 u136 u137 u138 u139 u140 u141 u142 u143 u144 u145 u146 u147 u148 u149 u150 u151 u152 u153 u154 u155 u156 u157 u158 u159 u160 u161 u162 u163 u164 u165 u166 u167 u168 u169 u170 u171 u172 u173 u174 u175 u176 u177 u178 u179 u180 u181 u182 u183 u184 u185 u186 u187 u188 u189 u190 u191 u192 u193 u194 u195 u196 u197 u198 u199 u200 u201 u202 u203 u204 u205 u206 u207 u208 u209 u210 u211 u212 u213 u214 u215 u216 u217 u218 u219 u220 u221 u222 u223 u224 u225 u226 u227 u228 u229 u230 u231 u232 u233 u234 u235 u236 u237 u238 u239 u240 u241 u242 u243 u244 u245 u246 u247 u248 u249 u250 u251 u252 u253 u254 u255 u256 u257 u258 u259 u260 u261 u262 u263 u264 u265 u266 u267 u268 u269 u270 u271 u272 u273 u274 u275 u276 u277 u278 u279 u280 u281 u282 u283 u284 u285 u286 u18 u43 u44 u45 u46 u47 u48 u49 u50 u51 u52 u118 u119 u120 u121 u122 u123 u124 u125 u126 u127 u128 u129 u130 u131 u132 u133 u134 u135 u136 u137 u138 u139 u140 u141 u142 u143 u144 u145 u146 u147 u148 u149 u150 u151 u152 u153 u154 u155 u156 u157 u158 u159 u160 u161 u162 u163 u164 u165 u166 u167 u168 u169 u170 u171 u172 u173 u174 u175 u176 u177 u178 u179 u180 u181 u182 u183 u184 u185 u186 u187 u188 u189 u190 u191 u192 u193 u194 u195 u196 u197 u198 u199 u200 u201 u202 u203 u204 u205 u206 u207 u208 u209 u210 u211 u212 u213 u214 u215 u216 u217 u218 u219 u220 u221 u222 u223 u224 u225 u226 u227 u228 u229 u230 u231 u232 u233 u234 u235 u236 u237 u238 u239 u240 u241 u242 u243 u244 u245 u246 u247 u248 u249 u250 u251 u252 u253 u254 u255 u256 u257 u258 u259 u260 u261 u262 u263 u264 u265 u266 u267 u268 u269 u270 u271 u272 u273 u274 u275 u276 u277 u278 u279 u280 u281 u282 u283 u284 u285 u286 u287 u288 u289 u290 u291 u292 u293 u294 u295 u296 u297 u298 u299 u300 u301 u302 u303 u304 u305 u306 u307 u308 u309 u310 u311 u312 u313 u314 u315 u316 u317 u318 u319 u320 u321 u322 u323 u324 u325 u326 u327 u328 u329 u330 u331 u332 u333 u334 u335 u336 u337 u338 u339 u340 u341 u342 u343 u344 u345 u346 u347 u348 u349 u350 u351 u352 u353 u354 u355 u356 u357 u358 u359 u360 u361 u362 u363 u364 u365 u366 u367 u368 u369 u370 u371 u372 u373 u374 u375 u376 u377 u378 u379 u380 u381 u382 u383 u384 u385 u386 u387 u388 u389 u390 u391 u392 u393 u394 u395 u396 u397 u398 u399 u400 u401 u402 u403 u404 u405 u406 u407 u408 u409 u410 u411 u412 u413 u414 u415 u416 u417 u418 u419 u420 u421 u422 u423 u424 u425 u426 u427 u428 u429 u430 u431 u432 u433 u434 u435 u436 u437 u438 u439 w HB Q' a a a a a wc w30 w31 w32 w33 w34 w35 w36 HB wc HB wc w109 w110 w111 HB
 have H := HC108.out
 clear HC108
 by_cases c112 : t237 = true
 ·
  subst c112
  have H1 : (if t236.toList = a0.toList then (if t239 = true then (if t238.toList = t194.toList then (if t241 = true then (laws_FnDrillsTurnOfAll.j3 kj73 a2 a3 a4 a5 a6 a7 a8 t198 t240 ((t240.size : Int) != (a0.size : Int))) else (laws_FnDrillsTurnOfAll.j3 kj73 a2 a3 a4 a5 a6 a7 a8 t198 t240 true)) else (laws_FnDrillsTurnOfAll.j3 kj73 a2 a3 a4 a5 a6 a7 a8 t198 t240 true)) else (laws_FnDrillsTurnOfAll.j3 kj73 a2 a3 a4 a5 a6 a7 a8 t198 t240 true)) else (laws_FnDrillsTurnOfAll.j3 kj73 a2 a3 a4 a5 a6 a7 a8 t198 t240 true)) = some r := by rw [if_pos rfl] at H; exact H
  clear H
  have H := H1
  clear H1
  by_cases c113 : t236.toList = a0.toList
  ·
   rw [if_pos c113] at H
   have c113b0 : (t236.toList == a0.toList) = true := beq_iff_eq.mpr c113
   have c113b1 : (t236.toList != a0.toList) = false := bne_eq_false_iff_eq.mpr c113
   clear c113
   (first | rw [c113b0] | (simp only [i64_w, i32_w]; rw [c113b0]) | skip)
   by_cases c114 : t239 = true
   ·
    subst c114
    have H1 : (if t238.toList = t194.toList then (if t241 = true then (laws_FnDrillsTurnOfAll.j3 kj73 a2 a3 a4 a5 a6 a7 a8 t198 t240 ((t240.size : Int) != (a0.size : Int))) else (laws_FnDrillsTurnOfAll.j3 kj73 a2 a3 a4 a5 a6 a7 a8 t198 t240 true)) else (laws_FnDrillsTurnOfAll.j3 kj73 a2 a3 a4 a5 a6 a7 a8 t198 t240 true)) = some r := by rw [if_pos rfl] at H; exact H
    clear H
    have H := H1
    clear H1
    by_cases c115 : t238.toList = t194.toList
    ·
     rw [if_pos c115] at H
     have c115b0 : (t238.toList == t194.toList) = true := beq_iff_eq.mpr c115
     have c115b1 : (t238.toList != t194.toList) = false := bne_eq_false_iff_eq.mpr c115
     clear c115
     by_cases c116 : t241 = true
     ·
      subst c116
      have H1 : (laws_FnDrillsTurnOfAll.j3 kj73 a2 a3 a4 a5 a6 a7 a8 t198 t240 ((t240.size : Int) != (a0.size : Int))) = some r := by rw [if_pos rfl] at H; exact H
      clear H
      have H := H1
      clear H1
      have H' := Aside0.mk H
      clear H
      go_wp2
      go_meet
      case rel => exact ⟨_, (((t240.size : Int) != (a0.size : Int))), (by first | rfl | (simp; done) | (simp [*]; done)), H', ⟨by have := HJ9.out; have := HJ28.out; have := HJ73.out; first | omega | exact Nat.le_refl _⟩, ⟨by repeat (first | (with_reducible first | exact HB.out | apply below_alloc | apply pw_below_drewN | apply below_drew1) | exact HB.out)⟩⟩
     ·
      replace c116 := Bool.eq_false_iff.mpr c116
      subst c116
      have H1 : (laws_FnDrillsTurnOfAll.j3 kj73 a2 a3 a4 a5 a6 a7 a8 t198 t240 true) = some r := by rw [if_neg (show ¬ (false = true) by decide)] at H; exact H
      clear H
      have H := H1
      clear H1
      exact (laws_FnDrillsTurnOfAll.j3_no _ _ _ _ _ _ _ _ _ _ (H.trans (congrArg some HE_.out))).elim
    ·
     rw [if_neg c115] at H
     exact (laws_FnDrillsTurnOfAll.j3_no _ _ _ _ _ _ _ _ _ _ (H.trans (congrArg some HE_.out))).elim
   ·
    replace c114 := Bool.eq_false_iff.mpr c114
    subst c114
    have H1 : (laws_FnDrillsTurnOfAll.j3 kj73 a2 a3 a4 a5 a6 a7 a8 t198 t240 true) = some r := by rw [if_neg (show ¬ (false = true) by decide)] at H; exact H
    clear H
    have H := H1
    clear H1
    exact (laws_FnDrillsTurnOfAll.j3_no _ _ _ _ _ _ _ _ _ _ (H.trans (congrArg some HE_.out))).elim
  ·
   rw [if_neg c113] at H
   exact (laws_FnDrillsTurnOfAll.j3_no _ _ _ _ _ _ _ _ _ _ (H.trans (congrArg some HE_.out))).elim
 ·
  replace c112 := Bool.eq_false_iff.mpr c112
  subst c112
  have H1 : (laws_FnDrillsTurnOfAll.j3 kj73 a2 a3 a4 a5 a6 a7 a8 t198 t240 true) = some r := by rw [if_neg (show ¬ (false = true) by decide)] at H; exact H
  clear H
  have H := H1
  clear H1
  exact (laws_FnDrillsTurnOfAll.j3_no _ _ _ _ _ _ _ _ _ _ (H.trans (congrArg some HE_.out))).elim

set_option maxHeartbeats 8000000 in
set_option maxRecDepth 100000 in
theorem laws_FnDrillsTurnOfAll.part9 : laws_FnDrillsTurnOfAll.part7.2.1 := by
 conv => whnf
 intro a0 a1 a4 a5 a6 a8 t194 t196 t202 t204 t206 t208 t210 t212 t236 t238 t240 r HE_ t197 t199 t201 t203 t205 t207 A23 t209 t211 A25 t213 t215 t217 t237 t239 t241 k kj9 HJ9 A18 A21 A22 A24 A26 A17 nd nd nd nd nd kj28 HJ28 kj73 HJ73 A105 A106 A107 a2 a3 a7 t198 A19 HC108 t200 A20 t214 A27 t216 A28 K J K' a K K u91 u92 u93 u94 u95 u96 u97 u98 u99 u100 u101 u102 u103 u104 u105 u106 u107 u108 u109 u110 u111 u112 u113 u114 u115 u116 u117 u118 u119 u120 u121 u122 u123 u124 u125 u126 u127 u128 u129 u130 u131 u132 u133 u134 u135 u136 u137 u138 u139 u140 u141 u142 u143 u144 u145 u146 u147 u148 u149 u150 u151 u152 u153 u154 u155 u156 u157 u158 u159 u160 u161 u162 u163 u164 u165 u166 u167 u168 u169 u170 u171 u172 u173 u174 u175 u176 u177 u178 u179 u180 u181 u182 u183 u184 u185 u186 u187 u188 u189 u190 u191 u192 u193 u194 u195 u196 u197 u198 u199 u200 u201 u202 u203 u204 u205 u206 u207 u208 u209 u210 u211 u212 u213 u214 u215 u216 u217 u218 u219 u220 u221 u222 u223 u224 u225 u226 u227 u228 u229 u230 u231 u232 u233 u234 u235 u236 u237 u238 u239 u240 u241 u242 u243 u244 u245 u246 u247 u248 u249 u250 u251 u252 u253 u254 u255 u256 u257 u258 u259 u260 u261 u262 u263 u264 u265 u266 u267 u268 u269 u270 u271 u272 u273 u274 u275 u276 u277 u278 u279 u280 u281 u282 u283 u284 u285 u286 u18 u43 u44 u45 u46 u47 u48 u49 u50 u51 u52 u118 u119 u120 u121 u122 u123 u124 u125 u126 u127 u128 u129 u130 u131 u132 u133 u134 u135 u136 u137 u138 u139 u140 u141 u142 u143 u144 u145 u146 u147 u148 u149 u150 u151 u152 u153 u154 u155 u156 u157 u158 u159 u160 u161 u162 u163 u164 u165 u166 u167 u168 u169 u170 u171 u172 u173 u174 u175 u176 u177 u178 u179 u180 u181 u182 u183 u184 u185 u186 u187 u188 u189 u190 u191 u192 u193 u194 u195 u196 u197 u198 u199 u200 u201 u202 u203 u204 u205 u206 u207 u208 u209 u210 u211 u212 u213 u214 u215 u216 u217 u218 u219 u220 u221 u222 u223 u224 u225 u226 u227 u228 u229 u230 u231 u232 u233 u234 u235 u236 u237 u238 u239 u240 u241 u242 u243 u244 u245 u246 u247 u248 u249 u250 u251 u252 u253 u254 u255 u256 u257 u258 u259 u260 u261 u262 u263 u264 u265 u266 u267 u268 u269 u270 u271 u272 u273 u274 u275 u276 u277 u278 u279 u280 u281 u282 u283 u284 u285 u286 u287 u288 u289 u290 u291 u292 u293 u294 u295 u296 u297 u298 u299 u300 u301 u302 u303 u304 u305 u306 u307 u308 u309 u310 u311 u312 u313 u314 u315 u316 u317 u318 u319 u320 u321 u322 u323 u324 u325 u326 u327 u328 u329 u330 u331 u332 u333 u334 u335 u336 u337 u338 u339 u340 u341 u342 u343 u344 u345 u346 u347 u348 u349 u350 u351 u352 u353 u354 u355 u356 u357 u358 u359 u360 u361 u362 u363 u364 u365 u366 u367 u368 u369 u370 u371 u372 u373 u374 u375 u376 u377 u378 u379 u380 u381 u382 u383 u384 u385 u386 u387 u388 u389 u390 u391 u392 u393 u394 u395 u396 u397 u398 u399 u400 u401 u402 u403 u404 u405 u406 u407 u408 u409 u410 u411 u412 u413 u414 u415 u416 u417 u418 u419 u420 u421 u422 u423 u424 u425 u426 u427 u428 u429 u430 u431 u432 u433 u434 u435 u436 u437 u438 u439 u287 u288 u289 u290 u291 u292 u293 u294 u295 u296 u297 u298 u299 u300 u301 u302 u303 u304 u305 u306 u307 u308 u309 u310 u311 u312 u313 u314 u315 u316 u317 u318 u319 u320 u321 u322 u323 u324 u325 u326 u327 u328 u329 u330 u331 u332 u333 u334 u335 u336 u337 u338 u339 u340 u341 u342 u343 u344 u345 u346 u347 u348 u349 u350 u351 u352 u353 u354 u355 u356 u357 u358 u359 u360 u361 u362 u363 u364 u365 u366 u367 u368 u369 u370 u371 u372 u373 u374 u375 u376 u377 u378 u379 u380 u381 u382 u383 u384 u385 u386 u387 u388 u389 u390 u391 u392 u393 u394 u395 u396 u397 u398 u399 u400 u401 u402 u403 u404 u405 u406 u407 u408 u409 u410 u411 u412 u413 u414 u415 u416 u417 u418 u419 u420 u421 u422 u423 u424 u425 u426 u427 u428 u429 u430 u431 u432 u433 u434 u435 u436 u437 u438 u439 w HB Q' a a a a wc w30 w31 w32 w33 w34 w35 w36 HB wc HB wc w109 w110 w111 HB wc hcut
 clear HC108
 try clear c16
 try clear c73
 try clear c104
 obtain ⟨kq, x439_107, rfl, HA, HJ107, HB⟩ := hcut
 cases kq with
 | zero => exact absurd HA.out (by simp [laws_FnDrillsTurnOfAll.j3])
 | succ kj107 =>
  have H := HA.out
  clear HA
  simp only [laws_FnDrillsTurnOfAll.j3] at H
  by_cases c117 : x439_107 = true
  ·
   subst c117
   have H1 : (some false) = some r := by rw [if_pos rfl] at H; exact H
   clear H
   have H := H1
   clear H1
   exact absurd (H.trans (congrArg some HE_.out)) (by simp)
  ·
   replace c117 := Bool.eq_false_iff.mpr c117
   subst c117
   have H1 : ((laws_turnLoop.f kj107 t240 t198).bind fun t242 => (if t242 = true then (laws_FnDrillsTurnOfAll.j4 kj107 a2 a3 a4 a5 a6 a7 a8) else (some false))) = some r := by rw [if_neg (show ¬ (false = true) by decide)] at H; exact H
   clear H
   have H := H1
   clear H1
   replace H := Option.bind_eq_some_iff.mp H
   obtain ⟨t242, A1180, H⟩ := H
   replace H : (if t242 = true then (laws_FnDrillsTurnOfAll.j4 kj107 a2 a3 a4 a5 a6 a7 a8) else (some false)) = some r := H
   have A118 := Aside0.mk A1180
   clear A1180
   by_cases c119 : t242 = true
   ·
    subst c119
    have H1 : (laws_FnDrillsTurnOfAll.j4 kj107 a2 a3 a4 a5 a6 a7 a8) = some r := by rw [if_pos rfl] at H; exact H
    clear H
    have H := H1
    clear H1
    have H' := Aside0.mk H
    clear H
    go_wp2
    have hl1 : t240.size ≤ 1000000000 ∧ laws_turnLoop.l0 kj107 t240 t198 0 = some true := by
     have h := A118.out
     unfold laws_turnLoop.f at h
     split at h
     · rename_i c; exact ⟨c, h⟩
     · cases h
    have HZ := Aside0.mk hl1.1
    have HL := Aside0.mk hl1.2
    clear hl1 A118
    go_loopg [] kj107 (fun kq wr => ∃ i : Nat, Aside0 (laws_turnLoop.l0 kq t240 t198 i = some true) ∧ Aside0 (kq ≤ kj107) ∧ Aside0 (Below w.heap.size w wr) ∧ Aside0 (wr.heap[wc.heap.size]? = some (.stringIter t240 i)))
    case atStart => exact ⟨0, HL, ⟨Nat.le_refl _⟩, ⟨below_alloc HB.out _⟩, ⟨World.iter_heap _ _ 0⟩⟩
    case round =>
     have HW : Aside0 (w.heap.size ≤ wc.heap.size) := ⟨HB.out.size⟩
     clear HL HB
     obtain ⟨i, HA, HK, HB, HI⟩ := hrel
     cases gk with
     | zero => exact absurd HA.out (by simp [laws_turnLoop.l0])
     | succ kl =>
      have h := HA.out
      clear HA
      rw [laws_turnLoop.l0] at h
      by_cases c : i < t240.size
      ·
       rw [if_pos c] at h
       by_cases c2 : bt t240 (i : Int) < 128
       ·
        rw [if_pos c2] at h
        replace h := Option.bind_eq_some_iff.mp h
        obtain ⟨⟨y1, y2⟩, hy, h⟩ := h
        by_cases c3 : y2 = true
        ·
         by_cases c4 : y1 = t198
         ·
          subst y2
          subst y1
          have H2 : Aside0 (laws_turnLoop.l0 kl t240 t198 (i + 1) = some true) := ⟨by simpa using h⟩
          have hz := HZ.out
          have hw1 : wrap64 ((i : Int) + 1) = (i : Int) + 1 := by unfold wrap64; omega
          have he : t240.extract i (i + 1) = t240.extract ((i : Int)).toNat (wrap64 ((i : Int) + 1)).toNat := by rw [hw1]; congr 1
          rw [he] at hy
          have HY := Aside0.mk hy
          have ha : (t240[i]'c).toNat < 128 := by
           have e := bt_at t240 (i : Int) (by simpa using c)
           simp only [Int.toNat_natCast] at e
           rw [← e] at c2
           omega
          obtain ⟨rn, hnx⟩ : ∃ rn : Int, ∀ ty, (Instr.next (.pointer (some ⟨wc.heap.size, 0, none⟩)) true ty).run Tryz.prog wr = .ok (.tuple #[.bool true, .int .i64 (i : Int), .int .i32 rn]) (wr.iterAt wc.heap.size t240 (i + 1)) := ⟨_, fun ty => Lib.run_next_ascii_at wr wc.heap.size t240 i ty HI.out c ha⟩
          have HI2 := Aside0.mk (Lib.iterAt_heap wr wc.heap.size t240 i (i + 1) HI.out)
          have HB2 := Aside0.mk (Lib.below_iterAt HB.out (k := wc.heap.size) HW.out t240 (i + 1))
          obtain ⟨W, hWd⟩ : ∃ W, wr.iterAt wc.heap.size t240 (i + 1) = W := ⟨_, rfl⟩
          rw [hWd] at hnx HI2 HB2
          have s1 : decide ((0 : Int) ≤ (i : Int)) = true := decide_eq_true (by omega)
          have s2 : decide ((i : Int) ≤ wrap64 ((i : Int) + 1)) = true := decide_eq_true (by rw [hw1]; omega)
          have s3 : decide (wrap64 ((i : Int) + 1) ≤ (t240.size : Int)) = true := decide_eq_true (by rw [hw1]; omega)
          have s4 := eq_true (of_decide_eq_true s1)
          have s5 := eq_true (of_decide_eq_true s2)
          have s6 := eq_true (of_decide_eq_true s3)
          clear h hy HI HB hWd hw1 he hz ha c2 c
          go_wp2_with (first | ((with_reducible refine gate_callee (f := 7) rfl ?_); refine goesL_ (some 451) rfl rfl Tryz.func7 (by kernel_rfl) rfl #[.string (t240.extract ((i : Int)).toNat (wrap64 ((i : Int) + 1)).toNat)] rfl (by (try simp only [List.map_toArray, List.map_cons, List.map_nil]); first | done | rfl) ?_; (with_reducible refine (impl_NetTurn.calls kl _ t198 true _ HY.out).mono ?_); rintro e w1 ⟨rfl, hb⟩; refine ⟨_, rfl, ?_⟩; have n0_ := Aside0.mk (below_step HB2.out hb); have n1_ := Aside0.mk ((hb.block _ (Array.getElem?_eq_some_iff.1 HI2.out).1).trans HI2.out); clear HB2 HI2 hb; have HB2 := n0_; have HI2 := n1_; clear n0_ n1_))
          go_roundg kl
          case measure => omega
          case rel => exact ⟨i + 1, H2, ⟨by have := HK.out; omega⟩, HB2, HI2⟩
         · exact absurd h (by simp [c3, c4])
        · exact absurd h (by simp [c3])
       · rw [if_neg c2] at h; cases h
      ·
       have hnx : ∀ ty, (Instr.next (.pointer (some ⟨wc.heap.size, 0, none⟩)) true ty).run Tryz.prog wr = _ := fun ty => Lib.run_next_end_at wr wc.heap.size t240 i ty HI.out c
       clear h c HI
       go_wp2
       go_meet
       case rel => exact ⟨_, H', ⟨by have := HJ9.out; have := HJ28.out; have := HJ73.out; have := HJ107.out; first | omega | exact Nat.le_refl _⟩, ⟨by repeat (first | (with_reducible first | exact HB.out | apply below_alloc | apply pw_below_drewN | apply below_drew1) | exact HB.out)⟩⟩
   ·
    replace c119 := Bool.eq_false_iff.mpr c119
    subst c119
    have H1 : (some false) = some r := by rw [if_neg (show ¬ (false = true) by decide)] at H; exact H
    clear H
    have H := H1
    clear H1
    exact absurd (H.trans (congrArg some HE_.out)) (by simp)
end Go.Proofs.YtgdmbhldabeelaaRGreatDoor.PFnDrillsTurnOfAll
