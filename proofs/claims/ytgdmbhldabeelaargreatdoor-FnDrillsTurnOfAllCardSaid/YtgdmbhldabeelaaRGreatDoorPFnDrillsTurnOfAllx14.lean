-- Written by a program of this session's (pg.py) over the kit's print.
import Derived.Test.YtgdmbhldabeelaaRGreatDoorPFnDrillsTurnOfAllx0
import Derived.Test.YtgdmbhldabeelaaRGreatDoorPFnDrillsTurnOfAllx1
import Derived.Test.YtgdmbhldabeelaaRGreatDoorPFnDrillsTurnOfAllx2
import Derived.Test.YtgdmbhldabeelaaRGreatDoorPFnDrillsTurnOfAllx3
import Derived.Test.YtgdmbhldabeelaaRGreatDoorPFnDrillsTurnOfAllx4
import Derived.Test.YtgdmbhldabeelaaRGreatDoorPFnDrillsTurnOfAllx5
import Derived.Test.YtgdmbhldabeelaaRGreatDoorPFnDrillsTurnOfAllx6
import Derived.Test.YtgdmbhldabeelaaRGreatDoorPFnDrillsTurnOfAllx7
import Derived.Test.YtgdmbhldabeelaaRGreatDoorPFnDrillsTurnOfAllx8
import Derived.Deep.CutRange
import Derived.Test.YtgdmbhldabeelaaRGreatDoorPFnDrillsTurnOfAllx12
namespace Go.Proofs.YtgdmbhldabeelaaRGreatDoor.PFnDrillsTurnOfAll
open Go.RowKit Go.Proofs.YtgdmbhldabeelaaRGreatDoorW.PrintWords Go.Proofs.YtgdmbhldabeelaaRGreatDoorW.PrintLast Go.Proofs.YtgdmbhldabeelaaRGreatDoorW.PrintMore
attribute [local go_sem] max2_int min2_int max_two min_two max_three min_three max_four min_four   -- for this text's walks alone
set_option linter.unusedVariables false
set_option linter.unusedSimpArgs false


set_option maxHeartbeats 8000000 in
set_option maxRecDepth 100000 in
def laws_FnDrillsTurnOfAll.part10 : Σ' (R1 R2 : Prop), PLift R1 → PLift R2 → (laws_FnDrillsTurnOfAll.part6.2.1) := by
 refine' ⟨_, _, fun hole1 hole2 => _⟩
 rotate_left 2
 ·
  conv => whnf
  intro a0 a1 a4 a5 a6 a8 t194 t196 t202 t204 t206 t208 t210 t212 r HE_ t195 t197 t199 t201 t203 t205 t207 A23 t209 t211 A25 t213 t215 t217 k kj9 HJ9 A17 A18 A21 A22 A24 A26 nd nd nd nd nd kj28 HJ28 kj73 HJ73 a2 a3 a7 t198 A19 HC103 t200 A20 t214 A27 t216 A28 K u91 u92 u93 u94 u95 u96 u97 u98 u99 u100 u101 u102 u103 u104 u105 u106 u107 u108 u109 u110 u111 u112 u113 u114 u115 u116 u117 u118 u119 u120 u121 u122 u123 u124 u125 u126 u127 u128 u129 u130 u131 u132 u133 u134 u135 u136 u137 u138 u139 u140 u141 u142 u143 u144 u145 u146 u147 u148 u149 u150 u151 u152 u153 u154 u155 u156 u157 u158 u159 u160 u161 u162 u163 u164 u165 u166 u167 u168 u169 u170 u171 u172 u173 u174 u175 u176 u177 u178 u179 u180 u181 u182 u183 u184 u185 u186 u187 u188 u189 u190 u191 u192 u193 u194 u195 u196 u197 u198 u199 u200 u201 u202 u203 u204 u205 u206 u207 u208 u209 u210 u211 u212 u213 u214 u215 u216 u217 u218 u219 u220 u221 u222 u223 u224 u225 u226 u227 u228 u229 u230 u231 u232 u233 u234 u235 u236 u237 u238 u239 u240 u241 u242 u243 u244 u245 u246 u247 u248 u249 u250 u251 u252 u253 u254 u255 u256 u257 u258 u259 u260 u261 u262 u263 u264 u265 u266 u267 u268 u269 u270 u271 u272 u273 u274 u275 u276 u277 u278 u279 u280 u281 u282 u283 u284 u285 u286 u18 u43 u44 u45 u46 u47 u48 u49 u50 u51 u52 u118 u119 u120 u121 u122 u123 u124 u125 u126 u127 u128 u129 u130 u131 u132 u133 u134 u135 u136 u137 u138 u139 u140 u141 u142 u143 u144 u145 u146 u147 u148 u149 u150 u151 u152 u153 u154 u155 u156 u157 u158 u159 u160 u161 u162 u163 u164 u165 u166 u167 u168 u169 u170 u171 u172 u173 u174 u175 u176 u177 u178 u179 u180 u181 u182 u183 u184 u185 u186 u187 u188 u189 u190 u191 u192 u193 u194 u195 u196 u197 u198 u199 u200 u201 u202 u203 u204 u205 u206 u207 u208 u209 u210 u211 u212 u213 u214 u215 u216 u217 u218 u219 u220 u221 u222 u223 u224 u225 u226 u227 u228 u229 u230 u231 u232 u233 u234 u235 u236 u237 u238 u239 u240 u241 u242 u243 u244 u245 u246 u247 u248 u249 u250 u251 u252 u253 u254 u255 u256 u257 u258 u259 u260 u261 u262 u263 u264 u265 u266 u267 u268 u269 u270 u271 u272 u273 u274 u275 u276 u277 u278 u279 u280 u281 u282 u283 u284 u285 u286 u287 u288 u289 u290 u291 u292 u293 u294 u295 u296 u297 u298 u299 u300 u301 u302 u303 u304 u305 u306 u307 u308 u309 u310 u311 u312 u313 u314 u315 u316 u317 u318 u319 u320 u321 u322 u323 u324 u325 u326 u327 u328 u329 u330 u331 u332 u333 u334 u335 u336 u337 u338 u339 u340 u341 u342 u343 u344 u345 u346 u347 u348 u349 u350 u351 u352 u353 u354 u355 u356 u357 u358 u359 u360 u361 u362 u363 u364 u365 u366 u367 u368 u369 u370 u371 u372 u373 u374 u375 u376 u377 u378 u379 u380 u381 u382 u383 u384 u385 u386 u387 u388 u389 u390 u391 u392 u393 u394 u395 u396 u397 u398 u399 u400 u401 u402 u403 u404 u405 u406 u407 u408 u409 u410 u411 u412 u413 u414 u415 u416 u417 u418 u419 u420 u421 u422 u423 u424 u425 u426 u427 u428 u429 u430 u431 u432 u433 u434 u435 u436 u437 u438 u439 u18 u53 u54 u55 u56 u57 u58 u59 u60 u61 u118 u119 u120 u121 u122 u123 u124 u125 u126 u127 u128 u129 u130 u131 u132 u133 u134 u135 u136 u137 u138 u139 u140 u141 u142 u143 u144 u145 u146 u147 u148 u149 u150 u151 u152 u153 u154 u155 u156 u157 u158 u159 u160 u161 u162 u163 u164 u165 u166 u167 u168 u169 u170 u171 u172 u173 u174 u175 u176 u177 u178 u179 u180 u181 u182 u183 u184 u185 u186 u187 u188 u189 u190 u191 u192 u193 u194 u195 u196 u197 u198 u199 u200 u201 u202 u203 u204 u205 u206 u207 u208 u209 u210 u211 u212 u213 u214 u215 u216 u217 u218 u219 u220 u221 u222 u223 u224 u225 u226 u227 u228 u229 u230 u231 u232 u233 u234 u235 u236 u237 u238 u239 u240 u241 u242 u243 u244 u245 u246 u247 u248 u249 u250 u251 u252 u253 u254 u255 u256 u257 u258 u259 u260 u261 u262 u263 u264 u265 u266 u267 u268 u269 u270 u271 u272 u273 u274 u275 u276 u277 u278 u279 u280 u281 u282 u283 u284 u285 u286 u287 u288 u289 u290 u291 u292 u293 u294 u295 u296 u297 u298 u299 u300 u301 u302 u303 u304 u305 u306 u307 u308 u309 u310 u311 u312 u313 u314 u315 u316 u317 u318 u319 u320 u321 u322 u323 u324 u325 u326 u327 u328 u329 u330 u331 u332 u333 u334 u335 u336 u337 u338 u339 u340 u341 u342 u343 u344 u345 u346 u347 u348 u349 u350 u351 u352 u353 u354 u355 u356 u357 u358 u359 u360 u361 u362 u363 u364 u365 u366 u367 u368 u369 u370 u371 u372 u373 u374 u375 u376 u377 u378 u379 u380 u381 u382 u383 u384 u385 u386 u387 u388 u389 u390 u391 u392 u393 u394 u395 u396 u397 u398 u399 u400 u401 u402 u403 u404 u405 u406 u407 u408 u409 u410 u411 u412 u413 u414 u415 u416 u417 u418 u419 u420 u421 u422 u423 u424 u425 u426 u427 u428 u429 u430 u431 u432 u433 u434 u435 u436 u437 u438 u439 u440 u441 u442 u443 u444 u445 u446 u447 u448 u449 u450 u451 u452 u453 u454 u455 u456 u457 u458 u459 u460 w HB Q' a wc w30 w31 w32 w33 w34 w35 w36 HB wc HB wc HB wc hcut
  clear HC103
  try clear c16
  try clear c73
  obtain ⟨kq, HA, HJ102, HB⟩ := hcut
  cases kq with
  | zero => exact absurd HA.out (by simp [laws_FnDrillsTurnOfAll.j4])
  | succ kj102 =>
   have H := HA.out
   clear HA
   simp only [laws_FnDrillsTurnOfAll.j4] at H
   replace H := Option.bind_eq_some_iff.mp H
   obtain ⟨⟨t243, t244⟩, A1210, H⟩ := H
   replace H : ((spec_CountCommandWords.f kj102 a2 a3).bind fun bt245 => ((impl_CommandsBetween.f kj102 a4 a5).bind fun bt247 => ((spec_CommandsBetween.f kj102 a4 a5).bind fun bt249 => ((impl_BestCommand.f kj102 a6 a7).bind fun bt251 => ((spec_BestCommand.f kj102 a6 a7).bind fun bt254 => ((impl_MostFaced.f kj102 a8).bind fun bt257 => ((spec_MostFaced.f kj102 a8).bind fun bt260 => (if (t244 != bt245.2) = true then (laws_FnDrillsTurnOfAll.j5 kj102 a2 a6 a8 t244 bt251.1 bt251.2.1 bt251.2.2 bt257.1 bt257.2.1 bt257.2.2 true) else (if t243 = bt245.1 then (if (bt247.2 != bt249.2) = true then (laws_FnDrillsTurnOfAll.j5 kj102 a2 a6 a8 t244 bt251.1 bt251.2.1 bt251.2.2 bt257.1 bt257.2.1 bt257.2.2 true) else (if bt247.1.toList = bt249.1.toList then (if (bt251.2.2 != bt254.2.2) = true then (laws_FnDrillsTurnOfAll.j5 kj102 a2 a6 a8 t244 bt251.1 bt251.2.1 bt251.2.2 bt257.1 bt257.2.1 bt257.2.2 true) else (if bt251.1.toList = bt254.1.toList then (if bt251.2.1 = bt254.2.1 then (if (bt257.2.2 != bt260.2.2) = true then (laws_FnDrillsTurnOfAll.j5 kj102 a2 a6 a8 t244 bt251.1 bt251.2.1 bt251.2.2 bt257.1 bt257.2.1 bt257.2.2 true) else (if bt257.1 = bt260.1 then (laws_FnDrillsTurnOfAll.j5 kj102 a2 a6 a8 t244 bt251.1 bt251.2.1 bt251.2.2 bt257.1 bt257.2.1 bt257.2.2 (bt257.2.1 != bt260.2.1)) else (laws_FnDrillsTurnOfAll.j5 kj102 a2 a6 a8 t244 bt251.1 bt251.2.1 bt251.2.2 bt257.1 bt257.2.1 bt257.2.2 true))) else (laws_FnDrillsTurnOfAll.j5 kj102 a2 a6 a8 t244 bt251.1 bt251.2.1 bt251.2.2 bt257.1 bt257.2.1 bt257.2.2 true)) else (laws_FnDrillsTurnOfAll.j5 kj102 a2 a6 a8 t244 bt251.1 bt251.2.1 bt251.2.2 bt257.1 bt257.2.1 bt257.2.2 true))) else (laws_FnDrillsTurnOfAll.j5 kj102 a2 a6 a8 t244 bt251.1 bt251.2.1 bt251.2.2 bt257.1 bt257.2.1 bt257.2.2 true))) else (laws_FnDrillsTurnOfAll.j5 kj102 a2 a6 a8 t244 bt251.1 bt251.2.1 bt251.2.2 bt257.1 bt257.2.1 bt257.2.2 true)))))))))) = some r := H
   have A121 := Aside0.mk A1210
   clear A1210
   replace H := Option.bind_eq_some_iff.mp H
   obtain ⟨⟨t245, t246⟩, A1220, H⟩ := H
   replace H : ((impl_CommandsBetween.f kj102 a4 a5).bind fun bt247 => ((spec_CommandsBetween.f kj102 a4 a5).bind fun bt249 => ((impl_BestCommand.f kj102 a6 a7).bind fun bt251 => ((spec_BestCommand.f kj102 a6 a7).bind fun bt254 => ((impl_MostFaced.f kj102 a8).bind fun bt257 => ((spec_MostFaced.f kj102 a8).bind fun bt260 => (if (t244 != t246) = true then (laws_FnDrillsTurnOfAll.j5 kj102 a2 a6 a8 t244 bt251.1 bt251.2.1 bt251.2.2 bt257.1 bt257.2.1 bt257.2.2 true) else (if t243 = t245 then (if (bt247.2 != bt249.2) = true then (laws_FnDrillsTurnOfAll.j5 kj102 a2 a6 a8 t244 bt251.1 bt251.2.1 bt251.2.2 bt257.1 bt257.2.1 bt257.2.2 true) else (if bt247.1.toList = bt249.1.toList then (if (bt251.2.2 != bt254.2.2) = true then (laws_FnDrillsTurnOfAll.j5 kj102 a2 a6 a8 t244 bt251.1 bt251.2.1 bt251.2.2 bt257.1 bt257.2.1 bt257.2.2 true) else (if bt251.1.toList = bt254.1.toList then (if bt251.2.1 = bt254.2.1 then (if (bt257.2.2 != bt260.2.2) = true then (laws_FnDrillsTurnOfAll.j5 kj102 a2 a6 a8 t244 bt251.1 bt251.2.1 bt251.2.2 bt257.1 bt257.2.1 bt257.2.2 true) else (if bt257.1 = bt260.1 then (laws_FnDrillsTurnOfAll.j5 kj102 a2 a6 a8 t244 bt251.1 bt251.2.1 bt251.2.2 bt257.1 bt257.2.1 bt257.2.2 (bt257.2.1 != bt260.2.1)) else (laws_FnDrillsTurnOfAll.j5 kj102 a2 a6 a8 t244 bt251.1 bt251.2.1 bt251.2.2 bt257.1 bt257.2.1 bt257.2.2 true))) else (laws_FnDrillsTurnOfAll.j5 kj102 a2 a6 a8 t244 bt251.1 bt251.2.1 bt251.2.2 bt257.1 bt257.2.1 bt257.2.2 true)) else (laws_FnDrillsTurnOfAll.j5 kj102 a2 a6 a8 t244 bt251.1 bt251.2.1 bt251.2.2 bt257.1 bt257.2.1 bt257.2.2 true))) else (laws_FnDrillsTurnOfAll.j5 kj102 a2 a6 a8 t244 bt251.1 bt251.2.1 bt251.2.2 bt257.1 bt257.2.1 bt257.2.2 true))) else (laws_FnDrillsTurnOfAll.j5 kj102 a2 a6 a8 t244 bt251.1 bt251.2.1 bt251.2.2 bt257.1 bt257.2.1 bt257.2.2 true))))))))) = some r := H
   have A122 := Aside0.mk A1220
   clear A1220
   replace H := Option.bind_eq_some_iff.mp H
   obtain ⟨⟨t247, t248⟩, A1230, H⟩ := H
   replace H : ((spec_CommandsBetween.f kj102 a4 a5).bind fun bt249 => ((impl_BestCommand.f kj102 a6 a7).bind fun bt251 => ((spec_BestCommand.f kj102 a6 a7).bind fun bt254 => ((impl_MostFaced.f kj102 a8).bind fun bt257 => ((spec_MostFaced.f kj102 a8).bind fun bt260 => (if (t244 != t246) = true then (laws_FnDrillsTurnOfAll.j5 kj102 a2 a6 a8 t244 bt251.1 bt251.2.1 bt251.2.2 bt257.1 bt257.2.1 bt257.2.2 true) else (if t243 = t245 then (if (t248 != bt249.2) = true then (laws_FnDrillsTurnOfAll.j5 kj102 a2 a6 a8 t244 bt251.1 bt251.2.1 bt251.2.2 bt257.1 bt257.2.1 bt257.2.2 true) else (if t247.toList = bt249.1.toList then (if (bt251.2.2 != bt254.2.2) = true then (laws_FnDrillsTurnOfAll.j5 kj102 a2 a6 a8 t244 bt251.1 bt251.2.1 bt251.2.2 bt257.1 bt257.2.1 bt257.2.2 true) else (if bt251.1.toList = bt254.1.toList then (if bt251.2.1 = bt254.2.1 then (if (bt257.2.2 != bt260.2.2) = true then (laws_FnDrillsTurnOfAll.j5 kj102 a2 a6 a8 t244 bt251.1 bt251.2.1 bt251.2.2 bt257.1 bt257.2.1 bt257.2.2 true) else (if bt257.1 = bt260.1 then (laws_FnDrillsTurnOfAll.j5 kj102 a2 a6 a8 t244 bt251.1 bt251.2.1 bt251.2.2 bt257.1 bt257.2.1 bt257.2.2 (bt257.2.1 != bt260.2.1)) else (laws_FnDrillsTurnOfAll.j5 kj102 a2 a6 a8 t244 bt251.1 bt251.2.1 bt251.2.2 bt257.1 bt257.2.1 bt257.2.2 true))) else (laws_FnDrillsTurnOfAll.j5 kj102 a2 a6 a8 t244 bt251.1 bt251.2.1 bt251.2.2 bt257.1 bt257.2.1 bt257.2.2 true)) else (laws_FnDrillsTurnOfAll.j5 kj102 a2 a6 a8 t244 bt251.1 bt251.2.1 bt251.2.2 bt257.1 bt257.2.1 bt257.2.2 true))) else (laws_FnDrillsTurnOfAll.j5 kj102 a2 a6 a8 t244 bt251.1 bt251.2.1 bt251.2.2 bt257.1 bt257.2.1 bt257.2.2 true))) else (laws_FnDrillsTurnOfAll.j5 kj102 a2 a6 a8 t244 bt251.1 bt251.2.1 bt251.2.2 bt257.1 bt257.2.1 bt257.2.2 true)))))))) = some r := H
   have A123 := Aside0.mk A1230
   clear A1230
   replace H := Option.bind_eq_some_iff.mp H
   obtain ⟨⟨t249, t250⟩, A1240, H⟩ := H
   replace H : ((impl_BestCommand.f kj102 a6 a7).bind fun bt251 => ((spec_BestCommand.f kj102 a6 a7).bind fun bt254 => ((impl_MostFaced.f kj102 a8).bind fun bt257 => ((spec_MostFaced.f kj102 a8).bind fun bt260 => (if (t244 != t246) = true then (laws_FnDrillsTurnOfAll.j5 kj102 a2 a6 a8 t244 bt251.1 bt251.2.1 bt251.2.2 bt257.1 bt257.2.1 bt257.2.2 true) else (if t243 = t245 then (if (t248 != t250) = true then (laws_FnDrillsTurnOfAll.j5 kj102 a2 a6 a8 t244 bt251.1 bt251.2.1 bt251.2.2 bt257.1 bt257.2.1 bt257.2.2 true) else (if t247.toList = t249.toList then (if (bt251.2.2 != bt254.2.2) = true then (laws_FnDrillsTurnOfAll.j5 kj102 a2 a6 a8 t244 bt251.1 bt251.2.1 bt251.2.2 bt257.1 bt257.2.1 bt257.2.2 true) else (if bt251.1.toList = bt254.1.toList then (if bt251.2.1 = bt254.2.1 then (if (bt257.2.2 != bt260.2.2) = true then (laws_FnDrillsTurnOfAll.j5 kj102 a2 a6 a8 t244 bt251.1 bt251.2.1 bt251.2.2 bt257.1 bt257.2.1 bt257.2.2 true) else (if bt257.1 = bt260.1 then (laws_FnDrillsTurnOfAll.j5 kj102 a2 a6 a8 t244 bt251.1 bt251.2.1 bt251.2.2 bt257.1 bt257.2.1 bt257.2.2 (bt257.2.1 != bt260.2.1)) else (laws_FnDrillsTurnOfAll.j5 kj102 a2 a6 a8 t244 bt251.1 bt251.2.1 bt251.2.2 bt257.1 bt257.2.1 bt257.2.2 true))) else (laws_FnDrillsTurnOfAll.j5 kj102 a2 a6 a8 t244 bt251.1 bt251.2.1 bt251.2.2 bt257.1 bt257.2.1 bt257.2.2 true)) else (laws_FnDrillsTurnOfAll.j5 kj102 a2 a6 a8 t244 bt251.1 bt251.2.1 bt251.2.2 bt257.1 bt257.2.1 bt257.2.2 true))) else (laws_FnDrillsTurnOfAll.j5 kj102 a2 a6 a8 t244 bt251.1 bt251.2.1 bt251.2.2 bt257.1 bt257.2.1 bt257.2.2 true))) else (laws_FnDrillsTurnOfAll.j5 kj102 a2 a6 a8 t244 bt251.1 bt251.2.1 bt251.2.2 bt257.1 bt257.2.1 bt257.2.2 true))))))) = some r := H
   have A124 := Aside0.mk A1240
   clear A1240
   replace H := Option.bind_eq_some_iff.mp H
   obtain ⟨⟨t251, t252, t253⟩, A1250, H⟩ := H
   replace H : ((spec_BestCommand.f kj102 a6 a7).bind fun bt254 => ((impl_MostFaced.f kj102 a8).bind fun bt257 => ((spec_MostFaced.f kj102 a8).bind fun bt260 => (if (t244 != t246) = true then (laws_FnDrillsTurnOfAll.j5 kj102 a2 a6 a8 t244 t251 t252 t253 bt257.1 bt257.2.1 bt257.2.2 true) else (if t243 = t245 then (if (t248 != t250) = true then (laws_FnDrillsTurnOfAll.j5 kj102 a2 a6 a8 t244 t251 t252 t253 bt257.1 bt257.2.1 bt257.2.2 true) else (if t247.toList = t249.toList then (if (t253 != bt254.2.2) = true then (laws_FnDrillsTurnOfAll.j5 kj102 a2 a6 a8 t244 t251 t252 t253 bt257.1 bt257.2.1 bt257.2.2 true) else (if t251.toList = bt254.1.toList then (if t252 = bt254.2.1 then (if (bt257.2.2 != bt260.2.2) = true then (laws_FnDrillsTurnOfAll.j5 kj102 a2 a6 a8 t244 t251 t252 t253 bt257.1 bt257.2.1 bt257.2.2 true) else (if bt257.1 = bt260.1 then (laws_FnDrillsTurnOfAll.j5 kj102 a2 a6 a8 t244 t251 t252 t253 bt257.1 bt257.2.1 bt257.2.2 (bt257.2.1 != bt260.2.1)) else (laws_FnDrillsTurnOfAll.j5 kj102 a2 a6 a8 t244 t251 t252 t253 bt257.1 bt257.2.1 bt257.2.2 true))) else (laws_FnDrillsTurnOfAll.j5 kj102 a2 a6 a8 t244 t251 t252 t253 bt257.1 bt257.2.1 bt257.2.2 true)) else (laws_FnDrillsTurnOfAll.j5 kj102 a2 a6 a8 t244 t251 t252 t253 bt257.1 bt257.2.1 bt257.2.2 true))) else (laws_FnDrillsTurnOfAll.j5 kj102 a2 a6 a8 t244 t251 t252 t253 bt257.1 bt257.2.1 bt257.2.2 true))) else (laws_FnDrillsTurnOfAll.j5 kj102 a2 a6 a8 t244 t251 t252 t253 bt257.1 bt257.2.1 bt257.2.2 true)))))) = some r := H
   have A125 := Aside0.mk A1250
   clear A1250
   replace H := Option.bind_eq_some_iff.mp H
   obtain ⟨⟨t254, t255, t256⟩, A1260, H⟩ := H
   replace H : ((impl_MostFaced.f kj102 a8).bind fun bt257 => ((spec_MostFaced.f kj102 a8).bind fun bt260 => (if (t244 != t246) = true then (laws_FnDrillsTurnOfAll.j5 kj102 a2 a6 a8 t244 t251 t252 t253 bt257.1 bt257.2.1 bt257.2.2 true) else (if t243 = t245 then (if (t248 != t250) = true then (laws_FnDrillsTurnOfAll.j5 kj102 a2 a6 a8 t244 t251 t252 t253 bt257.1 bt257.2.1 bt257.2.2 true) else (if t247.toList = t249.toList then (if (t253 != t256) = true then (laws_FnDrillsTurnOfAll.j5 kj102 a2 a6 a8 t244 t251 t252 t253 bt257.1 bt257.2.1 bt257.2.2 true) else (if t251.toList = t254.toList then (if t252 = t255 then (if (bt257.2.2 != bt260.2.2) = true then (laws_FnDrillsTurnOfAll.j5 kj102 a2 a6 a8 t244 t251 t252 t253 bt257.1 bt257.2.1 bt257.2.2 true) else (if bt257.1 = bt260.1 then (laws_FnDrillsTurnOfAll.j5 kj102 a2 a6 a8 t244 t251 t252 t253 bt257.1 bt257.2.1 bt257.2.2 (bt257.2.1 != bt260.2.1)) else (laws_FnDrillsTurnOfAll.j5 kj102 a2 a6 a8 t244 t251 t252 t253 bt257.1 bt257.2.1 bt257.2.2 true))) else (laws_FnDrillsTurnOfAll.j5 kj102 a2 a6 a8 t244 t251 t252 t253 bt257.1 bt257.2.1 bt257.2.2 true)) else (laws_FnDrillsTurnOfAll.j5 kj102 a2 a6 a8 t244 t251 t252 t253 bt257.1 bt257.2.1 bt257.2.2 true))) else (laws_FnDrillsTurnOfAll.j5 kj102 a2 a6 a8 t244 t251 t252 t253 bt257.1 bt257.2.1 bt257.2.2 true))) else (laws_FnDrillsTurnOfAll.j5 kj102 a2 a6 a8 t244 t251 t252 t253 bt257.1 bt257.2.1 bt257.2.2 true))))) = some r := H
   have A126 := Aside0.mk A1260
   clear A1260
   replace H := Option.bind_eq_some_iff.mp H
   obtain ⟨⟨t257, t258, t259⟩, A1270, H⟩ := H
   replace H : ((spec_MostFaced.f kj102 a8).bind fun bt260 => (if (t244 != t246) = true then (laws_FnDrillsTurnOfAll.j5 kj102 a2 a6 a8 t244 t251 t252 t253 t257 t258 t259 true) else (if t243 = t245 then (if (t248 != t250) = true then (laws_FnDrillsTurnOfAll.j5 kj102 a2 a6 a8 t244 t251 t252 t253 t257 t258 t259 true) else (if t247.toList = t249.toList then (if (t253 != t256) = true then (laws_FnDrillsTurnOfAll.j5 kj102 a2 a6 a8 t244 t251 t252 t253 t257 t258 t259 true) else (if t251.toList = t254.toList then (if t252 = t255 then (if (t259 != bt260.2.2) = true then (laws_FnDrillsTurnOfAll.j5 kj102 a2 a6 a8 t244 t251 t252 t253 t257 t258 t259 true) else (if t257 = bt260.1 then (laws_FnDrillsTurnOfAll.j5 kj102 a2 a6 a8 t244 t251 t252 t253 t257 t258 t259 (t258 != bt260.2.1)) else (laws_FnDrillsTurnOfAll.j5 kj102 a2 a6 a8 t244 t251 t252 t253 t257 t258 t259 true))) else (laws_FnDrillsTurnOfAll.j5 kj102 a2 a6 a8 t244 t251 t252 t253 t257 t258 t259 true)) else (laws_FnDrillsTurnOfAll.j5 kj102 a2 a6 a8 t244 t251 t252 t253 t257 t258 t259 true))) else (laws_FnDrillsTurnOfAll.j5 kj102 a2 a6 a8 t244 t251 t252 t253 t257 t258 t259 true))) else (laws_FnDrillsTurnOfAll.j5 kj102 a2 a6 a8 t244 t251 t252 t253 t257 t258 t259 true)))) = some r := H
   have A127 := Aside0.mk A1270
   clear A1270
   replace H := Option.bind_eq_some_iff.mp H
   obtain ⟨⟨t260, t261, t262⟩, A1280, H⟩ := H
   replace H : (if (t244 != t246) = true then (laws_FnDrillsTurnOfAll.j5 kj102 a2 a6 a8 t244 t251 t252 t253 t257 t258 t259 true) else (if t243 = t245 then (if (t248 != t250) = true then (laws_FnDrillsTurnOfAll.j5 kj102 a2 a6 a8 t244 t251 t252 t253 t257 t258 t259 true) else (if t247.toList = t249.toList then (if (t253 != t256) = true then (laws_FnDrillsTurnOfAll.j5 kj102 a2 a6 a8 t244 t251 t252 t253 t257 t258 t259 true) else (if t251.toList = t254.toList then (if t252 = t255 then (if (t259 != t262) = true then (laws_FnDrillsTurnOfAll.j5 kj102 a2 a6 a8 t244 t251 t252 t253 t257 t258 t259 true) else (if t257 = t260 then (laws_FnDrillsTurnOfAll.j5 kj102 a2 a6 a8 t244 t251 t252 t253 t257 t258 t259 (t258 != t261)) else (laws_FnDrillsTurnOfAll.j5 kj102 a2 a6 a8 t244 t251 t252 t253 t257 t258 t259 true))) else (laws_FnDrillsTurnOfAll.j5 kj102 a2 a6 a8 t244 t251 t252 t253 t257 t258 t259 true)) else (laws_FnDrillsTurnOfAll.j5 kj102 a2 a6 a8 t244 t251 t252 t253 t257 t258 t259 true))) else (laws_FnDrillsTurnOfAll.j5 kj102 a2 a6 a8 t244 t251 t252 t253 t257 t258 t259 true))) else (laws_FnDrillsTurnOfAll.j5 kj102 a2 a6 a8 t244 t251 t252 t253 t257 t258 t259 true))) = some r := H
   have A128 := Aside0.mk A1280
   clear A1280
   have HC129 := Aside0.mk H
   clear H
   go_upto_region 45 with (first | ((with_reducible refine gate_callee (f := 22) rfl ?_); refine goesL_ (some 464) rfl rfl Tryz.func22 (by kernel_rfl) rfl #[.int .i64 a2, .int .i64 a3] rfl (by (try simp only [List.map_toArray, List.map_cons, List.map_nil]); first | done | rfl | (simp only [List.length_drop, List.length_take]; rfl)) ?_; (with_reducible refine (impl_CountCommandWords.calls kj102 a2 a3 t243 t244 _ A121.out).mono ?_); rintro e w' ⟨rfl, ⟨nd, rfl⟩⟩; refine ⟨_, rfl, ?_⟩) | ((with_reducible refine gate_callee (f := 23) rfl ?_); refine goesL_ (some 470) rfl rfl Tryz.func23 (by kernel_rfl) rfl #[.int .i64 a2, .int .i64 a3] rfl (by (try simp only [List.map_toArray, List.map_cons, List.map_nil]); first | done | rfl | (simp only [List.length_drop, List.length_take]; rfl)) ?_; (with_reducible refine (spec_CountCommandWords.calls kj102 a2 a3 t245 t246 _ A122.out).mono ?_); rintro e w' ⟨rfl, ⟨nd, rfl⟩⟩; refine ⟨_, rfl, ?_⟩) | ((with_reducible refine gate_callee (f := 21) rfl ?_); refine goesL_ (some 476) rfl rfl Tryz.func21 (by kernel_rfl) rfl #[.string a4, .string a5] rfl (by (try simp only [List.map_toArray, List.map_cons, List.map_nil]); first | done | rfl | (simp only [List.length_drop, List.length_take]; rfl)) ?_; (with_reducible refine (impl_CommandsBetween.calls kj102 a4 a5 t247 t248 _ A123.out).mono ?_); rintro e w130 ⟨rfl, hb⟩; refine ⟨_, rfl, ?_⟩; have n0_ := Aside0.mk (below_step (by repeat (first | (with_reducible first | exact HB.out | apply below_alloc | apply pw_below_drewN | apply below_drew1) | exact HB.out)) hb); clear HB; have HB := n0_; clear n0_; (try clear hb); (try clear hb2); (try clear hk); (try clear hi)) | ((with_reducible refine gate_callee (f := 24) rfl ?_); refine goesL_ (some 482) rfl rfl Tryz.func24 (by kernel_rfl) rfl #[.string a4, .string a5] rfl (by (try simp only [List.map_toArray, List.map_cons, List.map_nil]); first | done | rfl | (simp only [List.length_drop, List.length_take]; rfl)) ?_; (with_reducible refine (spec_CommandsBetween.calls kj102 a4 a5 t249 t250 _ A124.out).mono ?_); rintro e w' ⟨rfl, ⟨nd, rfl⟩⟩; refine ⟨_, rfl, ?_⟩) | ((with_reducible refine gate_callee (f := 25) rfl ?_); refine goesL_ (some 488) rfl rfl Tryz.func25 (by kernel_rfl) rfl #[.string a6, .int .i64 a7] rfl (by (try simp only [List.map_toArray, List.map_cons, List.map_nil]); first | done | rfl | (simp only [List.length_drop, List.length_take]; rfl)) ?_; (with_reducible refine (impl_BestCommand.calls kj102 a6 a7 t251 t252 t253 _ A125.out).mono ?_); rintro e w131 ⟨rfl, hb⟩; refine ⟨_, rfl, ?_⟩; have n0_ := Aside0.mk (below_step (by repeat (first | (with_reducible first | exact HB.out | apply below_alloc | apply pw_below_drewN | apply below_drew1) | exact HB.out)) hb); clear HB; have HB := n0_; clear n0_; (try clear hb); (try clear hb2); (try clear hk); (try clear hi)) | ((with_reducible refine gate_callee (f := 26) rfl ?_); refine goesL_ (some 495) rfl rfl Tryz.func26 (by kernel_rfl) rfl #[.string a6, .int .i64 a7] rfl (by (try simp only [List.map_toArray, List.map_cons, List.map_nil]); first | done | rfl | (simp only [List.length_drop, List.length_take]; rfl)) ?_; (with_reducible refine (spec_BestCommand.calls kj102 a6 a7 t254 t255 t256 _ A126.out).mono ?_); rintro e w132 ⟨rfl, hb⟩; refine ⟨_, rfl, ?_⟩; have n0_ := Aside0.mk (below_step (by repeat (first | (with_reducible first | exact HB.out | apply below_alloc | apply pw_below_drewN | apply below_drew1) | exact HB.out)) hb); clear HB; have HB := n0_; clear n0_; (try clear hb); (try clear hb2); (try clear hk); (try clear hi)) | ((with_reducible refine gate_callee (f := 27) rfl ?_); refine goesL_ (some 501) rfl rfl Tryz.func27 (by kernel_rfl) rfl #[.string a8] rfl (by (try simp only [List.map_toArray, List.map_cons, List.map_nil]); first | done | rfl | (simp only [List.length_drop, List.length_take]; rfl)) ?_; (with_reducible refine (impl_MostFaced.calls kj102 a8 t257 t258 t259 _ A127.out).mono ?_); rintro e w133 ⟨rfl, hb⟩; refine ⟨_, rfl, ?_⟩; have n0_ := Aside0.mk (below_step (by repeat (first | (with_reducible first | exact HB.out | apply below_alloc | apply pw_below_drewN | apply below_drew1) | exact HB.out)) hb); clear HB; have HB := n0_; clear n0_; (try clear hb); (try clear hb2); (try clear hk); (try clear hi)) | ((with_reducible refine gate_callee (f := 28) rfl ?_); refine goesL_ (some 507) rfl rfl Tryz.func28 (by kernel_rfl) rfl #[.string a8] rfl (by (try simp only [List.map_toArray, List.map_cons, List.map_nil]); first | done | rfl | (simp only [List.length_drop, List.length_take]; rfl)) ?_; (with_reducible refine (spec_MostFaced.calls kj102 a8 t260 t261 t262 _ A128.out).mono ?_); rintro e w' ⟨rfl, ⟨nd, rfl⟩⟩; refine ⟨_, rfl, ?_⟩))
   (try simp only [Act.put, List.setIfInBounds_toArray, List.set_cons_zero, List.set_cons_succ])
   go_cut [558] from 439 to 558 (fun v558 wc => ∃ (kq : Nat) (x558_128 : Bool), v558 = .bool x558_128 ∧ Aside0 (laws_FnDrillsTurnOfAll.j5 kq a2 a6 a8 t244 t251 t252 t253 t257 t258 t259 x558_128 = some r) ∧ Aside0 (kq ≤ kj102) ∧ Aside0 (Below w.heap.size w wc))
   case first =>
    -- part 11
    (repeat revert ‹World›)
    (repeat revert ‹Value›)
    (repeat revert ‹Nat → Act → World → Prop›)
    (repeat revert ‹Act → World → Prop›)
    (repeat revert ‹Int›)
    (repeat revert ‹Nat›)
    (repeat revert ‹Bool›)
    (repeat revert ‹List (List Int)›)
    (repeat revert ‹List Int›)
    (repeat revert ‹Addr›)
    (repeat revert ‹Option Addr›)
    (repeat revert ‹ByteArray›)
    (repeat revert ‹List ByteArray›)
    exact hole1.down
   case rest =>
    -- part 12
    (repeat revert ‹World›)
    (repeat revert ‹Value›)
    (repeat revert ‹Nat → Act → World → Prop›)
    (repeat revert ‹Act → World → Prop›)
    (repeat revert ‹Int›)
    (repeat revert ‹Nat›)
    (repeat revert ‹Bool›)
    (repeat revert ‹List (List Int)›)
    (repeat revert ‹List Int›)
    (repeat revert ‹Addr›)
    (repeat revert ‹Option Addr›)
    (repeat revert ‹ByteArray›)
    (repeat revert ‹List ByteArray›)
    exact hole2.down

set_option maxHeartbeats 8000000 in
set_option maxRecDepth 100000 in
theorem laws_FnDrillsTurnOfAll.part11 : laws_FnDrillsTurnOfAll.part10.1 := by
 conv => whnf
 intro a0 a1 a4 a5 a6 a8 t194 t196 t202 t204 t206 t208 t210 t212 t247 t249 t251 t254 r HE_ t195 t197 t199 t201 t203 t205 t207 A23 t209 t211 A25 t213 t215 t217 t244 t246 t248 t250 t253 t256 t259 t262 k kj9 HJ9 A17 A18 A21 A22 A24 A26 nd nd nd nd nd kj28 HJ28 kj73 HJ73 kj102 HJ102 A123 A124 nd nd nd nd a2 a3 a7 t198 A19 t200 A20 t214 A27 t216 A28 t243 A121 t245 A122 t252 A125 t255 A126 t257 t258 A127 t260 t261 A128 HC129 K K J K' a u91 u92 u93 u94 u95 u96 u97 u98 u99 u100 u101 u102 u103 u104 u105 u106 u107 u108 u109 u110 u111 u112 u113 u114 u115 u116 u117 u118 u119 u120 u121 u122 u123 u124 u125 u126 u127 u128 u129 u130 u131 u132 u133 u134 u135 u136 u137 u138 u139 u140 u141 u142 u143 u144 u145 u146 u147 u148 u149 u150 u151 u152 u153 u154 u155 u156 u157 u158 u159 u160 u161 u162 u163 u164 u165 u166 u167 u168 u169 u170 u171 u172 u173 u174 u175 u176 u177 u178 u179 u180 u181 u182 u183 u184 u185 u186 u187 u188 u189 u190 u191 u192 u193 u194 u195 u196 u197 u198 u199 u200 u201 u202 u203 u204 u205 u206 u207 u208 u209 u210 u211 u212 u213 u214 u215 u216 u217 u218 u219 u220 u221 u222 u223 u224 u225 u226 u227 u228 u229 u230 u231 u232 u233 u234 u235 u236 u237 u238 u239 u240 u241 u242 u243 u244 u245 u246 u247 u248 u249 u250 u251 u252 u253 u254 u255 u256 u257 u258 u259 u260 u261 u262 u263 u264 u265 u266 u267 u268 u269 u270 u271 u272 u273 u274 u275 u276 u277 u278 u279 u280 u281 u282 u283 u284 u285 u286 u18 u43 u44 u45 u46 u47 u48 u49 u50 u51 u52 u118 u119 u120 u121 u122 u123 u124 u125 u126 u127 u128 u129 u130 u131 u132 u133 u134 u135 u136 u137 u138 u139 u140 u141 u142 u143 u144 u145 u146 u147 u148 u149 u150 u151 u152 u153 u154 u155 u156 u157 u158 u159 u160 u161 u162 u163 u164 u165 u166 u167 u168 u169 u170 u171 u172 u173 u174 u175 u176 u177 u178 u179 u180 u181 u182 u183 u184 u185 u186 u187 u188 u189 u190 u191 u192 u193 u194 u195 u196 u197 u198 u199 u200 u201 u202 u203 u204 u205 u206 u207 u208 u209 u210 u211 u212 u213 u214 u215 u216 u217 u218 u219 u220 u221 u222 u223 u224 u225 u226 u227 u228 u229 u230 u231 u232 u233 u234 u235 u236 u237 u238 u239 u240 u241 u242 u243 u244 u245 u246 u247 u248 u249 u250 u251 u252 u253 u254 u255 u256 u257 u258 u259 u260 u261 u262 u263 u264 u265 u266 u267 u268 u269 u270 u271 u272 u273 u274 u275 u276 u277 u278 u279 u280 u281 u282 u283 u284 u285 u286 u287 u288 u289 u290 u291 u292 u293 u294 u295 u296 u297 u298 u299 u300 u301 u302 u303 u304 u305 u306 u307 u308 u309 u310 u311 u312 u313 u314 u315 u316 u317 u318 u319 u320 u321 u322 u323 u324 u325 u326 u327 u328 u329 u330 u331 u332 u333 u334 u335 u336 u337 u338 u339 u340 u341 u342 u343 u344 u345 u346 u347 u348 u349 u350 u351 u352 u353 u354 u355 u356 u357 u358 u359 u360 u361 u362 u363 u364 u365 u366 u367 u368 u369 u370 u371 u372 u373 u374 u375 u376 u377 u378 u379 u380 u381 u382 u383 u384 u385 u386 u387 u388 u389 u390 u391 u392 u393 u394 u395 u396 u397 u398 u399 u400 u401 u402 u403 u404 u405 u406 u407 u408 u409 u410 u411 u412 u413 u414 u415 u416 u417 u418 u419 u420 u421 u422 u423 u424 u425 u426 u427 u428 u429 u430 u431 u432 u433 u434 u435 u436 u437 u438 u439 u18 u53 u54 u55 u56 u57 u58 u59 u60 u61 u118 u119 u120 u121 u122 u123 u124 u125 u126 u127 u128 u129 u130 u131 u132 u133 u134 u135 u136 u137 u138 u139 u140 u141 u142 u143 u144 u145 u146 u147 u148 u149 u150 u151 u152 u153 u154 u155 u156 u157 u158 u159 u160 u161 u162 u163 u164 u165 u166 u167 u168 u169 u170 u171 u172 u173 u174 u175 u176 u177 u178 u179 u180 u181 u182 u183 u184 u185 u186 u187 u188 u189 u190 u191 u192 u193 u194 u195 u196 u197 u198 u199 u200 u201 u202 u203 u204 u205 u206 u207 u208 u209 u210 u211 u212 u213 u214 u215 u216 u217 u218 u219 u220 u221 u222 u223 u224 u225 u226 u227 u228 u229 u230 u231 u232 u233 u234 u235 u236 u237 u238 u239 u240 u241 u242 u243 u244 u245 u246 u247 u248 u249 u250 u251 u252 u253 u254 u255 u256 u257 u258 u259 u260 u261 u262 u263 u264 u265 u266 u267 u268 u269 u270 u271 u272 u273 u274 u275 u276 u277 u278 u279 u280 u281 u282 u283 u284 u285 u286 u287 u288 u289 u290 u291 u292 u293 u294 u295 u296 u297 u298 u299 u300 u301 u302 u303 u304 u305 u306 u307 u308 u309 u310 u311 u312 u313 u314 u315 u316 u317 u318 u319 u320 u321 u322 u323 u324 u325 u326 u327 u328 u329 u330 u331 u332 u333 u334 u335 u336 u337 u338 u339 u340 u341 u342 u343 u344 u345 u346 u347 u348 u349 u350 u351 u352 u353 u354 u355 u356 u357 u358 u359 u360 u361 u362 u363 u364 u365 u366 u367 u368 u369 u370 u371 u372 u373 u374 u375 u376 u377 u378 u379 u380 u381 u382 u383 u384 u385 u386 u387 u388 u389 u390 u391 u392 u393 u394 u395 u396 u397 u398 u399 u400 u401 u402 u403 u404 u405 u406 u407 u408 u409 u410 u411 u412 u413 u414 u415 u416 u417 u418 u419 u420 u421 u422 u423 u424 u425 u426 u427 u428 u429 u430 u431 u432 u433 u434 u435 u436 u437 u438 u439 u440 u441 u442 u443 u444 u445 u446 u447 u448 u449 u450 u451 u452 u453 u454 u455 u456 u457 u458 u459 u460 w HB Q' a a a wc w30 w31 w32 w33 w34 w35 w36 HB wc HB wc HB wc w130 w131 w132 w133 HB
 have H := HC129.out
 clear HC129
 by_cases c134 : (t244 != t246) = true
 ·
  rw [if_pos c134] at H
  exact (laws_FnDrillsTurnOfAll.j5_no _ _ _ _ _ _ _ _ _ _ _ (H.trans (congrArg some HE_.out))).elim
 ·
  rw [if_neg c134] at H
  have c134b0 : (t244 != t246) = false := by simpa using c134
  (try (have c134b1 : decide (t244 = t246) = true := by simpa using c134))
  (try (have c134b2 : (t244 == t246) = true := by simpa using c134))
  clear c134
  (first | rw [c134b0] | (simp only [i64_w, i32_w]; rw [c134b0]) | skip)
  by_cases c135 : t243 = t245
  ·
   rw [if_pos c135] at H
   have c135b0 : (t243 == t245) = true := beq_iff_eq.mpr c135
   have c135b1 : (t243 != t245) = false := bne_eq_false_iff_eq.mpr c135
   clear c135
   by_cases c136 : (t248 != t250) = true
   ·
    rw [if_pos c136] at H
    exact (laws_FnDrillsTurnOfAll.j5_no _ _ _ _ _ _ _ _ _ _ _ (H.trans (congrArg some HE_.out))).elim
   ·
    rw [if_neg c136] at H
    have c136b0 : (t248 != t250) = false := by simpa using c136
    (try (have c136b1 : decide (t248 = t250) = true := by simpa using c136))
    (try (have c136b2 : (t248 == t250) = true := by simpa using c136))
    clear c136
    by_cases c137 : t247.toList = t249.toList
    ·
     rw [if_pos c137] at H
     have c137b0 : (t247.toList == t249.toList) = true := beq_iff_eq.mpr c137
     have c137b1 : (t247.toList != t249.toList) = false := bne_eq_false_iff_eq.mpr c137
     clear c137
     by_cases c138 : (t253 != t256) = true
     ·
      rw [if_pos c138] at H
      exact (laws_FnDrillsTurnOfAll.j5_no _ _ _ _ _ _ _ _ _ _ _ (H.trans (congrArg some HE_.out))).elim
     ·
      rw [if_neg c138] at H
      have c138b0 : (t253 != t256) = false := by simpa using c138
      (try (have c138b1 : decide (t253 = t256) = true := by simpa using c138))
      (try (have c138b2 : (t253 == t256) = true := by simpa using c138))
      clear c138
      by_cases c139 : t251.toList = t254.toList
      ·
       rw [if_pos c139] at H
       have c139b0 : (t251.toList == t254.toList) = true := beq_iff_eq.mpr c139
       have c139b1 : (t251.toList != t254.toList) = false := bne_eq_false_iff_eq.mpr c139
       clear c139
       by_cases c140 : t252 = t255
       ·
        rw [if_pos c140] at H
        have c140b0 : (t252 == t255) = true := beq_iff_eq.mpr c140
        have c140b1 : (t252 != t255) = false := bne_eq_false_iff_eq.mpr c140
        clear c140
        by_cases c141 : (t259 != t262) = true
        ·
         rw [if_pos c141] at H
         exact (laws_FnDrillsTurnOfAll.j5_no _ _ _ _ _ _ _ _ _ _ _ (H.trans (congrArg some HE_.out))).elim
        ·
         rw [if_neg c141] at H
         have c141b0 : (t259 != t262) = false := by simpa using c141
         (try (have c141b1 : decide (t259 = t262) = true := by simpa using c141))
         (try (have c141b2 : (t259 == t262) = true := by simpa using c141))
         clear c141
         by_cases c142 : t257 = t260
         ·
          rw [if_pos c142] at H
          have c142b0 : (t257 == t260) = true := beq_iff_eq.mpr c142
          have c142b1 : (t257 != t260) = false := bne_eq_false_iff_eq.mpr c142
          clear c142
          have H' := Aside0.mk H
          clear H
          go_wp2
          go_meet
          case rel => exact ⟨_, ((t258 != t261)), (by first | rfl | (simp; done) | (simp [*]; done)), H', ⟨by have := HJ9.out; have := HJ28.out; have := HJ73.out; have := HJ102.out; first | omega | exact Nat.le_refl _⟩, ⟨by repeat (first | (with_reducible first | exact HB.out | apply below_alloc | apply pw_below_drewN | apply below_drew1) | exact HB.out)⟩⟩
         ·
          rw [if_neg c142] at H
          exact (laws_FnDrillsTurnOfAll.j5_no _ _ _ _ _ _ _ _ _ _ _ (H.trans (congrArg some HE_.out))).elim
       ·
        rw [if_neg c140] at H
        exact (laws_FnDrillsTurnOfAll.j5_no _ _ _ _ _ _ _ _ _ _ _ (H.trans (congrArg some HE_.out))).elim
      ·
       rw [if_neg c139] at H
       exact (laws_FnDrillsTurnOfAll.j5_no _ _ _ _ _ _ _ _ _ _ _ (H.trans (congrArg some HE_.out))).elim
    ·
     rw [if_neg c137] at H
     exact (laws_FnDrillsTurnOfAll.j5_no _ _ _ _ _ _ _ _ _ _ _ (H.trans (congrArg some HE_.out))).elim
  ·
   rw [if_neg c135] at H
   exact (laws_FnDrillsTurnOfAll.j5_no _ _ _ _ _ _ _ _ _ _ _ (H.trans (congrArg some HE_.out))).elim
end Go.Proofs.YtgdmbhldabeelaaRGreatDoor.PFnDrillsTurnOfAll
