-- Written by a program of this session's (pg.py) over the kit's print.
import Derived.Test.YtgdmbhldabeelaaRDoorPFnDrillsMistakenOfAllx0
import Derived.Test.YtgdmbhldabeelaaRDoorPFnDrillsMistakenOfAllx3
import Derived.Test.YtgdmbhldabeelaaRDoorPFnDrillsMistakenOfAllx6
import Derived.Test.YtgdmbhldabeelaaRDoorPFnDrillsMistakenOfAllx7
import Derived.Test.YtgdmbhldabeelaaRDoorPFnDrillsMistakenOfAllx8
import Derived.Test.YtgdmbhldabeelaaRDoorPFnDrillsMistakenOfAllx9
import Derived.Test.YtgdmbhldabeelaaRDoorPFnDrillsMistakenOfAllx10
import Derived.Deep.CutRange
import Derived.Test.YtgdmbhldabeelaaRDoorPFnDrillsMistakenOfAllx13
namespace Go.Proofs.YtgdmbhldabeelaaRDoor.PFnDrillsMistakenOfAll
open Go.RowKit Go.Proofs.YtgdmbhldabeelaaRDoorW.PrintWords Go.Proofs.YtgdmbhldabeelaaRDoorW.PrintLast Go.Proofs.YtgdmbhldabeelaaRDoorW.PrintMore
attribute [local go_sem] max2_int min2_int max_two min_two max_three min_three max_four min_four   -- for this text's walks alone
set_option linter.unusedVariables false
set_option linter.unusedSimpArgs false


set_option maxHeartbeats 8000000 in
set_option maxRecDepth 100000 in
def laws_FnDrillsMistakenOfAll.part15 : Σ' (R1 R2 : Prop), PLift R1 → PLift R2 → (laws_FnDrillsMistakenOfAll.part14.1) := by
 refine' ⟨_, _, fun hole1 hole2 => _⟩
 rotate_left 2
 ·
  conv => whnf
  intro l2 l8 a0 a1 a3 a7 t233 t235 t245 t247 A2 A8 t237 t241 r HE_ t234 t236 t238 t242 t246 t248 t261 t263 k c2 HC2 c8 HC8 kj9 HJ9 A17 A18 A19 A20 A21 A22 kj22 HJ22 kj40 HJ40 kj77 HJ77 kj87 HJ87 k6 HK6 k7 HK7 k8 HK8 a4 a5 a6 t260 A76 t262 A77 x44_6 x45_6 x48_7 x49_7 x48_8 HC99 x50_8 c98b0 K K K K K K K K K J a J a J a u53 u54 u55 u56 u57 u58 u59 u60 u61 u62 u63 u64 u65 u66 u67 u68 u69 u70 u71 u72 u73 u74 u75 u76 u77 u78 u79 v239 v243 u80 u81 u82 u83 u84 u85 u86 u87 u88 u89 u90 u91 u92 u93 u94 u95 u96 u97 u98 u99 u100 u101 u102 u103 u104 u105 u106 u107 u108 u109 u110 u111 u112 u113 u114 u115 u116 u117 u118 u119 u120 u121 u122 u123 u124 u125 u126 u127 u128 u129 u130 u131 u132 u133 u134 u135 u136 u137 u138 u139 u140 u141 u142 u143 u144 u145 u146 u147 u148 u149 u150 u151 u152 u153 u154 u155 u156 u157 u158 u159 u160 u18 u31 u32 u33 u34 u35 u36 u37 u39 u80 u81 u82 u83 u84 u85 u86 u87 u88 u89 u90 u91 u92 u93 u94 u95 u96 u97 u98 u99 u100 u101 u102 u103 u104 u105 u106 u107 u108 u109 u110 u111 u112 u113 u114 u115 u116 u117 u118 u119 u120 u121 u122 u123 u124 u125 u126 u127 u128 u129 u130 u131 u132 u133 u134 u135 u136 u137 u138 u139 u140 u141 u142 u143 u144 u145 u146 u147 u148 u149 u150 u151 u152 u153 u154 u155 u156 u157 u158 u159 u160 u161 u162 u163 u164 u165 u166 u167 u168 u169 u170 u171 u172 u173 u174 u175 u176 u177 u178 u179 u180 u181 u182 u183 u184 u185 u186 u187 u188 u189 u190 u191 u192 u193 u194 u195 u196 u197 u198 u199 u200 u201 u202 u203 u204 u205 u206 u207 u208 u209 u210 u211 u212 u213 u214 u215 u216 u217 u218 u219 u220 u221 u222 u223 u224 u225 u226 u227 u228 u229 u230 u231 u232 u233 u234 u235 u236 u237 u238 u239 u240 u241 u242 u243 u244 u245 u246 u247 u248 u249 u250 u251 u252 u253 u254 u255 u256 u257 u258 u259 u260 u261 u262 u263 u264 u265 u266 u267 u268 u269 u270 u271 u272 u273 u274 u275 u276 u197 u198 u199 u200 u201 u202 u203 u204 u205 u206 u207 u208 u209 u210 u211 u212 u213 u214 u215 u216 u217 u218 u219 u220 u221 u222 u223 u224 u225 u226 u227 u228 u229 u230 u231 u232 u233 u234 u235 u236 u237 u238 u239 u240 u241 u242 u243 u244 u245 u246 u247 u248 u249 u250 u251 u252 u253 u254 u255 u256 u257 u258 u259 u260 u261 u262 u263 u264 u265 u266 u267 u268 u269 u270 u271 u272 u273 u274 u275 u276 u277 u278 u279 u280 u281 u282 u283 u284 u285 u286 u287 u288 u289 u290 u291 u292 u293 u294 u295 u296 u297 u298 u299 u300 u301 u302 u303 u304 u305 u306 u307 u308 u309 u310 u311 u312 u313 u314 u18 u46 u47 u316 u317 u318 u319 u320 u321 u322 u323 u324 u325 u326 u327 u328 u329 u330 u331 u332 u333 u334 u335 u336 u337 u338 u339 u340 u341 u342 u343 u344 u345 u346 u347 u348 u349 u350 u351 u352 u353 u354 u355 u356 w HR2 HR8 HB Q' a a a a a a a wc w24 w25 w26 w27 w28 w29 HO240 HO244 HB wc HO_23 HB wc w79 w80 HB wc HB wc HB wr HB wr HB wr HB
  go_upto_if 360 with (fail)
  go_cut [48] from 315 to 375 (fun v48 wc => ∃ (kq : Nat) (x48_98 : Int), v48 = .int .i64 x48_98 ∧ Aside0 (laws_FnDrillsMistakenOfAll.j10 kq a3 a4 a5 t260 x44_6 x48_98 = some r) ∧ Aside0 (kq ≤ k8) ∧ Aside0 (Below w.heap.size w wc))
  case first =>
   -- part 16
   (repeat revert ‹World›)
   (repeat revert ‹Value›)
   (repeat revert ‹Nat → Act → World → Prop›)
   (repeat revert ‹Act → World → Prop›)
   (repeat revert ‹Int›)
   (repeat revert ‹Nat›)
   (repeat revert ‹Bool›)
   (repeat revert ‹List (List Int)›)
   (repeat revert ‹List Int›)
   (repeat revert ‹Addr›)
   (repeat revert ‹Option Addr›)
   (repeat revert ‹ByteArray›)
   (repeat revert ‹List ByteArray›)
   (repeat revert ‹List (S34)›)
   exact hole1.down
  case rest =>
   -- part 17
   (repeat revert ‹World›)
   (repeat revert ‹Value›)
   (repeat revert ‹Nat → Act → World → Prop›)
   (repeat revert ‹Act → World → Prop›)
   (repeat revert ‹Int›)
   (repeat revert ‹Nat›)
   (repeat revert ‹Bool›)
   (repeat revert ‹List (List Int)›)
   (repeat revert ‹List Int›)
   (repeat revert ‹Addr›)
   (repeat revert ‹Option Addr›)
   (repeat revert ‹ByteArray›)
   (repeat revert ‹List ByteArray›)
   (repeat revert ‹List (S34)›)
   exact hole2.down

set_option maxHeartbeats 8000000 in
set_option maxRecDepth 100000 in
theorem laws_FnDrillsMistakenOfAll.part16 : laws_FnDrillsMistakenOfAll.part15.1 := by
 conv => whnf
 intro l2 l8 a0 a1 a3 a7 t233 t235 t245 t247 A2 A8 t237 t241 r HE_ t234 t236 t238 t242 t246 t248 t261 t263 k c2 HC2 c8 HC8 kj9 HJ9 A17 A18 A19 A20 A21 A22 kj22 HJ22 kj40 HJ40 kj77 HJ77 kj87 HJ87 k6 HK6 k7 HK7 k8 HK8 a4 a5 a6 t260 A76 t262 A77 x44_6 x45_6 x48_7 x49_7 x48_8 HC99 x50_8 c98b0 K K K K K K K K K K K J K' a J a J a J a u53 u54 u55 u56 u57 u58 u59 u60 u61 u62 u63 u64 u65 u66 u67 u68 u69 u70 u71 u72 u73 u74 u75 u76 u77 u78 u79 v239 v243 u80 u81 u82 u83 u84 u85 u86 u87 u88 u89 u90 u91 u92 u93 u94 u95 u96 u97 u98 u99 u100 u101 u102 u103 u104 u105 u106 u107 u108 u109 u110 u111 u112 u113 u114 u115 u116 u117 u118 u119 u120 u121 u122 u123 u124 u125 u126 u127 u128 u129 u130 u131 u132 u133 u134 u135 u136 u137 u138 u139 u140 u141 u142 u143 u144 u145 u146 u147 u148 u149 u150 u151 u152 u153 u154 u155 u156 u157 u158 u159 u160 u18 u31 u32 u33 u34 u35 u36 u37 u39 u80 u81 u82 u83 u84 u85 u86 u87 u88 u89 u90 u91 u92 u93 u94 u95 u96 u97 u98 u99 u100 u101 u102 u103 u104 u105 u106 u107 u108 u109 u110 u111 u112 u113 u114 u115 u116 u117 u118 u119 u120 u121 u122 u123 u124 u125 u126 u127 u128 u129 u130 u131 u132 u133 u134 u135 u136 u137 u138 u139 u140 u141 u142 u143 u144 u145 u146 u147 u148 u149 u150 u151 u152 u153 u154 u155 u156 u157 u158 u159 u160 u161 u162 u163 u164 u165 u166 u167 u168 u169 u170 u171 u172 u173 u174 u175 u176 u177 u178 u179 u180 u181 u182 u183 u184 u185 u186 u187 u188 u189 u190 u191 u192 u193 u194 u195 u196 u197 u198 u199 u200 u201 u202 u203 u204 u205 u206 u207 u208 u209 u210 u211 u212 u213 u214 u215 u216 u217 u218 u219 u220 u221 u222 u223 u224 u225 u226 u227 u228 u229 u230 u231 u232 u233 u234 u235 u236 u237 u238 u239 u240 u241 u242 u243 u244 u245 u246 u247 u248 u249 u250 u251 u252 u253 u254 u255 u256 u257 u258 u259 u260 u261 u262 u263 u264 u265 u266 u267 u268 u269 u270 u271 u272 u273 u274 u275 u276 u197 u198 u199 u200 u201 u202 u203 u204 u205 u206 u207 u208 u209 u210 u211 u212 u213 u214 u215 u216 u217 u218 u219 u220 u221 u222 u223 u224 u225 u226 u227 u228 u229 u230 u231 u232 u233 u234 u235 u236 u237 u238 u239 u240 u241 u242 u243 u244 u245 u246 u247 u248 u249 u250 u251 u252 u253 u254 u255 u256 u257 u258 u259 u260 u261 u262 u263 u264 u265 u266 u267 u268 u269 u270 u271 u272 u273 u274 u275 u276 u277 u278 u279 u280 u281 u282 u283 u284 u285 u286 u287 u288 u289 u290 u291 u292 u293 u294 u295 u296 u297 u298 u299 u300 u301 u302 u303 u304 u305 u306 u307 u308 u309 u310 u311 u312 u313 u314 u18 u46 u47 u316 u317 u318 u319 u320 u321 u322 u323 u324 u325 u326 u327 u328 u329 u330 u331 u332 u333 u334 u335 u336 u337 u338 u339 u340 u341 u342 u343 u344 u345 u346 u347 u348 u349 u350 u351 u352 u353 u354 u355 u356 w HR2 HR8 HB Q' a a a a a a a a a wc w24 w25 w26 w27 w28 w29 HO240 HO244 HB wc HO_23 HB wc w79 w80 HB wc HB wc HB wr HB wr HB wr HB
 have H := HC99.out
 clear HC99
 by_cases c100 : a4 > (a3.size : Int)
 ·
  rw [if_pos c100] at H
  have c100b0 : decide ((a3.size : Int) < a4) = true := decide_eq_true c100
  clear c100
  (first | rw [c100b0] | (simp only [i64_w, i32_w]; rw [c100b0]) | skip)
  have H' := Aside0.mk H
  clear H
  go_wp2
  go_meet
  case rel => exact ⟨_, (0), (by first | rfl | (simp; done) | (simp [*]; done)), H', ⟨by have := HJ9.out; have := HJ22.out; have := HJ40.out; have := HJ77.out; have := HJ87.out; have := HK6.out; have := HK7.out; have := HK8.out; first | omega | exact Nat.le_refl _⟩, ⟨by repeat (first | (with_reducible first | exact HB.out | apply below_alloc | apply pw_below_drewN | apply below_drew1) | exact HB.out)⟩⟩
 ·
  rw [if_neg c100] at H
  have c100b0 : decide ((a3.size : Int) < a4) = false := decide_eq_false c100
  clear c100
  (first | rw [c100b0] | (simp only [i64_w, i32_w]; rw [c100b0]) | skip)
  have H' := Aside0.mk H
  clear H
  go_wp2
  go_meet
  case rel => exact ⟨_, (x48_8), (by first | rfl | (simp; done) | (simp [*]; done)), H', ⟨by have := HJ9.out; have := HJ22.out; have := HJ40.out; have := HJ77.out; have := HJ87.out; have := HK6.out; have := HK7.out; have := HK8.out; first | omega | exact Nat.le_refl _⟩, ⟨by repeat (first | (with_reducible first | exact HB.out | apply below_alloc | apply pw_below_drewN | apply below_drew1) | exact HB.out)⟩⟩

set_option maxHeartbeats 8000000 in
set_option maxRecDepth 100000 in
theorem laws_FnDrillsMistakenOfAll.part17 : laws_FnDrillsMistakenOfAll.part15.2.1 := by
 conv => whnf
 intro l2 l8 a0 a1 a3 a7 t233 t235 t245 t247 A2 A8 t237 t241 r HE_ t234 t236 t238 t242 t246 t248 t261 t263 k c2 HC2 c8 HC8 kj9 HJ9 A17 A18 A19 A20 A21 A22 kj22 HJ22 kj40 HJ40 kj77 HJ77 kj87 HJ87 k6 HK6 k7 HK7 k8 HK8 a4 a5 a6 t260 A76 t262 A77 x44_6 x45_6 x48_7 x49_7 x48_8 HC99 x50_8 c98b0 K K K K K K K K K K K J a J a J a u53 u54 u55 u56 u57 u58 u59 u60 u61 u62 u63 u64 u65 u66 u67 u68 u69 u70 u71 u72 u73 u74 u75 u76 u77 u78 u79 v239 v243 u80 u81 u82 u83 u84 u85 u86 u87 u88 u89 u90 u91 u92 u93 u94 u95 u96 u97 u98 u99 u100 u101 u102 u103 u104 u105 u106 u107 u108 u109 u110 u111 u112 u113 u114 u115 u116 u117 u118 u119 u120 u121 u122 u123 u124 u125 u126 u127 u128 u129 u130 u131 u132 u133 u134 u135 u136 u137 u138 u139 u140 u141 u142 u143 u144 u145 u146 u147 u148 u149 u150 u151 u152 u153 u154 u155 u156 u157 u158 u159 u160 u18 u31 u32 u33 u34 u35 u36 u37 u39 u80 u81 u82 u83 u84 u85 u86 u87 u88 u89 u90 u91 u92 u93 u94 u95 u96 u97 u98 u99 u100 u101 u102 u103 u104 u105 u106 u107 u108 u109 u110 u111 u112 u113 u114 u115 u116 u117 u118 u119 u120 u121 u122 u123 u124 u125 u126 u127 u128 u129 u130 u131 u132 u133 u134 u135 u136 u137 u138 u139 u140 u141 u142 u143 u144 u145 u146 u147 u148 u149 u150 u151 u152 u153 u154 u155 u156 u157 u158 u159 u160 u161 u162 u163 u164 u165 u166 u167 u168 u169 u170 u171 u172 u173 u174 u175 u176 u177 u178 u179 u180 u181 u182 u183 u184 u185 u186 u187 u188 u189 u190 u191 u192 u193 u194 u195 u196 u197 u198 u199 u200 u201 u202 u203 u204 u205 u206 u207 u208 u209 u210 u211 u212 u213 u214 u215 u216 u217 u218 u219 u220 u221 u222 u223 u224 u225 u226 u227 u228 u229 u230 u231 u232 u233 u234 u235 u236 u237 u238 u239 u240 u241 u242 u243 u244 u245 u246 u247 u248 u249 u250 u251 u252 u253 u254 u255 u256 u257 u258 u259 u260 u261 u262 u263 u264 u265 u266 u267 u268 u269 u270 u271 u272 u273 u274 u275 u276 u197 u198 u199 u200 u201 u202 u203 u204 u205 u206 u207 u208 u209 u210 u211 u212 u213 u214 u215 u216 u217 u218 u219 u220 u221 u222 u223 u224 u225 u226 u227 u228 u229 u230 u231 u232 u233 u234 u235 u236 u237 u238 u239 u240 u241 u242 u243 u244 u245 u246 u247 u248 u249 u250 u251 u252 u253 u254 u255 u256 u257 u258 u259 u260 u261 u262 u263 u264 u265 u266 u267 u268 u269 u270 u271 u272 u273 u274 u275 u276 u277 u278 u279 u280 u281 u282 u283 u284 u285 u286 u287 u288 u289 u290 u291 u292 u293 u294 u295 u296 u297 u298 u299 u300 u301 u302 u303 u304 u305 u306 u307 u308 u309 u310 u311 u312 u313 u314 u18 u46 u47 u316 u317 u318 u319 u320 u321 u322 u323 u324 u325 u326 u327 u328 u329 u330 u331 u332 u333 u334 u335 u336 u337 u338 u339 u340 u341 u342 u343 u344 u345 u346 u347 u348 u349 u350 u351 u352 u353 u354 u355 u356 u48 u315 u316 u317 u318 u319 u320 u321 u322 u323 u324 u325 u326 u327 u328 u329 u330 u331 u332 u333 u334 u335 u336 u337 u338 u339 u340 u341 u342 u343 u344 u345 u346 u347 u348 u349 u350 u351 u352 u353 u354 u355 u356 u357 u358 u359 u360 u361 u362 u363 u364 u365 u366 u367 u368 u369 u370 u371 u372 u373 u374 u375 w HR2 HR8 HB Q' a a a a a a a a wc w24 w25 w26 w27 w28 w29 HO240 HO244 HB wc HO_23 HB wc w79 w80 HB wc HB wc HB wr HB wr HB wr HB wc hcut
 clear HC99
 try clear c2
 try clear c8
 try clear c16
 try clear c40
 try clear c87
 try clear c90
 try clear c91
 try clear c91b0
 try clear c96
 try clear c96b0
 try clear c98
 try clear c98b0
 obtain ⟨kq, x48_98, rfl, HA, HJ98, HB⟩ := hcut
 cases kq with
 | zero => exact absurd HA.out (by simp [laws_FnDrillsMistakenOfAll.j10])
 | succ kj98 =>
  have H := HA.out
  clear HA
  simp only [laws_FnDrillsMistakenOfAll.j10] at H
  by_cases c101 : x44_6 = x48_98
  ·
   rw [if_pos c101] at H
   have c101b0 : (x44_6 == x48_98) = true := beq_iff_eq.mpr c101
   have c101b1 : (x44_6 != x48_98) = false := bne_eq_false_iff_eq.mpr c101
   clear c101
   by_cases c102 : a4 = 0
   ·
    rw [if_pos c102] at H
    have c102b0 : (a4 == 0) = true := beq_iff_eq.mpr c102
    have c102b1 : (a4 != 0) = false := bne_eq_false_iff_eq.mpr c102
    clear c102
    replace H := Option.bind_eq_some_iff.mp H
    obtain ⟨⟨t268, t269⟩, A1030, H⟩ := H
    replace H : (if t269 = true then (if ((t260 == 1) != (t268 == a5)) = true then (some false) else (if t260 > 1 then (some false) else (some true))) else (some false)) = some r := H
    have A103 := Aside0.mk A1030
    clear A1030
    by_cases c104 : t269 = true
    ·
     subst c104
     have H1 : (if ((t260 == 1) != (t268 == a5)) = true then (some false) else (if t260 > 1 then (some false) else (some true))) = some r := by rw [if_pos rfl] at H; exact H
     clear H
     have H := H1
     clear H1
     by_cases c105 : ((t260 == 1) != (t268 == a5)) = true
     ·
      rw [if_pos c105] at H
      exact absurd (H.trans (congrArg some HE_.out)) (by simp)
     ·
      rw [if_neg c105] at H
      have c105b0 : ((t260 == 1) != (t268 == a5)) = false := by simpa using c105
      (try (have c105b1 : decide ((t260 == 1) = (t268 == a5)) = true := by simpa using c105))
      (try (have c105b2 : ((t260 == 1) == (t268 == a5)) = true := by simpa using c105))
      clear c105
      by_cases c106 : t260 > 1
      ·
       rw [if_pos c106] at H
       exact absurd (H.trans (congrArg some HE_.out)) (by simp)
      ·
       rw [if_neg c106] at H
       have c106b0 : decide (1 < t260) = false := decide_eq_false c106
       clear c106
       obtain rfl := Option.some.inj H
       go_wp2_with (first | ((with_reducible refine gate_callee (f := 19) rfl ?_); refine goesL_ (some 368) rfl rfl Tryd.func19 (by kernel_rfl) rfl #[.string a3] rfl (by (try simp only [List.map_toArray, List.map_cons, List.map_nil]); first | done | rfl | (simp only [List.length_drop, List.length_take]; rfl)) ?_; (with_reducible refine (impl_NetTurn.calls kj98 a3 t268 true _ A103.out).mono ?_); rintro e w107 ⟨rfl, hb⟩; refine ⟨_, rfl, ?_⟩; have n0_ := Aside0.mk (below_step (by repeat (first | (with_reducible first | exact HB.out | apply below_alloc | apply pw_below_drewN | apply below_drew1) | exact HB.out)) hb); clear HB; have HB := n0_; clear n0_; (try clear hb); (try clear hb2); (try clear hk); (try clear hi)))
       go_ret
       exact ⟨by first | rfl | (simp [errW_none, errW_some] <;> rfl) | (simp [*, errW_none, errW_some] <;> rfl), by repeat (first | (with_reducible first | exact HB.out | apply below_alloc | apply pw_below_drewN | apply below_drew1) | exact HB.out)⟩
    ·
     replace c104 := Bool.eq_false_iff.mpr c104
     subst c104
     have H1 : (some false) = some r := by rw [if_neg (show ¬ (false = true) by decide)] at H; exact H
     clear H
     have H := H1
     clear H1
     exact absurd (H.trans (congrArg some HE_.out)) (by simp)
   ·
    rw [if_neg c102] at H
    have c102b0 : (a4 == 0) = false := beq_eq_false_iff_ne.mpr c102
    have c102b1 : (a4 != 0) = true := bne_iff_ne.mpr c102
    obtain rfl := Option.some.inj H
    go_wp2
    go_ret
    exact ⟨by first | rfl | (simp [errW_none, errW_some] <;> rfl) | (simp [*, errW_none, errW_some] <;> rfl), by repeat (first | (with_reducible first | exact HB.out | apply below_alloc | apply pw_below_drewN | apply below_drew1) | exact HB.out)⟩
  ·
   rw [if_neg c101] at H
   exact absurd (H.trans (congrArg some HE_.out)) (by simp)
end Go.Proofs.YtgdmbhldabeelaaRDoor.PFnDrillsMistakenOfAll
