-- Written by a program of this session's (pg.py) over the kit's print.
import Derived.Test.YtgdmbhldabeelaaRDoorPFnDrillsMistakenx0
import Derived.Test.YtgdmbhldabeelaaRDoorPFnDrillsMistakenx3
import Derived.Test.YtgdmbhldabeelaaRDoorPFnDrillsMistakenx6
import Derived.Test.YtgdmbhldabeelaaRDoorPFnDrillsMistakenx7
import Derived.Test.YtgdmbhldabeelaaRDoorPFnDrillsMistakenx8
import Derived.Test.YtgdmbhldabeelaaRDoorPFnDrillsMistakenx9
import Derived.Test.YtgdmbhldabeelaaRDoorPFnDrillsMistakenx10
import Derived.Test.YtgdmbhldabeelaaRDoorPFnDrillsMistakenx13
import Derived.Test.YtgdmbhldabeelaaRDoorPFnDrillsMistakenx14
import Derived.Deep.CutRange
import Derived.Test.YtgdmbhldabeelaaRDoorPFnDrillsMistakenx17
namespace Go.Proofs.YtgdmbhldabeelaaRDoor.PFnDrillsMistaken
open Go.RowKit Go.Proofs.YtgdmbhldabeelaaRDoorW.PrintWords Go.Proofs.YtgdmbhldabeelaaRDoorW.PrintLast Go.Proofs.YtgdmbhldabeelaaRDoorW.PrintMore
attribute [local go_sem] max2_int min2_int max_two min_two max_three min_three max_four min_four   -- for this text's walks alone
set_option linter.unusedVariables false
set_option linter.unusedSimpArgs false


set_option maxHeartbeats 8000000 in
set_option maxRecDepth 100000 in
def laws_FnDrillsMistaken.part13 : Σ' (R1 R2 : Prop), PLift R1 → PLift R2 → (laws_FnDrillsMistaken.part12.1) := by
 refine' ⟨_, _, fun hole1 hole2 => _⟩
 rotate_left 2
 ·
  conv => whnf
  intro t385 t424 t383 t384 t388 t390 t400 t402 t415 t423 A0 A1 Ao14 l0 l1 A3 t392 t396 r HE_ t389 t391 t393 t397 t401 t403 t419 t421 k A5 A6 A7 A8 A9 A10 A11 c0 HC0 c1 HC1 nd co14 kj11 HJ11 kj31 HJ31 kj70 HJ70 kj83 HJ83 k5 HK5 k6 HK6 k7 HK7 t416 t417 A67 t418 A68 t420 A69 t422 A70 x39_5 x40_5 x43_6 x44_6 x43_7 HC95 x45_7 c94b0 K K K K K K K K K J a J a J a v394 v398 u99 u100 u101 u102 u103 u104 u105 u106 u107 u108 u109 u110 u111 u112 u113 u114 u115 u116 u117 u118 u119 u120 u121 u122 u123 u124 u125 u126 u127 u128 u129 u130 u131 u132 u133 u134 u135 u136 u4 u20 u21 u22 u23 u24 u25 u26 u28 u137 u138 u139 u140 u141 u142 u143 u144 u145 u146 u147 u148 u149 u150 u151 u152 u153 u154 u155 u156 u157 u158 u159 u160 u161 u162 u163 u164 u165 u166 u167 u168 u169 u170 u171 u172 u173 u174 u175 u176 u177 u178 u179 u180 u181 u182 u183 u184 u185 u186 u187 u188 u189 u190 u191 u192 u193 u194 u195 u196 u197 u198 u199 u200 u201 u202 u203 u204 u205 u206 u207 u208 u209 u210 u211 u212 u213 u214 u215 u216 u217 u218 u219 u220 u221 u222 u223 u224 u225 u226 u227 u228 u229 u230 u231 u232 u233 u234 u235 u236 u237 u238 u239 u240 u241 u242 u243 u244 u245 u246 u247 u248 u249 u250 u251 u252 v425 u173 u174 u175 u176 u177 u178 u179 u180 u181 u182 u183 u184 u185 u186 u187 u188 u189 u190 u191 u192 u193 u194 u195 u196 u197 u198 u199 u200 u201 u202 u203 u204 u205 u206 u207 u208 u209 u210 u211 u212 u213 u214 u215 u216 u217 u218 u219 u220 u221 u222 u223 u224 u225 u226 u227 u228 u229 u230 u231 u232 u233 u234 u235 u236 u237 u238 u239 u240 u241 u242 u243 u244 u245 u246 u247 u248 u249 u250 u251 u252 u253 u254 u255 u256 u257 u258 u259 u260 u261 u262 u263 u264 u265 u266 u267 u268 u269 u270 u271 u272 u273 u274 u275 u276 u277 u278 u279 u280 u281 u282 u283 u284 u285 u286 u287 u288 u289 u290 u291 u292 u293 u294 u295 u296 u297 u298 u299 u300 u301 u302 u4 u41 u42 u304 u305 u306 u307 u308 u309 u310 u311 u312 u313 u314 u315 u316 u317 u318 u319 u320 u321 u322 u323 u324 u325 u326 u327 u328 u329 u330 u331 u332 u333 u334 u335 u336 u337 u338 u339 u340 u341 u342 u343 u344 w HR0 HR1 Q' a a a a a a a w13 w15 w16 w17 w18 w19 w20 HO387 HO395 HO399 HB wc HO_7 HO_12 HB wc w72 w73 w74 w75 HO426 HB wc HB wc HB wr HB wr HB wr HB
  go_upto_if 348 with (fail)
  go_cut [43] from 303 to 363 (fun v43 wc => ∃ (kq : Nat) (x43_94 : Int), v43 = .int .i64 x43_94 ∧ Aside0 (laws_FnDrillsMistaken.j9 kq t415 t416 t417 t418 x39_5 x43_94 = some r) ∧ Aside0 (kq ≤ k7) ∧ Aside0 (Below w.heap.size w wc))
  case first =>
   -- part 14
   (repeat revert ‹World›)
   (repeat revert ‹Value›)
   (repeat revert ‹Nat → Act → World → Prop›)
   (repeat revert ‹Act → World → Prop›)
   (repeat revert ‹Int›)
   (repeat revert ‹Nat›)
   (repeat revert ‹Bool›)
   (repeat revert ‹List (List Int)›)
   (repeat revert ‹List Int›)
   (repeat revert ‹Addr›)
   (repeat revert ‹Option Addr›)
   (repeat revert ‹ByteArray›)
   (repeat revert ‹List ByteArray›)
   (repeat revert ‹List (S34)›)
   exact hole1.down
  case rest =>
   -- part 15
   (repeat revert ‹World›)
   (repeat revert ‹Value›)
   (repeat revert ‹Nat → Act → World → Prop›)
   (repeat revert ‹Act → World → Prop›)
   (repeat revert ‹Int›)
   (repeat revert ‹Nat›)
   (repeat revert ‹Bool›)
   (repeat revert ‹List (List Int)›)
   (repeat revert ‹List Int›)
   (repeat revert ‹Addr›)
   (repeat revert ‹Option Addr›)
   (repeat revert ‹ByteArray›)
   (repeat revert ‹List ByteArray›)
   (repeat revert ‹List (S34)›)
   exact hole2.down

set_option maxHeartbeats 8000000 in
set_option maxRecDepth 100000 in
theorem laws_FnDrillsMistaken.part14 : laws_FnDrillsMistaken.part13.1 := by
 conv => whnf
 intro t385 t424 t383 t384 t388 t390 t400 t402 t415 t423 A0 A1 Ao14 l0 l1 A3 t392 t396 r HE_ t389 t391 t393 t397 t401 t403 t419 t421 k A5 A6 A7 A8 A9 A10 A11 c0 HC0 c1 HC1 nd co14 kj11 HJ11 kj31 HJ31 kj70 HJ70 kj83 HJ83 k5 HK5 k6 HK6 k7 HK7 t416 t417 A67 t418 A68 t420 A69 t422 A70 x39_5 x40_5 x43_6 x44_6 x43_7 HC95 x45_7 c94b0 K K K K K K K K K K K J K' a J a J a J a v394 v398 u99 u100 u101 u102 u103 u104 u105 u106 u107 u108 u109 u110 u111 u112 u113 u114 u115 u116 u117 u118 u119 u120 u121 u122 u123 u124 u125 u126 u127 u128 u129 u130 u131 u132 u133 u134 u135 u136 u4 u20 u21 u22 u23 u24 u25 u26 u28 u137 u138 u139 u140 u141 u142 u143 u144 u145 u146 u147 u148 u149 u150 u151 u152 u153 u154 u155 u156 u157 u158 u159 u160 u161 u162 u163 u164 u165 u166 u167 u168 u169 u170 u171 u172 u173 u174 u175 u176 u177 u178 u179 u180 u181 u182 u183 u184 u185 u186 u187 u188 u189 u190 u191 u192 u193 u194 u195 u196 u197 u198 u199 u200 u201 u202 u203 u204 u205 u206 u207 u208 u209 u210 u211 u212 u213 u214 u215 u216 u217 u218 u219 u220 u221 u222 u223 u224 u225 u226 u227 u228 u229 u230 u231 u232 u233 u234 u235 u236 u237 u238 u239 u240 u241 u242 u243 u244 u245 u246 u247 u248 u249 u250 u251 u252 v425 u173 u174 u175 u176 u177 u178 u179 u180 u181 u182 u183 u184 u185 u186 u187 u188 u189 u190 u191 u192 u193 u194 u195 u196 u197 u198 u199 u200 u201 u202 u203 u204 u205 u206 u207 u208 u209 u210 u211 u212 u213 u214 u215 u216 u217 u218 u219 u220 u221 u222 u223 u224 u225 u226 u227 u228 u229 u230 u231 u232 u233 u234 u235 u236 u237 u238 u239 u240 u241 u242 u243 u244 u245 u246 u247 u248 u249 u250 u251 u252 u253 u254 u255 u256 u257 u258 u259 u260 u261 u262 u263 u264 u265 u266 u267 u268 u269 u270 u271 u272 u273 u274 u275 u276 u277 u278 u279 u280 u281 u282 u283 u284 u285 u286 u287 u288 u289 u290 u291 u292 u293 u294 u295 u296 u297 u298 u299 u300 u301 u302 u4 u41 u42 u304 u305 u306 u307 u308 u309 u310 u311 u312 u313 u314 u315 u316 u317 u318 u319 u320 u321 u322 u323 u324 u325 u326 u327 u328 u329 u330 u331 u332 u333 u334 u335 u336 u337 u338 u339 u340 u341 u342 u343 u344 w HR0 HR1 Q' a a a a a a a a a w13 w15 w16 w17 w18 w19 w20 HO387 HO395 HO399 HB wc HO_7 HO_12 HB wc w72 w73 w74 w75 HO426 HB wc HB wc HB wr HB wr HB wr HB
 have H := HC95.out
 clear HC95
 by_cases c96 : t416 > (t415.size : Int)
 ·
  rw [if_pos c96] at H
  have c96b0 : decide ((t415.size : Int) < t416) = true := decide_eq_true c96
  clear c96
  (first | rw [c96b0] | (simp only [i64_w, i32_w]; rw [c96b0]) | skip)
  have H' := Aside0.mk H
  clear H
  go_wp2
  go_meet
  case rel => exact ⟨_, (0), (by first | rfl | (simp; done) | (simp [*]; done)), H', ⟨by have := HJ11.out; have := HJ31.out; have := HJ70.out; have := HJ83.out; have := HK5.out; have := HK6.out; have := HK7.out; first | omega | exact Nat.le_refl _⟩, ⟨by repeat (first | (with_reducible first | exact HB.out | apply below_alloc | apply pw_below_drewN | apply below_drew1) | exact HB.out)⟩⟩
 ·
  rw [if_neg c96] at H
  have c96b0 : decide ((t415.size : Int) < t416) = false := decide_eq_false c96
  clear c96
  (first | rw [c96b0] | (simp only [i64_w, i32_w]; rw [c96b0]) | skip)
  have H' := Aside0.mk H
  clear H
  go_wp2
  go_meet
  case rel => exact ⟨_, (x43_7), (by first | rfl | (simp; done) | (simp [*]; done)), H', ⟨by have := HJ11.out; have := HJ31.out; have := HJ70.out; have := HJ83.out; have := HK5.out; have := HK6.out; have := HK7.out; first | omega | exact Nat.le_refl _⟩, ⟨by repeat (first | (with_reducible first | exact HB.out | apply below_alloc | apply pw_below_drewN | apply below_drew1) | exact HB.out)⟩⟩

set_option maxHeartbeats 8000000 in
set_option maxRecDepth 100000 in
theorem laws_FnDrillsMistaken.part15 : laws_FnDrillsMistaken.part13.2.1 := by
 conv => whnf
 intro t385 t424 t383 t384 t388 t390 t400 t402 t415 t423 A0 A1 Ao14 l0 l1 A3 t392 t396 r HE_ t389 t391 t393 t397 t401 t403 t419 t421 k A5 A6 A7 A8 A9 A10 A11 c0 HC0 c1 HC1 nd co14 kj11 HJ11 kj31 HJ31 kj70 HJ70 kj83 HJ83 k5 HK5 k6 HK6 k7 HK7 t416 t417 A67 t418 A68 t420 A69 t422 A70 x39_5 x40_5 x43_6 x44_6 x43_7 HC95 x45_7 c94b0 K K K K K K K K K K K J a J a J a v394 v398 u99 u100 u101 u102 u103 u104 u105 u106 u107 u108 u109 u110 u111 u112 u113 u114 u115 u116 u117 u118 u119 u120 u121 u122 u123 u124 u125 u126 u127 u128 u129 u130 u131 u132 u133 u134 u135 u136 u4 u20 u21 u22 u23 u24 u25 u26 u28 u137 u138 u139 u140 u141 u142 u143 u144 u145 u146 u147 u148 u149 u150 u151 u152 u153 u154 u155 u156 u157 u158 u159 u160 u161 u162 u163 u164 u165 u166 u167 u168 u169 u170 u171 u172 u173 u174 u175 u176 u177 u178 u179 u180 u181 u182 u183 u184 u185 u186 u187 u188 u189 u190 u191 u192 u193 u194 u195 u196 u197 u198 u199 u200 u201 u202 u203 u204 u205 u206 u207 u208 u209 u210 u211 u212 u213 u214 u215 u216 u217 u218 u219 u220 u221 u222 u223 u224 u225 u226 u227 u228 u229 u230 u231 u232 u233 u234 u235 u236 u237 u238 u239 u240 u241 u242 u243 u244 u245 u246 u247 u248 u249 u250 u251 u252 v425 u173 u174 u175 u176 u177 u178 u179 u180 u181 u182 u183 u184 u185 u186 u187 u188 u189 u190 u191 u192 u193 u194 u195 u196 u197 u198 u199 u200 u201 u202 u203 u204 u205 u206 u207 u208 u209 u210 u211 u212 u213 u214 u215 u216 u217 u218 u219 u220 u221 u222 u223 u224 u225 u226 u227 u228 u229 u230 u231 u232 u233 u234 u235 u236 u237 u238 u239 u240 u241 u242 u243 u244 u245 u246 u247 u248 u249 u250 u251 u252 u253 u254 u255 u256 u257 u258 u259 u260 u261 u262 u263 u264 u265 u266 u267 u268 u269 u270 u271 u272 u273 u274 u275 u276 u277 u278 u279 u280 u281 u282 u283 u284 u285 u286 u287 u288 u289 u290 u291 u292 u293 u294 u295 u296 u297 u298 u299 u300 u301 u302 u4 u41 u42 u304 u305 u306 u307 u308 u309 u310 u311 u312 u313 u314 u315 u316 u317 u318 u319 u320 u321 u322 u323 u324 u325 u326 u327 u328 u329 u330 u331 u332 u333 u334 u335 u336 u337 u338 u339 u340 u341 u342 u343 u344 u43 u303 u304 u305 u306 u307 u308 u309 u310 u311 u312 u313 u314 u315 u316 u317 u318 u319 u320 u321 u322 u323 u324 u325 u326 u327 u328 u329 u330 u331 u332 u333 u334 u335 u336 u337 u338 u339 u340 u341 u342 u343 u344 u345 u346 u347 u348 u349 u350 u351 u352 u353 u354 u355 u356 u357 u358 u359 u360 u361 u362 u363 w HR0 HR1 Q' a a a a a a a a w13 w15 w16 w17 w18 w19 w20 HO387 HO395 HO399 HB wc HO_7 HO_12 HB wc w72 w73 w74 w75 HO426 HB wc HB wc HB wr HB wr HB wr HB wc hcut
 clear HC95
 try clear c1
 try clear c4
 try clear c31
 try clear c83
 try clear c86
 try clear c87
 try clear c87b0
 try clear c92
 try clear c92b0
 try clear c94
 try clear c94b0
 obtain ⟨kq, x43_94, rfl, HA, HJ94, HB⟩ := hcut
 cases kq with
 | zero => exact absurd HA.out (by simp [laws_FnDrillsMistaken.j9])
 | succ kj94 =>
  have H := HA.out
  clear HA
  simp only [laws_FnDrillsMistaken.j9] at H
  by_cases c97 : x39_5 = x43_94
  ·
   rw [if_pos c97] at H
   have c97b0 : (x39_5 == x43_94) = true := beq_iff_eq.mpr c97
   have c97b1 : (x39_5 != x43_94) = false := bne_eq_false_iff_eq.mpr c97
   clear c97
   by_cases c98 : t416 = 0
   ·
    rw [if_pos c98] at H
    have c98b0 : (t416 == 0) = true := beq_iff_eq.mpr c98
    have c98b1 : (t416 != 0) = false := bne_eq_false_iff_eq.mpr c98
    clear c98
    replace H := Option.bind_eq_some_iff.mp H
    obtain ⟨⟨t431, t432⟩, A990, H⟩ := H
    replace H : (if t432 = true then (if ((t418 == 1) != (t431 == t417)) = true then (some false) else (if t418 > 1 then (some false) else (some true))) else (some false)) = some r := H
    have A99 := Aside0.mk A990
    clear A990
    by_cases c100 : t432 = true
    ·
     subst c100
     have H1 : (if ((t418 == 1) != (t431 == t417)) = true then (some false) else (if t418 > 1 then (some false) else (some true))) = some r := by rw [if_pos rfl] at H; exact H
     clear H
     have H := H1
     clear H1
     by_cases c101 : ((t418 == 1) != (t431 == t417)) = true
     ·
      rw [if_pos c101] at H
      exact absurd (H.trans (congrArg some HE_.out)) (by simp)
     ·
      rw [if_neg c101] at H
      have c101b0 : ((t418 == 1) != (t431 == t417)) = false := by simpa using c101
      (try (have c101b1 : decide ((t418 == 1) = (t431 == t417)) = true := by simpa using c101))
      (try (have c101b2 : ((t418 == 1) == (t431 == t417)) = true := by simpa using c101))
      clear c101
      by_cases c102 : t418 > 1
      ·
       rw [if_pos c102] at H
       exact absurd (H.trans (congrArg some HE_.out)) (by simp)
      ·
       rw [if_neg c102] at H
       have c102b0 : decide (1 < t418) = false := decide_eq_false c102
       clear c102
       obtain rfl := Option.some.inj H
       go_wp2_with (first | ((with_reducible refine gate_callee (f := 19) rfl ?_); refine goesL_ (some 356) rfl rfl Tryd.func19 (by kernel_rfl) rfl #[.string t415] rfl (by (try simp only [List.map_toArray, List.map_cons, List.map_nil]); first | done | rfl | (simp only [List.length_drop, List.length_take]; rfl)) ?_; (with_reducible refine (impl_NetTurn.calls kj94 t415 t431 true _ A99.out).mono ?_); rintro e w103 ⟨rfl, hb⟩; refine ⟨_, rfl, ?_⟩; have n0_ := Aside0.mk (below_step (by repeat (first | (with_reducible first | exact HB.out | apply below_alloc | apply pw_below_drewN | apply below_drew1) | exact HB.out)) hb); clear HB; have HB := n0_; clear n0_; (try clear hb); (try clear hb2); (try clear hk); (try clear hi)))
       go_ret
       exact ⟨by first | rfl | (simp [errW_none, errW_some] <;> rfl) | (simp [*, errW_none, errW_some] <;> rfl), by repeat (first | (with_reducible first | exact HB.out | apply below_alloc | apply pw_below_drewN | apply below_drew1) | exact HB.out)⟩
    ·
     replace c100 := Bool.eq_false_iff.mpr c100
     subst c100
     have H1 : (some false) = some r := by rw [if_neg (show ¬ (false = true) by decide)] at H; exact H
     clear H
     have H := H1
     clear H1
     exact absurd (H.trans (congrArg some HE_.out)) (by simp)
   ·
    rw [if_neg c98] at H
    have c98b0 : (t416 == 0) = false := beq_eq_false_iff_ne.mpr c98
    have c98b1 : (t416 != 0) = true := bne_iff_ne.mpr c98
    obtain rfl := Option.some.inj H
    go_wp2
    go_ret
    exact ⟨by first | rfl | (simp [errW_none, errW_some] <;> rfl) | (simp [*, errW_none, errW_some] <;> rfl), by repeat (first | (with_reducible first | exact HB.out | apply below_alloc | apply pw_below_drewN | apply below_drew1) | exact HB.out)⟩
  ·
   rw [if_neg c97] at H
   exact absurd (H.trans (congrArg some HE_.out)) (by simp)
end Go.Proofs.YtgdmbhldabeelaaRDoor.PFnDrillsMistaken
