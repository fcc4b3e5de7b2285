-- Written by a program of this session's (pg.py) over the kit's print.
import Derived.Test.YtgdmbhldabeelaaRGreatDoorPFnDrillsTurnx0
import Derived.Test.YtgdmbhldabeelaaRGreatDoorPFnDrillsTurnx1
import Derived.Test.YtgdmbhldabeelaaRGreatDoorPFnDrillsTurnx2
import Derived.Test.YtgdmbhldabeelaaRGreatDoorPFnDrillsTurnx3
import Derived.Test.YtgdmbhldabeelaaRGreatDoorPFnDrillsTurnx4
import Derived.Test.YtgdmbhldabeelaaRGreatDoorPFnDrillsTurnx5
import Derived.Test.YtgdmbhldabeelaaRGreatDoorPFnDrillsTurnx6
import Derived.Test.YtgdmbhldabeelaaRGreatDoorPFnDrillsTurnx7
import Derived.Test.YtgdmbhldabeelaaRGreatDoorPFnDrillsTurnx8
import Derived.Test.YtgdmbhldabeelaaRGreatDoorPFnDrillsTurnx9
import Derived.Test.YtgdmbhldabeelaaRGreatDoorPFnDrillsTurnx10
import Derived.Deep.CutRange
import Derived.Test.YtgdmbhldabeelaaRGreatDoorPFnDrillsTurnx13
namespace Go.Proofs.YtgdmbhldabeelaaRGreatDoor.PFnDrillsTurn
open Go.RowKit Go.Proofs.YtgdmbhldabeelaaRGreatDoorW.PrintWords Go.Proofs.YtgdmbhldabeelaaRGreatDoorW.PrintLast Go.Proofs.YtgdmbhldabeelaaRGreatDoorW.PrintMore
attribute [local go_sem] max2_int min2_int max_two min_two max_three min_three max_four min_four   -- for this text's walks alone
set_option linter.unusedVariables false
set_option linter.unusedSimpArgs false


set_option maxHeartbeats 8000000 in
set_option maxRecDepth 100000 in
theorem laws_FnDrillsTurn.part7 : laws_FnDrillsTurn.part5.2.1 := by
 conv => whnf
 intro t270 t271 t272 t274 t280 t282 t284 t286 t288 t290 t314 t316 t318 A0 A1 l0 l1 A3 r HE_ t275 t277 t279 t281 t283 t285 A12 t287 t289 A14 t291 t293 t295 t315 t317 t319 k A5 A7 A10 A11 A13 A15 A6 c0 HC0 c1 HC1 nd nd nd nd nd nd kj17 HJ17 kj63 HJ63 A95 A96 A97 t276 A8 HC98 t278 A9 t292 A16 t294 A17 K J K' a K K u156 u157 u158 u159 u160 u161 u162 u163 u164 u165 u166 u167 u168 u169 u170 u171 u172 u173 u174 u175 u176 u177 u178 u179 u180 u181 u182 u183 u184 u185 u186 u187 u188 u189 u190 u191 u192 u193 u194 u195 u196 u197 u198 u199 u200 u201 u202 u203 u204 u205 u206 u207 u208 u209 u210 u211 u212 u213 u214 u215 u216 u217 u218 u219 u220 u221 u222 u223 u224 u225 u226 u227 u228 u229 u230 u231 u232 u233 u234 u235 u236 u237 u238 u239 u240 u241 u242 u243 u244 u245 u246 u247 u248 u249 u250 u251 u252 u253 u254 u255 u256 u257 u258 u259 u260 u261 u4 u31 u32 u33 u34 u35 u36 u37 u38 u39 u40 u262 u263 u264 u265 u266 u267 u268 u269 u270 u271 u272 u273 u274 u275 u276 u277 u278 u279 u280 u281 u282 u283 u284 u285 u286 u287 u288 u289 u290 u291 u292 u293 u294 u295 u296 u297 u298 u299 u300 u301 u302 u303 u304 u305 u306 u307 u308 u309 u310 u311 u312 u313 u314 u315 u316 u317 u318 u319 u320 u321 u322 u323 u324 u325 u326 u327 u328 u329 u330 u331 u332 u333 u334 u335 u336 u337 u338 u339 u340 u341 u342 u343 u344 u345 u346 u347 u348 u349 u350 u351 u352 u353 u354 u355 u356 u357 u358 u359 u360 u361 u362 u363 u364 u365 u366 u367 u368 u369 u370 u371 u372 u373 u374 u375 u376 u377 u378 u379 u380 u381 u382 u383 u384 u385 u386 u387 u388 u389 u390 u391 u392 u393 u394 u395 u396 u397 u398 u399 u400 u401 u402 u403 u404 u405 u406 u407 u408 u409 u410 u411 u412 u413 u414 u262 u263 u264 u265 u266 u267 u268 u269 u270 u271 u272 u273 u274 u275 u276 u277 u278 u279 u280 u281 u282 u283 u284 u285 u286 u287 u288 u289 u290 u291 u292 u293 u294 u295 u296 u297 u298 u299 u300 u301 u302 u303 u304 u305 u306 u307 u308 u309 u310 u311 u312 u313 u314 u315 u316 u317 u318 u319 u320 u321 u322 u323 u324 u325 u326 u327 u328 u329 u330 u331 u332 u333 u334 u335 u336 u337 u338 u339 u340 u341 u342 u343 u344 u345 u346 u347 u348 u349 u350 u351 u352 u353 u354 u355 u356 u357 u358 u359 u360 u361 u362 u363 u364 u365 u366 u367 u368 u369 u370 u371 u372 u373 u374 u375 u376 u377 u378 u379 u380 u381 u382 u383 u384 u385 u386 u387 u388 u389 u390 u391 u392 u393 u394 u395 u396 u397 u398 u399 u400 u401 u402 u403 u404 u405 u406 u407 u408 u409 u410 u411 u412 u413 u414 w HR0 HR1 Q' a a a a w19 w20 w21 w22 w23 w24 w25 w26 HB wc HB wc w99 w100 w101 HB wc hcut
 clear HC98
 try clear c1
 try clear c4
 try clear c63
 try clear c94
 obtain ⟨kq, x414_97, rfl, HA, HJ97, HB⟩ := hcut
 cases kq with
 | zero => exact absurd HA.out (by simp [laws_FnDrillsTurn.j2])
 | succ kj97 =>
  have H := HA.out
  clear HA
  simp only [laws_FnDrillsTurn.j2] at H
  by_cases c107 : x414_97 = true
  ·
   subst c107
   have H1 : (some false) = some r := by rw [if_pos rfl] at H; exact H
   clear H
   have H := H1
   clear H1
   exact absurd (H.trans (congrArg some HE_.out)) (by simp)
  ·
   replace c107 := Bool.eq_false_iff.mpr c107
   subst c107
   have H1 : ((laws_turnLoop.f kj97 t318 t276).bind fun t320 => (if t320 = true then (laws_FnDrillsTurn.j3 kj97 l1) else (some false))) = some r := by rw [if_neg (show ¬ (false = true) by decide)] at H; exact H
   clear H
   have H := H1
   clear H1
   replace H := Option.bind_eq_some_iff.mp H
   obtain ⟨t320, A1080, H⟩ := H
   replace H : (if t320 = true then (laws_FnDrillsTurn.j3 kj97 l1) else (some false)) = some r := H
   have A108 := Aside0.mk A1080
   clear A1080
   by_cases c109 : t320 = true
   ·
    subst c109
    have H1 : (laws_FnDrillsTurn.j3 kj97 l1) = some r := by rw [if_pos rfl] at H; exact H
    clear H
    have H := H1
    clear H1
    have H' := Aside0.mk H
    clear H
    go_wp2
    have hl1 : t318.size ≤ 1000000000 ∧ laws_turnLoop.l0 kj97 t318 t276 0 = some true := by
     have h := A108.out
     unfold laws_turnLoop.f at h
     split at h
     · rename_i c; exact ⟨c, h⟩
     · cases h
    have HZ := Aside0.mk hl1.1
    have HL := Aside0.mk hl1.2
    clear hl1 A108
    go_loopg [] kj97 (fun kq wr => ∃ i : Nat, Aside0 (laws_turnLoop.l0 kq t318 t276 i = some true) ∧ Aside0 (kq ≤ kj97) ∧ Aside0 (Below w.heap.size w wr) ∧ Aside0 (wr.heap[wc.heap.size]? = some (.stringIter t318 i)))
    case atStart => exact ⟨0, HL, ⟨Nat.le_refl _⟩, ⟨below_alloc HB.out _⟩, ⟨World.iter_heap _ _ 0⟩⟩
    case round =>
     have HW : Aside0 (w.heap.size ≤ wc.heap.size) := ⟨HB.out.size⟩
     clear HL HB
     obtain ⟨i, HA, HK, HB, HI⟩ := hrel
     cases gk with
     | zero => exact absurd HA.out (by simp [laws_turnLoop.l0])
     | succ kl =>
      have h := HA.out
      clear HA
      rw [laws_turnLoop.l0] at h
      by_cases c : i < t318.size
      ·
       rw [if_pos c] at h
       by_cases c2 : bt t318 (i : Int) < 128
       ·
        rw [if_pos c2] at h
        replace h := Option.bind_eq_some_iff.mp h
        obtain ⟨⟨y1, y2⟩, hy, h⟩ := h
        by_cases c3 : y2 = true
        ·
         by_cases c4 : y1 = t276
         ·
          subst y2
          subst y1
          have H2 : Aside0 (laws_turnLoop.l0 kl t318 t276 (i + 1) = some true) := ⟨by simpa using h⟩
          have hz := HZ.out
          have hw1 : wrap64 ((i : Int) + 1) = (i : Int) + 1 := by unfold wrap64; omega
          have he : t318.extract i (i + 1) = t318.extract ((i : Int)).toNat (wrap64 ((i : Int) + 1)).toNat := by rw [hw1]; congr 1
          rw [he] at hy
          have HY := Aside0.mk hy
          have ha : (t318[i]'c).toNat < 128 := by
           have e := bt_at t318 (i : Int) (by simpa using c)
           simp only [Int.toNat_natCast] at e
           rw [← e] at c2
           omega
          obtain ⟨rn, hnx⟩ : ∃ rn : Int, ∀ ty, (Instr.next (.pointer (some ⟨wc.heap.size, 0, none⟩)) true ty).run Tryz.prog wr = .ok (.tuple #[.bool true, .int .i64 (i : Int), .int .i32 rn]) (wr.iterAt wc.heap.size t318 (i + 1)) := ⟨_, fun ty => Lib.run_next_ascii_at wr wc.heap.size t318 i ty HI.out c ha⟩
          have HI2 := Aside0.mk (Lib.iterAt_heap wr wc.heap.size t318 i (i + 1) HI.out)
          have HB2 := Aside0.mk (Lib.below_iterAt HB.out (k := wc.heap.size) HW.out t318 (i + 1))
          obtain ⟨W, hWd⟩ : ∃ W, wr.iterAt wc.heap.size t318 (i + 1) = W := ⟨_, rfl⟩
          rw [hWd] at hnx HI2 HB2
          have s1 : decide ((0 : Int) ≤ (i : Int)) = true := decide_eq_true (by omega)
          have s2 : decide ((i : Int) ≤ wrap64 ((i : Int) + 1)) = true := decide_eq_true (by rw [hw1]; omega)
          have s3 : decide (wrap64 ((i : Int) + 1) ≤ (t318.size : Int)) = true := decide_eq_true (by rw [hw1]; omega)
          have s4 := eq_true (of_decide_eq_true s1)
          have s5 := eq_true (of_decide_eq_true s2)
          have s6 := eq_true (of_decide_eq_true s3)
          clear h hy HI HB hWd hw1 he hz ha c2 c
          go_wp2_with (first | ((with_reducible refine gate_callee (f := 7) rfl ?_); refine goesL_ (some 426) rfl rfl Tryz.func7 (by kernel_rfl) rfl #[.string (t318.extract ((i : Int)).toNat (wrap64 ((i : Int) + 1)).toNat)] rfl (by (try simp only [List.map_toArray, List.map_cons, List.map_nil]); first | done | rfl) ?_; (with_reducible refine (impl_NetTurn.calls kl _ t276 true _ HY.out).mono ?_); rintro e w1 ⟨rfl, hb⟩; refine ⟨_, rfl, ?_⟩; have n0_ := Aside0.mk (below_step HB2.out hb); have n1_ := Aside0.mk ((hb.block _ (Array.getElem?_eq_some_iff.1 HI2.out).1).trans HI2.out); clear HB2 HI2 hb; have HB2 := n0_; have HI2 := n1_; clear n0_ n1_))
          go_roundg kl
          case measure => omega
          case rel => exact ⟨i + 1, H2, ⟨by have := HK.out; omega⟩, HB2, HI2⟩
         · exact absurd h (by simp [c3, c4])
        · exact absurd h (by simp [c3])
       · rw [if_neg c2] at h; cases h
      ·
       have hnx : ∀ ty, (Instr.next (.pointer (some ⟨wc.heap.size, 0, none⟩)) true ty).run Tryz.prog wr = _ := fun ty => Lib.run_next_end_at wr wc.heap.size t318 i ty HI.out c
       clear h c HI
       go_wp2
       go_meet
       case rel => exact ⟨_, H', ⟨by have := HJ17.out; have := HJ63.out; have := HJ97.out; first | omega | exact Nat.le_refl _⟩, ⟨by repeat (first | (with_reducible first | exact HB.out | apply below_alloc | apply pw_below_drewN | apply below_drew1) | exact HB.out)⟩⟩
   ·
    replace c109 := Bool.eq_false_iff.mpr c109
    subst c109
    have H1 : (some false) = some r := by rw [if_neg (show ¬ (false = true) by decide)] at H; exact H
    clear H
    have H := H1
    clear H1
    exact absurd (H.trans (congrArg some HE_.out)) (by simp)
end Go.Proofs.YtgdmbhldabeelaaRGreatDoor.PFnDrillsTurn
