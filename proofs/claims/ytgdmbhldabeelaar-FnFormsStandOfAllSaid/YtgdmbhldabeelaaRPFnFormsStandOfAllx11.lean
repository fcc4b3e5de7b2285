-- Written by a program of this session's (pg.py) over the kit's print.
import Derived.Test.YtgdmbhldabeelaaRPFnFormsStandOfAllx0
import Derived.Test.YtgdmbhldabeelaaRPFnFormsStandOfAllx1
import Derived.Test.YtgdmbhldabeelaaRPFnFormsStandOfAllx2
import Derived.Test.YtgdmbhldabeelaaRPFnFormsStandOfAllx3
import Derived.Test.YtgdmbhldabeelaaRPFnFormsStandOfAllx4
import Derived.Test.YtgdmbhldabeelaaRPFnFormsStandOfAllx5
import Derived.Test.YtgdmbhldabeelaaRPFnFormsStandOfAllx6
import Derived.Deep.CutRange
import Derived.Test.YtgdmbhldabeelaaRPFnFormsStandOfAllx9
namespace Go.Proofs.YtgdmbhldabeelaaR.PFnFormsStandOfAll
open Go.RowKit Go.Proofs.YtgdmbhldabeelaaRW.PrintWords Go.Proofs.YtgdmbhldabeelaaRW.PrintLast Go.Proofs.YtgdmbhldabeelaaRW.PrintMore
attribute [local go_sem] max2_int min2_int max_two min_two max_three min_three max_four min_four   -- for this text's walks alone
set_option linter.unusedVariables false
set_option linter.unusedSimpArgs false


set_option maxHeartbeats 8000000 in
set_option maxRecDepth 100000 in
theorem laws_FnFormsStandOfAll.part10 : laws_FnFormsStandOfAll.part4.2.1 := by
 conv => whnf
 intro Ao65 Ao81 t255 t259 t219 t223 t227 t231 t247 t251 r HE_ t224 t228 t232 t237 t240 t243 t246 t248 t252 t256 t260 k nd nd nd nd kj22 HJ22 co65 k2 HK2 co81 k3 HK3 a0 A12 A13 A14 A19 A20 A21 A22 A11 a1 a2 a3 a4 a5 a6 a7 a8 a9 t235 t236 A15 t238 t239 A16 t241 t242 A17 t244 t245 A18 x264_2 x318_3 H c82b0 c83b0 c84b0 c85b0 c85b1 c86b0 c86b1 c87b0 c88b0 c88b1 c89b0 c90b0 c90b1 c91 K J K' a K K K K K J a J a v225 v233 v249 v253 v257 v261 u164 u165 u166 u167 u168 u169 u170 u171 u172 u173 u174 u175 u176 u177 u178 u179 u180 u181 u182 u183 u184 u185 u186 u187 u188 u189 u190 u191 u192 u193 u194 u195 u196 u197 u198 u199 u200 u201 u202 u203 u204 u205 u206 u207 u208 u209 u210 u211 u212 u213 u214 u215 u216 u217 u218 u219 u220 u221 u222 u223 u224 u225 u226 u227 u228 u229 u230 u231 u232 u233 u234 u235 u236 u237 u238 u239 u240 u241 u242 u243 u244 u245 u246 u247 u248 u249 u250 u251 u252 u253 u254 u255 u256 u257 u258 u259 u20 u49 u50 u265 u266 u267 u268 u269 u270 u271 u272 u273 u274 u275 u276 u277 u278 u279 u280 u281 u282 u283 u284 u285 u286 u287 u288 u289 u290 u291 u292 u293 u294 u295 u296 u297 u298 u299 u300 u301 u302 u303 u304 u305 u306 u307 u308 u309 u310 u311 u312 u313 u314 u315 u20 u51 u52 u53 u54 u55 u319 u320 u321 u322 u323 u324 u325 u326 u327 u328 u329 u330 u331 u332 u333 u334 u335 u336 u337 u338 u339 u340 u341 u342 u343 u344 u345 u346 u347 u348 u349 u350 u351 u352 u353 u354 u355 u356 u357 u358 u359 u360 u361 u362 u363 u364 u365 u366 u367 u368 u369 u370 u371 u372 u373 u374 u375 u376 u377 u378 u379 u380 u381 u382 u383 u384 u385 u386 u387 u388 u389 u390 u391 u392 u393 u394 u395 u396 u397 u398 u399 u400 u401 u402 u403 u404 u405 u406 u407 u408 u409 u410 u411 u412 u413 u414 u415 u416 w Q' a a a a a a w24 w25 w26 w27 w28 w29 w30 w31 HO258 HO262 HB HO222 HO226 HO230 HO234 HO250 HO254 wc HO_45 HB HO_21 HO_25 HO_41 wr HO_45 HB HO_21 HO_25 HO_41 HO_262 wr HO_21 HO_25 HO_41 HO_45 HO_316 HB
 rw [if_neg c91] at H
 have c91b0 : decide (0 < x318_3) = false := decide_eq_false c91
 clear c91
 replace H := Option.bind_eq_some_iff.mp H
 obtain ⟨⟨t296, t297, t298⟩, A1020, H⟩ := H
 replace H : (if (rd (rd_L1 t227 x318_3) 1) ≤ 1000 then (if t298 = true then (if t296 = (rd (rd_L1 t227 x318_3) 0) then (if t297 = 0 then (laws_FnFormsStandOfAll.l1 k3 a0 a1 a2 a3 a4 a5 a6 a7 a8 a9 t219 t227 t235 t236 t241 t242 t247 t255 t227 (t227.length : Int) (wrap64 (x318_3 + 1))) else (some false)) else (some false)) else (some false)) else (laws_FnFormsStandOfAll.l1 k3 a0 a1 a2 a3 a4 a5 a6 a7 a8 a9 t219 t227 t235 t236 t241 t242 t247 t255 t227 (t227.length : Int) (wrap64 (x318_3 + 1)))) = some r := H
 have A102 := Aside0.mk A1020
 clear A1020
 by_cases c103 : (rd (rd_L1 t227 x318_3) 1) ≤ 1000
 ·
  rw [if_pos c103] at H
  have c103b0 : decide ((rd (rd_L1 t227 x318_3) 1) ≤ 1000) = true := decide_eq_true c103
  clear c103
  by_cases c104 : t298 = true
  ·
   subst c104
   have H1 : (if t296 = (rd (rd_L1 t227 x318_3) 0) then (if t297 = 0 then (laws_FnFormsStandOfAll.l1 k3 a0 a1 a2 a3 a4 a5 a6 a7 a8 a9 t219 t227 t235 t236 t241 t242 t247 t255 t227 (t227.length : Int) (wrap64 (x318_3 + 1))) else (some false)) else (some false)) = some r := by rw [if_pos rfl] at H; exact H
   clear H
   have H := H1
   clear H1
   by_cases c105 : t296 = (rd (rd_L1 t227 x318_3) 0)
   ·
    rw [if_pos c105] at H
    have c105b0 : (t296 == (rd (rd_L1 t227 x318_3) 0)) = true := beq_iff_eq.mpr c105
    have c105b1 : (t296 != (rd (rd_L1 t227 x318_3) 0)) = false := bne_eq_false_iff_eq.mpr c105
    clear c105
    by_cases c106 : t297 = 0
    ·
     rw [if_pos c106] at H
     have c106b0 : (t297 == 0) = true := beq_iff_eq.mpr c106
     have c106b1 : (t297 != 0) = false := bne_eq_false_iff_eq.mpr c106
     clear c106
     have H' := Aside0.mk H
     clear H
     have p276 : 0 ≤ (x318_3 : Int) := of_decide_eq_true (by first | (with_reducible assumption) | assumption)
     have q276 : x318_3 < (t227.length : Int) := of_decide_eq_true (by first | (with_reducible assumption) | assumption)
     obtain ⟨ad276, A276_0, c276_0, e276, hx276_0, hl276_0, hi276_0⟩ := at_L1 (Kd.S_reads' HO_316.out).2.2 x318_3 p276 q276
     cases e276
     obtain ⟨ce276, hce276, hMe276, hcc276⟩ := Kd.S_get HO_316.out [] x318_3 p276 (by first | exact q276 | exact of_decide_eq_true (by first | (with_reducible assumption) | assumption) | (have e_ := (Kd.S_reads' HO_316.out).1; omega))
     obtain ⟨ve276_0, rfl, ge276_0⟩ := hMe276
     have hv276_0 := hcc276 0 _ rfl
     rw [Nat.add_zero, show ((Kd.slice 3 (Kd.int .i64))).sz = 1 from rfl, Nat.mul_one] at hv276_0
     replace hv276_0 := Option.some.inj (hv276_0.symm.trans hx276_0)
     rw [hv276_0] at ge276_0
     have HL276_0 := Aside0.mk (show Kd.R (Kd.int .i64) 3 _ _ _ _ (rd_L1 t227 x318_3) from ge276_0)
     clear hv276_0 ge276_0
     clear hcc276 hce276
     have HR276_0 := Aside0.mk hi276_0
     have HC276_0 := Aside0.mk hl276_0
     clear hi276_0 hl276_0
     replace p276 := eq_true p276
     replace q276 := eq_true q276
     have p277 : 0 ≤ (1 : Int) := (by omega)
     have q277 : 1 < ((rd_L1 t227 x318_3).length : Int) := of_decide_eq_true (by first | (with_reducible assumption) | assumption)
     obtain ⟨ad277, e277, hx277_0⟩ := Kd.at_int (by repeat (first | (with_reducible exact HR276_0.out) | (with_reducible refine Kd.C_alloc ?_ _) | (with_reducible refine Kd.C_drewN ?_ _) | (with_reducible refine Kd.C_drew ?_) | exact HR276_0.out)) 1 p277 q277
     cases e277
     (try simp only [show (1 : Int).toNat = 1 from rfl, Nat.reduceMul, Nat.reduceEqDiff, Go.Addr.add, ↓reduceIte] at hx277_0)
     have qi277 : (1 < (rd_L1 t227 x318_3).length) = True := eq_true (by omega)
     (try rw [show ((1 : Int)).toNat = 1 from rfl] at hx277_0)
     replace p277 := eq_true p277
     replace q277 := eq_true q277
     have p278 : 0 ≤ (0 : Int) := (by omega)
     have q278 : 0 < ((rd_L1 t227 x318_3).length : Int) := of_decide_eq_true (by first | (with_reducible assumption) | assumption)
     obtain ⟨ad278, e278, hx278_0⟩ := Kd.at_int (by repeat (first | (with_reducible exact HR276_0.out) | (with_reducible refine Kd.C_alloc ?_ _) | (with_reducible refine Kd.C_drewN ?_ _) | (with_reducible refine Kd.C_drew ?_) | exact HR276_0.out)) 0 p278 q278
     obtain rfl : ad277 = ad278 := (by injection e278)
     have qi278 : (0 < (rd_L1 t227 x318_3).length) = True := eq_true (by omega)
     (try rw [show ((0 : Int)).toNat = 0 from rfl] at hx278_0)
     (try rw [Addr.add_zero'] at hx278_0)
     replace p278 := eq_true p278
     replace q278 := eq_true q278
     have p279 : 0 ≤ (1 : Int) := (by omega)
     have q279 : 1 < ((rd_L1 t227 x318_3).length : Int) := of_decide_eq_true (by first | (with_reducible assumption) | assumption)
     obtain ⟨ad279, e279, hx279_0⟩ := Kd.at_int (by repeat (first | (with_reducible exact HR276_0.out) | (with_reducible refine Kd.C_alloc ?_ _) | (with_reducible refine Kd.C_drewN ?_ _) | (with_reducible refine Kd.C_drew ?_) | exact HR276_0.out)) 1 p279 q279
     obtain rfl : ad277 = ad279 := (by injection e279)
     (try simp only [show (1 : Int).toNat = 1 from rfl, Nat.reduceMul, Nat.reduceEqDiff, Go.Addr.add, ↓reduceIte] at hx279_0)
     have qi279 : (1 < (rd_L1 t227 x318_3).length) = True := eq_true (by omega)
     (try rw [show ((1 : Int)).toNat = 1 from rfl] at hx279_0)
     replace p279 := eq_true p279
     replace q279 := eq_true q279
     have p280 : 0 ≤ (0 : Int) := (by omega)
     have q280 : 0 < ((rd_L1 t227 x318_3).length : Int) := of_decide_eq_true (by first | (with_reducible assumption) | assumption)
     obtain ⟨ad280, e280, hx280_0⟩ := Kd.at_int (by repeat (first | (with_reducible exact HR276_0.out) | (with_reducible refine Kd.C_alloc ?_ _) | (with_reducible refine Kd.C_drewN ?_ _) | (with_reducible refine Kd.C_drew ?_) | exact HR276_0.out)) 0 p280 q280
     obtain rfl : ad277 = ad280 := (by injection e280)
     have qi280 : (0 < (rd_L1 t227 x318_3).length) = True := eq_true (by omega)
     (try rw [show ((0 : Int)).toNat = 0 from rfl] at hx280_0)
     (try rw [Addr.add_zero'] at hx280_0)
     replace p280 := eq_true p280
     replace q280 := eq_true q280
     have p281 : 0 ≤ (0 : Int) := (by omega)
     have q281 : 0 < ((rd_L1 t227 x318_3).length : Int) := of_decide_eq_true (by first | (with_reducible assumption) | assumption)
     obtain ⟨ad281, e281, hx281_0⟩ := Kd.at_int (by repeat (first | (with_reducible exact HR276_0.out) | (with_reducible refine Kd.C_alloc ?_ _) | (with_reducible refine Kd.C_drewN ?_ _) | (with_reducible refine Kd.C_drew ?_) | exact HR276_0.out)) 0 p281 q281
     obtain rfl : ad277 = ad281 := (by injection e281)
     have qi281 : (0 < (rd_L1 t227 x318_3).length) = True := eq_true (by omega)
     (try rw [show ((0 : Int)).toNat = 0 from rfl] at hx281_0)
     (try rw [Addr.add_zero'] at hx281_0)
     replace p281 := eq_true p281
     replace q281 := eq_true q281
     have p282 : 0 ≤ (0 : Int) := (by omega)
     have q282 : 0 < ((rd_L1 t227 x318_3).length : Int) := of_decide_eq_true (by first | (with_reducible assumption) | assumption)
     obtain ⟨ad282, e282, hx282_0⟩ := Kd.at_int (by repeat (first | (with_reducible exact HR276_0.out) | (with_reducible refine Kd.C_alloc ?_ _) | (with_reducible refine Kd.C_drewN ?_ _) | (with_reducible refine Kd.C_drew ?_) | exact HR276_0.out)) 0 p282 q282
     obtain rfl : ad277 = ad282 := (by injection e282)
     have qi282 : (0 < (rd_L1 t227 x318_3).length) = True := eq_true (by omega)
     (try rw [show ((0 : Int)).toNat = 0 from rfl] at hx282_0)
     (try rw [Addr.add_zero'] at hx282_0)
     replace p282 := eq_true p282
     replace q282 := eq_true q282
     have p283 : 0 ≤ (1 : Int) := (by omega)
     have q283 : 1 < ((rd_L1 t227 x318_3).length : Int) := of_decide_eq_true (by first | (with_reducible assumption) | assumption)
     obtain ⟨ad283, e283, hx283_0⟩ := Kd.at_int (by repeat (first | (with_reducible exact HR276_0.out) | (with_reducible refine Kd.C_alloc ?_ _) | (with_reducible refine Kd.C_drewN ?_ _) | (with_reducible refine Kd.C_drew ?_) | exact HR276_0.out)) 1 p283 q283
     obtain rfl : ad277 = ad283 := (by injection e283)
     (try simp only [show (1 : Int).toNat = 1 from rfl, Nat.reduceMul, Nat.reduceEqDiff, Go.Addr.add, ↓reduceIte] at hx283_0)
     have qi283 : (1 < (rd_L1 t227 x318_3).length) = True := eq_true (by omega)
     (try rw [show ((1 : Int)).toNat = 1 from rfl] at hx283_0)
     replace p283 := eq_true p283
     replace q283 := eq_true q283
     have p284 : 0 ≤ (0 : Int) := (by omega)
     have q284 : 0 < ((rd_L1 t227 x318_3).length : Int) := of_decide_eq_true (by first | (with_reducible assumption) | assumption)
     obtain ⟨ad284, e284, hx284_0⟩ := Kd.at_int (by repeat (first | (with_reducible exact HR276_0.out) | (with_reducible refine Kd.C_alloc ?_ _) | (with_reducible refine Kd.C_drewN ?_ _) | (with_reducible refine Kd.C_drew ?_) | exact HR276_0.out)) 0 p284 q284
     obtain rfl : ad277 = ad284 := (by injection e284)
     have qi284 : (0 < (rd_L1 t227 x318_3).length) = True := eq_true (by omega)
     (try rw [show ((0 : Int)).toNat = 0 from rfl] at hx284_0)
     (try rw [Addr.add_zero'] at hx284_0)
     replace p284 := eq_true p284
     replace q284 := eq_true q284
     have p285 : 0 ≤ (1 : Int) := (by omega)
     have q285 : 1 < ((rd_L1 t227 x318_3).length : Int) := of_decide_eq_true (by first | (with_reducible assumption) | assumption)
     obtain ⟨ad285, e285, hx285_0⟩ := Kd.at_int (by repeat (first | (with_reducible exact HR276_0.out) | (with_reducible refine Kd.C_alloc ?_ _) | (with_reducible refine Kd.C_drewN ?_ _) | (with_reducible refine Kd.C_drew ?_) | exact HR276_0.out)) 1 p285 q285
     obtain rfl : ad277 = ad285 := (by injection e285)
     (try simp only [show (1 : Int).toNat = 1 from rfl, Nat.reduceMul, Nat.reduceEqDiff, Go.Addr.add, ↓reduceIte] at hx285_0)
     have qi285 : (1 < (rd_L1 t227 x318_3).length) = True := eq_true (by omega)
     (try rw [show ((1 : Int)).toNat = 1 from rfl] at hx285_0)
     replace p285 := eq_true p285
     replace q285 := eq_true q285
     have p295 : 0 ≤ (1 : Int) := (by omega)
     have q295 : 1 < ((rd_L1 t227 x318_3).length : Int) := of_decide_eq_true (by first | (with_reducible assumption) | assumption)
     obtain ⟨ad295, e295, hx295_0⟩ := Kd.at_int (by repeat (first | (with_reducible exact HR276_0.out) | (with_reducible refine Kd.C_alloc ?_ _) | (with_reducible refine Kd.C_drewN ?_ _) | (with_reducible refine Kd.C_drew ?_) | exact HR276_0.out)) 1 p295 q295
     obtain rfl : ad277 = ad295 := (by injection e295)
     (try simp only [show (1 : Int).toNat = 1 from rfl, Nat.reduceMul, Nat.reduceEqDiff, Go.Addr.add, ↓reduceIte] at hx295_0)
     have qi295 : (1 < (rd_L1 t227 x318_3).length) = True := eq_true (by omega)
     (try rw [show ((1 : Int)).toNat = 1 from rfl] at hx295_0)
     replace p295 := eq_true p295
     replace q295 := eq_true q295
     go_wp2_with (first | (go_at_call 18; (with_reducible refine (impl_GreatestHollow.calls k3 a0 (rd (rd_L1 t227 x318_3) 1) t296 t297 true _ A102.out).mono ?_); rintro e w' ⟨rfl, ⟨nd, rfl⟩⟩; (try first | exact ⟨rfl, _, World.drewN_drewN _ _ _⟩ | exact ⟨rfl, _, Eq.trans (World.drewN_drewN _ _ _) (congrArg (World.drewN _) (Nat.add_assoc _ _ _))⟩); have p299 : 0 ≤ (1 : Int) := (by omega); have q299 : 1 < ((rd_L1 t227 x318_3).length : Int) := of_decide_eq_true (by first | (with_reducible assumption) | assumption); obtain ⟨ad299, e299, hx299_0⟩ := Kd.at_int (by repeat (first | (with_reducible exact HR276_0.out) | (with_reducible refine Kd.C_alloc ?_ _) | (with_reducible refine Kd.C_drewN ?_ _) | (with_reducible refine Kd.C_drew ?_) | exact HR276_0.out)) 1 p299 q299; obtain rfl : ad277 = ad299 := (by injection e299); (try simp only [show (1 : Int).toNat = 1 from rfl, Nat.reduceMul, Nat.reduceEqDiff, Go.Addr.add, ↓reduceIte] at hx299_0); have qi299 : (1 < (rd_L1 t227 x318_3).length) = True := eq_true (by omega); (try rw [show ((1 : Int)).toNat = 1 from rfl] at hx299_0); replace p299 := eq_true p299; replace q299 := eq_true q299; have p300 : 0 ≤ (0 : Int) := (by omega); have q300 : 0 < ((rd_L1 t227 x318_3).length : Int) := of_decide_eq_true (by first | (with_reducible assumption) | assumption); obtain ⟨ad300, e300, hx300_0⟩ := Kd.at_int (by repeat (first | (with_reducible exact HR276_0.out) | (with_reducible refine Kd.C_alloc ?_ _) | (with_reducible refine Kd.C_drewN ?_ _) | (with_reducible refine Kd.C_drew ?_) | exact HR276_0.out)) 0 p300 q300; obtain rfl : ad277 = ad300 := (by injection e300); have qi300 : (0 < (rd_L1 t227 x318_3).length) = True := eq_true (by omega); (try rw [show ((0 : Int)).toNat = 0 from rfl] at hx300_0); (try rw [Addr.add_zero'] at hx300_0); replace p300 := eq_true p300; replace q300 := eq_true q300))
     repeat (go_quiet (first | (go_at_call 18; (with_reducible refine (impl_GreatestHollow.calls k3 a0 (rd (rd_L1 t227 x318_3) 1) t296 t297 true _ A102.out).mono ?_); rintro e w' ⟨rfl, ⟨nd, rfl⟩⟩; (try first | exact ⟨rfl, _, World.drewN_drewN _ _ _⟩ | exact ⟨rfl, _, Eq.trans (World.drewN_drewN _ _ _) (congrArg (World.drewN _) (Nat.add_assoc _ _ _))⟩); have p299 : 0 ≤ (1 : Int) := (by omega); have q299 : 1 < ((rd_L1 t227 x318_3).length : Int) := of_decide_eq_true (by first | (with_reducible assumption) | assumption); obtain ⟨ad299, e299, hx299_0⟩ := Kd.at_int (by repeat (first | (with_reducible exact HR276_0.out) | (with_reducible refine Kd.C_alloc ?_ _) | (with_reducible refine Kd.C_drewN ?_ _) | (with_reducible refine Kd.C_drew ?_) | exact HR276_0.out)) 1 p299 q299; obtain rfl : ad277 = ad299 := (by injection e299); (try simp only [show (1 : Int).toNat = 1 from rfl, Nat.reduceMul, Nat.reduceEqDiff, Go.Addr.add, ↓reduceIte] at hx299_0); have qi299 : (1 < (rd_L1 t227 x318_3).length) = True := eq_true (by omega); (try rw [show ((1 : Int)).toNat = 1 from rfl] at hx299_0); replace p299 := eq_true p299; replace q299 := eq_true q299; have p300 : 0 ≤ (0 : Int) := (by omega); have q300 : 0 < ((rd_L1 t227 x318_3).length : Int) := of_decide_eq_true (by first | (with_reducible assumption) | assumption); obtain ⟨ad300, e300, hx300_0⟩ := Kd.at_int (by repeat (first | (with_reducible exact HR276_0.out) | (with_reducible refine Kd.C_alloc ?_ _) | (with_reducible refine Kd.C_drewN ?_ _) | (with_reducible refine Kd.C_drew ?_) | exact HR276_0.out)) 0 p300 q300; obtain rfl : ad277 = ad300 := (by injection e300); have qi300 : (0 < (rd_L1 t227 x318_3).length) = True := eq_true (by omega); (try rw [show ((0 : Int)).toNat = 0 from rfl] at hx300_0); (try rw [Addr.add_zero'] at hx300_0); replace p300 := eq_true p300; replace q300 := eq_true q300)); try go_wp2_with (first | (go_at_call 18; (with_reducible refine (impl_GreatestHollow.calls k3 a0 (rd (rd_L1 t227 x318_3) 1) t296 t297 true _ A102.out).mono ?_); rintro e w' ⟨rfl, ⟨nd, rfl⟩⟩; (try first | exact ⟨rfl, _, World.drewN_drewN _ _ _⟩ | exact ⟨rfl, _, Eq.trans (World.drewN_drewN _ _ _) (congrArg (World.drewN _) (Nat.add_assoc _ _ _))⟩); have p299 : 0 ≤ (1 : Int) := (by omega); have q299 : 1 < ((rd_L1 t227 x318_3).length : Int) := of_decide_eq_true (by first | (with_reducible assumption) | assumption); obtain ⟨ad299, e299, hx299_0⟩ := Kd.at_int (by repeat (first | (with_reducible exact HR276_0.out) | (with_reducible refine Kd.C_alloc ?_ _) | (with_reducible refine Kd.C_drewN ?_ _) | (with_reducible refine Kd.C_drew ?_) | exact HR276_0.out)) 1 p299 q299; obtain rfl : ad277 = ad299 := (by injection e299); (try simp only [show (1 : Int).toNat = 1 from rfl, Nat.reduceMul, Nat.reduceEqDiff, Go.Addr.add, ↓reduceIte] at hx299_0); have qi299 : (1 < (rd_L1 t227 x318_3).length) = True := eq_true (by omega); (try rw [show ((1 : Int)).toNat = 1 from rfl] at hx299_0); replace p299 := eq_true p299; replace q299 := eq_true q299; have p300 : 0 ≤ (0 : Int) := (by omega); have q300 : 0 < ((rd_L1 t227 x318_3).length : Int) := of_decide_eq_true (by first | (with_reducible assumption) | assumption); obtain ⟨ad300, e300, hx300_0⟩ := Kd.at_int (by repeat (first | (with_reducible exact HR276_0.out) | (with_reducible refine Kd.C_alloc ?_ _) | (with_reducible refine Kd.C_drewN ?_ _) | (with_reducible refine Kd.C_drew ?_) | exact HR276_0.out)) 0 p300 q300; obtain rfl : ad277 = ad300 := (by injection e300); have qi300 : (0 < (rd_L1 t227 x318_3).length) = True := eq_true (by omega); (try rw [show ((0 : Int)).toNat = 0 from rfl] at hx300_0); (try rw [Addr.add_zero'] at hx300_0); replace p300 := eq_true p300; replace q300 := eq_true q300)))
     go_roundg k3
     case measure => have := HJ22.out; have := HK2.out; have := HK3.out; omega
     case rel => exact ⟨(wrap64 (x318_3 + 1)), (by first | rfl | (simp; done) | (simp [*]; done)), H', ⟨by have := HJ22.out; have := HK2.out; have := HK3.out; omega⟩, ⟨by (with_reducible repeat (first | apply Kd.S_alloc | apply Kd.S_drewN | apply Kd.S_drew)); exact HO_21.out⟩, ⟨by (with_reducible repeat (first | apply Kd.S_alloc | apply Kd.S_drewN | apply Kd.S_drew)); exact HO_25.out⟩, ⟨by (with_reducible repeat (first | apply Kd.S_alloc | apply Kd.S_drewN | apply Kd.S_drew)); exact HO_41.out⟩, ⟨by (with_reducible repeat (first | apply Kd.R_alloc | apply Kd.R_drewN | apply Kd.R_drew)); exact HO_45.out⟩, ⟨by (with_reducible repeat (first | apply Kd.S_alloc | apply Kd.S_drewN | apply Kd.S_drew)); exact HO_316.out⟩, ⟨by repeat (first | (with_reducible first | exact HB.out | apply below_alloc | apply pw_below_drewN | apply below_drew1) | exact HB.out)⟩⟩
    ·
     rw [if_neg c106] at H
     exact absurd (H.trans (congrArg some HE_.out)) (by simp)
   ·
    rw [if_neg c105] at H
    exact absurd (H.trans (congrArg some HE_.out)) (by simp)
  ·
   replace c104 := Bool.eq_false_iff.mpr c104
   subst c104
   have H1 : (some false) = some r := by rw [if_neg (show ¬ (false = true) by decide)] at H; exact H
   clear H
   have H := H1
   clear H1
   exact absurd (H.trans (congrArg some HE_.out)) (by simp)
 ·
  rw [if_neg c103] at H
  have c103b0 : decide ((rd (rd_L1 t227 x318_3) 1) ≤ 1000) = false := decide_eq_false c103
  clear c103
  have H' := Aside0.mk H
  clear H
  have p276 : 0 ≤ (x318_3 : Int) := of_decide_eq_true (by first | (with_reducible assumption) | assumption)
  have q276 : x318_3 < (t227.length : Int) := of_decide_eq_true (by first | (with_reducible assumption) | assumption)
  obtain ⟨ad276, A276_0, c276_0, e276, hx276_0, hl276_0, hi276_0⟩ := at_L1 (Kd.S_reads' HO_316.out).2.2 x318_3 p276 q276
  cases e276
  obtain ⟨ce276, hce276, hMe276, hcc276⟩ := Kd.S_get HO_316.out [] x318_3 p276 (by first | exact q276 | exact of_decide_eq_true (by first | (with_reducible assumption) | assumption) | (have e_ := (Kd.S_reads' HO_316.out).1; omega))
  obtain ⟨ve276_0, rfl, ge276_0⟩ := hMe276
  have hv276_0 := hcc276 0 _ rfl
  rw [Nat.add_zero, show ((Kd.slice 3 (Kd.int .i64))).sz = 1 from rfl, Nat.mul_one] at hv276_0
  replace hv276_0 := Option.some.inj (hv276_0.symm.trans hx276_0)
  rw [hv276_0] at ge276_0
  have HL276_0 := Aside0.mk (show Kd.R (Kd.int .i64) 3 _ _ _ _ (rd_L1 t227 x318_3) from ge276_0)
  clear hv276_0 ge276_0
  clear hcc276 hce276
  have HR276_0 := Aside0.mk hi276_0
  have HC276_0 := Aside0.mk hl276_0
  clear hi276_0 hl276_0
  replace p276 := eq_true p276
  replace q276 := eq_true q276
  have p277 : 0 ≤ (1 : Int) := (by omega)
  have q277 : 1 < ((rd_L1 t227 x318_3).length : Int) := of_decide_eq_true (by first | (with_reducible assumption) | assumption)
  obtain ⟨ad277, e277, hx277_0⟩ := Kd.at_int (by repeat (first | (with_reducible exact HR276_0.out) | (with_reducible refine Kd.C_alloc ?_ _) | (with_reducible refine Kd.C_drewN ?_ _) | (with_reducible refine Kd.C_drew ?_) | exact HR276_0.out)) 1 p277 q277
  cases e277
  (try simp only [show (1 : Int).toNat = 1 from rfl, Nat.reduceMul, Nat.reduceEqDiff, Go.Addr.add, ↓reduceIte] at hx277_0)
  have qi277 : (1 < (rd_L1 t227 x318_3).length) = True := eq_true (by omega)
  (try rw [show ((1 : Int)).toNat = 1 from rfl] at hx277_0)
  replace p277 := eq_true p277
  replace q277 := eq_true q277
  have p278 : 0 ≤ (0 : Int) := (by omega)
  have q278 : 0 < ((rd_L1 t227 x318_3).length : Int) := of_decide_eq_true (by first | (with_reducible assumption) | assumption)
  obtain ⟨ad278, e278, hx278_0⟩ := Kd.at_int (by repeat (first | (with_reducible exact HR276_0.out) | (with_reducible refine Kd.C_alloc ?_ _) | (with_reducible refine Kd.C_drewN ?_ _) | (with_reducible refine Kd.C_drew ?_) | exact HR276_0.out)) 0 p278 q278
  obtain rfl : ad277 = ad278 := (by injection e278)
  have qi278 : (0 < (rd_L1 t227 x318_3).length) = True := eq_true (by omega)
  (try rw [show ((0 : Int)).toNat = 0 from rfl] at hx278_0)
  (try rw [Addr.add_zero'] at hx278_0)
  replace p278 := eq_true p278
  replace q278 := eq_true q278
  have p279 : 0 ≤ (1 : Int) := (by omega)
  have q279 : 1 < ((rd_L1 t227 x318_3).length : Int) := of_decide_eq_true (by first | (with_reducible assumption) | assumption)
  obtain ⟨ad279, e279, hx279_0⟩ := Kd.at_int (by repeat (first | (with_reducible exact HR276_0.out) | (with_reducible refine Kd.C_alloc ?_ _) | (with_reducible refine Kd.C_drewN ?_ _) | (with_reducible refine Kd.C_drew ?_) | exact HR276_0.out)) 1 p279 q279
  obtain rfl : ad277 = ad279 := (by injection e279)
  (try simp only [show (1 : Int).toNat = 1 from rfl, Nat.reduceMul, Nat.reduceEqDiff, Go.Addr.add, ↓reduceIte] at hx279_0)
  have qi279 : (1 < (rd_L1 t227 x318_3).length) = True := eq_true (by omega)
  (try rw [show ((1 : Int)).toNat = 1 from rfl] at hx279_0)
  replace p279 := eq_true p279
  replace q279 := eq_true q279
  have p280 : 0 ≤ (0 : Int) := (by omega)
  have q280 : 0 < ((rd_L1 t227 x318_3).length : Int) := of_decide_eq_true (by first | (with_reducible assumption) | assumption)
  obtain ⟨ad280, e280, hx280_0⟩ := Kd.at_int (by repeat (first | (with_reducible exact HR276_0.out) | (with_reducible refine Kd.C_alloc ?_ _) | (with_reducible refine Kd.C_drewN ?_ _) | (with_reducible refine Kd.C_drew ?_) | exact HR276_0.out)) 0 p280 q280
  obtain rfl : ad277 = ad280 := (by injection e280)
  have qi280 : (0 < (rd_L1 t227 x318_3).length) = True := eq_true (by omega)
  (try rw [show ((0 : Int)).toNat = 0 from rfl] at hx280_0)
  (try rw [Addr.add_zero'] at hx280_0)
  replace p280 := eq_true p280
  replace q280 := eq_true q280
  have p281 : 0 ≤ (0 : Int) := (by omega)
  have q281 : 0 < ((rd_L1 t227 x318_3).length : Int) := of_decide_eq_true (by first | (with_reducible assumption) | assumption)
  obtain ⟨ad281, e281, hx281_0⟩ := Kd.at_int (by repeat (first | (with_reducible exact HR276_0.out) | (with_reducible refine Kd.C_alloc ?_ _) | (with_reducible refine Kd.C_drewN ?_ _) | (with_reducible refine Kd.C_drew ?_) | exact HR276_0.out)) 0 p281 q281
  obtain rfl : ad277 = ad281 := (by injection e281)
  have qi281 : (0 < (rd_L1 t227 x318_3).length) = True := eq_true (by omega)
  (try rw [show ((0 : Int)).toNat = 0 from rfl] at hx281_0)
  (try rw [Addr.add_zero'] at hx281_0)
  replace p281 := eq_true p281
  replace q281 := eq_true q281
  have p282 : 0 ≤ (0 : Int) := (by omega)
  have q282 : 0 < ((rd_L1 t227 x318_3).length : Int) := of_decide_eq_true (by first | (with_reducible assumption) | assumption)
  obtain ⟨ad282, e282, hx282_0⟩ := Kd.at_int (by repeat (first | (with_reducible exact HR276_0.out) | (with_reducible refine Kd.C_alloc ?_ _) | (with_reducible refine Kd.C_drewN ?_ _) | (with_reducible refine Kd.C_drew ?_) | exact HR276_0.out)) 0 p282 q282
  obtain rfl : ad277 = ad282 := (by injection e282)
  have qi282 : (0 < (rd_L1 t227 x318_3).length) = True := eq_true (by omega)
  (try rw [show ((0 : Int)).toNat = 0 from rfl] at hx282_0)
  (try rw [Addr.add_zero'] at hx282_0)
  replace p282 := eq_true p282
  replace q282 := eq_true q282
  have p283 : 0 ≤ (1 : Int) := (by omega)
  have q283 : 1 < ((rd_L1 t227 x318_3).length : Int) := of_decide_eq_true (by first | (with_reducible assumption) | assumption)
  obtain ⟨ad283, e283, hx283_0⟩ := Kd.at_int (by repeat (first | (with_reducible exact HR276_0.out) | (with_reducible refine Kd.C_alloc ?_ _) | (with_reducible refine Kd.C_drewN ?_ _) | (with_reducible refine Kd.C_drew ?_) | exact HR276_0.out)) 1 p283 q283
  obtain rfl : ad277 = ad283 := (by injection e283)
  (try simp only [show (1 : Int).toNat = 1 from rfl, Nat.reduceMul, Nat.reduceEqDiff, Go.Addr.add, ↓reduceIte] at hx283_0)
  have qi283 : (1 < (rd_L1 t227 x318_3).length) = True := eq_true (by omega)
  (try rw [show ((1 : Int)).toNat = 1 from rfl] at hx283_0)
  replace p283 := eq_true p283
  replace q283 := eq_true q283
  have p284 : 0 ≤ (0 : Int) := (by omega)
  have q284 : 0 < ((rd_L1 t227 x318_3).length : Int) := of_decide_eq_true (by first | (with_reducible assumption) | assumption)
  obtain ⟨ad284, e284, hx284_0⟩ := Kd.at_int (by repeat (first | (with_reducible exact HR276_0.out) | (with_reducible refine Kd.C_alloc ?_ _) | (with_reducible refine Kd.C_drewN ?_ _) | (with_reducible refine Kd.C_drew ?_) | exact HR276_0.out)) 0 p284 q284
  obtain rfl : ad277 = ad284 := (by injection e284)
  have qi284 : (0 < (rd_L1 t227 x318_3).length) = True := eq_true (by omega)
  (try rw [show ((0 : Int)).toNat = 0 from rfl] at hx284_0)
  (try rw [Addr.add_zero'] at hx284_0)
  replace p284 := eq_true p284
  replace q284 := eq_true q284
  have p285 : 0 ≤ (1 : Int) := (by omega)
  have q285 : 1 < ((rd_L1 t227 x318_3).length : Int) := of_decide_eq_true (by first | (with_reducible assumption) | assumption)
  obtain ⟨ad285, e285, hx285_0⟩ := Kd.at_int (by repeat (first | (with_reducible exact HR276_0.out) | (with_reducible refine Kd.C_alloc ?_ _) | (with_reducible refine Kd.C_drewN ?_ _) | (with_reducible refine Kd.C_drew ?_) | exact HR276_0.out)) 1 p285 q285
  obtain rfl : ad277 = ad285 := (by injection e285)
  (try simp only [show (1 : Int).toNat = 1 from rfl, Nat.reduceMul, Nat.reduceEqDiff, Go.Addr.add, ↓reduceIte] at hx285_0)
  have qi285 : (1 < (rd_L1 t227 x318_3).length) = True := eq_true (by omega)
  (try rw [show ((1 : Int)).toNat = 1 from rfl] at hx285_0)
  replace p285 := eq_true p285
  replace q285 := eq_true q285
  have p295 : 0 ≤ (1 : Int) := (by omega)
  have q295 : 1 < ((rd_L1 t227 x318_3).length : Int) := of_decide_eq_true (by first | (with_reducible assumption) | assumption)
  obtain ⟨ad295, e295, hx295_0⟩ := Kd.at_int (by repeat (first | (with_reducible exact HR276_0.out) | (with_reducible refine Kd.C_alloc ?_ _) | (with_reducible refine Kd.C_drewN ?_ _) | (with_reducible refine Kd.C_drew ?_) | exact HR276_0.out)) 1 p295 q295
  obtain rfl : ad277 = ad295 := (by injection e295)
  (try simp only [show (1 : Int).toNat = 1 from rfl, Nat.reduceMul, Nat.reduceEqDiff, Go.Addr.add, ↓reduceIte] at hx295_0)
  have qi295 : (1 < (rd_L1 t227 x318_3).length) = True := eq_true (by omega)
  (try rw [show ((1 : Int)).toNat = 1 from rfl] at hx295_0)
  replace p295 := eq_true p295
  replace q295 := eq_true q295
  go_wp2_with (first | (go_at_call 18; (with_reducible refine (impl_GreatestHollow.calls k3 a0 (rd (rd_L1 t227 x318_3) 1) t296 t297 t298 _ A102.out).mono ?_); rintro e w' ⟨rfl, ⟨nd, rfl⟩⟩; (try first | exact ⟨rfl, _, World.drewN_drewN _ _ _⟩ | exact ⟨rfl, _, Eq.trans (World.drewN_drewN _ _ _) (congrArg (World.drewN _) (Nat.add_assoc _ _ _))⟩); have p299 : 0 ≤ (1 : Int) := (by omega); have q299 : 1 < ((rd_L1 t227 x318_3).length : Int) := of_decide_eq_true (by first | (with_reducible assumption) | assumption); obtain ⟨ad299, e299, hx299_0⟩ := Kd.at_int (by repeat (first | (with_reducible exact HR276_0.out) | (with_reducible refine Kd.C_alloc ?_ _) | (with_reducible refine Kd.C_drewN ?_ _) | (with_reducible refine Kd.C_drew ?_) | exact HR276_0.out)) 1 p299 q299; obtain rfl : ad277 = ad299 := (by injection e299); (try simp only [show (1 : Int).toNat = 1 from rfl, Nat.reduceMul, Nat.reduceEqDiff, Go.Addr.add, ↓reduceIte] at hx299_0); have qi299 : (1 < (rd_L1 t227 x318_3).length) = True := eq_true (by omega); (try rw [show ((1 : Int)).toNat = 1 from rfl] at hx299_0); replace p299 := eq_true p299; replace q299 := eq_true q299))
  repeat (go_quiet (first | (go_at_call 18; (with_reducible refine (impl_GreatestHollow.calls k3 a0 (rd (rd_L1 t227 x318_3) 1) t296 t297 t298 _ A102.out).mono ?_); rintro e w' ⟨rfl, ⟨nd, rfl⟩⟩; (try first | exact ⟨rfl, _, World.drewN_drewN _ _ _⟩ | exact ⟨rfl, _, Eq.trans (World.drewN_drewN _ _ _) (congrArg (World.drewN _) (Nat.add_assoc _ _ _))⟩); have p299 : 0 ≤ (1 : Int) := (by omega); have q299 : 1 < ((rd_L1 t227 x318_3).length : Int) := of_decide_eq_true (by first | (with_reducible assumption) | assumption); obtain ⟨ad299, e299, hx299_0⟩ := Kd.at_int (by repeat (first | (with_reducible exact HR276_0.out) | (with_reducible refine Kd.C_alloc ?_ _) | (with_reducible refine Kd.C_drewN ?_ _) | (with_reducible refine Kd.C_drew ?_) | exact HR276_0.out)) 1 p299 q299; obtain rfl : ad277 = ad299 := (by injection e299); (try simp only [show (1 : Int).toNat = 1 from rfl, Nat.reduceMul, Nat.reduceEqDiff, Go.Addr.add, ↓reduceIte] at hx299_0); have qi299 : (1 < (rd_L1 t227 x318_3).length) = True := eq_true (by omega); (try rw [show ((1 : Int)).toNat = 1 from rfl] at hx299_0); replace p299 := eq_true p299; replace q299 := eq_true q299)); try go_wp2_with (first | (go_at_call 18; (with_reducible refine (impl_GreatestHollow.calls k3 a0 (rd (rd_L1 t227 x318_3) 1) t296 t297 t298 _ A102.out).mono ?_); rintro e w' ⟨rfl, ⟨nd, rfl⟩⟩; (try first | exact ⟨rfl, _, World.drewN_drewN _ _ _⟩ | exact ⟨rfl, _, Eq.trans (World.drewN_drewN _ _ _) (congrArg (World.drewN _) (Nat.add_assoc _ _ _))⟩); have p299 : 0 ≤ (1 : Int) := (by omega); have q299 : 1 < ((rd_L1 t227 x318_3).length : Int) := of_decide_eq_true (by first | (with_reducible assumption) | assumption); obtain ⟨ad299, e299, hx299_0⟩ := Kd.at_int (by repeat (first | (with_reducible exact HR276_0.out) | (with_reducible refine Kd.C_alloc ?_ _) | (with_reducible refine Kd.C_drewN ?_ _) | (with_reducible refine Kd.C_drew ?_) | exact HR276_0.out)) 1 p299 q299; obtain rfl : ad277 = ad299 := (by injection e299); (try simp only [show (1 : Int).toNat = 1 from rfl, Nat.reduceMul, Nat.reduceEqDiff, Go.Addr.add, ↓reduceIte] at hx299_0); have qi299 : (1 < (rd_L1 t227 x318_3).length) = True := eq_true (by omega); (try rw [show ((1 : Int)).toNat = 1 from rfl] at hx299_0); replace p299 := eq_true p299; replace q299 := eq_true q299)))
  go_roundg k3
  case measure => have := HJ22.out; have := HK2.out; have := HK3.out; omega
  case rel => exact ⟨(wrap64 (x318_3 + 1)), (by first | rfl | (simp; done) | (simp [*]; done)), H', ⟨by have := HJ22.out; have := HK2.out; have := HK3.out; omega⟩, ⟨by (with_reducible repeat (first | apply Kd.S_alloc | apply Kd.S_drewN | apply Kd.S_drew)); exact HO_21.out⟩, ⟨by (with_reducible repeat (first | apply Kd.S_alloc | apply Kd.S_drewN | apply Kd.S_drew)); exact HO_25.out⟩, ⟨by (with_reducible repeat (first | apply Kd.S_alloc | apply Kd.S_drewN | apply Kd.S_drew)); exact HO_41.out⟩, ⟨by (with_reducible repeat (first | apply Kd.R_alloc | apply Kd.R_drewN | apply Kd.R_drew)); exact HO_45.out⟩, ⟨by (with_reducible repeat (first | apply Kd.S_alloc | apply Kd.S_drewN | apply Kd.S_drew)); exact HO_316.out⟩, ⟨by repeat (first | (with_reducible first | exact HB.out | apply below_alloc | apply pw_below_drewN | apply below_drew1) | exact HB.out)⟩⟩
end Go.Proofs.YtgdmbhldabeelaaR.PFnFormsStandOfAll
