-- Written by a program of this session's (pg.py) over the kit's print.
import Derived.Test.YtgdmbhldabeelaaRDoorPFnDrillsMistakenOfAllx0
import Derived.Test.YtgdmbhldabeelaaRDoorPFnDrillsMistakenOfAllx3
import Derived.Test.YtgdmbhldabeelaaRDoorPFnDrillsMistakenOfAllx6
import Derived.Test.YtgdmbhldabeelaaRDoorPFnDrillsMistakenOfAllx7
import Derived.Test.YtgdmbhldabeelaaRDoorPFnDrillsMistakenOfAllx8
import Derived.Test.YtgdmbhldabeelaaRDoorPFnDrillsMistakenOfAllx9
import Derived.Test.YtgdmbhldabeelaaRDoorPFnDrillsMistakenOfAllx10
import Derived.Deep.CutRange
import Derived.Test.YtgdmbhldabeelaaRDoorPFnDrillsMistakenOfAllx11
namespace Go.Proofs.YtgdmbhldabeelaaRDoor.PFnDrillsMistakenOfAll
open Go.RowKit Go.Proofs.YtgdmbhldabeelaaRDoorW.PrintWords Go.Proofs.YtgdmbhldabeelaaRDoorW.PrintLast Go.Proofs.YtgdmbhldabeelaaRDoorW.PrintMore
attribute [local go_sem] max2_int min2_int max_two min_two max_three min_three max_four min_four   -- for this text's walks alone
set_option linter.unusedVariables false
set_option linter.unusedSimpArgs false


set_option maxHeartbeats 8000000 in
set_option maxRecDepth 100000 in
def laws_FnDrillsMistakenOfAll.part8 : Σ' (R1 R2 : Prop), PLift R1 → PLift R2 → (laws_FnDrillsMistakenOfAll.part4.2.1) := by
 refine' ⟨_, _, fun hole1 hole2 => _⟩
 rotate_left 2
 ·
  conv => whnf
  intro l2 l8 a0 a1 a3 a7 t233 t235 t245 t247 A2 A8 t237 t241 r HE_ t234 t236 t238 t242 t246 t248 k c2 HC2 c8 HC8 kj9 HJ9 A17 A18 A19 A20 A21 A22 kj22 HJ22 a4 a5 a6 HC41 K u53 u54 u55 u56 u57 u58 u59 u60 u61 u62 u63 u64 u65 u66 u67 u68 u69 u70 u71 u72 u73 u74 u75 u76 u77 u78 u79 v239 v243 u80 u81 u82 u83 u84 u85 u86 u87 u88 u89 u90 u91 u92 u93 u94 u95 u96 u97 u98 u99 u100 u101 u102 u103 u104 u105 u106 u107 u108 u109 u110 u111 u112 u113 u114 u115 u116 u117 u118 u119 u120 u121 u122 u123 u124 u125 u126 u127 u128 u129 u130 u131 u132 u133 u134 u135 u136 u137 u138 u139 u140 u141 u142 u143 u144 u145 u146 u147 u148 u149 u150 u151 u152 u153 u154 u155 u156 u157 u158 u159 u160 u18 u31 u32 u33 u34 u35 u36 u37 u39 u80 u81 u82 u83 u84 u85 u86 u87 u88 u89 u90 u91 u92 u93 u94 u95 u96 u97 u98 u99 u100 u101 u102 u103 u104 u105 u106 u107 u108 u109 u110 u111 u112 u113 u114 u115 u116 u117 u118 u119 u120 u121 u122 u123 u124 u125 u126 u127 u128 u129 u130 u131 u132 u133 u134 u135 u136 u137 u138 u139 u140 u141 u142 u143 u144 u145 u146 u147 u148 u149 u150 u151 u152 u153 u154 u155 u156 u157 u158 u159 u160 u161 u162 u163 u164 u165 u166 u167 u168 u169 u170 u171 u172 u173 u174 u175 u176 u177 u178 u179 u180 u181 u182 u183 u184 u185 u186 u187 u188 u189 u190 u191 u192 u193 u194 u195 u196 u197 u198 u199 u200 u201 u202 u203 u204 u205 u206 u207 u208 u209 u210 u211 u212 u213 u214 u215 u216 u217 u218 u219 u220 u221 u222 u223 u224 u225 u226 u227 u228 u229 u230 u231 u232 u233 u234 u235 u236 u237 u238 u239 u240 u241 u242 u243 u244 u245 u246 u247 u248 u249 u250 u251 u252 u253 u254 u255 u256 u257 u258 u259 u260 u261 u262 u263 u264 u265 u266 u267 u268 u269 u270 u271 u272 u273 u274 u275 u276 w HR2 HR8 HB Q' a wc w24 w25 w26 w27 w28 w29 HO240 HO244 HB wc HO_23 HB wc hcut
  clear HC41
  try clear c2
  try clear c8
  try clear c16
  try clear c40
  obtain ⟨kq, HA, HJ40, HB⟩ := hcut
  cases kq with
  | zero => exact absurd HA.out (by simp [laws_FnDrillsMistakenOfAll.j4])
  | succ kj40 =>
   have H := HA.out
   clear HA
   simp only [laws_FnDrillsMistakenOfAll.j4] at H
   replace H := Option.bind_eq_some_iff.mp H
   obtain ⟨⟨t260, t261⟩, A760, H⟩ := H
   replace H : ((spec_WaysToFace.f kj40 a3 a4 a5).bind fun bt262 => (if (t261 != bt262.2) = true then (laws_FnDrillsMistakenOfAll.j5 kj40 a3 a4 a5 t260 t261 true) else (if t260 = bt262.1 then ((impl_AreMistakes.f kj40 a6 a7 l8).bind fun t264 => ((spec_AreMistakes.f kj40 a6 a7 l8).bind fun t265 => (laws_FnDrillsMistakenOfAll.j5 kj40 a3 a4 a5 t260 t261 (t264 != t265)))) else (laws_FnDrillsMistakenOfAll.j5 kj40 a3 a4 a5 t260 t261 true)))) = some r := H
   have A76 := Aside0.mk A760
   clear A760
   replace H := Option.bind_eq_some_iff.mp H
   obtain ⟨⟨t262, t263⟩, A770, H⟩ := H
   replace H : (if (t261 != t263) = true then (laws_FnDrillsMistakenOfAll.j5 kj40 a3 a4 a5 t260 t261 true) else (if t260 = t262 then ((impl_AreMistakes.f kj40 a6 a7 l8).bind fun t264 => ((spec_AreMistakes.f kj40 a6 a7 l8).bind fun t265 => (laws_FnDrillsMistakenOfAll.j5 kj40 a3 a4 a5 t260 t261 (t264 != t265)))) else (laws_FnDrillsMistakenOfAll.j5 kj40 a3 a4 a5 t260 t261 true))) = some r := H
   have A77 := Aside0.mk A770
   clear A770
   have HC78 := Aside0.mk H
   clear H
   go_upto_region 33 with (first | ((with_reducible refine gate_callee (f := 16) rfl ?_); refine goesL_ (some 281) rfl rfl Tryd.func16 (by kernel_rfl) rfl #[.string a3, .int .i64 a4, .int .i64 a5] rfl (by (try simp only [List.map_toArray, List.map_cons, List.map_nil]); first | done | rfl | (simp only [List.length_drop, List.length_take]; rfl)) ?_; (with_reducible refine (impl_WaysToFace.calls kj40 a3 a4 a5 t260 t261 _ A76.out).mono ?_); rintro e w79 ⟨rfl, hb⟩; refine ⟨_, rfl, ?_⟩; have n0_ := Aside0.mk (below_step (by repeat (first | (with_reducible first | exact HB.out | apply below_alloc | apply pw_below_drewN | apply below_drew1) | exact HB.out)) hb); clear HB; have HB := n0_; clear n0_; (try clear hb); (try clear hb2); (try clear hk); (try clear hi)) | ((with_reducible refine gate_callee (f := 17) rfl ?_); refine goesL_ (some 288) rfl rfl Tryd.func17 (by kernel_rfl) rfl #[.string a3, .int .i64 a4, .int .i64 a5] rfl (by (try simp only [List.map_toArray, List.map_cons, List.map_nil]); first | done | rfl | (simp only [List.length_drop, List.length_take]; rfl)) ?_; (with_reducible refine (spec_WaysToFace.calls kj40 a3 a4 a5 t262 t263 _ A77.out).mono ?_); rintro e w80 ⟨rfl, hb⟩; refine ⟨_, rfl, ?_⟩; have n0_ := Aside0.mk (below_step (by repeat (first | (with_reducible first | exact HB.out | apply below_alloc | apply pw_below_drewN | apply below_drew1) | exact HB.out)) hb); clear HB; have HB := n0_; clear n0_; (try clear hb); (try clear hb2); (try clear hk); (try clear hi)))
   (try simp only [Act.put, List.setIfInBounds_toArray, List.set_cons_zero, List.set_cons_succ])
   go_cut [309] from 197 to 309 (fun v309 wc => ∃ (kq : Nat) (x309_77 : Bool), v309 = .bool x309_77 ∧ Aside0 (laws_FnDrillsMistakenOfAll.j5 kq a3 a4 a5 t260 t261 x309_77 = some r) ∧ Aside0 (kq ≤ kj40) ∧ Aside0 (Below w.heap.size w wc))
   case first =>
    -- part 9
    (repeat revert ‹World›)
    (repeat revert ‹Value›)
    (repeat revert ‹Nat → Act → World → Prop›)
    (repeat revert ‹Act → World → Prop›)
    (repeat revert ‹Int›)
    (repeat revert ‹Nat›)
    (repeat revert ‹Bool›)
    (repeat revert ‹List (List Int)›)
    (repeat revert ‹List Int›)
    (repeat revert ‹Addr›)
    (repeat revert ‹Option Addr›)
    (repeat revert ‹ByteArray›)
    (repeat revert ‹List ByteArray›)
    (repeat revert ‹List (S34)›)
    exact hole1.down
   case rest =>
    -- part 10
    (repeat revert ‹World›)
    (repeat revert ‹Value›)
    (repeat revert ‹Nat → Act → World → Prop›)
    (repeat revert ‹Act → World → Prop›)
    (repeat revert ‹Int›)
    (repeat revert ‹Nat›)
    (repeat revert ‹Bool›)
    (repeat revert ‹List (List Int)›)
    (repeat revert ‹List Int›)
    (repeat revert ‹Addr›)
    (repeat revert ‹Option Addr›)
    (repeat revert ‹ByteArray›)
    (repeat revert ‹List ByteArray›)
    (repeat revert ‹List (S34)›)
    exact hole2.down

set_option maxHeartbeats 8000000 in
set_option maxRecDepth 100000 in
theorem laws_FnDrillsMistakenOfAll.part9 : laws_FnDrillsMistakenOfAll.part8.1 := by
 conv => whnf
 intro l2 l8 a0 a1 a3 a7 t233 t235 t245 t247 A2 A8 t237 t241 r HE_ t234 t236 t238 t242 t246 t248 t261 t263 k c2 HC2 c8 HC8 kj9 HJ9 A17 A18 A19 A20 A21 A22 kj22 HJ22 kj40 HJ40 a4 a5 a6 t260 A76 t262 A77 HC78 K K J K' a u53 u54 u55 u56 u57 u58 u59 u60 u61 u62 u63 u64 u65 u66 u67 u68 u69 u70 u71 u72 u73 u74 u75 u76 u77 u78 u79 v239 v243 u80 u81 u82 u83 u84 u85 u86 u87 u88 u89 u90 u91 u92 u93 u94 u95 u96 u97 u98 u99 u100 u101 u102 u103 u104 u105 u106 u107 u108 u109 u110 u111 u112 u113 u114 u115 u116 u117 u118 u119 u120 u121 u122 u123 u124 u125 u126 u127 u128 u129 u130 u131 u132 u133 u134 u135 u136 u137 u138 u139 u140 u141 u142 u143 u144 u145 u146 u147 u148 u149 u150 u151 u152 u153 u154 u155 u156 u157 u158 u159 u160 u18 u31 u32 u33 u34 u35 u36 u37 u39 u80 u81 u82 u83 u84 u85 u86 u87 u88 u89 u90 u91 u92 u93 u94 u95 u96 u97 u98 u99 u100 u101 u102 u103 u104 u105 u106 u107 u108 u109 u110 u111 u112 u113 u114 u115 u116 u117 u118 u119 u120 u121 u122 u123 u124 u125 u126 u127 u128 u129 u130 u131 u132 u133 u134 u135 u136 u137 u138 u139 u140 u141 u142 u143 u144 u145 u146 u147 u148 u149 u150 u151 u152 u153 u154 u155 u156 u157 u158 u159 u160 u161 u162 u163 u164 u165 u166 u167 u168 u169 u170 u171 u172 u173 u174 u175 u176 u177 u178 u179 u180 u181 u182 u183 u184 u185 u186 u187 u188 u189 u190 u191 u192 u193 u194 u195 u196 u197 u198 u199 u200 u201 u202 u203 u204 u205 u206 u207 u208 u209 u210 u211 u212 u213 u214 u215 u216 u217 u218 u219 u220 u221 u222 u223 u224 u225 u226 u227 u228 u229 u230 u231 u232 u233 u234 u235 u236 u237 u238 u239 u240 u241 u242 u243 u244 u245 u246 u247 u248 u249 u250 u251 u252 u253 u254 u255 u256 u257 u258 u259 u260 u261 u262 u263 u264 u265 u266 u267 u268 u269 u270 u271 u272 u273 u274 u275 u276 w HR2 HR8 HB Q' a a a wc w24 w25 w26 w27 w28 w29 HO240 HO244 HB wc HO_23 HB wc w79 w80 HB
 have H := HC78.out
 clear HC78
 by_cases c81 : (t261 != t263) = true
 ·
  rw [if_pos c81] at H
  exact (laws_FnDrillsMistakenOfAll.j5_no _ _ _ _ _ _ (H.trans (congrArg some HE_.out))).elim
 ·
  rw [if_neg c81] at H
  have c81b0 : (t261 != t263) = false := by simpa using c81
  (try (have c81b1 : decide (t261 = t263) = true := by simpa using c81))
  (try (have c81b2 : (t261 == t263) = true := by simpa using c81))
  clear c81
  (first | rw [c81b0] | (simp only [i64_w, i32_w]; rw [c81b0]) | skip)
  by_cases c82 : t260 = t262
  ·
   rw [if_pos c82] at H
   have c82b0 : (t260 == t262) = true := beq_iff_eq.mpr c82
   have c82b1 : (t260 != t262) = false := bne_eq_false_iff_eq.mpr c82
   clear c82
   replace H := Option.bind_eq_some_iff.mp H
   obtain ⟨t264, A830, H⟩ := H
   replace H : ((spec_AreMistakes.f kj40 a6 a7 l8).bind fun t265 => (laws_FnDrillsMistakenOfAll.j5 kj40 a3 a4 a5 t260 t261 (t264 != t265))) = some r := H
   have A83 := Aside0.mk A830
   clear A830
   replace H := Option.bind_eq_some_iff.mp H
   obtain ⟨t265, A840, H⟩ := H
   replace H : (laws_FnDrillsMistakenOfAll.j5 kj40 a3 a4 a5 t260 t261 (t264 != t265)) = some r := H
   have A84 := Aside0.mk A840
   clear A840
   have H' := Aside0.mk H
   clear H
   go_wp2_with (first | (go_at_call 14; (with_reducible refine (impl_AreMistakes.calls kj40 a6 a7 _ _ l8 t264 _ ?side1 ?side2 A83.out).mono ?_); (case side1 => repeat (first | exact (Kd.C_below HR8.out HB.out) | (with_reducible refine Kd.C_alloc ?_ _) | (with_reducible refine Kd.C_drewN ?_ _) | (with_reducible refine Kd.C_drew ?_))); (case side2 => exact HC8.out); rintro e w85 ⟨rfl, hb⟩; have n0_ := Aside0.mk (below_step (by repeat (first | (with_reducible first | exact HB.out | apply below_alloc | apply pw_below_drewN | apply below_drew1) | exact HB.out)) hb); clear HB; have HB := n0_; clear n0_; (try clear hb); (try clear hb2); (try clear hk); (try clear hi)) | (go_at_call 18; (with_reducible refine (spec_AreMistakes.calls kj40 a6 a7 _ _ l8 t265 _ ?side1 ?side2 A84.out).mono ?_); (case side1 => repeat (first | exact (Kd.C_below HR8.out HB.out) | (with_reducible refine Kd.C_alloc ?_ _) | (with_reducible refine Kd.C_drewN ?_ _) | (with_reducible refine Kd.C_drew ?_))); (case side2 => exact HC8.out); rintro e w86 ⟨rfl, hb⟩; have n0_ := Aside0.mk (below_step (by repeat (first | (with_reducible first | exact HB.out | apply below_alloc | apply pw_below_drewN | apply below_drew1) | exact HB.out)) hb); clear HB; have HB := n0_; clear n0_; (try clear hb); (try clear hb2); (try clear hk); (try clear hi)))
   go_meet
   case rel => exact ⟨_, ((t264 != t265)), (by first | rfl | (simp; done) | (simp [*]; done)), H', ⟨by have := HJ9.out; have := HJ22.out; have := HJ40.out; first | omega | exact Nat.le_refl _⟩, ⟨by repeat (first | (with_reducible first | exact HB.out | apply below_alloc | apply pw_below_drewN | apply below_drew1) | exact HB.out)⟩⟩
  ·
   rw [if_neg c82] at H
   exact (laws_FnDrillsMistakenOfAll.j5_no _ _ _ _ _ _ (H.trans (congrArg some HE_.out))).elim

set_option maxHeartbeats 8000000 in
set_option maxRecDepth 100000 in
def laws_FnDrillsMistakenOfAll.part10 : Σ' (R1 R2 : Prop), PLift R1 → PLift R2 → (laws_FnDrillsMistakenOfAll.part8.2.1) := by
 refine' ⟨_, _, fun hole1 hole2 => _⟩
 rotate_left 2
 ·
  conv => whnf
  intro l2 l8 a0 a1 a3 a7 t233 t235 t245 t247 A2 A8 t237 t241 r HE_ t234 t236 t238 t242 t246 t248 t261 t263 k c2 HC2 c8 HC8 kj9 HJ9 A17 A18 A19 A20 A21 A22 kj22 HJ22 kj40 HJ40 a4 a5 a6 t260 A76 t262 A77 HC78 K K u53 u54 u55 u56 u57 u58 u59 u60 u61 u62 u63 u64 u65 u66 u67 u68 u69 u70 u71 u72 u73 u74 u75 u76 u77 u78 u79 v239 v243 u80 u81 u82 u83 u84 u85 u86 u87 u88 u89 u90 u91 u92 u93 u94 u95 u96 u97 u98 u99 u100 u101 u102 u103 u104 u105 u106 u107 u108 u109 u110 u111 u112 u113 u114 u115 u116 u117 u118 u119 u120 u121 u122 u123 u124 u125 u126 u127 u128 u129 u130 u131 u132 u133 u134 u135 u136 u137 u138 u139 u140 u141 u142 u143 u144 u145 u146 u147 u148 u149 u150 u151 u152 u153 u154 u155 u156 u157 u158 u159 u160 u18 u31 u32 u33 u34 u35 u36 u37 u39 u80 u81 u82 u83 u84 u85 u86 u87 u88 u89 u90 u91 u92 u93 u94 u95 u96 u97 u98 u99 u100 u101 u102 u103 u104 u105 u106 u107 u108 u109 u110 u111 u112 u113 u114 u115 u116 u117 u118 u119 u120 u121 u122 u123 u124 u125 u126 u127 u128 u129 u130 u131 u132 u133 u134 u135 u136 u137 u138 u139 u140 u141 u142 u143 u144 u145 u146 u147 u148 u149 u150 u151 u152 u153 u154 u155 u156 u157 u158 u159 u160 u161 u162 u163 u164 u165 u166 u167 u168 u169 u170 u171 u172 u173 u174 u175 u176 u177 u178 u179 u180 u181 u182 u183 u184 u185 u186 u187 u188 u189 u190 u191 u192 u193 u194 u195 u196 u197 u198 u199 u200 u201 u202 u203 u204 u205 u206 u207 u208 u209 u210 u211 u212 u213 u214 u215 u216 u217 u218 u219 u220 u221 u222 u223 u224 u225 u226 u227 u228 u229 u230 u231 u232 u233 u234 u235 u236 u237 u238 u239 u240 u241 u242 u243 u244 u245 u246 u247 u248 u249 u250 u251 u252 u253 u254 u255 u256 u257 u258 u259 u260 u261 u262 u263 u264 u265 u266 u267 u268 u269 u270 u271 u272 u273 u274 u275 u276 u197 u198 u199 u200 u201 u202 u203 u204 u205 u206 u207 u208 u209 u210 u211 u212 u213 u214 u215 u216 u217 u218 u219 u220 u221 u222 u223 u224 u225 u226 u227 u228 u229 u230 u231 u232 u233 u234 u235 u236 u237 u238 u239 u240 u241 u242 u243 u244 u245 u246 u247 u248 u249 u250 u251 u252 u253 u254 u255 u256 u257 u258 u259 u260 u261 u262 u263 u264 u265 u266 u267 u268 u269 u270 u271 u272 u273 u274 u275 u276 u277 u278 u279 u280 u281 u282 u283 u284 u285 u286 u287 u288 u289 u290 u291 u292 u293 u294 u295 u296 u297 u298 u299 u300 u301 u302 u303 u304 u305 u306 u307 u308 u309 w HR2 HR8 HB Q' a a wc w24 w25 w26 w27 w28 w29 HO240 HO244 HB wc HO_23 HB wc w79 w80 HB wc hcut
  clear HC78
  try clear c2
  try clear c8
  try clear c16
  try clear c40
  obtain ⟨kq, x309_77, rfl, HA, HJ77, HB⟩ := hcut
  cases kq with
  | zero => exact absurd HA.out (by simp [laws_FnDrillsMistakenOfAll.j5])
  | succ kj77 =>
   have H := HA.out
   clear HA
   simp only [laws_FnDrillsMistakenOfAll.j5] at H
   by_cases c87 : x309_77 = true
   ·
    subst c87
    have H1 : (some false) = some r := by rw [if_pos rfl] at H; exact H
    clear H
    have H := H1
    clear H1
    exact absurd (H.trans (congrArg some HE_.out)) (by simp)
   ·
    replace c87 := Bool.eq_false_iff.mpr c87
    subst c87
    have H1 : (if t261 = true then (laws_FnDrillsMistakenOfAll.j6 kj77 a3 a4 a5 t260 (decide ((a3.size : Int) ≤ 12))) else (laws_FnDrillsMistakenOfAll.j6 kj77 a3 a4 a5 t260 false)) = some r := by rw [if_neg (show ¬ (false = true) by decide)] at H; exact H
    clear H
    have H := H1
    clear H1
    have HC88 := Aside0.mk H
    clear H
    go_upto_region 35 with (fail)
    go_cut [315] from 309 to 315 (fun v315 wc => ∃ (kq : Nat) (x315_87 : Bool), v315 = .bool x315_87 ∧ Aside0 (laws_FnDrillsMistakenOfAll.j6 kq a3 a4 a5 t260 x315_87 = some r) ∧ Aside0 (kq ≤ kj77) ∧ Aside0 (Below w.heap.size w wc))
    case first =>
     -- part 11
     (repeat revert ‹World›)
     (repeat revert ‹Value›)
     (repeat revert ‹Nat → Act → World → Prop›)
     (repeat revert ‹Act → World → Prop›)
     (repeat revert ‹Int›)
     (repeat revert ‹Nat›)
     (repeat revert ‹Bool›)
     (repeat revert ‹List (List Int)›)
     (repeat revert ‹List Int›)
     (repeat revert ‹Addr›)
     (repeat revert ‹Option Addr›)
     (repeat revert ‹ByteArray›)
     (repeat revert ‹List ByteArray›)
     (repeat revert ‹List (S34)›)
     exact hole1.down
    case rest =>
     -- part 12
     (repeat revert ‹World›)
     (repeat revert ‹Value›)
     (repeat revert ‹Nat → Act → World → Prop›)
     (repeat revert ‹Act → World → Prop›)
     (repeat revert ‹Int›)
     (repeat revert ‹Nat›)
     (repeat revert ‹Bool›)
     (repeat revert ‹List (List Int)›)
     (repeat revert ‹List Int›)
     (repeat revert ‹Addr›)
     (repeat revert ‹Option Addr›)
     (repeat revert ‹ByteArray›)
     (repeat revert ‹List ByteArray›)
     (repeat revert ‹List (S34)›)
     exact hole2.down

set_option maxHeartbeats 8000000 in
set_option maxRecDepth 100000 in
theorem laws_FnDrillsMistakenOfAll.part11 : laws_FnDrillsMistakenOfAll.part10.1 := by
 conv => whnf
 intro l2 l8 a0 a1 a3 a7 t233 t235 t245 t247 A2 A8 t237 t241 r HE_ t234 t236 t238 t242 t246 t248 t261 t263 k c2 HC2 c8 HC8 kj9 HJ9 A17 A18 A19 A20 A21 A22 kj22 HJ22 kj40 HJ40 kj77 HJ77 a4 a5 a6 t260 A76 HC88 t262 A77 K K J K' a u53 u54 u55 u56 u57 u58 u59 u60 u61 u62 u63 u64 u65 u66 u67 u68 u69 u70 u71 u72 u73 u74 u75 u76 u77 u78 u79 v239 v243 u80 u81 u82 u83 u84 u85 u86 u87 u88 u89 u90 u91 u92 u93 u94 u95 u96 u97 u98 u99 u100 u101 u102 u103 u104 u105 u106 u107 u108 u109 u110 u111 u112 u113 u114 u115 u116 u117 u118 u119 u120 u121 u122 u123 u124 u125 u126 u127 u128 u129 u130 u131 u132 u133 u134 u135 u136 u137 u138 u139 u140 u141 u142 u143 u144 u145 u146 u147 u148 u149 u150 u151 u152 u153 u154 u155 u156 u157 u158 u159 u160 u18 u31 u32 u33 u34 u35 u36 u37 u39 u80 u81 u82 u83 u84 u85 u86 u87 u88 u89 u90 u91 u92 u93 u94 u95 u96 u97 u98 u99 u100 u101 u102 u103 u104 u105 u106 u107 u108 u109 u110 u111 u112 u113 u114 u115 u116 u117 u118 u119 u120 u121 u122 u123 u124 u125 u126 u127 u128 u129 u130 u131 u132 u133 u134 u135 u136 u137 u138 u139 u140 u141 u142 u143 u144 u145 u146 u147 u148 u149 u150 u151 u152 u153 u154 u155 u156 u157 u158 u159 u160 u161 u162 u163 u164 u165 u166 u167 u168 u169 u170 u171 u172 u173 u174 u175 u176 u177 u178 u179 u180 u181 u182 u183 u184 u185 u186 u187 u188 u189 u190 u191 u192 u193 u194 u195 u196 u197 u198 u199 u200 u201 u202 u203 u204 u205 u206 u207 u208 u209 u210 u211 u212 u213 u214 u215 u216 u217 u218 u219 u220 u221 u222 u223 u224 u225 u226 u227 u228 u229 u230 u231 u232 u233 u234 u235 u236 u237 u238 u239 u240 u241 u242 u243 u244 u245 u246 u247 u248 u249 u250 u251 u252 u253 u254 u255 u256 u257 u258 u259 u260 u261 u262 u263 u264 u265 u266 u267 u268 u269 u270 u271 u272 u273 u274 u275 u276 u197 u198 u199 u200 u201 u202 u203 u204 u205 u206 u207 u208 u209 u210 u211 u212 u213 u214 u215 u216 u217 u218 u219 u220 u221 u222 u223 u224 u225 u226 u227 u228 u229 u230 u231 u232 u233 u234 u235 u236 u237 u238 u239 u240 u241 u242 u243 u244 u245 u246 u247 u248 u249 u250 u251 u252 u253 u254 u255 u256 u257 u258 u259 u260 u261 u262 u263 u264 u265 u266 u267 u268 u269 u270 u271 u272 u273 u274 u275 u276 u277 u278 u279 u280 u281 u282 u283 u284 u285 u286 u287 u288 u289 u290 u291 u292 u293 u294 u295 u296 u297 u298 u299 u300 u301 u302 u303 u304 u305 u306 u307 u308 w HR2 HR8 HB Q' a a a wc w24 w25 w26 w27 w28 w29 HO240 HO244 HB wc HO_23 HB wc w79 w80 HB wc HB
 have H := HC88.out
 clear HC88
 by_cases c89 : t261 = true
 ·
  subst c89
  have H1 : (laws_FnDrillsMistakenOfAll.j6 kj77 a3 a4 a5 t260 (decide ((a3.size : Int) ≤ 12))) = some r := by rw [if_pos rfl] at H; exact H
  clear H
  have H := H1
  clear H1
  have H' := Aside0.mk H
  clear H
  go_wp2
  go_meet
  case rel => exact ⟨_, (decide ((a3.size : Int) ≤ 12)), (by first | rfl | (simp; done) | (simp [*]; done)), H', ⟨by have := HJ9.out; have := HJ22.out; have := HJ40.out; have := HJ77.out; first | omega | exact Nat.le_refl _⟩, ⟨by repeat (first | (with_reducible first | exact HB.out | apply below_alloc | apply pw_below_drewN | apply below_drew1) | exact HB.out)⟩⟩
 ·
  replace c89 := Bool.eq_false_iff.mpr c89
  subst c89
  have H1 : (laws_FnDrillsMistakenOfAll.j6 kj77 a3 a4 a5 t260 false) = some r := by rw [if_neg (show ¬ (false = true) by decide)] at H; exact H
  clear H
  have H := H1
  clear H1
  have H' := Aside0.mk H
  clear H
  go_wp2
  go_meet
  case rel => exact ⟨_, (false), (by first | rfl | (simp; done) | (simp [*]; done)), H', ⟨by have := HJ9.out; have := HJ22.out; have := HJ40.out; have := HJ77.out; first | omega | exact Nat.le_refl _⟩, ⟨by repeat (first | (with_reducible first | exact HB.out | apply below_alloc | apply pw_below_drewN | apply below_drew1) | exact HB.out)⟩⟩

set_option maxHeartbeats 8000000 in
set_option maxRecDepth 100000 in
def laws_FnDrillsMistakenOfAll.part12 : Σ' (R1 : Prop), PLift R1 → (laws_FnDrillsMistakenOfAll.part10.2.1) := by
 refine' ⟨_, fun hole1 => _⟩
 rotate_left 1
 ·
  conv => whnf
  intro l2 l8 a0 a1 a3 a7 t233 t235 t245 t247 A2 A8 t237 t241 r HE_ t234 t236 t238 t242 t246 t248 t261 t263 k c2 HC2 c8 HC8 kj9 HJ9 A17 A18 A19 A20 A21 A22 kj22 HJ22 kj40 HJ40 kj77 HJ77 a4 a5 a6 t260 A76 HC88 t262 A77 K K u53 u54 u55 u56 u57 u58 u59 u60 u61 u62 u63 u64 u65 u66 u67 u68 u69 u70 u71 u72 u73 u74 u75 u76 u77 u78 u79 v239 v243 u80 u81 u82 u83 u84 u85 u86 u87 u88 u89 u90 u91 u92 u93 u94 u95 u96 u97 u98 u99 u100 u101 u102 u103 u104 u105 u106 u107 u108 u109 u110 u111 u112 u113 u114 u115 u116 u117 u118 u119 u120 u121 u122 u123 u124 u125 u126 u127 u128 u129 u130 u131 u132 u133 u134 u135 u136 u137 u138 u139 u140 u141 u142 u143 u144 u145 u146 u147 u148 u149 u150 u151 u152 u153 u154 u155 u156 u157 u158 u159 u160 u18 u31 u32 u33 u34 u35 u36 u37 u39 u80 u81 u82 u83 u84 u85 u86 u87 u88 u89 u90 u91 u92 u93 u94 u95 u96 u97 u98 u99 u100 u101 u102 u103 u104 u105 u106 u107 u108 u109 u110 u111 u112 u113 u114 u115 u116 u117 u118 u119 u120 u121 u122 u123 u124 u125 u126 u127 u128 u129 u130 u131 u132 u133 u134 u135 u136 u137 u138 u139 u140 u141 u142 u143 u144 u145 u146 u147 u148 u149 u150 u151 u152 u153 u154 u155 u156 u157 u158 u159 u160 u161 u162 u163 u164 u165 u166 u167 u168 u169 u170 u171 u172 u173 u174 u175 u176 u177 u178 u179 u180 u181 u182 u183 u184 u185 u186 u187 u188 u189 u190 u191 u192 u193 u194 u195 u196 u197 u198 u199 u200 u201 u202 u203 u204 u205 u206 u207 u208 u209 u210 u211 u212 u213 u214 u215 u216 u217 u218 u219 u220 u221 u222 u223 u224 u225 u226 u227 u228 u229 u230 u231 u232 u233 u234 u235 u236 u237 u238 u239 u240 u241 u242 u243 u244 u245 u246 u247 u248 u249 u250 u251 u252 u253 u254 u255 u256 u257 u258 u259 u260 u261 u262 u263 u264 u265 u266 u267 u268 u269 u270 u271 u272 u273 u274 u275 u276 u197 u198 u199 u200 u201 u202 u203 u204 u205 u206 u207 u208 u209 u210 u211 u212 u213 u214 u215 u216 u217 u218 u219 u220 u221 u222 u223 u224 u225 u226 u227 u228 u229 u230 u231 u232 u233 u234 u235 u236 u237 u238 u239 u240 u241 u242 u243 u244 u245 u246 u247 u248 u249 u250 u251 u252 u253 u254 u255 u256 u257 u258 u259 u260 u261 u262 u263 u264 u265 u266 u267 u268 u269 u270 u271 u272 u273 u274 u275 u276 u277 u278 u279 u280 u281 u282 u283 u284 u285 u286 u287 u288 u289 u290 u291 u292 u293 u294 u295 u296 u297 u298 u299 u300 u301 u302 u303 u304 u305 u306 u307 u308 u309 u310 u311 u312 u313 u314 u315 w HR2 HR8 HB Q' a a wc w24 w25 w26 w27 w28 w29 HO240 HO244 HB wc HO_23 HB wc w79 w80 HB wc HB wc hcut
  clear HC88
  try clear c2
  try clear c8
  try clear c16
  try clear c40
  try clear c87
  obtain ⟨kq, x315_87, rfl, HA, HJ87, HB⟩ := hcut
  cases kq with
  | zero => exact absurd HA.out (by simp [laws_FnDrillsMistakenOfAll.j6])
  | succ kj87 =>
   have H := HA.out
   clear HA
   simp only [laws_FnDrillsMistakenOfAll.j6] at H
   by_cases c90 : x315_87 = true
   ·
    subst c90
    have H1 : (laws_FnDrillsMistakenOfAll.l1 kj87 a3 a4 a5 t260 0 0) = some r := by rw [if_pos rfl] at H; exact H
    clear H
    have H := H1
    clear H1
    have H' := Aside0.mk H
    clear H
    go_wp2
    go_loopg [44, 45] kj87 (fun kq v44 v45 w' => ∃ (x44_6 : Int) (x45_6 : Int), v44 = .int .i64 x44_6 ∧ v45 = .int .i64 x45_6 ∧ Aside0 (laws_FnDrillsMistakenOfAll.l1 kq a3 a4 a5 t260 x44_6 x45_6 = some r) ∧ Aside0 (kq ≤ kj87) ∧ Aside0 (Below w.heap.size w w'))
    case atStart => exact ⟨(0), (0), (by first | rfl | (simp; done) | (simp [*]; done)), (by first | rfl | (simp; done) | (simp [*]; done)), H', ⟨Nat.le_refl _⟩, ⟨by repeat (first | (with_reducible first | exact HB.out | apply below_alloc | apply pw_below_drewN | apply below_drew1) | exact HB.out)⟩⟩
    case round =>
     clear H'
     try clear c2
     try clear c8
     try clear c16
     try clear c40
     try clear c87
     try clear c90
     obtain ⟨x44_6, x45_6, rfl, rfl, HA, HK6, HB⟩ := hrel
     cases gk with
     | zero => exact absurd HA.out (by simp [laws_FnDrillsMistakenOfAll.l1])
     | succ k6 =>
      have H := HA.out
      clear HA
      simp only [laws_FnDrillsMistakenOfAll.l1] at H
      by_cases c91 : x45_6 < 4
      ·
       rw [if_pos c91] at H
       have c91b0 : decide (x45_6 < 4) = true := decide_eq_true c91
       clear c91
       replace H := Option.bind_eq_some_iff.mp H
       obtain ⟨⟨t266, t267⟩, A920, H⟩ := H
       replace H : (if t267 = true then (if t266 < 0 then (some false) else (laws_FnDrillsMistakenOfAll.l1 k6 a3 a4 a5 t260 (wrap64 (x44_6 + t266)) (wrap64 (x45_6 + 1)))) else (some false)) = some r := H
       have A92 := Aside0.mk A920
       clear A920
       by_cases c93 : t267 = true
       ·
        subst c93
        have H1 : (if t266 < 0 then (some false) else (laws_FnDrillsMistakenOfAll.l1 k6 a3 a4 a5 t260 (wrap64 (x44_6 + t266)) (wrap64 (x45_6 + 1)))) = some r := by rw [if_pos rfl] at H; exact H
        clear H
        have H := H1
        clear H1
        by_cases c94 : t266 < 0
        ·
         rw [if_pos c94] at H
         exact absurd (H.trans (congrArg some HE_.out)) (by simp)
        ·
         rw [if_neg c94] at H
         have c94b0 : decide (t266 < 0) = false := decide_eq_false c94
         clear c94
         have H' := Aside0.mk H
         clear H
         go_wp2_with (first | ((with_reducible refine gate_callee (f := 16) rfl ?_); refine goesL_ (some 324) rfl rfl Tryd.func16 (by kernel_rfl) rfl #[.string a3, .int .i64 a4, .int .i64 x45_6] rfl (by (try simp only [List.map_toArray, List.map_cons, List.map_nil]); first | done | rfl | (simp only [List.length_drop, List.length_take]; rfl)) ?_; (with_reducible refine (impl_WaysToFace.calls k6 a3 a4 x45_6 t266 true _ A92.out).mono ?_); rintro e w95 ⟨rfl, hb⟩; refine ⟨_, rfl, ?_⟩; have n0_ := Aside0.mk (below_step (by repeat (first | (with_reducible first | exact HB.out | apply below_alloc | apply pw_below_drewN | apply below_drew1) | exact HB.out)) hb); clear HB; have HB := n0_; clear n0_; (try clear hb); (try clear hb2); (try clear hk); (try clear hi)))
         go_roundg k6
         case measure => have := HJ9.out; have := HJ22.out; have := HJ40.out; have := HJ77.out; have := HJ87.out; have := HK6.out; omega
         case rel => exact ⟨(wrap64 (x44_6 + t266)), (wrap64 (x45_6 + 1)), (by first | rfl | (simp; done) | (simp [*]; done)), (by first | rfl | (simp; done) | (simp [*]; done)), H', ⟨by have := HJ9.out; have := HJ22.out; have := HJ40.out; have := HJ77.out; have := HJ87.out; have := HK6.out; omega⟩, ⟨by repeat (first | (with_reducible first | exact HB.out | apply below_alloc | apply pw_below_drewN | apply below_drew1) | exact HB.out)⟩⟩
       ·
        replace c93 := Bool.eq_false_iff.mpr c93
        subst c93
        have H1 : (some false) = some r := by rw [if_neg (show ¬ (false = true) by decide)] at H; exact H
        clear H
        have H := H1
        clear H1
        exact absurd (H.trans (congrArg some HE_.out)) (by simp)
      ·
       rw [if_neg c91] at H
       have c91b0 : decide (x45_6 < 4) = false := decide_eq_false c91
       clear c91
       have H' := Aside0.mk H
       clear H
       -- part 13
       (repeat revert ‹World›)
       (repeat revert ‹Value›)
       (repeat revert ‹Nat → Act → World → Prop›)
       (repeat revert ‹Act → World → Prop›)
       (repeat revert ‹Int›)
       (repeat revert ‹Nat›)
       (repeat revert ‹Bool›)
       (repeat revert ‹List (List Int)›)
       (repeat revert ‹List Int›)
       (repeat revert ‹Addr›)
       (repeat revert ‹Option Addr›)
       (repeat revert ‹ByteArray›)
       (repeat revert ‹List ByteArray›)
       (repeat revert ‹List (S34)›)
       exact hole1.down
   ·
    replace c90 := Bool.eq_false_iff.mpr c90
    subst c90
    have H1 : (some true) = some r := by rw [if_neg (show ¬ (false = true) by decide)] at H; exact H
    clear H
    have H := H1
    clear H1
    obtain rfl := Option.some.inj H
    go_wp2
    go_ret
    exact ⟨by first | rfl | (simp [errW_none, errW_some] <;> rfl) | (simp [*, errW_none, errW_some] <;> rfl), by repeat (first | (with_reducible first | exact HB.out | apply below_alloc | apply pw_below_drewN | apply below_drew1) | exact HB.out)⟩

set_option maxHeartbeats 8000000 in
set_option maxRecDepth 100000 in
def laws_FnDrillsMistakenOfAll.part13 : Σ' (R1 : Prop), PLift R1 → (laws_FnDrillsMistakenOfAll.part12.1) := by
 refine' ⟨_, fun hole1 => _⟩
 rotate_left 1
 ·
  conv => whnf
  intro l2 l8 a0 a1 a3 a7 t233 t235 t245 t247 A2 A8 t237 t241 r HE_ t234 t236 t238 t242 t246 t248 t261 t263 k c2 HC2 c8 HC8 kj9 HJ9 A17 A18 A19 A20 A21 A22 kj22 HJ22 kj40 HJ40 kj77 HJ77 kj87 HJ87 k6 HK6 a4 a5 a6 t260 A76 t262 A77 x44_6 H' x45_6 c91b0 K K K J a u53 u54 u55 u56 u57 u58 u59 u60 u61 u62 u63 u64 u65 u66 u67 u68 u69 u70 u71 u72 u73 u74 u75 u76 u77 u78 u79 v239 v243 u80 u81 u82 u83 u84 u85 u86 u87 u88 u89 u90 u91 u92 u93 u94 u95 u96 u97 u98 u99 u100 u101 u102 u103 u104 u105 u106 u107 u108 u109 u110 u111 u112 u113 u114 u115 u116 u117 u118 u119 u120 u121 u122 u123 u124 u125 u126 u127 u128 u129 u130 u131 u132 u133 u134 u135 u136 u137 u138 u139 u140 u141 u142 u143 u144 u145 u146 u147 u148 u149 u150 u151 u152 u153 u154 u155 u156 u157 u158 u159 u160 u18 u31 u32 u33 u34 u35 u36 u37 u39 u80 u81 u82 u83 u84 u85 u86 u87 u88 u89 u90 u91 u92 u93 u94 u95 u96 u97 u98 u99 u100 u101 u102 u103 u104 u105 u106 u107 u108 u109 u110 u111 u112 u113 u114 u115 u116 u117 u118 u119 u120 u121 u122 u123 u124 u125 u126 u127 u128 u129 u130 u131 u132 u133 u134 u135 u136 u137 u138 u139 u140 u141 u142 u143 u144 u145 u146 u147 u148 u149 u150 u151 u152 u153 u154 u155 u156 u157 u158 u159 u160 u161 u162 u163 u164 u165 u166 u167 u168 u169 u170 u171 u172 u173 u174 u175 u176 u177 u178 u179 u180 u181 u182 u183 u184 u185 u186 u187 u188 u189 u190 u191 u192 u193 u194 u195 u196 u197 u198 u199 u200 u201 u202 u203 u204 u205 u206 u207 u208 u209 u210 u211 u212 u213 u214 u215 u216 u217 u218 u219 u220 u221 u222 u223 u224 u225 u226 u227 u228 u229 u230 u231 u232 u233 u234 u235 u236 u237 u238 u239 u240 u241 u242 u243 u244 u245 u246 u247 u248 u249 u250 u251 u252 u253 u254 u255 u256 u257 u258 u259 u260 u261 u262 u263 u264 u265 u266 u267 u268 u269 u270 u271 u272 u273 u274 u275 u276 u197 u198 u199 u200 u201 u202 u203 u204 u205 u206 u207 u208 u209 u210 u211 u212 u213 u214 u215 u216 u217 u218 u219 u220 u221 u222 u223 u224 u225 u226 u227 u228 u229 u230 u231 u232 u233 u234 u235 u236 u237 u238 u239 u240 u241 u242 u243 u244 u245 u246 u247 u248 u249 u250 u251 u252 u253 u254 u255 u256 u257 u258 u259 u260 u261 u262 u263 u264 u265 u266 u267 u268 u269 u270 u271 u272 u273 u274 u275 u276 u277 u278 u279 u280 u281 u282 u283 u284 u285 u286 u287 u288 u289 u290 u291 u292 u293 u294 u295 u296 u297 u298 u299 u300 u301 u302 u303 u304 u305 u306 u307 u308 u309 u310 u311 u312 u313 u314 u18 u46 u47 u316 u317 u318 u319 u320 u321 u322 u323 u324 u325 u326 u327 u328 u329 u330 u331 u332 u333 u334 u335 w HR2 HR8 HB Q' a a a wc w24 w25 w26 w27 w28 w29 HO240 HO244 HB wc HO_23 HB wc w79 w80 HB wc HB wc HB wr HB
  go_wp2
  go_loopg [48, 49] k6 (fun kq v48 v49 w' => ∃ (x48_7 : Int) (x49_7 : Int), v48 = .int .i64 x48_7 ∧ v49 = .int .i64 x49_7 ∧ Aside0 (laws_FnDrillsMistakenOfAll.l2 kq a3 a4 a5 t260 x44_6 x48_7 x49_7 = some r) ∧ Aside0 (kq ≤ k6) ∧ Aside0 (Below w.heap.size w w'))
  case atStart => exact ⟨(1), (1), (by first | rfl | (simp; done) | (simp [*]; done)), (by first | rfl | (simp; done) | (simp [*]; done)), H', ⟨Nat.le_refl _⟩, ⟨by repeat (first | (with_reducible first | exact HB.out | apply below_alloc | apply pw_below_drewN | apply below_drew1) | exact HB.out)⟩⟩
  case round =>
   clear H'
   try clear c2
   try clear c8
   try clear c16
   try clear c40
   try clear c87
   try clear c90
   try clear c91
   try clear c91b0
   obtain ⟨x48_7, x49_7, rfl, rfl, HA, HK7, HB⟩ := hrel
   cases gk with
   | zero => exact absurd HA.out (by simp [laws_FnDrillsMistakenOfAll.l2])
   | succ k7 =>
    have H := HA.out
    clear HA
    simp only [laws_FnDrillsMistakenOfAll.l2] at H
    by_cases c96 : x49_7 ≤ a4
    ·
     rw [if_pos c96] at H
     have c96b0 : decide (x49_7 ≤ a4) = true := decide_eq_true c96
     clear c96
     by_cases c97 : x49_7 = 0
     ·
      rw [if_pos c97] at H
      exact absurd H (by simp)
     ·
      rw [if_neg c97] at H
      have c97b0 : (x49_7 == 0) = false := beq_eq_false_iff_ne.mpr c97
      have c97b1 : (x49_7 != 0) = true := bne_iff_ne.mpr c97
      have H' := Aside0.mk H
      clear H
      go_wp2
      go_roundg k7
      case measure => have := HJ9.out; have := HJ22.out; have := HJ40.out; have := HJ77.out; have := HJ87.out; have := HK6.out; have := HK7.out; omega
      case rel => exact ⟨(wrap64 (Int.tdiv (wrap64 (x48_7 * (wrap64 ((wrap64 ((a3.size : Int) - x49_7)) + 1)))) x49_7)), (wrap64 (x49_7 + 1)), (by first | rfl | (simp; done) | (simp [*]; done)), (by first | rfl | (simp; done) | (simp [*]; done)), H', ⟨by have := HJ9.out; have := HJ22.out; have := HJ40.out; have := HJ77.out; have := HJ87.out; have := HK6.out; have := HK7.out; omega⟩, ⟨by repeat (first | (with_reducible first | exact HB.out | apply below_alloc | apply pw_below_drewN | apply below_drew1) | exact HB.out)⟩⟩
    ·
     rw [if_neg c96] at H
     have c96b0 : decide (x49_7 ≤ a4) = false := decide_eq_false c96
     clear c96
     have H' := Aside0.mk H
     clear H
     -- part 14
     (repeat revert ‹World›)
     (repeat revert ‹Value›)
     (repeat revert ‹Nat → Act → World → Prop›)
     (repeat revert ‹Act → World → Prop›)
     (repeat revert ‹Int›)
     (repeat revert ‹Nat›)
     (repeat revert ‹Bool›)
     (repeat revert ‹List (List Int)›)
     (repeat revert ‹List Int›)
     (repeat revert ‹Addr›)
     (repeat revert ‹Option Addr›)
     (repeat revert ‹ByteArray›)
     (repeat revert ‹List ByteArray›)
     (repeat revert ‹List (S34)›)
     exact hole1.down

set_option maxHeartbeats 8000000 in
set_option maxRecDepth 100000 in
def laws_FnDrillsMistakenOfAll.part14 : Σ' (R1 : Prop), PLift R1 → (laws_FnDrillsMistakenOfAll.part13.1) := by
 refine' ⟨_, fun hole1 => _⟩
 rotate_left 1
 ·
  conv => whnf
  intro l2 l8 a0 a1 a3 a7 t233 t235 t245 t247 A2 A8 t237 t241 r HE_ t234 t236 t238 t242 t246 t248 t261 t263 k c2 HC2 c8 HC8 kj9 HJ9 A17 A18 A19 A20 A21 A22 kj22 HJ22 kj40 HJ40 kj77 HJ77 kj87 HJ87 k6 HK6 k7 HK7 a4 a5 a6 t260 A76 t262 A77 x44_6 x45_6 x48_7 H' x49_7 c96b0 K K K K K K J a J a u53 u54 u55 u56 u57 u58 u59 u60 u61 u62 u63 u64 u65 u66 u67 u68 u69 u70 u71 u72 u73 u74 u75 u76 u77 u78 u79 v239 v243 u80 u81 u82 u83 u84 u85 u86 u87 u88 u89 u90 u91 u92 u93 u94 u95 u96 u97 u98 u99 u100 u101 u102 u103 u104 u105 u106 u107 u108 u109 u110 u111 u112 u113 u114 u115 u116 u117 u118 u119 u120 u121 u122 u123 u124 u125 u126 u127 u128 u129 u130 u131 u132 u133 u134 u135 u136 u137 u138 u139 u140 u141 u142 u143 u144 u145 u146 u147 u148 u149 u150 u151 u152 u153 u154 u155 u156 u157 u158 u159 u160 u18 u31 u32 u33 u34 u35 u36 u37 u39 u80 u81 u82 u83 u84 u85 u86 u87 u88 u89 u90 u91 u92 u93 u94 u95 u96 u97 u98 u99 u100 u101 u102 u103 u104 u105 u106 u107 u108 u109 u110 u111 u112 u113 u114 u115 u116 u117 u118 u119 u120 u121 u122 u123 u124 u125 u126 u127 u128 u129 u130 u131 u132 u133 u134 u135 u136 u137 u138 u139 u140 u141 u142 u143 u144 u145 u146 u147 u148 u149 u150 u151 u152 u153 u154 u155 u156 u157 u158 u159 u160 u161 u162 u163 u164 u165 u166 u167 u168 u169 u170 u171 u172 u173 u174 u175 u176 u177 u178 u179 u180 u181 u182 u183 u184 u185 u186 u187 u188 u189 u190 u191 u192 u193 u194 u195 u196 u197 u198 u199 u200 u201 u202 u203 u204 u205 u206 u207 u208 u209 u210 u211 u212 u213 u214 u215 u216 u217 u218 u219 u220 u221 u222 u223 u224 u225 u226 u227 u228 u229 u230 u231 u232 u233 u234 u235 u236 u237 u238 u239 u240 u241 u242 u243 u244 u245 u246 u247 u248 u249 u250 u251 u252 u253 u254 u255 u256 u257 u258 u259 u260 u261 u262 u263 u264 u265 u266 u267 u268 u269 u270 u271 u272 u273 u274 u275 u276 u197 u198 u199 u200 u201 u202 u203 u204 u205 u206 u207 u208 u209 u210 u211 u212 u213 u214 u215 u216 u217 u218 u219 u220 u221 u222 u223 u224 u225 u226 u227 u228 u229 u230 u231 u232 u233 u234 u235 u236 u237 u238 u239 u240 u241 u242 u243 u244 u245 u246 u247 u248 u249 u250 u251 u252 u253 u254 u255 u256 u257 u258 u259 u260 u261 u262 u263 u264 u265 u266 u267 u268 u269 u270 u271 u272 u273 u274 u275 u276 u277 u278 u279 u280 u281 u282 u283 u284 u285 u286 u287 u288 u289 u290 u291 u292 u293 u294 u295 u296 u297 u298 u299 u300 u301 u302 u303 u304 u305 u306 u307 u308 u309 u310 u311 u312 u313 u314 u18 u46 u47 u316 u317 u318 u319 u320 u321 u322 u323 u324 u325 u326 u327 u328 u329 u330 u331 u332 u333 u334 u335 u336 u337 u338 u339 u340 u341 u342 u343 u344 u345 u346 u347 u348 u349 w HR2 HR8 HB Q' a a a a a wc w24 w25 w26 w27 w28 w29 HO240 HO244 HB wc HO_23 HB wc w79 w80 HB wc HB wc HB wr HB wr HB
  go_wp2
  go_loopg [48, 50] k7 (fun kq v48 v50 w' => ∃ (x48_8 : Int) (x50_8 : Int), v48 = .int .i64 x48_8 ∧ v50 = .int .i64 x50_8 ∧ Aside0 (laws_FnDrillsMistakenOfAll.l3 kq a3 a4 a5 t260 x44_6 x48_8 x50_8 = some r) ∧ Aside0 (kq ≤ k7) ∧ Aside0 (Below w.heap.size w w'))
  case atStart => exact ⟨(x48_7), (0), (by first | rfl | (simp; done) | (simp [*]; done)), (by first | rfl | (simp; done) | (simp [*]; done)), H', ⟨Nat.le_refl _⟩, ⟨by repeat (first | (with_reducible first | exact HB.out | apply below_alloc | apply pw_below_drewN | apply below_drew1) | exact HB.out)⟩⟩
  case round =>
   clear H'
   try clear c2
   try clear c8
   try clear c16
   try clear c40
   try clear c87
   try clear c90
   try clear c91
   try clear c91b0
   try clear c96
   try clear c96b0
   obtain ⟨x48_8, x50_8, rfl, rfl, HA, HK8, HB⟩ := hrel
   cases gk with
   | zero => exact absurd HA.out (by simp [laws_FnDrillsMistakenOfAll.l3])
   | succ k8 =>
    have H := HA.out
    clear HA
    simp only [laws_FnDrillsMistakenOfAll.l3] at H
    by_cases c98 : x50_8 < a4
    ·
     rw [if_pos c98] at H
     have c98b0 : decide (x50_8 < a4) = true := decide_eq_true c98
     clear c98
     have H' := Aside0.mk H
     clear H
     go_wp2
     go_roundg k8
     case measure => have := HJ9.out; have := HJ22.out; have := HJ40.out; have := HJ77.out; have := HJ87.out; have := HK6.out; have := HK7.out; have := HK8.out; omega
     case rel => exact ⟨(wrap64 (x48_8 * 3)), (wrap64 (x50_8 + 1)), (by first | rfl | (simp; done) | (simp [*]; done)), (by first | rfl | (simp; done) | (simp [*]; done)), H', ⟨by have := HJ9.out; have := HJ22.out; have := HJ40.out; have := HJ77.out; have := HJ87.out; have := HK6.out; have := HK7.out; have := HK8.out; omega⟩, ⟨by repeat (first | (with_reducible first | exact HB.out | apply below_alloc | apply pw_below_drewN | apply below_drew1) | exact HB.out)⟩⟩
    ·
     rw [if_neg c98] at H
     have c98b0 : decide (x50_8 < a4) = false := decide_eq_false c98
     clear c98
     have HC99 := Aside0.mk H
     clear H
     -- part 15
     (repeat revert ‹World›)
     (repeat revert ‹Value›)
     (repeat revert ‹Nat → Act → World → Prop›)
     (repeat revert ‹Act → World → Prop›)
     (repeat revert ‹Int›)
     (repeat revert ‹Nat›)
     (repeat revert ‹Bool›)
     (repeat revert ‹List (List Int)›)
     (repeat revert ‹List Int›)
     (repeat revert ‹Addr›)
     (repeat revert ‹Option Addr›)
     (repeat revert ‹ByteArray›)
     (repeat revert ‹List ByteArray›)
     (repeat revert ‹List (S34)›)
     exact hole1.down
end Go.Proofs.YtgdmbhldabeelaaRDoor.PFnDrillsMistakenOfAll
