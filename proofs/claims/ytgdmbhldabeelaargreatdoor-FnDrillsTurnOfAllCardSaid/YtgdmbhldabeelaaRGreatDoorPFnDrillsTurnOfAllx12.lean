-- Written by a program of this session's (pg.py) over the kit's print.
import Derived.Test.YtgdmbhldabeelaaRGreatDoorPFnDrillsTurnOfAllx0
import Derived.Test.YtgdmbhldabeelaaRGreatDoorPFnDrillsTurnOfAllx1
import Derived.Test.YtgdmbhldabeelaaRGreatDoorPFnDrillsTurnOfAllx2
import Derived.Test.YtgdmbhldabeelaaRGreatDoorPFnDrillsTurnOfAllx3
import Derived.Test.YtgdmbhldabeelaaRGreatDoorPFnDrillsTurnOfAllx4
import Derived.Test.YtgdmbhldabeelaaRGreatDoorPFnDrillsTurnOfAllx5
import Derived.Test.YtgdmbhldabeelaaRGreatDoorPFnDrillsTurnOfAllx6
import Derived.Test.YtgdmbhldabeelaaRGreatDoorPFnDrillsTurnOfAllx7
import Derived.Test.YtgdmbhldabeelaaRGreatDoorPFnDrillsTurnOfAllx8
import Derived.Deep.CutRange
import Derived.Test.YtgdmbhldabeelaaRGreatDoorPFnDrillsTurnOfAllx11
namespace Go.Proofs.YtgdmbhldabeelaaRGreatDoor.PFnDrillsTurnOfAll
open Go.RowKit Go.Proofs.YtgdmbhldabeelaaRGreatDoorW.PrintWords Go.Proofs.YtgdmbhldabeelaaRGreatDoorW.PrintLast Go.Proofs.YtgdmbhldabeelaaRGreatDoorW.PrintMore
attribute [local go_sem] max2_int min2_int max_two min_two max_three min_three max_four min_four   -- for this text's walks alone
set_option linter.unusedVariables false
set_option linter.unusedSimpArgs false


set_option maxHeartbeats 8000000 in
set_option maxRecDepth 100000 in
theorem laws_FnDrillsTurnOfAll.part5 : laws_FnDrillsTurnOfAll.part4.1 := by
 conv => whnf
 intro a0 a1 a4 a5 a6 a8 t194 t196 t202 t204 t206 t208 t210 t212 r HE_ t195 t197 t199 t201 t203 t205 t207 A23 t209 t211 A25 t213 t215 t217 k kj9 HJ9 A17 A18 A21 A22 A24 A26 nd nd nd nd nd kj28 HJ28 a2 a3 a7 t198 A19 t200 A20 t214 A27 HC74 t216 A28 K J K' a u91 u92 u93 u94 u95 u96 u97 u98 u99 u100 u101 u102 u103 u104 u105 u106 u107 u108 u109 u110 u111 u112 u113 u114 u115 u116 u117 u118 u119 u120 u121 u122 u123 u124 u125 u126 u127 u128 u129 u130 u131 u132 u133 u134 u135 u136 u137 u138 u139 u140 u141 u142 u143 u144 u145 u146 u147 u148 u149 u150 u151 u152 u153 u154 u155 u156 u157 u158 u159 u160 u161 u162 u163 u164 u165 u166 u167 u168 u169 u170 u171 u172 u173 u174 u175 u176 u177 u178 u179 u180 u181 u182 u183 u184 u185 u186 u187 u188 u189 u190 u191 u192 u193 u194 u195 u196 u197 u198 u199 u200 u201 u202 u203 u204 u205 u206 u207 u208 u209 u210 u211 u212 u213 u214 u215 u216 u217 u218 u219 u220 u221 u222 u223 u224 u225 u226 u227 u228 u229 u230 u231 u232 u233 u234 u235 u236 u237 u238 u239 u240 u241 u242 u243 u244 u245 u246 u247 u248 u249 u250 u251 u252 u253 u254 u255 u256 u257 u258 u259 u260 u261 u262 u263 u264 u265 u266 u267 u268 u269 u270 u271 u272 u273 u274 u275 u276 u277 u278 u279 u280 u281 u282 u283 u284 u285 u286 w HB Q' a a wc w30 w31 w32 w33 w34 w35 w36 HB wc HB
 have H := HC74.out
 clear HC74
 by_cases c75 : t199 = true
 ·
  subst c75
  have H1 : ((impl_NetTurn.f kj28 t202).bind fun bt226 => ((impl_NetTurn.f kj28 t206).bind fun bt228 => ((impl_NetTurn.f kj28 t210).bind fun bt230 => ((impl_MirrorCommands.f t210).bind fun bt232 => ((impl_BackCommands.f t206).bind fun bt234 => (if t198 < 0 then (some false) else (if t198 > 3 then (some false) else (if (t202.size : Int) > 1 then (some false) else (if bt226.2 = true then (if bt226.1 = t198 then (if bt228.2 = true then (if (Int.tmod (wrap64 (bt228.1 + t198)) 4) = 0 then (if bt230.2 = true then (if bt230.1 = bt228.1 then (if bt232.2 = true then (if bt232.1.toList = a1.toList then (if bt234.2 = true then (if bt234.1.toList = a1.toList then (if (t206.size : Int) = (a1.size : Int) then (if t214 < 1 then (some false) else (if (Int.tmod (wrap64 (t214 * t198)) 4) = 0 then (if t214 > 4 then (some false) else (laws_FnDrillsTurnOfAll.j2 kj28 a0 a2 a3 a4 a5 a6 a7 a8 t194 t195 t198 t202 t206)) else (some false))) else (some false)) else (some false)) else (some false)) else (some false)) else (some false)) else (some false)) else (some false)) else (some false)) else (some false)) else (some false)) else (some false)))))))))) = some r := by rw [if_pos rfl] at H; exact H
  clear H
  have H := H1
  clear H1
  replace H := Option.bind_eq_some_iff.mp H
  obtain ⟨⟨t226, t227⟩, A760, H⟩ := H
  replace H : ((impl_NetTurn.f kj28 t206).bind fun bt228 => ((impl_NetTurn.f kj28 t210).bind fun bt230 => ((impl_MirrorCommands.f t210).bind fun bt232 => ((impl_BackCommands.f t206).bind fun bt234 => (if t198 < 0 then (some false) else (if t198 > 3 then (some false) else (if (t202.size : Int) > 1 then (some false) else (if t227 = true then (if t226 = t198 then (if bt228.2 = true then (if (Int.tmod (wrap64 (bt228.1 + t198)) 4) = 0 then (if bt230.2 = true then (if bt230.1 = bt228.1 then (if bt232.2 = true then (if bt232.1.toList = a1.toList then (if bt234.2 = true then (if bt234.1.toList = a1.toList then (if (t206.size : Int) = (a1.size : Int) then (if t214 < 1 then (some false) else (if (Int.tmod (wrap64 (t214 * t198)) 4) = 0 then (if t214 > 4 then (some false) else (laws_FnDrillsTurnOfAll.j2 kj28 a0 a2 a3 a4 a5 a6 a7 a8 t194 t195 t198 t202 t206)) else (some false))) else (some false)) else (some false)) else (some false)) else (some false)) else (some false)) else (some false)) else (some false)) else (some false)) else (some false)) else (some false)) else (some false))))))))) = some r := H
  have A76 := Aside0.mk A760
  clear A760
  replace H := Option.bind_eq_some_iff.mp H
  obtain ⟨⟨t228, t229⟩, A770, H⟩ := H
  replace H : ((impl_NetTurn.f kj28 t210).bind fun bt230 => ((impl_MirrorCommands.f t210).bind fun bt232 => ((impl_BackCommands.f t206).bind fun bt234 => (if t198 < 0 then (some false) else (if t198 > 3 then (some false) else (if (t202.size : Int) > 1 then (some false) else (if t227 = true then (if t226 = t198 then (if t229 = true then (if (Int.tmod (wrap64 (t228 + t198)) 4) = 0 then (if bt230.2 = true then (if bt230.1 = t228 then (if bt232.2 = true then (if bt232.1.toList = a1.toList then (if bt234.2 = true then (if bt234.1.toList = a1.toList then (if (t206.size : Int) = (a1.size : Int) then (if t214 < 1 then (some false) else (if (Int.tmod (wrap64 (t214 * t198)) 4) = 0 then (if t214 > 4 then (some false) else (laws_FnDrillsTurnOfAll.j2 kj28 a0 a2 a3 a4 a5 a6 a7 a8 t194 t195 t198 t202 t206)) else (some false))) else (some false)) else (some false)) else (some false)) else (some false)) else (some false)) else (some false)) else (some false)) else (some false)) else (some false)) else (some false)) else (some false)))))))) = some r := H
  have A77 := Aside0.mk A770
  clear A770
  replace H := Option.bind_eq_some_iff.mp H
  obtain ⟨⟨t230, t231⟩, A780, H⟩ := H
  replace H : ((impl_MirrorCommands.f t210).bind fun bt232 => ((impl_BackCommands.f t206).bind fun bt234 => (if t198 < 0 then (some false) else (if t198 > 3 then (some false) else (if (t202.size : Int) > 1 then (some false) else (if t227 = true then (if t226 = t198 then (if t229 = true then (if (Int.tmod (wrap64 (t228 + t198)) 4) = 0 then (if t231 = true then (if t230 = t228 then (if bt232.2 = true then (if bt232.1.toList = a1.toList then (if bt234.2 = true then (if bt234.1.toList = a1.toList then (if (t206.size : Int) = (a1.size : Int) then (if t214 < 1 then (some false) else (if (Int.tmod (wrap64 (t214 * t198)) 4) = 0 then (if t214 > 4 then (some false) else (laws_FnDrillsTurnOfAll.j2 kj28 a0 a2 a3 a4 a5 a6 a7 a8 t194 t195 t198 t202 t206)) else (some false))) else (some false)) else (some false)) else (some false)) else (some false)) else (some false)) else (some false)) else (some false)) else (some false)) else (some false)) else (some false)) else (some false))))))) = some r := H
  have A78 := Aside0.mk A780
  clear A780
  replace H := Option.bind_eq_some_iff.mp H
  obtain ⟨⟨t232, t233⟩, A790, H⟩ := H
  replace H : ((impl_BackCommands.f t206).bind fun bt234 => (if t198 < 0 then (some false) else (if t198 > 3 then (some false) else (if (t202.size : Int) > 1 then (some false) else (if t227 = true then (if t226 = t198 then (if t229 = true then (if (Int.tmod (wrap64 (t228 + t198)) 4) = 0 then (if t231 = true then (if t230 = t228 then (if t233 = true then (if t232.toList = a1.toList then (if bt234.2 = true then (if bt234.1.toList = a1.toList then (if (t206.size : Int) = (a1.size : Int) then (if t214 < 1 then (some false) else (if (Int.tmod (wrap64 (t214 * t198)) 4) = 0 then (if t214 > 4 then (some false) else (laws_FnDrillsTurnOfAll.j2 kj28 a0 a2 a3 a4 a5 a6 a7 a8 t194 t195 t198 t202 t206)) else (some false))) else (some false)) else (some false)) else (some false)) else (some false)) else (some false)) else (some false)) else (some false)) else (some false)) else (some false)) else (some false)) else (some false)))))) = some r := H
  have A79 := Aside0.mk A790
  clear A790
  replace H := Option.bind_eq_some_iff.mp H
  obtain ⟨⟨t234, t235⟩, A800, H⟩ := H
  replace H : (if t198 < 0 then (some false) else (if t198 > 3 then (some false) else (if (t202.size : Int) > 1 then (some false) else (if t227 = true then (if t226 = t198 then (if t229 = true then (if (Int.tmod (wrap64 (t228 + t198)) 4) = 0 then (if t231 = true then (if t230 = t228 then (if t233 = true then (if t232.toList = a1.toList then (if t235 = true then (if t234.toList = a1.toList then (if (t206.size : Int) = (a1.size : Int) then (if t214 < 1 then (some false) else (if (Int.tmod (wrap64 (t214 * t198)) 4) = 0 then (if t214 > 4 then (some false) else (laws_FnDrillsTurnOfAll.j2 kj28 a0 a2 a3 a4 a5 a6 a7 a8 t194 t195 t198 t202 t206)) else (some false))) else (some false)) else (some false)) else (some false)) else (some false)) else (some false)) else (some false)) else (some false)) else (some false)) else (some false)) else (some false)) else (some false))))) = some r := H
  have A80 := Aside0.mk A800
  clear A800
  by_cases c81 : t198 < 0
  ·
   rw [if_pos c81] at H
   exact absurd (H.trans (congrArg some HE_.out)) (by simp)
  ·
   rw [if_neg c81] at H
   have c81b0 : decide (t198 < 0) = false := decide_eq_false c81
   clear c81
   (first | rw [c81b0] | (simp only [i64_w, i32_w]; rw [c81b0]) | skip)
   by_cases c82 : t198 > 3
   ·
    rw [if_pos c82] at H
    exact absurd (H.trans (congrArg some HE_.out)) (by simp)
   ·
    rw [if_neg c82] at H
    have c82b0 : decide (3 < t198) = false := decide_eq_false c82
    clear c82
    by_cases c83 : (t202.size : Int) > 1
    ·
     rw [if_pos c83] at H
     exact absurd (H.trans (congrArg some HE_.out)) (by simp)
    ·
     rw [if_neg c83] at H
     have c83b0 : decide (1 < (t202.size : Int)) = false := decide_eq_false c83
     have c83b1 : decide (1 < t202.size) = false := decide_eq_false (by omega)
     clear c83
     by_cases c84 : t227 = true
     ·
      subst c84
      have H1 : (if t226 = t198 then (if t229 = true then (if (Int.tmod (wrap64 (t228 + t198)) 4) = 0 then (if t231 = true then (if t230 = t228 then (if t233 = true then (if t232.toList = a1.toList then (if t235 = true then (if t234.toList = a1.toList then (if (t206.size : Int) = (a1.size : Int) then (if t214 < 1 then (some false) else (if (Int.tmod (wrap64 (t214 * t198)) 4) = 0 then (if t214 > 4 then (some false) else (laws_FnDrillsTurnOfAll.j2 kj28 a0 a2 a3 a4 a5 a6 a7 a8 t194 t195 t198 t202 t206)) else (some false))) else (some false)) else (some false)) else (some false)) else (some false)) else (some false)) else (some false)) else (some false)) else (some false)) else (some false)) else (some false)) = some r := by rw [if_pos rfl] at H; exact H
      clear H
      have H := H1
      clear H1
      by_cases c85 : t226 = t198
      ·
       rw [if_pos c85] at H
       have c85b0 : (t226 == t198) = true := beq_iff_eq.mpr c85
       have c85b1 : (t226 != t198) = false := bne_eq_false_iff_eq.mpr c85
       clear c85
       by_cases c86 : t229 = true
       ·
        subst c86
        have H1 : (if (Int.tmod (wrap64 (t228 + t198)) 4) = 0 then (if t231 = true then (if t230 = t228 then (if t233 = true then (if t232.toList = a1.toList then (if t235 = true then (if t234.toList = a1.toList then (if (t206.size : Int) = (a1.size : Int) then (if t214 < 1 then (some false) else (if (Int.tmod (wrap64 (t214 * t198)) 4) = 0 then (if t214 > 4 then (some false) else (laws_FnDrillsTurnOfAll.j2 kj28 a0 a2 a3 a4 a5 a6 a7 a8 t194 t195 t198 t202 t206)) else (some false))) else (some false)) else (some false)) else (some false)) else (some false)) else (some false)) else (some false)) else (some false)) else (some false)) = some r := by rw [if_pos rfl] at H; exact H
        clear H
        have H := H1
        clear H1
        by_cases c87 : (Int.tmod (wrap64 (t228 + t198)) 4) = 0
        ·
         rw [if_pos c87] at H
         have c87b0 : ((Int.tmod (wrap64 (t228 + t198)) 4) == 0) = true := beq_iff_eq.mpr c87
         have c87b1 : ((Int.tmod (wrap64 (t228 + t198)) 4) != 0) = false := bne_eq_false_iff_eq.mpr c87
         clear c87
         by_cases c88 : t231 = true
         ·
          subst c88
          have H1 : (if t230 = t228 then (if t233 = true then (if t232.toList = a1.toList then (if t235 = true then (if t234.toList = a1.toList then (if (t206.size : Int) = (a1.size : Int) then (if t214 < 1 then (some false) else (if (Int.tmod (wrap64 (t214 * t198)) 4) = 0 then (if t214 > 4 then (some false) else (laws_FnDrillsTurnOfAll.j2 kj28 a0 a2 a3 a4 a5 a6 a7 a8 t194 t195 t198 t202 t206)) else (some false))) else (some false)) else (some false)) else (some false)) else (some false)) else (some false)) else (some false)) = some r := by rw [if_pos rfl] at H; exact H
          clear H
          have H := H1
          clear H1
          by_cases c89 : t230 = t228
          ·
           rw [if_pos c89] at H
           have c89b0 : (t230 == t228) = true := beq_iff_eq.mpr c89
           have c89b1 : (t230 != t228) = false := bne_eq_false_iff_eq.mpr c89
           clear c89
           by_cases c90 : t233 = true
           ·
            subst c90
            have H1 : (if t232.toList = a1.toList then (if t235 = true then (if t234.toList = a1.toList then (if (t206.size : Int) = (a1.size : Int) then (if t214 < 1 then (some false) else (if (Int.tmod (wrap64 (t214 * t198)) 4) = 0 then (if t214 > 4 then (some false) else (laws_FnDrillsTurnOfAll.j2 kj28 a0 a2 a3 a4 a5 a6 a7 a8 t194 t195 t198 t202 t206)) else (some false))) else (some false)) else (some false)) else (some false)) else (some false)) = some r := by rw [if_pos rfl] at H; exact H
            clear H
            have H := H1
            clear H1
            by_cases c91 : t232.toList = a1.toList
            ·
             rw [if_pos c91] at H
             have c91b0 : (t232.toList == a1.toList) = true := beq_iff_eq.mpr c91
             have c91b1 : (t232.toList != a1.toList) = false := bne_eq_false_iff_eq.mpr c91
             clear c91
             by_cases c92 : t235 = true
             ·
              subst c92
              have H1 : (if t234.toList = a1.toList then (if (t206.size : Int) = (a1.size : Int) then (if t214 < 1 then (some false) else (if (Int.tmod (wrap64 (t214 * t198)) 4) = 0 then (if t214 > 4 then (some false) else (laws_FnDrillsTurnOfAll.j2 kj28 a0 a2 a3 a4 a5 a6 a7 a8 t194 t195 t198 t202 t206)) else (some false))) else (some false)) else (some false)) = some r := by rw [if_pos rfl] at H; exact H
              clear H
              have H := H1
              clear H1
              by_cases c93 : t234.toList = a1.toList
              ·
               rw [if_pos c93] at H
               have c93b0 : (t234.toList == a1.toList) = true := beq_iff_eq.mpr c93
               have c93b1 : (t234.toList != a1.toList) = false := bne_eq_false_iff_eq.mpr c93
               clear c93
               by_cases c94 : (t206.size : Int) = (a1.size : Int)
               ·
                rw [if_pos c94] at H
                have c94b0 : ((t206.size : Int) == (a1.size : Int)) = true := beq_iff_eq.mpr c94
                have c94b1 : ((t206.size : Int) != (a1.size : Int)) = false := bne_eq_false_iff_eq.mpr c94
                have c94b2 : (t206.size == a1.size) = true := by first | simpa using c94 | (simp at c94 ⊢; omega)
                clear c94
                by_cases c95 : t214 < 1
                ·
                 rw [if_pos c95] at H
                 exact absurd (H.trans (congrArg some HE_.out)) (by simp)
                ·
                 rw [if_neg c95] at H
                 have c95b0 : decide (t214 < 1) = false := decide_eq_false c95
                 clear c95
                 by_cases c96 : (Int.tmod (wrap64 (t214 * t198)) 4) = 0
                 ·
                  rw [if_pos c96] at H
                  have c96b0 : ((Int.tmod (wrap64 (t214 * t198)) 4) == 0) = true := beq_iff_eq.mpr c96
                  have c96b1 : ((Int.tmod (wrap64 (t214 * t198)) 4) != 0) = false := bne_eq_false_iff_eq.mpr c96
                  clear c96
                  by_cases c97 : t214 > 4
                  ·
                   rw [if_pos c97] at H
                   exact absurd (H.trans (congrArg some HE_.out)) (by simp)
                  ·
                   rw [if_neg c97] at H
                   have c97b0 : decide (4 < t214) = false := decide_eq_false c97
                   clear c97
                   have H' := Aside0.mk H
                   clear H
                   (try (have e_ := Option.some.inj (A77.out.symm.trans A76.out); subst e_))
                   (try (have e_ := Option.some.inj (A78.out.symm.trans A77.out); subst e_))
                   go_wp2_with (first | ((with_reducible refine gate_callee (f := 7) rfl ?_); refine goesL_ (some 291) rfl rfl Tryz.func7 (by kernel_rfl) rfl #[.string t202] rfl (by (try simp only [List.map_toArray, List.map_cons, List.map_nil]); first | done | rfl | (simp only [List.length_drop, List.length_take]; rfl)) ?_; (with_reducible refine (impl_NetTurn.calls kj28 t202 t226 true _ A76.out).mono ?_); rintro e w98 ⟨rfl, hb⟩; refine ⟨_, rfl, ?_⟩; have n0_ := Aside0.mk (below_step (by repeat (first | (with_reducible first | exact HB.out | apply below_alloc | apply pw_below_drewN | apply below_drew1) | exact HB.out)) hb); clear HB; have HB := n0_; clear n0_; (try clear hb); (try clear hb2); (try clear hk); (try clear hi)) | ((with_reducible refine gate_callee (f := 7) rfl ?_); refine goesL_ (some 296) rfl rfl Tryz.func7 (by kernel_rfl) rfl #[.string t206] rfl (by (try simp only [List.map_toArray, List.map_cons, List.map_nil]); first | done | rfl | (simp only [List.length_drop, List.length_take]; rfl)) ?_; (with_reducible refine (impl_NetTurn.calls kj28 t206 t228 true _ A77.out).mono ?_); rintro e w99 ⟨rfl, hb⟩; refine ⟨_, rfl, ?_⟩; have n0_ := Aside0.mk (below_step (by repeat (first | (with_reducible first | exact HB.out | apply below_alloc | apply pw_below_drewN | apply below_drew1) | exact HB.out)) hb); clear HB; have HB := n0_; clear n0_; (try clear hb); (try clear hb2); (try clear hk); (try clear hi)) | ((with_reducible refine gate_callee (f := 7) rfl ?_); refine goesL_ (some 301) rfl rfl Tryz.func7 (by kernel_rfl) rfl #[.string t210] rfl (by (try simp only [List.map_toArray, List.map_cons, List.map_nil]); first | done | rfl | (simp only [List.length_drop, List.length_take]; rfl)) ?_; (with_reducible refine (impl_NetTurn.calls kj28 t210 t230 true _ A78.out).mono ?_); rintro e w100 ⟨rfl, hb⟩; refine ⟨_, rfl, ?_⟩; have n0_ := Aside0.mk (below_step (by repeat (first | (with_reducible first | exact HB.out | apply below_alloc | apply pw_below_drewN | apply below_drew1) | exact HB.out)) hb); clear HB; have HB := n0_; clear n0_; (try clear hb); (try clear hb2); (try clear hk); (try clear hi)) | ((with_reducible refine gate_callee (f := 13) rfl ?_); refine goesL_ (some 306) rfl rfl Tryz.func13 (by kernel_rfl) rfl #[.string t210] rfl (by (try simp only [List.map_toArray, List.map_cons, List.map_nil]); first | done | rfl | (simp only [List.length_drop, List.length_take]; rfl)) ?_; (with_reducible refine (impl_MirrorCommands.calls t210 t232 true _ A79.out).mono ?_); rintro e w101 ⟨rfl, hb⟩; refine ⟨_, rfl, ?_⟩; have n0_ := Aside0.mk (below_step (by repeat (first | (with_reducible first | exact HB.out | apply below_alloc | apply pw_below_drewN | apply below_drew1) | exact HB.out)) hb); clear HB; have HB := n0_; clear n0_; (try clear hb); (try clear hb2); (try clear hk); (try clear hi)) | ((with_reducible refine gate_callee (f := 11) rfl ?_); refine goesL_ (some 311) rfl rfl Tryz.func11 (by kernel_rfl) rfl #[.string t206] rfl (by (try simp only [List.map_toArray, List.map_cons, List.map_nil]); first | done | rfl | (simp only [List.length_drop, List.length_take]; rfl)) ?_; (with_reducible refine (impl_BackCommands.calls t206 t234 true _ A80.out).mono ?_); rintro e w102 ⟨rfl, hb⟩; refine ⟨_, rfl, ?_⟩; have n0_ := Aside0.mk (below_step (by repeat (first | (with_reducible first | exact HB.out | apply below_alloc | apply pw_below_drewN | apply below_drew1) | exact HB.out)) hb); clear HB; have HB := n0_; clear n0_; (try clear hb); (try clear hb2); (try clear hk); (try clear hi)))
                   go_meet
                   case rel => exact ⟨_, H', ⟨by have := HJ9.out; have := HJ28.out; first | omega | exact Nat.le_refl _⟩, ⟨by repeat (first | (with_reducible first | exact HB.out | apply below_alloc | apply pw_below_drewN | apply below_drew1) | exact HB.out)⟩⟩
                 ·
                  rw [if_neg c96] at H
                  exact absurd (H.trans (congrArg some HE_.out)) (by simp)
               ·
                rw [if_neg c94] at H
                exact absurd (H.trans (congrArg some HE_.out)) (by simp)
              ·
               rw [if_neg c93] at H
               exact absurd (H.trans (congrArg some HE_.out)) (by simp)
             ·
              replace c92 := Bool.eq_false_iff.mpr c92
              subst c92
              have H1 : (some false) = some r := by rw [if_neg (show ¬ (false = true) by decide)] at H; exact H
              clear H
              have H := H1
              clear H1
              exact absurd (H.trans (congrArg some HE_.out)) (by simp)
            ·
             rw [if_neg c91] at H
             exact absurd (H.trans (congrArg some HE_.out)) (by simp)
           ·
            replace c90 := Bool.eq_false_iff.mpr c90
            subst c90
            have H1 : (some false) = some r := by rw [if_neg (show ¬ (false = true) by decide)] at H; exact H
            clear H
            have H := H1
            clear H1
            exact absurd (H.trans (congrArg some HE_.out)) (by simp)
          ·
           rw [if_neg c89] at H
           exact absurd (H.trans (congrArg some HE_.out)) (by simp)
         ·
          replace c88 := Bool.eq_false_iff.mpr c88
          subst c88
          have H1 : (some false) = some r := by rw [if_neg (show ¬ (false = true) by decide)] at H; exact H
          clear H
          have H := H1
          clear H1
          exact absurd (H.trans (congrArg some HE_.out)) (by simp)
        ·
         rw [if_neg c87] at H
         exact absurd (H.trans (congrArg some HE_.out)) (by simp)
       ·
        replace c86 := Bool.eq_false_iff.mpr c86
        subst c86
        have H1 : (some false) = some r := by rw [if_neg (show ¬ (false = true) by decide)] at H; exact H
        clear H
        have H := H1
        clear H1
        exact absurd (H.trans (congrArg some HE_.out)) (by simp)
      ·
       rw [if_neg c85] at H
       exact absurd (H.trans (congrArg some HE_.out)) (by simp)
     ·
      replace c84 := Bool.eq_false_iff.mpr c84
      subst c84
      have H1 : (some false) = some r := by rw [if_neg (show ¬ (false = true) by decide)] at H; exact H
      clear H
      have H := H1
      clear H1
      exact absurd (H.trans (congrArg some HE_.out)) (by simp)
 ·
  replace c75 := Bool.eq_false_iff.mpr c75
  subst c75
  have H1 : (laws_FnDrillsTurnOfAll.j2 kj28 a0 a2 a3 a4 a5 a6 a7 a8 t194 t195 t198 t202 t206) = some r := by rw [if_neg (show ¬ (false = true) by decide)] at H; exact H
  clear H
  have H := H1
  clear H1
  have H' := Aside0.mk H
  clear H
  go_wp2
  go_meet
  case rel => exact ⟨_, H', ⟨by have := HJ9.out; have := HJ28.out; first | omega | exact Nat.le_refl _⟩, ⟨by repeat (first | (with_reducible first | exact HB.out | apply below_alloc | apply pw_below_drewN | apply below_drew1) | exact HB.out)⟩⟩

set_option maxHeartbeats 8000000 in
set_option maxRecDepth 100000 in
def laws_FnDrillsTurnOfAll.part6 : Σ' (R1 R2 : Prop), PLift R1 → PLift R2 → (laws_FnDrillsTurnOfAll.part4.2.1) := by
 refine' ⟨_, _, fun hole1 hole2 => _⟩
 rotate_left 2
 ·
  conv => whnf
  intro a0 a1 a4 a5 a6 a8 t194 t196 t202 t204 t206 t208 t210 t212 r HE_ t195 t197 t199 t201 t203 t205 t207 A23 t209 t211 A25 t213 t215 t217 k kj9 HJ9 A17 A18 A21 A22 A24 A26 nd nd nd nd nd kj28 HJ28 a2 a3 a7 t198 A19 t200 A20 t214 A27 HC74 t216 A28 K u91 u92 u93 u94 u95 u96 u97 u98 u99 u100 u101 u102 u103 u104 u105 u106 u107 u108 u109 u110 u111 u112 u113 u114 u115 u116 u117 u118 u119 u120 u121 u122 u123 u124 u125 u126 u127 u128 u129 u130 u131 u132 u133 u134 u135 u136 u137 u138 u139 u140 u141 u142 u143 u144 u145 u146 u147 u148 u149 u150 u151 u152 u153 u154 u155 u156 u157 u158 u159 u160 u161 u162 u163 u164 u165 u166 u167 u168 u169 u170 u171 u172 u173 u174 u175 u176 u177 u178 u179 u180 u181 u182 u183 u184 u185 u186 u187 u188 u189 u190 u191 u192 u193 u194 u195 u196 u197 u198 u199 u200 u201 u202 u203 u204 u205 u206 u207 u208 u209 u210 u211 u212 u213 u214 u215 u216 u217 u218 u219 u220 u221 u222 u223 u224 u225 u226 u227 u228 u229 u230 u231 u232 u233 u234 u235 u236 u237 u238 u239 u240 u241 u242 u243 u244 u245 u246 u247 u248 u249 u250 u251 u252 u253 u254 u255 u256 u257 u258 u259 u260 u261 u262 u263 u264 u265 u266 u267 u268 u269 u270 u271 u272 u273 u274 u275 u276 u277 u278 u279 u280 u281 u282 u283 u284 u285 u286 u18 u43 u44 u45 u46 u47 u48 u49 u50 u51 u52 u118 u119 u120 u121 u122 u123 u124 u125 u126 u127 u128 u129 u130 u131 u132 u133 u134 u135 u136 u137 u138 u139 u140 u141 u142 u143 u144 u145 u146 u147 u148 u149 u150 u151 u152 u153 u154 u155 u156 u157 u158 u159 u160 u161 u162 u163 u164 u165 u166 u167 u168 u169 u170 u171 u172 u173 u174 u175 u176 u177 u178 u179 u180 u181 u182 u183 u184 u185 u186 u187 u188 u189 u190 u191 u192 u193 u194 u195 u196 u197 u198 u199 u200 u201 u202 u203 u204 u205 u206 u207 u208 u209 u210 u211 u212 u213 u214 u215 u216 u217 u218 u219 u220 u221 u222 u223 u224 u225 u226 u227 u228 u229 u230 u231 u232 u233 u234 u235 u236 u237 u238 u239 u240 u241 u242 u243 u244 u245 u246 u247 u248 u249 u250 u251 u252 u253 u254 u255 u256 u257 u258 u259 u260 u261 u262 u263 u264 u265 u266 u267 u268 u269 u270 u271 u272 u273 u274 u275 u276 u277 u278 u279 u280 u281 u282 u283 u284 u285 u286 u287 u288 u289 u290 u291 u292 u293 u294 u295 u296 u297 u298 u299 u300 u301 u302 u303 u304 u305 u306 u307 u308 u309 u310 u311 u312 u313 u314 u315 u316 u317 u318 u319 u320 u321 u322 u323 u324 u325 u326 u327 u328 u329 u330 u331 u332 u333 u334 u335 u336 u337 u338 u339 u340 u341 u342 u343 u344 u345 u346 u347 u348 u349 u350 u351 u352 u353 u354 u355 u356 u357 u358 u359 u360 u361 u362 u363 u364 u365 u366 u367 u368 u369 u370 u371 u372 u373 u374 u375 u376 u377 u378 u379 u380 u381 u382 u383 u384 u385 u386 u387 u388 u389 u390 u391 u392 u393 u394 u395 u396 u397 u398 u399 u400 u401 u402 u403 u404 u405 u406 u407 u408 u409 u410 u411 u412 u413 u414 u415 u416 u417 u418 u419 u420 u421 u422 u423 u424 u425 u426 u427 u428 u429 u430 u431 u432 u433 u434 u435 u436 u437 u438 u439 w HB Q' a wc w30 w31 w32 w33 w34 w35 w36 HB wc HB wc hcut
  clear HC74
  try clear c16
  try clear c73
  obtain ⟨kq, HA, HJ73, HB⟩ := hcut
  cases kq with
  | zero => exact absurd HA.out (by simp [laws_FnDrillsTurnOfAll.j2])
  | succ kj73 =>
   have H := HA.out
   clear HA
   simp only [laws_FnDrillsTurnOfAll.j2] at H
   have HC103 := Aside0.mk H
   clear H
   go_upto_if 394 with (fail)
   go_cut [] from 118 to 439 (fun wc => ∃ (kq : Nat), Aside0 (laws_FnDrillsTurnOfAll.j4 kq a2 a3 a4 a5 a6 a7 a8 = some r) ∧ Aside0 (kq ≤ kj73) ∧ Aside0 (Below w.heap.size w wc))
   case first =>
    -- part 7
    (repeat revert ‹World›)
    (repeat revert ‹Value›)
    (repeat revert ‹Nat → Act → World → Prop›)
    (repeat revert ‹Act → World → Prop›)
    (repeat revert ‹Int›)
    (repeat revert ‹Nat›)
    (repeat revert ‹Bool›)
    (repeat revert ‹List (List Int)›)
    (repeat revert ‹List Int›)
    (repeat revert ‹Addr›)
    (repeat revert ‹Option Addr›)
    (repeat revert ‹ByteArray›)
    (repeat revert ‹List ByteArray›)
    exact hole1.down
   case rest =>
    -- part 10
    (repeat revert ‹World›)
    (repeat revert ‹Value›)
    (repeat revert ‹Nat → Act → World → Prop›)
    (repeat revert ‹Act → World → Prop›)
    (repeat revert ‹Int›)
    (repeat revert ‹Nat›)
    (repeat revert ‹Bool›)
    (repeat revert ‹List (List Int)›)
    (repeat revert ‹List Int›)
    (repeat revert ‹Addr›)
    (repeat revert ‹Option Addr›)
    (repeat revert ‹ByteArray›)
    (repeat revert ‹List ByteArray›)
    exact hole2.down

set_option maxHeartbeats 8000000 in
set_option maxRecDepth 100000 in
def laws_FnDrillsTurnOfAll.part7 : Σ' (R1 R2 : Prop), PLift R1 → PLift R2 → (laws_FnDrillsTurnOfAll.part6.1) := by
 refine' ⟨_, _, fun hole1 hole2 => _⟩
 rotate_left 2
 ·
  conv => whnf
  intro a0 a1 a4 a5 a6 a8 t194 t196 t202 t204 t206 t208 t210 t212 r HE_ t195 t197 t199 t201 t203 t205 t207 A23 t209 t211 A25 t213 t215 t217 k kj9 HJ9 A17 A18 A21 A22 A24 A26 nd nd nd nd nd kj28 HJ28 kj73 HJ73 a2 a3 a7 t198 A19 HC103 t200 A20 t214 A27 t216 A28 K J K' a u91 u92 u93 u94 u95 u96 u97 u98 u99 u100 u101 u102 u103 u104 u105 u106 u107 u108 u109 u110 u111 u112 u113 u114 u115 u116 u117 u118 u119 u120 u121 u122 u123 u124 u125 u126 u127 u128 u129 u130 u131 u132 u133 u134 u135 u136 u137 u138 u139 u140 u141 u142 u143 u144 u145 u146 u147 u148 u149 u150 u151 u152 u153 u154 u155 u156 u157 u158 u159 u160 u161 u162 u163 u164 u165 u166 u167 u168 u169 u170 u171 u172 u173 u174 u175 u176 u177 u178 u179 u180 u181 u182 u183 u184 u185 u186 u187 u188 u189 u190 u191 u192 u193 u194 u195 u196 u197 u198 u199 u200 u201 u202 u203 u204 u205 u206 u207 u208 u209 u210 u211 u212 u213 u214 u215 u216 u217 u218 u219 u220 u221 u222 u223 u224 u225 u226 u227 u228 u229 u230 u231 u232 u233 u234 u235 u236 u237 u238 u239 u240 u241 u242 u243 u244 u245 u246 u247 u248 u249 u250 u251 u252 u253 u254 u255 u256 u257 u258 u259 u260 u261 u262 u263 u264 u265 u266 u267 u268 u269 u270 u271 u272 u273 u274 u275 u276 u277 u278 u279 u280 u281 u282 u283 u284 u285 u286 u18 u43 u44 u45 u46 u47 u48 u49 u50 u51 u52 u118 u119 u120 u121 u122 u123 u124 u125 u126 u127 u128 u129 u130 u131 u132 u133 u134 u135 u136 u137 u138 u139 u140 u141 u142 u143 u144 u145 u146 u147 u148 u149 u150 u151 u152 u153 u154 u155 u156 u157 u158 u159 u160 u161 u162 u163 u164 u165 u166 u167 u168 u169 u170 u171 u172 u173 u174 u175 u176 u177 u178 u179 u180 u181 u182 u183 u184 u185 u186 u187 u188 u189 u190 u191 u192 u193 u194 u195 u196 u197 u198 u199 u200 u201 u202 u203 u204 u205 u206 u207 u208 u209 u210 u211 u212 u213 u214 u215 u216 u217 u218 u219 u220 u221 u222 u223 u224 u225 u226 u227 u228 u229 u230 u231 u232 u233 u234 u235 u236 u237 u238 u239 u240 u241 u242 u243 u244 u245 u246 u247 u248 u249 u250 u251 u252 u253 u254 u255 u256 u257 u258 u259 u260 u261 u262 u263 u264 u265 u266 u267 u268 u269 u270 u271 u272 u273 u274 u275 u276 u277 u278 u279 u280 u281 u282 u283 u284 u285 u286 u287 u288 u289 u290 u291 u292 u293 u294 u295 u296 u297 u298 u299 u300 u301 u302 u303 u304 u305 u306 u307 u308 u309 u310 u311 u312 u313 u314 u315 u316 u317 u318 u319 u320 u321 u322 u323 u324 u325 u326 u327 u328 u329 u330 u331 u332 u333 u334 u335 u336 u337 u338 u339 u340 u341 u342 u343 u344 u345 u346 u347 u348 u349 u350 u351 u352 u353 u354 u355 u356 u357 u358 u359 u360 u361 u362 u363 u364 u365 u366 u367 u368 u369 u370 u371 u372 u373 u374 u375 u376 u377 u378 u379 u380 u381 u382 u383 u384 u385 u386 u387 u388 u389 u390 u391 u392 u393 u394 u395 u396 u397 u398 u399 u400 u401 u402 u403 u404 u405 u406 u407 u408 u409 u410 u411 u412 u413 u414 u415 u416 u417 u418 u419 u420 u421 u422 u423 u424 u425 u426 u427 u428 u429 u430 u431 u432 u433 u434 u435 u436 u437 u438 u439 w HB Q' a a wc w30 w31 w32 w33 w34 w35 w36 HB wc HB wc HB
  have H := HC103.out
  clear HC103
  by_cases c104 : t195 = true
  ·
   subst c104
   have H1 : ((impl_FacingAfter.f kj73 t194 t206).bind fun bt236 => ((impl_FacingAfter.f kj73 a0 t202).bind fun bt238 => ((impl_CommandsBetween.f kj73 a0 t194).bind fun bt240 => (if bt236.2 = true then (if bt236.1.toList = a0.toList then (if bt238.2 = true then (if bt238.1.toList = t194.toList then (if bt240.2 = true then (laws_FnDrillsTurnOfAll.j3 kj73 a2 a3 a4 a5 a6 a7 a8 t198 bt240.1 ((bt240.1.size : Int) != (a0.size : Int))) else (laws_FnDrillsTurnOfAll.j3 kj73 a2 a3 a4 a5 a6 a7 a8 t198 bt240.1 true)) else (laws_FnDrillsTurnOfAll.j3 kj73 a2 a3 a4 a5 a6 a7 a8 t198 bt240.1 true)) else (laws_FnDrillsTurnOfAll.j3 kj73 a2 a3 a4 a5 a6 a7 a8 t198 bt240.1 true)) else (laws_FnDrillsTurnOfAll.j3 kj73 a2 a3 a4 a5 a6 a7 a8 t198 bt240.1 true)) else (laws_FnDrillsTurnOfAll.j3 kj73 a2 a3 a4 a5 a6 a7 a8 t198 bt240.1 true))))) = some r := by rw [if_pos rfl] at H; exact H
   clear H
   have H := H1
   clear H1
   replace H := Option.bind_eq_some_iff.mp H
   obtain ⟨⟨t236, t237⟩, A1050, H⟩ := H
   replace H : ((impl_FacingAfter.f kj73 a0 t202).bind fun bt238 => ((impl_CommandsBetween.f kj73 a0 t194).bind fun bt240 => (if t237 = true then (if t236.toList = a0.toList then (if bt238.2 = true then (if bt238.1.toList = t194.toList then (if bt240.2 = true then (laws_FnDrillsTurnOfAll.j3 kj73 a2 a3 a4 a5 a6 a7 a8 t198 bt240.1 ((bt240.1.size : Int) != (a0.size : Int))) else (laws_FnDrillsTurnOfAll.j3 kj73 a2 a3 a4 a5 a6 a7 a8 t198 bt240.1 true)) else (laws_FnDrillsTurnOfAll.j3 kj73 a2 a3 a4 a5 a6 a7 a8 t198 bt240.1 true)) else (laws_FnDrillsTurnOfAll.j3 kj73 a2 a3 a4 a5 a6 a7 a8 t198 bt240.1 true)) else (laws_FnDrillsTurnOfAll.j3 kj73 a2 a3 a4 a5 a6 a7 a8 t198 bt240.1 true)) else (laws_FnDrillsTurnOfAll.j3 kj73 a2 a3 a4 a5 a6 a7 a8 t198 bt240.1 true)))) = some r := H
   have A105 := Aside0.mk A1050
   clear A1050
   replace H := Option.bind_eq_some_iff.mp H
   obtain ⟨⟨t238, t239⟩, A1060, H⟩ := H
   replace H : ((impl_CommandsBetween.f kj73 a0 t194).bind fun bt240 => (if t237 = true then (if t236.toList = a0.toList then (if t239 = true then (if t238.toList = t194.toList then (if bt240.2 = true then (laws_FnDrillsTurnOfAll.j3 kj73 a2 a3 a4 a5 a6 a7 a8 t198 bt240.1 ((bt240.1.size : Int) != (a0.size : Int))) else (laws_FnDrillsTurnOfAll.j3 kj73 a2 a3 a4 a5 a6 a7 a8 t198 bt240.1 true)) else (laws_FnDrillsTurnOfAll.j3 kj73 a2 a3 a4 a5 a6 a7 a8 t198 bt240.1 true)) else (laws_FnDrillsTurnOfAll.j3 kj73 a2 a3 a4 a5 a6 a7 a8 t198 bt240.1 true)) else (laws_FnDrillsTurnOfAll.j3 kj73 a2 a3 a4 a5 a6 a7 a8 t198 bt240.1 true)) else (laws_FnDrillsTurnOfAll.j3 kj73 a2 a3 a4 a5 a6 a7 a8 t198 bt240.1 true))) = some r := H
   have A106 := Aside0.mk A1060
   clear A1060
   replace H := Option.bind_eq_some_iff.mp H
   obtain ⟨⟨t240, t241⟩, A1070, H⟩ := H
   replace H : (if t237 = true then (if t236.toList = a0.toList then (if t239 = true then (if t238.toList = t194.toList then (if t241 = true then (laws_FnDrillsTurnOfAll.j3 kj73 a2 a3 a4 a5 a6 a7 a8 t198 t240 ((t240.size : Int) != (a0.size : Int))) else (laws_FnDrillsTurnOfAll.j3 kj73 a2 a3 a4 a5 a6 a7 a8 t198 t240 true)) else (laws_FnDrillsTurnOfAll.j3 kj73 a2 a3 a4 a5 a6 a7 a8 t198 t240 true)) else (laws_FnDrillsTurnOfAll.j3 kj73 a2 a3 a4 a5 a6 a7 a8 t198 t240 true)) else (laws_FnDrillsTurnOfAll.j3 kj73 a2 a3 a4 a5 a6 a7 a8 t198 t240 true)) else (laws_FnDrillsTurnOfAll.j3 kj73 a2 a3 a4 a5 a6 a7 a8 t198 t240 true)) = some r := H
   have A107 := Aside0.mk A1070
   clear A1070
   have HC108 := Aside0.mk H
   clear H
   (try (have e_ := Option.some.inj (A106.out.symm.trans A105.out); subst e_))
   go_upto_region 29 with (first | ((with_reducible refine gate_callee (f := 5) rfl ?_); refine goesL_ (some 398) rfl rfl Tryz.func5 (by kernel_rfl) rfl #[.string t194, .string t206] rfl (by (try simp only [List.map_toArray, List.map_cons, List.map_nil]); first | done | rfl | (simp only [List.length_drop, List.length_take]; rfl)) ?_; (with_reducible refine (impl_FacingAfter.calls kj73 t194 t206 t236 t237 _ A105.out).mono ?_); rintro e w109 ⟨rfl, hb⟩; refine ⟨_, rfl, ?_⟩; have n0_ := Aside0.mk (below_step (by repeat (first | (with_reducible first | exact HB.out | apply below_alloc | apply pw_below_drewN | apply below_drew1) | exact HB.out)) hb); clear HB; have HB := n0_; clear n0_; (try clear hb); (try clear hb2); (try clear hk); (try clear hi)) | ((with_reducible refine gate_callee (f := 5) rfl ?_); refine goesL_ (some 404) rfl rfl Tryz.func5 (by kernel_rfl) rfl #[.string a0, .string t202] rfl (by (try simp only [List.map_toArray, List.map_cons, List.map_nil]); first | done | rfl | (simp only [List.length_drop, List.length_take]; rfl)) ?_; (with_reducible refine (impl_FacingAfter.calls kj73 a0 t202 t238 t239 _ A106.out).mono ?_); rintro e w110 ⟨rfl, hb⟩; refine ⟨_, rfl, ?_⟩; have n0_ := Aside0.mk (below_step (by repeat (first | (with_reducible first | exact HB.out | apply below_alloc | apply pw_below_drewN | apply below_drew1) | exact HB.out)) hb); clear HB; have HB := n0_; clear n0_; (try clear hb); (try clear hb2); (try clear hk); (try clear hi)) | ((with_reducible refine gate_callee (f := 21) rfl ?_); refine goesL_ (some 410) rfl rfl Tryz.func21 (by kernel_rfl) rfl #[.string a0, .string t194] rfl (by (try simp only [List.map_toArray, List.map_cons, List.map_nil]); first | done | rfl | (simp only [List.length_drop, List.length_take]; rfl)) ?_; (with_reducible refine (impl_CommandsBetween.calls kj73 a0 t194 t240 t241 _ A107.out).mono ?_); rintro e w111 ⟨rfl, hb⟩; refine ⟨_, rfl, ?_⟩; have n0_ := Aside0.mk (below_step (by repeat (first | (with_reducible first | exact HB.out | apply below_alloc | apply pw_below_drewN | apply below_drew1) | exact HB.out)) hb); clear HB; have HB := n0_; clear n0_; (try clear hb); (try clear hb2); (try clear hk); (try clear hi)))
   (try simp only [Act.put, List.setIfInBounds_toArray, List.set_cons_zero, List.set_cons_succ])
   go_cut [439] from 287 to 439 (fun v439 wc => ∃ (kq : Nat) (x439_107 : Bool), v439 = .bool x439_107 ∧ Aside0 (laws_FnDrillsTurnOfAll.j3 kq a2 a3 a4 a5 a6 a7 a8 t198 t240 x439_107 = some r) ∧ Aside0 (kq ≤ kj73) ∧ Aside0 (Below w.heap.size w wc))
   case first =>
    -- part 8
    (repeat revert ‹World›)
    (repeat revert ‹Value›)
    (repeat revert ‹Nat → Act → World → Prop›)
    (repeat revert ‹Act → World → Prop›)
    (repeat revert ‹Int›)
    (repeat revert ‹Nat›)
    (repeat revert ‹Bool›)
    (repeat revert ‹List (List Int)›)
    (repeat revert ‹List Int›)
    (repeat revert ‹Addr›)
    (repeat revert ‹Option Addr›)
    (repeat revert ‹ByteArray›)
    (repeat revert ‹List ByteArray›)
    exact hole1.down
   case rest =>
    -- part 9
    (repeat revert ‹World›)
    (repeat revert ‹Value›)
    (repeat revert ‹Nat → Act → World → Prop›)
    (repeat revert ‹Act → World → Prop›)
    (repeat revert ‹Int›)
    (repeat revert ‹Nat›)
    (repeat revert ‹Bool›)
    (repeat revert ‹List (List Int)›)
    (repeat revert ‹List Int›)
    (repeat revert ‹Addr›)
    (repeat revert ‹Option Addr›)
    (repeat revert ‹ByteArray›)
    (repeat revert ‹List ByteArray›)
    exact hole2.down
  ·
   replace c104 := Bool.eq_false_iff.mpr c104
   subst c104
   have H1 : (laws_FnDrillsTurnOfAll.j4 kj73 a2 a3 a4 a5 a6 a7 a8) = some r := by rw [if_neg (show ¬ (false = true) by decide)] at H; exact H
   clear H
   have H := H1
   clear H1
   have H' := Aside0.mk H
   clear H
   go_wp2
   go_meet
   case rel => exact ⟨_, H', ⟨by have := HJ9.out; have := HJ28.out; have := HJ73.out; first | omega | exact Nat.le_refl _⟩, ⟨by repeat (first | (with_reducible first | exact HB.out | apply below_alloc | apply pw_below_drewN | apply below_drew1) | exact HB.out)⟩⟩
end Go.Proofs.YtgdmbhldabeelaaRGreatDoor.PFnDrillsTurnOfAll
