-- Written by a program of this session's (pg.py) over the kit's print.
import Derived.Test.YtgdmbhldabeelaaRGreatDoorPFnDrillsTurnx0
import Derived.Test.YtgdmbhldabeelaaRGreatDoorPFnDrillsTurnx1
import Derived.Test.YtgdmbhldabeelaaRGreatDoorPFnDrillsTurnx2
import Derived.Test.YtgdmbhldabeelaaRGreatDoorPFnDrillsTurnx3
import Derived.Test.YtgdmbhldabeelaaRGreatDoorPFnDrillsTurnx4
import Derived.Test.YtgdmbhldabeelaaRGreatDoorPFnDrillsTurnx5
import Derived.Test.YtgdmbhldabeelaaRGreatDoorPFnDrillsTurnx6
import Derived.Test.YtgdmbhldabeelaaRGreatDoorPFnDrillsTurnx7
import Derived.Test.YtgdmbhldabeelaaRGreatDoorPFnDrillsTurnx8
import Derived.Test.YtgdmbhldabeelaaRGreatDoorPFnDrillsTurnx9
import Derived.Test.YtgdmbhldabeelaaRGreatDoorPFnDrillsTurnx10
import Derived.Deep.CutRange
import Derived.Test.YtgdmbhldabeelaaRGreatDoorPFnDrillsTurnx12
namespace Go.Proofs.YtgdmbhldabeelaaRGreatDoor.PFnDrillsTurn
open Go.RowKit Go.Proofs.YtgdmbhldabeelaaRGreatDoorW.PrintWords Go.Proofs.YtgdmbhldabeelaaRGreatDoorW.PrintLast Go.Proofs.YtgdmbhldabeelaaRGreatDoorW.PrintMore
attribute [local go_sem] max2_int min2_int max_two min_two max_three min_three max_four min_four   -- for this text's walks alone
set_option linter.unusedVariables false
set_option linter.unusedSimpArgs false


set_option maxHeartbeats 8000000 in
set_option maxRecDepth 100000 in
theorem laws_FnDrillsTurn.part3 : laws_FnDrillsTurn.part2.1 := by
 conv => whnf
 intro t270 t271 t272 t274 t280 t282 t284 t286 t288 t290 A0 A1 l0 l1 A3 r HE_ t273 t275 t277 t279 t281 t283 t285 A12 t287 t289 A14 t291 t293 t295 k A5 A6 A7 A10 A11 A13 A15 c0 HC0 c1 HC1 nd nd nd nd nd nd kj17 HJ17 t276 A8 t278 A9 t292 A16 HC64 t294 A17 K J K' a u156 u157 u158 u159 u160 u161 u162 u163 u164 u165 u166 u167 u168 u169 u170 u171 u172 u173 u174 u175 u176 u177 u178 u179 u180 u181 u182 u183 u184 u185 u186 u187 u188 u189 u190 u191 u192 u193 u194 u195 u196 u197 u198 u199 u200 u201 u202 u203 u204 u205 u206 u207 u208 u209 u210 u211 u212 u213 u214 u215 u216 u217 u218 u219 u220 u221 u222 u223 u224 u225 u226 u227 u228 u229 u230 u231 u232 u233 u234 u235 u236 u237 u238 u239 u240 u241 u242 u243 u244 u245 u246 u247 u248 u249 u250 u251 u252 u253 u254 u255 u256 u257 u258 u259 u260 u261 w HR0 HR1 Q' a a w19 w20 w21 w22 w23 w24 w25 w26 HB wc HB
 have H := HC64.out
 clear HC64
 by_cases c65 : t277 = true
 ·
  subst c65
  have H1 : ((impl_NetTurn.f kj17 t280).bind fun bt304 => ((impl_NetTurn.f kj17 t284).bind fun bt306 => ((impl_NetTurn.f kj17 t288).bind fun bt308 => ((impl_MirrorCommands.f t288).bind fun bt310 => ((impl_BackCommands.f t284).bind fun bt312 => (if t276 < 0 then (some false) else (if t276 > 3 then (some false) else (if (t280.size : Int) > 1 then (some false) else (if bt304.2 = true then (if bt304.1 = t276 then (if bt306.2 = true then (if (Int.tmod (wrap64 (bt306.1 + t276)) 4) = 0 then (if bt308.2 = true then (if bt308.1 = bt306.1 then (if bt310.2 = true then (if bt310.1.toList = t271.toList then (if bt312.2 = true then (if bt312.1.toList = t271.toList then (if (t284.size : Int) = (t271.size : Int) then (if t292 < 1 then (some false) else (if (Int.tmod (wrap64 (t292 * t276)) 4) = 0 then (if t292 > 4 then (some false) else (laws_FnDrillsTurn.j1 kj17 l1 t270 t272 t273 t276 t280 t284)) else (some false))) else (some false)) else (some false)) else (some false)) else (some false)) else (some false)) else (some false)) else (some false)) else (some false)) else (some false)) else (some false)) else (some false)))))))))) = some r := by rw [if_pos rfl] at H; exact H
  clear H
  have H := H1
  clear H1
  replace H := Option.bind_eq_some_iff.mp H
  obtain ⟨⟨t304, t305⟩, A660, H⟩ := H
  replace H : ((impl_NetTurn.f kj17 t284).bind fun bt306 => ((impl_NetTurn.f kj17 t288).bind fun bt308 => ((impl_MirrorCommands.f t288).bind fun bt310 => ((impl_BackCommands.f t284).bind fun bt312 => (if t276 < 0 then (some false) else (if t276 > 3 then (some false) else (if (t280.size : Int) > 1 then (some false) else (if t305 = true then (if t304 = t276 then (if bt306.2 = true then (if (Int.tmod (wrap64 (bt306.1 + t276)) 4) = 0 then (if bt308.2 = true then (if bt308.1 = bt306.1 then (if bt310.2 = true then (if bt310.1.toList = t271.toList then (if bt312.2 = true then (if bt312.1.toList = t271.toList then (if (t284.size : Int) = (t271.size : Int) then (if t292 < 1 then (some false) else (if (Int.tmod (wrap64 (t292 * t276)) 4) = 0 then (if t292 > 4 then (some false) else (laws_FnDrillsTurn.j1 kj17 l1 t270 t272 t273 t276 t280 t284)) else (some false))) else (some false)) else (some false)) else (some false)) else (some false)) else (some false)) else (some false)) else (some false)) else (some false)) else (some false)) else (some false)) else (some false))))))))) = some r := H
  have A66 := Aside0.mk A660
  clear A660
  replace H := Option.bind_eq_some_iff.mp H
  obtain ⟨⟨t306, t307⟩, A670, H⟩ := H
  replace H : ((impl_NetTurn.f kj17 t288).bind fun bt308 => ((impl_MirrorCommands.f t288).bind fun bt310 => ((impl_BackCommands.f t284).bind fun bt312 => (if t276 < 0 then (some false) else (if t276 > 3 then (some false) else (if (t280.size : Int) > 1 then (some false) else (if t305 = true then (if t304 = t276 then (if t307 = true then (if (Int.tmod (wrap64 (t306 + t276)) 4) = 0 then (if bt308.2 = true then (if bt308.1 = t306 then (if bt310.2 = true then (if bt310.1.toList = t271.toList then (if bt312.2 = true then (if bt312.1.toList = t271.toList then (if (t284.size : Int) = (t271.size : Int) then (if t292 < 1 then (some false) else (if (Int.tmod (wrap64 (t292 * t276)) 4) = 0 then (if t292 > 4 then (some false) else (laws_FnDrillsTurn.j1 kj17 l1 t270 t272 t273 t276 t280 t284)) else (some false))) else (some false)) else (some false)) else (some false)) else (some false)) else (some false)) else (some false)) else (some false)) else (some false)) else (some false)) else (some false)) else (some false)))))))) = some r := H
  have A67 := Aside0.mk A670
  clear A670
  replace H := Option.bind_eq_some_iff.mp H
  obtain ⟨⟨t308, t309⟩, A680, H⟩ := H
  replace H : ((impl_MirrorCommands.f t288).bind fun bt310 => ((impl_BackCommands.f t284).bind fun bt312 => (if t276 < 0 then (some false) else (if t276 > 3 then (some false) else (if (t280.size : Int) > 1 then (some false) else (if t305 = true then (if t304 = t276 then (if t307 = true then (if (Int.tmod (wrap64 (t306 + t276)) 4) = 0 then (if t309 = true then (if t308 = t306 then (if bt310.2 = true then (if bt310.1.toList = t271.toList then (if bt312.2 = true then (if bt312.1.toList = t271.toList then (if (t284.size : Int) = (t271.size : Int) then (if t292 < 1 then (some false) else (if (Int.tmod (wrap64 (t292 * t276)) 4) = 0 then (if t292 > 4 then (some false) else (laws_FnDrillsTurn.j1 kj17 l1 t270 t272 t273 t276 t280 t284)) else (some false))) else (some false)) else (some false)) else (some false)) else (some false)) else (some false)) else (some false)) else (some false)) else (some false)) else (some false)) else (some false)) else (some false))))))) = some r := H
  have A68 := Aside0.mk A680
  clear A680
  replace H := Option.bind_eq_some_iff.mp H
  obtain ⟨⟨t310, t311⟩, A690, H⟩ := H
  replace H : ((impl_BackCommands.f t284).bind fun bt312 => (if t276 < 0 then (some false) else (if t276 > 3 then (some false) else (if (t280.size : Int) > 1 then (some false) else (if t305 = true then (if t304 = t276 then (if t307 = true then (if (Int.tmod (wrap64 (t306 + t276)) 4) = 0 then (if t309 = true then (if t308 = t306 then (if t311 = true then (if t310.toList = t271.toList then (if bt312.2 = true then (if bt312.1.toList = t271.toList then (if (t284.size : Int) = (t271.size : Int) then (if t292 < 1 then (some false) else (if (Int.tmod (wrap64 (t292 * t276)) 4) = 0 then (if t292 > 4 then (some false) else (laws_FnDrillsTurn.j1 kj17 l1 t270 t272 t273 t276 t280 t284)) else (some false))) else (some false)) else (some false)) else (some false)) else (some false)) else (some false)) else (some false)) else (some false)) else (some false)) else (some false)) else (some false)) else (some false)))))) = some r := H
  have A69 := Aside0.mk A690
  clear A690
  replace H := Option.bind_eq_some_iff.mp H
  obtain ⟨⟨t312, t313⟩, A700, H⟩ := H
  replace H : (if t276 < 0 then (some false) else (if t276 > 3 then (some false) else (if (t280.size : Int) > 1 then (some false) else (if t305 = true then (if t304 = t276 then (if t307 = true then (if (Int.tmod (wrap64 (t306 + t276)) 4) = 0 then (if t309 = true then (if t308 = t306 then (if t311 = true then (if t310.toList = t271.toList then (if t313 = true then (if t312.toList = t271.toList then (if (t284.size : Int) = (t271.size : Int) then (if t292 < 1 then (some false) else (if (Int.tmod (wrap64 (t292 * t276)) 4) = 0 then (if t292 > 4 then (some false) else (laws_FnDrillsTurn.j1 kj17 l1 t270 t272 t273 t276 t280 t284)) else (some false))) else (some false)) else (some false)) else (some false)) else (some false)) else (some false)) else (some false)) else (some false)) else (some false)) else (some false)) else (some false)) else (some false))))) = some r := H
  have A70 := Aside0.mk A700
  clear A700
  by_cases c71 : t276 < 0
  ·
   rw [if_pos c71] at H
   exact absurd (H.trans (congrArg some HE_.out)) (by simp)
  ·
   rw [if_neg c71] at H
   have c71b0 : decide (t276 < 0) = false := decide_eq_false c71
   clear c71
   (first | rw [c71b0] | (simp only [i64_w, i32_w]; rw [c71b0]) | skip)
   by_cases c72 : t276 > 3
   ·
    rw [if_pos c72] at H
    exact absurd (H.trans (congrArg some HE_.out)) (by simp)
   ·
    rw [if_neg c72] at H
    have c72b0 : decide (3 < t276) = false := decide_eq_false c72
    clear c72
    by_cases c73 : (t280.size : Int) > 1
    ·
     rw [if_pos c73] at H
     exact absurd (H.trans (congrArg some HE_.out)) (by simp)
    ·
     rw [if_neg c73] at H
     have c73b0 : decide (1 < (t280.size : Int)) = false := decide_eq_false c73
     have c73b1 : decide (1 < t280.size) = false := decide_eq_false (by omega)
     clear c73
     by_cases c74 : t305 = true
     ·
      subst c74
      have H1 : (if t304 = t276 then (if t307 = true then (if (Int.tmod (wrap64 (t306 + t276)) 4) = 0 then (if t309 = true then (if t308 = t306 then (if t311 = true then (if t310.toList = t271.toList then (if t313 = true then (if t312.toList = t271.toList then (if (t284.size : Int) = (t271.size : Int) then (if t292 < 1 then (some false) else (if (Int.tmod (wrap64 (t292 * t276)) 4) = 0 then (if t292 > 4 then (some false) else (laws_FnDrillsTurn.j1 kj17 l1 t270 t272 t273 t276 t280 t284)) else (some false))) else (some false)) else (some false)) else (some false)) else (some false)) else (some false)) else (some false)) else (some false)) else (some false)) else (some false)) else (some false)) = some r := by rw [if_pos rfl] at H; exact H
      clear H
      have H := H1
      clear H1
      by_cases c75 : t304 = t276
      ·
       rw [if_pos c75] at H
       have c75b0 : (t304 == t276) = true := beq_iff_eq.mpr c75
       have c75b1 : (t304 != t276) = false := bne_eq_false_iff_eq.mpr c75
       clear c75
       by_cases c76 : t307 = true
       ·
        subst c76
        have H1 : (if (Int.tmod (wrap64 (t306 + t276)) 4) = 0 then (if t309 = true then (if t308 = t306 then (if t311 = true then (if t310.toList = t271.toList then (if t313 = true then (if t312.toList = t271.toList then (if (t284.size : Int) = (t271.size : Int) then (if t292 < 1 then (some false) else (if (Int.tmod (wrap64 (t292 * t276)) 4) = 0 then (if t292 > 4 then (some false) else (laws_FnDrillsTurn.j1 kj17 l1 t270 t272 t273 t276 t280 t284)) else (some false))) else (some false)) else (some false)) else (some false)) else (some false)) else (some false)) else (some false)) else (some false)) else (some false)) = some r := by rw [if_pos rfl] at H; exact H
        clear H
        have H := H1
        clear H1
        by_cases c77 : (Int.tmod (wrap64 (t306 + t276)) 4) = 0
        ·
         rw [if_pos c77] at H
         have c77b0 : ((Int.tmod (wrap64 (t306 + t276)) 4) == 0) = true := beq_iff_eq.mpr c77
         have c77b1 : ((Int.tmod (wrap64 (t306 + t276)) 4) != 0) = false := bne_eq_false_iff_eq.mpr c77
         clear c77
         by_cases c78 : t309 = true
         ·
          subst c78
          have H1 : (if t308 = t306 then (if t311 = true then (if t310.toList = t271.toList then (if t313 = true then (if t312.toList = t271.toList then (if (t284.size : Int) = (t271.size : Int) then (if t292 < 1 then (some false) else (if (Int.tmod (wrap64 (t292 * t276)) 4) = 0 then (if t292 > 4 then (some false) else (laws_FnDrillsTurn.j1 kj17 l1 t270 t272 t273 t276 t280 t284)) else (some false))) else (some false)) else (some false)) else (some false)) else (some false)) else (some false)) else (some false)) = some r := by rw [if_pos rfl] at H; exact H
          clear H
          have H := H1
          clear H1
          by_cases c79 : t308 = t306
          ·
           rw [if_pos c79] at H
           have c79b0 : (t308 == t306) = true := beq_iff_eq.mpr c79
           have c79b1 : (t308 != t306) = false := bne_eq_false_iff_eq.mpr c79
           clear c79
           by_cases c80 : t311 = true
           ·
            subst c80
            have H1 : (if t310.toList = t271.toList then (if t313 = true then (if t312.toList = t271.toList then (if (t284.size : Int) = (t271.size : Int) then (if t292 < 1 then (some false) else (if (Int.tmod (wrap64 (t292 * t276)) 4) = 0 then (if t292 > 4 then (some false) else (laws_FnDrillsTurn.j1 kj17 l1 t270 t272 t273 t276 t280 t284)) else (some false))) else (some false)) else (some false)) else (some false)) else (some false)) = some r := by rw [if_pos rfl] at H; exact H
            clear H
            have H := H1
            clear H1
            by_cases c81 : t310.toList = t271.toList
            ·
             rw [if_pos c81] at H
             have c81b0 : (t310.toList == t271.toList) = true := beq_iff_eq.mpr c81
             have c81b1 : (t310.toList != t271.toList) = false := bne_eq_false_iff_eq.mpr c81
             clear c81
             by_cases c82 : t313 = true
             ·
              subst c82
              have H1 : (if t312.toList = t271.toList then (if (t284.size : Int) = (t271.size : Int) then (if t292 < 1 then (some false) else (if (Int.tmod (wrap64 (t292 * t276)) 4) = 0 then (if t292 > 4 then (some false) else (laws_FnDrillsTurn.j1 kj17 l1 t270 t272 t273 t276 t280 t284)) else (some false))) else (some false)) else (some false)) = some r := by rw [if_pos rfl] at H; exact H
              clear H
              have H := H1
              clear H1
              by_cases c83 : t312.toList = t271.toList
              ·
               rw [if_pos c83] at H
               have c83b0 : (t312.toList == t271.toList) = true := beq_iff_eq.mpr c83
               have c83b1 : (t312.toList != t271.toList) = false := bne_eq_false_iff_eq.mpr c83
               clear c83
               by_cases c84 : (t284.size : Int) = (t271.size : Int)
               ·
                rw [if_pos c84] at H
                have c84b0 : ((t284.size : Int) == (t271.size : Int)) = true := beq_iff_eq.mpr c84
                have c84b1 : ((t284.size : Int) != (t271.size : Int)) = false := bne_eq_false_iff_eq.mpr c84
                have c84b2 : (t284.size == t271.size) = true := by first | simpa using c84 | (simp at c84 ⊢; omega)
                clear c84
                by_cases c85 : t292 < 1
                ·
                 rw [if_pos c85] at H
                 exact absurd (H.trans (congrArg some HE_.out)) (by simp)
                ·
                 rw [if_neg c85] at H
                 have c85b0 : decide (t292 < 1) = false := decide_eq_false c85
                 clear c85
                 by_cases c86 : (Int.tmod (wrap64 (t292 * t276)) 4) = 0
                 ·
                  rw [if_pos c86] at H
                  have c86b0 : ((Int.tmod (wrap64 (t292 * t276)) 4) == 0) = true := beq_iff_eq.mpr c86
                  have c86b1 : ((Int.tmod (wrap64 (t292 * t276)) 4) != 0) = false := bne_eq_false_iff_eq.mpr c86
                  clear c86
                  by_cases c87 : t292 > 4
                  ·
                   rw [if_pos c87] at H
                   exact absurd (H.trans (congrArg some HE_.out)) (by simp)
                  ·
                   rw [if_neg c87] at H
                   have c87b0 : decide (4 < t292) = false := decide_eq_false c87
                   clear c87
                   have H' := Aside0.mk H
                   clear H
                   (try (have e_ := Option.some.inj (A67.out.symm.trans A66.out); subst e_))
                   (try (have e_ := Option.some.inj (A68.out.symm.trans A67.out); subst e_))
                   go_wp2_with (first | ((with_reducible refine gate_callee (f := 7) rfl ?_); refine goesL_ (some 266) rfl rfl Tryz.func7 (by kernel_rfl) rfl #[.string t280] rfl (by (try simp only [List.map_toArray, List.map_cons, List.map_nil]); first | done | rfl | (simp only [List.length_drop, List.length_take]; rfl)) ?_; (with_reducible refine (impl_NetTurn.calls kj17 t280 t304 true _ A66.out).mono ?_); rintro e w88 ⟨rfl, hb⟩; refine ⟨_, rfl, ?_⟩; have n0_ := Aside0.mk (below_step (by repeat (first | (with_reducible first | exact HB.out | apply below_alloc | apply pw_below_drewN | apply below_drew1) | exact HB.out)) hb); clear HB; have HB := n0_; clear n0_; (try clear hb); (try clear hb2); (try clear hk); (try clear hi)) | ((with_reducible refine gate_callee (f := 7) rfl ?_); refine goesL_ (some 271) rfl rfl Tryz.func7 (by kernel_rfl) rfl #[.string t284] rfl (by (try simp only [List.map_toArray, List.map_cons, List.map_nil]); first | done | rfl | (simp only [List.length_drop, List.length_take]; rfl)) ?_; (with_reducible refine (impl_NetTurn.calls kj17 t284 t306 true _ A67.out).mono ?_); rintro e w89 ⟨rfl, hb⟩; refine ⟨_, rfl, ?_⟩; have n0_ := Aside0.mk (below_step (by repeat (first | (with_reducible first | exact HB.out | apply below_alloc | apply pw_below_drewN | apply below_drew1) | exact HB.out)) hb); clear HB; have HB := n0_; clear n0_; (try clear hb); (try clear hb2); (try clear hk); (try clear hi)) | ((with_reducible refine gate_callee (f := 7) rfl ?_); refine goesL_ (some 276) rfl rfl Tryz.func7 (by kernel_rfl) rfl #[.string t288] rfl (by (try simp only [List.map_toArray, List.map_cons, List.map_nil]); first | done | rfl | (simp only [List.length_drop, List.length_take]; rfl)) ?_; (with_reducible refine (impl_NetTurn.calls kj17 t288 t308 true _ A68.out).mono ?_); rintro e w90 ⟨rfl, hb⟩; refine ⟨_, rfl, ?_⟩; have n0_ := Aside0.mk (below_step (by repeat (first | (with_reducible first | exact HB.out | apply below_alloc | apply pw_below_drewN | apply below_drew1) | exact HB.out)) hb); clear HB; have HB := n0_; clear n0_; (try clear hb); (try clear hb2); (try clear hk); (try clear hi)) | ((with_reducible refine gate_callee (f := 13) rfl ?_); refine goesL_ (some 281) rfl rfl Tryz.func13 (by kernel_rfl) rfl #[.string t288] rfl (by (try simp only [List.map_toArray, List.map_cons, List.map_nil]); first | done | rfl | (simp only [List.length_drop, List.length_take]; rfl)) ?_; (with_reducible refine (impl_MirrorCommands.calls t288 t310 true _ A69.out).mono ?_); rintro e w91 ⟨rfl, hb⟩; refine ⟨_, rfl, ?_⟩; have n0_ := Aside0.mk (below_step (by repeat (first | (with_reducible first | exact HB.out | apply below_alloc | apply pw_below_drewN | apply below_drew1) | exact HB.out)) hb); clear HB; have HB := n0_; clear n0_; (try clear hb); (try clear hb2); (try clear hk); (try clear hi)) | ((with_reducible refine gate_callee (f := 11) rfl ?_); refine goesL_ (some 286) rfl rfl Tryz.func11 (by kernel_rfl) rfl #[.string t284] rfl (by (try simp only [List.map_toArray, List.map_cons, List.map_nil]); first | done | rfl | (simp only [List.length_drop, List.length_take]; rfl)) ?_; (with_reducible refine (impl_BackCommands.calls t284 t312 true _ A70.out).mono ?_); rintro e w92 ⟨rfl, hb⟩; refine ⟨_, rfl, ?_⟩; have n0_ := Aside0.mk (below_step (by repeat (first | (with_reducible first | exact HB.out | apply below_alloc | apply pw_below_drewN | apply below_drew1) | exact HB.out)) hb); clear HB; have HB := n0_; clear n0_; (try clear hb); (try clear hb2); (try clear hk); (try clear hi)))
                   go_meet
                   case rel => exact ⟨_, H', ⟨by have := HJ17.out; first | omega | exact Nat.le_refl _⟩, ⟨by repeat (first | (with_reducible first | exact HB.out | apply below_alloc | apply pw_below_drewN | apply below_drew1) | exact HB.out)⟩⟩
                 ·
                  rw [if_neg c86] at H
                  exact absurd (H.trans (congrArg some HE_.out)) (by simp)
               ·
                rw [if_neg c84] at H
                exact absurd (H.trans (congrArg some HE_.out)) (by simp)
              ·
               rw [if_neg c83] at H
               exact absurd (H.trans (congrArg some HE_.out)) (by simp)
             ·
              replace c82 := Bool.eq_false_iff.mpr c82
              subst c82
              have H1 : (some false) = some r := by rw [if_neg (show ¬ (false = true) by decide)] at H; exact H
              clear H
              have H := H1
              clear H1
              exact absurd (H.trans (congrArg some HE_.out)) (by simp)
            ·
             rw [if_neg c81] at H
             exact absurd (H.trans (congrArg some HE_.out)) (by simp)
           ·
            replace c80 := Bool.eq_false_iff.mpr c80
            subst c80
            have H1 : (some false) = some r := by rw [if_neg (show ¬ (false = true) by decide)] at H; exact H
            clear H
            have H := H1
            clear H1
            exact absurd (H.trans (congrArg some HE_.out)) (by simp)
          ·
           rw [if_neg c79] at H
           exact absurd (H.trans (congrArg some HE_.out)) (by simp)
         ·
          replace c78 := Bool.eq_false_iff.mpr c78
          subst c78
          have H1 : (some false) = some r := by rw [if_neg (show ¬ (false = true) by decide)] at H; exact H
          clear H
          have H := H1
          clear H1
          exact absurd (H.trans (congrArg some HE_.out)) (by simp)
        ·
         rw [if_neg c77] at H
         exact absurd (H.trans (congrArg some HE_.out)) (by simp)
       ·
        replace c76 := Bool.eq_false_iff.mpr c76
        subst c76
        have H1 : (some false) = some r := by rw [if_neg (show ¬ (false = true) by decide)] at H; exact H
        clear H
        have H := H1
        clear H1
        exact absurd (H.trans (congrArg some HE_.out)) (by simp)
      ·
       rw [if_neg c75] at H
       exact absurd (H.trans (congrArg some HE_.out)) (by simp)
     ·
      replace c74 := Bool.eq_false_iff.mpr c74
      subst c74
      have H1 : (some false) = some r := by rw [if_neg (show ¬ (false = true) by decide)] at H; exact H
      clear H
      have H := H1
      clear H1
      exact absurd (H.trans (congrArg some HE_.out)) (by simp)
 ·
  replace c65 := Bool.eq_false_iff.mpr c65
  subst c65
  have H1 : (laws_FnDrillsTurn.j1 kj17 l1 t270 t272 t273 t276 t280 t284) = some r := by rw [if_neg (show ¬ (false = true) by decide)] at H; exact H
  clear H
  have H := H1
  clear H1
  have H' := Aside0.mk H
  clear H
  go_wp2
  go_meet
  case rel => exact ⟨_, H', ⟨by have := HJ17.out; first | omega | exact Nat.le_refl _⟩, ⟨by repeat (first | (with_reducible first | exact HB.out | apply below_alloc | apply pw_below_drewN | apply below_drew1) | exact HB.out)⟩⟩

set_option maxHeartbeats 8000000 in
set_option maxRecDepth 100000 in
def laws_FnDrillsTurn.part4 : Σ' (R1 R2 : Prop), PLift R1 → PLift R2 → (laws_FnDrillsTurn.part2.2.1) := by
 refine' ⟨_, _, fun hole1 hole2 => _⟩
 rotate_left 2
 ·
  conv => whnf
  intro t270 t271 t272 t274 t280 t282 t284 t286 t288 t290 A0 A1 l0 l1 A3 r HE_ t273 t275 t277 t279 t281 t283 t285 A12 t287 t289 A14 t291 t293 t295 k A5 A6 A7 A10 A11 A13 A15 c0 HC0 c1 HC1 nd nd nd nd nd nd kj17 HJ17 t276 A8 t278 A9 t292 A16 HC64 t294 A17 K u156 u157 u158 u159 u160 u161 u162 u163 u164 u165 u166 u167 u168 u169 u170 u171 u172 u173 u174 u175 u176 u177 u178 u179 u180 u181 u182 u183 u184 u185 u186 u187 u188 u189 u190 u191 u192 u193 u194 u195 u196 u197 u198 u199 u200 u201 u202 u203 u204 u205 u206 u207 u208 u209 u210 u211 u212 u213 u214 u215 u216 u217 u218 u219 u220 u221 u222 u223 u224 u225 u226 u227 u228 u229 u230 u231 u232 u233 u234 u235 u236 u237 u238 u239 u240 u241 u242 u243 u244 u245 u246 u247 u248 u249 u250 u251 u252 u253 u254 u255 u256 u257 u258 u259 u260 u261 u4 u31 u32 u33 u34 u35 u36 u37 u38 u39 u40 u262 u263 u264 u265 u266 u267 u268 u269 u270 u271 u272 u273 u274 u275 u276 u277 u278 u279 u280 u281 u282 u283 u284 u285 u286 u287 u288 u289 u290 u291 u292 u293 u294 u295 u296 u297 u298 u299 u300 u301 u302 u303 u304 u305 u306 u307 u308 u309 u310 u311 u312 u313 u314 u315 u316 u317 u318 u319 u320 u321 u322 u323 u324 u325 u326 u327 u328 u329 u330 u331 u332 u333 u334 u335 u336 u337 u338 u339 u340 u341 u342 u343 u344 u345 u346 u347 u348 u349 u350 u351 u352 u353 u354 u355 u356 u357 u358 u359 u360 u361 u362 u363 u364 u365 u366 u367 u368 u369 u370 u371 u372 u373 u374 u375 u376 u377 u378 u379 u380 u381 u382 u383 u384 u385 u386 u387 u388 u389 u390 u391 u392 u393 u394 u395 u396 u397 u398 u399 u400 u401 u402 u403 u404 u405 u406 u407 u408 u409 u410 u411 u412 u413 u414 w HR0 HR1 Q' a w19 w20 w21 w22 w23 w24 w25 w26 HB wc HB wc hcut
  clear HC64
  try clear c1
  try clear c4
  try clear c63
  obtain ⟨kq, HA, HJ63, HB⟩ := hcut
  cases kq with
  | zero => exact absurd HA.out (by simp [laws_FnDrillsTurn.j1])
  | succ kj63 =>
   have H := HA.out
   clear HA
   simp only [laws_FnDrillsTurn.j1] at H
   have HC93 := Aside0.mk H
   clear H
   go_upto_if 369 with (fail)
   go_cut [] from 262 to 414 (fun wc => ∃ (kq : Nat), Aside0 (laws_FnDrillsTurn.j3 kq l1 = some r) ∧ Aside0 (kq ≤ kj63) ∧ Aside0 (Below w.heap.size w wc))
   case first =>
    -- part 5
    (repeat revert ‹World›)
    (repeat revert ‹Value›)
    (repeat revert ‹Nat → Act → World → Prop›)
    (repeat revert ‹Act → World → Prop›)
    (repeat revert ‹Int›)
    (repeat revert ‹Nat›)
    (repeat revert ‹Bool›)
    (repeat revert ‹List (List Int)›)
    (repeat revert ‹List Int›)
    (repeat revert ‹Addr›)
    (repeat revert ‹Option Addr›)
    (repeat revert ‹ByteArray›)
    (repeat revert ‹List ByteArray›)
    exact hole1.down
   case rest =>
    -- part 8
    (repeat revert ‹World›)
    (repeat revert ‹Value›)
    (repeat revert ‹Nat → Act → World → Prop›)
    (repeat revert ‹Act → World → Prop›)
    (repeat revert ‹Int›)
    (repeat revert ‹Nat›)
    (repeat revert ‹Bool›)
    (repeat revert ‹List (List Int)›)
    (repeat revert ‹List Int›)
    (repeat revert ‹Addr›)
    (repeat revert ‹Option Addr›)
    (repeat revert ‹ByteArray›)
    (repeat revert ‹List ByteArray›)
    exact hole2.down

set_option maxHeartbeats 8000000 in
set_option maxRecDepth 100000 in
def laws_FnDrillsTurn.part5 : Σ' (R1 R2 : Prop), PLift R1 → PLift R2 → (laws_FnDrillsTurn.part4.1) := by
 refine' ⟨_, _, fun hole1 hole2 => _⟩
 rotate_left 2
 ·
  conv => whnf
  intro t270 t271 t272 t274 t280 t282 t284 t286 t288 t290 A0 A1 l0 l1 A3 r HE_ t273 t275 t277 t279 t281 t283 t285 A12 t287 t289 A14 t291 t293 t295 k A5 A6 A7 A10 A11 A13 A15 c0 HC0 c1 HC1 nd nd nd nd nd nd kj17 HJ17 kj63 HJ63 t276 A8 HC93 t278 A9 t292 A16 t294 A17 K J K' a u156 u157 u158 u159 u160 u161 u162 u163 u164 u165 u166 u167 u168 u169 u170 u171 u172 u173 u174 u175 u176 u177 u178 u179 u180 u181 u182 u183 u184 u185 u186 u187 u188 u189 u190 u191 u192 u193 u194 u195 u196 u197 u198 u199 u200 u201 u202 u203 u204 u205 u206 u207 u208 u209 u210 u211 u212 u213 u214 u215 u216 u217 u218 u219 u220 u221 u222 u223 u224 u225 u226 u227 u228 u229 u230 u231 u232 u233 u234 u235 u236 u237 u238 u239 u240 u241 u242 u243 u244 u245 u246 u247 u248 u249 u250 u251 u252 u253 u254 u255 u256 u257 u258 u259 u260 u261 u4 u31 u32 u33 u34 u35 u36 u37 u38 u39 u40 u262 u263 u264 u265 u266 u267 u268 u269 u270 u271 u272 u273 u274 u275 u276 u277 u278 u279 u280 u281 u282 u283 u284 u285 u286 u287 u288 u289 u290 u291 u292 u293 u294 u295 u296 u297 u298 u299 u300 u301 u302 u303 u304 u305 u306 u307 u308 u309 u310 u311 u312 u313 u314 u315 u316 u317 u318 u319 u320 u321 u322 u323 u324 u325 u326 u327 u328 u329 u330 u331 u332 u333 u334 u335 u336 u337 u338 u339 u340 u341 u342 u343 u344 u345 u346 u347 u348 u349 u350 u351 u352 u353 u354 u355 u356 u357 u358 u359 u360 u361 u362 u363 u364 u365 u366 u367 u368 u369 u370 u371 u372 u373 u374 u375 u376 u377 u378 u379 u380 u381 u382 u383 u384 u385 u386 u387 u388 u389 u390 u391 u392 u393 u394 u395 u396 u397 u398 u399 u400 u401 u402 u403 u404 u405 u406 u407 u408 u409 u410 u411 u412 u413 u414 w HR0 HR1 Q' a a w19 w20 w21 w22 w23 w24 w25 w26 HB wc HB wc HB
  have H := HC93.out
  clear HC93
  by_cases c94 : t273 = true
  ·
   subst c94
   have H1 : ((impl_FacingAfter.f kj63 t272 t284).bind fun bt314 => ((impl_FacingAfter.f kj63 t270 t280).bind fun bt316 => ((impl_CommandsBetween.f kj63 t270 t272).bind fun bt318 => (if bt314.2 = true then (if bt314.1.toList = t270.toList then (if bt316.2 = true then (if bt316.1.toList = t272.toList then (if bt318.2 = true then (laws_FnDrillsTurn.j2 kj63 l1 t276 bt318.1 ((bt318.1.size : Int) != (t270.size : Int))) else (laws_FnDrillsTurn.j2 kj63 l1 t276 bt318.1 true)) else (laws_FnDrillsTurn.j2 kj63 l1 t276 bt318.1 true)) else (laws_FnDrillsTurn.j2 kj63 l1 t276 bt318.1 true)) else (laws_FnDrillsTurn.j2 kj63 l1 t276 bt318.1 true)) else (laws_FnDrillsTurn.j2 kj63 l1 t276 bt318.1 true))))) = some r := by rw [if_pos rfl] at H; exact H
   clear H
   have H := H1
   clear H1
   replace H := Option.bind_eq_some_iff.mp H
   obtain ⟨⟨t314, t315⟩, A950, H⟩ := H
   replace H : ((impl_FacingAfter.f kj63 t270 t280).bind fun bt316 => ((impl_CommandsBetween.f kj63 t270 t272).bind fun bt318 => (if t315 = true then (if t314.toList = t270.toList then (if bt316.2 = true then (if bt316.1.toList = t272.toList then (if bt318.2 = true then (laws_FnDrillsTurn.j2 kj63 l1 t276 bt318.1 ((bt318.1.size : Int) != (t270.size : Int))) else (laws_FnDrillsTurn.j2 kj63 l1 t276 bt318.1 true)) else (laws_FnDrillsTurn.j2 kj63 l1 t276 bt318.1 true)) else (laws_FnDrillsTurn.j2 kj63 l1 t276 bt318.1 true)) else (laws_FnDrillsTurn.j2 kj63 l1 t276 bt318.1 true)) else (laws_FnDrillsTurn.j2 kj63 l1 t276 bt318.1 true)))) = some r := H
   have A95 := Aside0.mk A950
   clear A950
   replace H := Option.bind_eq_some_iff.mp H
   obtain ⟨⟨t316, t317⟩, A960, H⟩ := H
   replace H : ((impl_CommandsBetween.f kj63 t270 t272).bind fun bt318 => (if t315 = true then (if t314.toList = t270.toList then (if t317 = true then (if t316.toList = t272.toList then (if bt318.2 = true then (laws_FnDrillsTurn.j2 kj63 l1 t276 bt318.1 ((bt318.1.size : Int) != (t270.size : Int))) else (laws_FnDrillsTurn.j2 kj63 l1 t276 bt318.1 true)) else (laws_FnDrillsTurn.j2 kj63 l1 t276 bt318.1 true)) else (laws_FnDrillsTurn.j2 kj63 l1 t276 bt318.1 true)) else (laws_FnDrillsTurn.j2 kj63 l1 t276 bt318.1 true)) else (laws_FnDrillsTurn.j2 kj63 l1 t276 bt318.1 true))) = some r := H
   have A96 := Aside0.mk A960
   clear A960
   replace H := Option.bind_eq_some_iff.mp H
   obtain ⟨⟨t318, t319⟩, A970, H⟩ := H
   replace H : (if t315 = true then (if t314.toList = t270.toList then (if t317 = true then (if t316.toList = t272.toList then (if t319 = true then (laws_FnDrillsTurn.j2 kj63 l1 t276 t318 ((t318.size : Int) != (t270.size : Int))) else (laws_FnDrillsTurn.j2 kj63 l1 t276 t318 true)) else (laws_FnDrillsTurn.j2 kj63 l1 t276 t318 true)) else (laws_FnDrillsTurn.j2 kj63 l1 t276 t318 true)) else (laws_FnDrillsTurn.j2 kj63 l1 t276 t318 true)) else (laws_FnDrillsTurn.j2 kj63 l1 t276 t318 true)) = some r := H
   have A97 := Aside0.mk A970
   clear A970
   have HC98 := Aside0.mk H
   clear H
   (try (have e_ := Option.some.inj (A96.out.symm.trans A95.out); subst e_))
   go_upto_region 30 with (first | ((with_reducible refine gate_callee (f := 5) rfl ?_); refine goesL_ (some 373) rfl rfl Tryz.func5 (by kernel_rfl) rfl #[.string t272, .string t284] rfl (by (try simp only [List.map_toArray, List.map_cons, List.map_nil]); first | done | rfl | (simp only [List.length_drop, List.length_take]; rfl)) ?_; (with_reducible refine (impl_FacingAfter.calls kj63 t272 t284 t314 t315 _ A95.out).mono ?_); rintro e w99 ⟨rfl, hb⟩; refine ⟨_, rfl, ?_⟩; have n0_ := Aside0.mk (below_step (by repeat (first | (with_reducible first | exact HB.out | apply below_alloc | apply pw_below_drewN | apply below_drew1) | exact HB.out)) hb); clear HB; have HB := n0_; clear n0_; (try clear hb); (try clear hb2); (try clear hk); (try clear hi)) | ((with_reducible refine gate_callee (f := 5) rfl ?_); refine goesL_ (some 379) rfl rfl Tryz.func5 (by kernel_rfl) rfl #[.string t270, .string t280] rfl (by (try simp only [List.map_toArray, List.map_cons, List.map_nil]); first | done | rfl | (simp only [List.length_drop, List.length_take]; rfl)) ?_; (with_reducible refine (impl_FacingAfter.calls kj63 t270 t280 t316 t317 _ A96.out).mono ?_); rintro e w100 ⟨rfl, hb⟩; refine ⟨_, rfl, ?_⟩; have n0_ := Aside0.mk (below_step (by repeat (first | (with_reducible first | exact HB.out | apply below_alloc | apply pw_below_drewN | apply below_drew1) | exact HB.out)) hb); clear HB; have HB := n0_; clear n0_; (try clear hb); (try clear hb2); (try clear hk); (try clear hi)) | ((with_reducible refine gate_callee (f := 21) rfl ?_); refine goesL_ (some 385) rfl rfl Tryz.func21 (by kernel_rfl) rfl #[.string t270, .string t272] rfl (by (try simp only [List.map_toArray, List.map_cons, List.map_nil]); first | done | rfl | (simp only [List.length_drop, List.length_take]; rfl)) ?_; (with_reducible refine (impl_CommandsBetween.calls kj63 t270 t272 t318 t319 _ A97.out).mono ?_); rintro e w101 ⟨rfl, hb⟩; refine ⟨_, rfl, ?_⟩; have n0_ := Aside0.mk (below_step (by repeat (first | (with_reducible first | exact HB.out | apply below_alloc | apply pw_below_drewN | apply below_drew1) | exact HB.out)) hb); clear HB; have HB := n0_; clear n0_; (try clear hb); (try clear hb2); (try clear hk); (try clear hi)))
   (try simp only [Act.put, List.setIfInBounds_toArray, List.set_cons_zero, List.set_cons_succ])
   go_cut [414] from 262 to 414 (fun v414 wc => ∃ (kq : Nat) (x414_97 : Bool), v414 = .bool x414_97 ∧ Aside0 (laws_FnDrillsTurn.j2 kq l1 t276 t318 x414_97 = some r) ∧ Aside0 (kq ≤ kj63) ∧ Aside0 (Below w.heap.size w wc))
   case first =>
    -- part 6
    (repeat revert ‹World›)
    (repeat revert ‹Value›)
    (repeat revert ‹Nat → Act → World → Prop›)
    (repeat revert ‹Act → World → Prop›)
    (repeat revert ‹Int›)
    (repeat revert ‹Nat›)
    (repeat revert ‹Bool›)
    (repeat revert ‹List (List Int)›)
    (repeat revert ‹List Int›)
    (repeat revert ‹Addr›)
    (repeat revert ‹Option Addr›)
    (repeat revert ‹ByteArray›)
    (repeat revert ‹List ByteArray›)
    exact hole1.down
   case rest =>
    -- part 7
    (repeat revert ‹World›)
    (repeat revert ‹Value›)
    (repeat revert ‹Nat → Act → World → Prop›)
    (repeat revert ‹Act → World → Prop›)
    (repeat revert ‹Int›)
    (repeat revert ‹Nat›)
    (repeat revert ‹Bool›)
    (repeat revert ‹List (List Int)›)
    (repeat revert ‹List Int›)
    (repeat revert ‹Addr›)
    (repeat revert ‹Option Addr›)
    (repeat revert ‹ByteArray›)
    (repeat revert ‹List ByteArray›)
    exact hole2.down
  ·
   replace c94 := Bool.eq_false_iff.mpr c94
   subst c94
   have H1 : (laws_FnDrillsTurn.j3 kj63 l1) = some r := by rw [if_neg (show ¬ (false = true) by decide)] at H; exact H
   clear H
   have H := H1
   clear H1
   have H' := Aside0.mk H
   clear H
   go_wp2
   go_meet
   case rel => exact ⟨_, H', ⟨by have := HJ17.out; have := HJ63.out; first | omega | exact Nat.le_refl _⟩, ⟨by repeat (first | (with_reducible first | exact HB.out | apply below_alloc | apply pw_below_drewN | apply below_drew1) | exact HB.out)⟩⟩

set_option maxHeartbeats 8000000 in
set_option maxRecDepth 100000 in
theorem laws_FnDrillsTurn.part6 : laws_FnDrillsTurn.part5.1 := by
 conv => whnf
 intro t270 t271 t272 t274 t280 t282 t284 t286 t288 t290 t314 t316 t318 A0 A1 l0 l1 A3 r HE_ t275 t277 t279 t281 t283 t285 A12 t287 t289 A14 t291 t293 t295 t315 t317 t319 k A5 A7 A10 A11 A13 A15 A6 c0 HC0 c1 HC1 nd nd nd nd nd nd kj17 HJ17 kj63 HJ63 A95 A96 A97 t276 A8 HC98 t278 A9 t292 A16 t294 A17 K J K' a K K J K' a u156 u157 u158 u159 u160 u161 u162 u163 u164 u165 u166 u167 u168 u169 u170 u171 u172 u173 u174 u175 u176 u177 u178 u179 u180 u181 u182 u183 u184 u185 u186 u187 u188 u189 u190 u191 u192 u193 u194 u195 u196 u197 u198 u199 u200 u201 u202 u203 u204 u205 u206 u207 u208 u209 u210 u211 u212 u213 u214 u215 u216 u217 u218 u219 u220 u221 u222 u223 u224 u225 u226 u227 u228 u229 u230 u231 u232 u233 u234 u235 u236 u237 u238 u239 u240 u241 u242 u243 u244 u245 u246 u247 u248 u249 u250 u251 u252 u253 u254 u255 u256 u257 u258 u259 u260 u261 u4 u31 u32 u33 u34 u35 u36 u37 u38 u39 u40 u262 u263 u264 u265 u266 u267 u268 u269 u270 u271 u272 u273 u274 u275 u276 u277 u278 u279 u280 u281 u282 u283 u284 u285 u286 u287 u288 u289 u290 u291 u292 u293 u294 u295 u296 u297 u298 u299 u300 u301 u302 u303 u304 u305 u306 u307 u308 u309 u310 u311 u312 u313 u314 u315 u316 u317 u318 u319 u320 u321 u322 u323 u324 u325 u326 u327 u328 u329 u330 u331 u332 u333 u334 u335 u336 u337 u338 u339 u340 u341 u342 u343 u344 u345 u346 u347 u348 u349 u350 u351 u352 u353 u354 u355 u356 u357 u358 u359 u360 u361 u362 u363 u364 u365 u366 u367 u368 u369 u370 u371 u372 u373 u374 u375 u376 u377 u378 u379 u380 u381 u382 u383 u384 u385 u386 u387 u388 u389 u390 u391 u392 u393 u394 u395 u396 u397 u398 u399 u400 u401 u402 u403 u404 u405 u406 u407 u408 u409 u410 u411 u412 u413 u414 w HR0 HR1 Q' a a a a a w19 w20 w21 w22 w23 w24 w25 w26 HB wc HB wc w99 w100 w101 HB
 have H := HC98.out
 clear HC98
 by_cases c102 : t315 = true
 ·
  subst c102
  have H1 : (if t314.toList = t270.toList then (if t317 = true then (if t316.toList = t272.toList then (if t319 = true then (laws_FnDrillsTurn.j2 kj63 l1 t276 t318 ((t318.size : Int) != (t270.size : Int))) else (laws_FnDrillsTurn.j2 kj63 l1 t276 t318 true)) else (laws_FnDrillsTurn.j2 kj63 l1 t276 t318 true)) else (laws_FnDrillsTurn.j2 kj63 l1 t276 t318 true)) else (laws_FnDrillsTurn.j2 kj63 l1 t276 t318 true)) = some r := by rw [if_pos rfl] at H; exact H
  clear H
  have H := H1
  clear H1
  by_cases c103 : t314.toList = t270.toList
  ·
   rw [if_pos c103] at H
   have c103b0 : (t314.toList == t270.toList) = true := beq_iff_eq.mpr c103
   have c103b1 : (t314.toList != t270.toList) = false := bne_eq_false_iff_eq.mpr c103
   clear c103
   (first | rw [c103b0] | (simp only [i64_w, i32_w]; rw [c103b0]) | skip)
   by_cases c104 : t317 = true
   ·
    subst c104
    have H1 : (if t316.toList = t272.toList then (if t319 = true then (laws_FnDrillsTurn.j2 kj63 l1 t276 t318 ((t318.size : Int) != (t270.size : Int))) else (laws_FnDrillsTurn.j2 kj63 l1 t276 t318 true)) else (laws_FnDrillsTurn.j2 kj63 l1 t276 t318 true)) = some r := by rw [if_pos rfl] at H; exact H
    clear H
    have H := H1
    clear H1
    by_cases c105 : t316.toList = t272.toList
    ·
     rw [if_pos c105] at H
     have c105b0 : (t316.toList == t272.toList) = true := beq_iff_eq.mpr c105
     have c105b1 : (t316.toList != t272.toList) = false := bne_eq_false_iff_eq.mpr c105
     clear c105
     by_cases c106 : t319 = true
     ·
      subst c106
      have H1 : (laws_FnDrillsTurn.j2 kj63 l1 t276 t318 ((t318.size : Int) != (t270.size : Int))) = some r := by rw [if_pos rfl] at H; exact H
      clear H
      have H := H1
      clear H1
      have H' := Aside0.mk H
      clear H
      go_wp2
      go_meet
      case rel => exact ⟨_, (((t318.size : Int) != (t270.size : Int))), (by first | rfl | (simp; done) | (simp [*]; done)), H', ⟨by have := HJ17.out; have := HJ63.out; first | omega | exact Nat.le_refl _⟩, ⟨by repeat (first | (with_reducible first | exact HB.out | apply below_alloc | apply pw_below_drewN | apply below_drew1) | exact HB.out)⟩⟩
     ·
      replace c106 := Bool.eq_false_iff.mpr c106
      subst c106
      have H1 : (laws_FnDrillsTurn.j2 kj63 l1 t276 t318 true) = some r := by rw [if_neg (show ¬ (false = true) by decide)] at H; exact H
      clear H
      have H := H1
      clear H1
      exact (laws_FnDrillsTurn.j2_no _ _ _ _ (H.trans (congrArg some HE_.out))).elim
    ·
     rw [if_neg c105] at H
     exact (laws_FnDrillsTurn.j2_no _ _ _ _ (H.trans (congrArg some HE_.out))).elim
   ·
    replace c104 := Bool.eq_false_iff.mpr c104
    subst c104
    have H1 : (laws_FnDrillsTurn.j2 kj63 l1 t276 t318 true) = some r := by rw [if_neg (show ¬ (false = true) by decide)] at H; exact H
    clear H
    have H := H1
    clear H1
    exact (laws_FnDrillsTurn.j2_no _ _ _ _ (H.trans (congrArg some HE_.out))).elim
  ·
   rw [if_neg c103] at H
   exact (laws_FnDrillsTurn.j2_no _ _ _ _ (H.trans (congrArg some HE_.out))).elim
 ·
  replace c102 := Bool.eq_false_iff.mpr c102
  subst c102
  have H1 : (laws_FnDrillsTurn.j2 kj63 l1 t276 t318 true) = some r := by rw [if_neg (show ¬ (false = true) by decide)] at H; exact H
  clear H
  have H := H1
  clear H1
  exact (laws_FnDrillsTurn.j2_no _ _ _ _ (H.trans (congrArg some HE_.out))).elim
end Go.Proofs.YtgdmbhldabeelaaRGreatDoor.PFnDrillsTurn
