-- Written by a program of this session's (pg.py) over the kit's print.
import Derived.Test.YtgdmbhldabeelaaRGreatDoorPFnDrillsTurnOfAllx0
import Derived.Test.YtgdmbhldabeelaaRGreatDoorPFnDrillsTurnOfAllx1
import Derived.Test.YtgdmbhldabeelaaRGreatDoorPFnDrillsTurnOfAllx2
import Derived.Test.YtgdmbhldabeelaaRGreatDoorPFnDrillsTurnOfAllx3
import Derived.Test.YtgdmbhldabeelaaRGreatDoorPFnDrillsTurnOfAllx4
import Derived.Test.YtgdmbhldabeelaaRGreatDoorPFnDrillsTurnOfAllx5
import Derived.Test.YtgdmbhldabeelaaRGreatDoorPFnDrillsTurnOfAllx6
import Derived.Test.YtgdmbhldabeelaaRGreatDoorPFnDrillsTurnOfAllx7
import Derived.Test.YtgdmbhldabeelaaRGreatDoorPFnDrillsTurnOfAllx8
import Derived.Deep.CutRange
import Derived.Test.YtgdmbhldabeelaaRGreatDoorPFnDrillsTurnOfAllx10
namespace Go.Proofs.YtgdmbhldabeelaaRGreatDoor.PFnDrillsTurnOfAll
open Go.RowKit Go.Proofs.YtgdmbhldabeelaaRGreatDoorW.PrintWords Go.Proofs.YtgdmbhldabeelaaRGreatDoorW.PrintLast Go.Proofs.YtgdmbhldabeelaaRGreatDoorW.PrintMore
attribute [local go_sem] max2_int min2_int max_two min_two max_three min_three max_four min_four   -- for this text's walks alone
set_option linter.unusedVariables false
set_option linter.unusedSimpArgs false


set_option maxHeartbeats 8000000 in
set_option maxRecDepth 100000 in
theorem laws_FnDrillsTurnOfAll.part3 : laws_FnDrillsTurnOfAll.part2.1 := by
 conv => whnf
 intro a0 a1 a4 a5 a6 a8 t194 t196 t202 t204 t206 t208 t210 t212 r HE_ t195 t197 t199 t201 t203 t205 t207 A23 t209 t211 A25 t213 t215 t217 k kj9 HJ9 A17 A18 A21 A22 A24 A26 nd nd nd nd nd a2 a3 a7 t198 A19 t200 A20 t214 A27 t216 A28 HC29 K K J K' a u91 u92 u93 u94 u95 u96 u97 u98 u99 u100 u101 u102 u103 u104 u105 u106 u107 u108 u109 u110 u111 u112 u113 u114 u115 u116 u117 w HB Q' a a a wc w30 w31 w32 w33 w34 w35 w36 HB
 have H := HC29.out
 clear HC29
 by_cases c37 : (t195 != t197) = true
 ·
  rw [if_pos c37] at H
  exact (laws_FnDrillsTurnOfAll.j1_no _ _ _ _ _ _ _ _ _ _ _ _ _ _ _ _ _ _ (H.trans (congrArg some HE_.out))).elim
 ·
  rw [if_neg c37] at H
  have c37b0 : (t195 != t197) = false := by simpa using c37
  (try (have c37b1 : decide (t195 = t197) = true := by simpa using c37))
  (try (have c37b2 : (t195 == t197) = true := by simpa using c37))
  clear c37
  (first | rw [c37b0] | (simp only [i64_w, i32_w]; rw [c37b0]) | skip)
  by_cases c38 : t194.toList = t196.toList
  ·
   rw [if_pos c38] at H
   have c38b0 : (t194.toList == t196.toList) = true := beq_iff_eq.mpr c38
   have c38b1 : (t194.toList != t196.toList) = false := bne_eq_false_iff_eq.mpr c38
   clear c38
   by_cases c39 : (t199 != t201) = true
   ·
    rw [if_pos c39] at H
    exact (laws_FnDrillsTurnOfAll.j1_no _ _ _ _ _ _ _ _ _ _ _ _ _ _ _ _ _ _ (H.trans (congrArg some HE_.out))).elim
   ·
    rw [if_neg c39] at H
    have c39b0 : (t199 != t201) = false := by simpa using c39
    (try (have c39b1 : decide (t199 = t201) = true := by simpa using c39))
    (try (have c39b2 : (t199 == t201) = true := by simpa using c39))
    clear c39
    by_cases c40 : t198 = t200
    ·
     rw [if_pos c40] at H
     have c40b0 : (t198 == t200) = true := beq_iff_eq.mpr c40
     have c40b1 : (t198 != t200) = false := bne_eq_false_iff_eq.mpr c40
     clear c40
     by_cases c41 : (t203 != t205) = true
     ·
      rw [if_pos c41] at H
      exact (laws_FnDrillsTurnOfAll.j1_no _ _ _ _ _ _ _ _ _ _ _ _ _ _ _ _ _ _ (H.trans (congrArg some HE_.out))).elim
     ·
      rw [if_neg c41] at H
      have c41b0 : (t203 != t205) = false := by simpa using c41
      (try (have c41b1 : decide (t203 = t205) = true := by simpa using c41))
      (try (have c41b2 : (t203 == t205) = true := by simpa using c41))
      clear c41
      by_cases c42 : t202.toList = t204.toList
      ·
       rw [if_pos c42] at H
       have c42b0 : (t202.toList == t204.toList) = true := beq_iff_eq.mpr c42
       have c42b1 : (t202.toList != t204.toList) = false := bne_eq_false_iff_eq.mpr c42
       clear c42
       by_cases c43 : (t207 != t209) = true
       ·
        rw [if_pos c43] at H
        exact (laws_FnDrillsTurnOfAll.j1_no _ _ _ _ _ _ _ _ _ _ _ _ _ _ _ _ _ _ (H.trans (congrArg some HE_.out))).elim
       ·
        rw [if_neg c43] at H
        have c43b0 : (t207 != t209) = false := by simpa using c43
        (try (have c43b1 : decide (t207 = t209) = true := by simpa using c43))
        (try (have c43b2 : (t207 == t209) = true := by simpa using c43))
        clear c43
        by_cases c44 : t206.toList = t208.toList
        ·
         rw [if_pos c44] at H
         have c44b0 : (t206.toList == t208.toList) = true := beq_iff_eq.mpr c44
         have c44b1 : (t206.toList != t208.toList) = false := bne_eq_false_iff_eq.mpr c44
         clear c44
         by_cases c45 : (t211 != t213) = true
         ·
          rw [if_pos c45] at H
          exact (laws_FnDrillsTurnOfAll.j1_no _ _ _ _ _ _ _ _ _ _ _ _ _ _ _ _ _ _ (H.trans (congrArg some HE_.out))).elim
         ·
          rw [if_neg c45] at H
          have c45b0 : (t211 != t213) = false := by simpa using c45
          (try (have c45b1 : decide (t211 = t213) = true := by simpa using c45))
          (try (have c45b2 : (t211 == t213) = true := by simpa using c45))
          clear c45
          by_cases c46 : t210.toList = t212.toList
          ·
           rw [if_pos c46] at H
           have c46b0 : (t210.toList == t212.toList) = true := beq_iff_eq.mpr c46
           have c46b1 : (t210.toList != t212.toList) = false := bne_eq_false_iff_eq.mpr c46
           clear c46
           by_cases c47 : (t215 != t217) = true
           ·
            rw [if_pos c47] at H
            exact (laws_FnDrillsTurnOfAll.j1_no _ _ _ _ _ _ _ _ _ _ _ _ _ _ _ _ _ _ (H.trans (congrArg some HE_.out))).elim
           ·
            rw [if_neg c47] at H
            have c47b0 : (t215 != t217) = false := by simpa using c47
            (try (have c47b1 : decide (t215 = t217) = true := by simpa using c47))
            (try (have c47b2 : (t215 == t217) = true := by simpa using c47))
            clear c47
            by_cases c48 : t214 = t216
            ·
             rw [if_pos c48] at H
             have c48b0 : (t214 == t216) = true := beq_iff_eq.mpr c48
             have c48b1 : (t214 != t216) = false := bne_eq_false_iff_eq.mpr c48
             clear c48
             replace H := Option.bind_eq_some_iff.mp H
             obtain ⟨t218, A490, H⟩ := H
             replace H : (if (t199 != t218) = true then (laws_FnDrillsTurnOfAll.j1 kj9 a0 a1 a2 a3 a4 a5 a6 a7 a8 t194 t195 t198 t199 t202 t206 t210 t214 true) else ((impl_AreCommands.f a1).bind fun t219 => ((spec_AreCommands.f kj9 a1).bind fun t220 => (if (t219 != t220) = true then (laws_FnDrillsTurnOfAll.j1 kj9 a0 a1 a2 a3 a4 a5 a6 a7 a8 t194 t195 t198 t199 t202 t206 t210 t214 true) else (if (t203 != t199) = true then (laws_FnDrillsTurnOfAll.j1 kj9 a0 a1 a2 a3 a4 a5 a6 a7 a8 t194 t195 t198 t199 t202 t206 t210 t214 true) else (if (t207 != t199) = true then (laws_FnDrillsTurnOfAll.j1 kj9 a0 a1 a2 a3 a4 a5 a6 a7 a8 t194 t195 t198 t199 t202 t206 t210 t214 true) else (if (t211 != t199) = true then (laws_FnDrillsTurnOfAll.j1 kj9 a0 a1 a2 a3 a4 a5 a6 a7 a8 t194 t195 t198 t199 t202 t206 t210 t214 true) else (if (t215 != t199) = true then (laws_FnDrillsTurnOfAll.j1 kj9 a0 a1 a2 a3 a4 a5 a6 a7 a8 t194 t195 t198 t199 t202 t206 t210 t214 true) else (if t199 = true then ((impl_AreFacing.f a0).bind fun t221 => (if (t195 != t221) = true then (laws_FnDrillsTurnOfAll.j1 kj9 a0 a1 a2 a3 a4 a5 a6 a7 a8 t194 t195 t198 t199 t202 t206 t210 t214 true) else ((impl_AreFacing.f a0).bind fun t222 => ((spec_AreFacing.f kj9 a0).bind fun t223 => (laws_FnDrillsTurnOfAll.j1 kj9 a0 a1 a2 a3 a4 a5 a6 a7 a8 t194 t195 t198 t199 t202 t206 t210 t214 (t222 != t223)))))) else (if (t195 != false) = true then (laws_FnDrillsTurnOfAll.j1 kj9 a0 a1 a2 a3 a4 a5 a6 a7 a8 t194 t195 t198 t199 t202 t206 t210 t214 true) else ((impl_AreFacing.f a0).bind fun t224 => ((spec_AreFacing.f kj9 a0).bind fun t225 => (laws_FnDrillsTurnOfAll.j1 kj9 a0 a1 a2 a3 a4 a5 a6 a7 a8 t194 t195 t198 t199 t202 t206 t210 t214 (t224 != t225)))))))))))))) = some r := H
             have A49 := Aside0.mk A490
             clear A490
             by_cases c50 : (t199 != t218) = true
             ·
              rw [if_pos c50] at H
              exact (laws_FnDrillsTurnOfAll.j1_no _ _ _ _ _ _ _ _ _ _ _ _ _ _ _ _ _ _ (H.trans (congrArg some HE_.out))).elim
             ·
              rw [if_neg c50] at H
              have c50b0 : (t199 != t218) = false := by simpa using c50
              (try (have c50b1 : decide (t199 = t218) = true := by simpa using c50))
              (try (have c50b2 : (t199 == t218) = true := by simpa using c50))
              clear c50
              replace H := Option.bind_eq_some_iff.mp H
              obtain ⟨t219, A510, H⟩ := H
              replace H : ((spec_AreCommands.f kj9 a1).bind fun t220 => (if (t219 != t220) = true then (laws_FnDrillsTurnOfAll.j1 kj9 a0 a1 a2 a3 a4 a5 a6 a7 a8 t194 t195 t198 t199 t202 t206 t210 t214 true) else (if (t203 != t199) = true then (laws_FnDrillsTurnOfAll.j1 kj9 a0 a1 a2 a3 a4 a5 a6 a7 a8 t194 t195 t198 t199 t202 t206 t210 t214 true) else (if (t207 != t199) = true then (laws_FnDrillsTurnOfAll.j1 kj9 a0 a1 a2 a3 a4 a5 a6 a7 a8 t194 t195 t198 t199 t202 t206 t210 t214 true) else (if (t211 != t199) = true then (laws_FnDrillsTurnOfAll.j1 kj9 a0 a1 a2 a3 a4 a5 a6 a7 a8 t194 t195 t198 t199 t202 t206 t210 t214 true) else (if (t215 != t199) = true then (laws_FnDrillsTurnOfAll.j1 kj9 a0 a1 a2 a3 a4 a5 a6 a7 a8 t194 t195 t198 t199 t202 t206 t210 t214 true) else (if t199 = true then ((impl_AreFacing.f a0).bind fun t221 => (if (t195 != t221) = true then (laws_FnDrillsTurnOfAll.j1 kj9 a0 a1 a2 a3 a4 a5 a6 a7 a8 t194 t195 t198 t199 t202 t206 t210 t214 true) else ((impl_AreFacing.f a0).bind fun t222 => ((spec_AreFacing.f kj9 a0).bind fun t223 => (laws_FnDrillsTurnOfAll.j1 kj9 a0 a1 a2 a3 a4 a5 a6 a7 a8 t194 t195 t198 t199 t202 t206 t210 t214 (t222 != t223)))))) else (if (t195 != false) = true then (laws_FnDrillsTurnOfAll.j1 kj9 a0 a1 a2 a3 a4 a5 a6 a7 a8 t194 t195 t198 t199 t202 t206 t210 t214 true) else ((impl_AreFacing.f a0).bind fun t224 => ((spec_AreFacing.f kj9 a0).bind fun t225 => (laws_FnDrillsTurnOfAll.j1 kj9 a0 a1 a2 a3 a4 a5 a6 a7 a8 t194 t195 t198 t199 t202 t206 t210 t214 (t224 != t225)))))))))))) = some r := H
              have A51 := Aside0.mk A510
              clear A510
              replace H := Option.bind_eq_some_iff.mp H
              obtain ⟨t220, A520, H⟩ := H
              replace H : (if (t219 != t220) = true then (laws_FnDrillsTurnOfAll.j1 kj9 a0 a1 a2 a3 a4 a5 a6 a7 a8 t194 t195 t198 t199 t202 t206 t210 t214 true) else (if (t203 != t199) = true then (laws_FnDrillsTurnOfAll.j1 kj9 a0 a1 a2 a3 a4 a5 a6 a7 a8 t194 t195 t198 t199 t202 t206 t210 t214 true) else (if (t207 != t199) = true then (laws_FnDrillsTurnOfAll.j1 kj9 a0 a1 a2 a3 a4 a5 a6 a7 a8 t194 t195 t198 t199 t202 t206 t210 t214 true) else (if (t211 != t199) = true then (laws_FnDrillsTurnOfAll.j1 kj9 a0 a1 a2 a3 a4 a5 a6 a7 a8 t194 t195 t198 t199 t202 t206 t210 t214 true) else (if (t215 != t199) = true then (laws_FnDrillsTurnOfAll.j1 kj9 a0 a1 a2 a3 a4 a5 a6 a7 a8 t194 t195 t198 t199 t202 t206 t210 t214 true) else (if t199 = true then ((impl_AreFacing.f a0).bind fun t221 => (if (t195 != t221) = true then (laws_FnDrillsTurnOfAll.j1 kj9 a0 a1 a2 a3 a4 a5 a6 a7 a8 t194 t195 t198 t199 t202 t206 t210 t214 true) else ((impl_AreFacing.f a0).bind fun t222 => ((spec_AreFacing.f kj9 a0).bind fun t223 => (laws_FnDrillsTurnOfAll.j1 kj9 a0 a1 a2 a3 a4 a5 a6 a7 a8 t194 t195 t198 t199 t202 t206 t210 t214 (t222 != t223)))))) else (if (t195 != false) = true then (laws_FnDrillsTurnOfAll.j1 kj9 a0 a1 a2 a3 a4 a5 a6 a7 a8 t194 t195 t198 t199 t202 t206 t210 t214 true) else ((impl_AreFacing.f a0).bind fun t224 => ((spec_AreFacing.f kj9 a0).bind fun t225 => (laws_FnDrillsTurnOfAll.j1 kj9 a0 a1 a2 a3 a4 a5 a6 a7 a8 t194 t195 t198 t199 t202 t206 t210 t214 (t224 != t225))))))))))) = some r := H
              have A52 := Aside0.mk A520
              clear A520
              by_cases c53 : (t219 != t220) = true
              ·
               rw [if_pos c53] at H
               exact (laws_FnDrillsTurnOfAll.j1_no _ _ _ _ _ _ _ _ _ _ _ _ _ _ _ _ _ _ (H.trans (congrArg some HE_.out))).elim
              ·
               rw [if_neg c53] at H
               have c53b0 : (t219 != t220) = false := by simpa using c53
               (try (have c53b1 : decide (t219 = t220) = true := by simpa using c53))
               (try (have c53b2 : (t219 == t220) = true := by simpa using c53))
               clear c53
               by_cases c54 : (t203 != t199) = true
               ·
                rw [if_pos c54] at H
                exact (laws_FnDrillsTurnOfAll.j1_no _ _ _ _ _ _ _ _ _ _ _ _ _ _ _ _ _ _ (H.trans (congrArg some HE_.out))).elim
               ·
                rw [if_neg c54] at H
                have c54b0 : (t203 != t199) = false := by simpa using c54
                (try (have c54b1 : decide (t203 = t199) = true := by simpa using c54))
                (try (have c54b2 : (t203 == t199) = true := by simpa using c54))
                clear c54
                by_cases c55 : (t207 != t199) = true
                ·
                 rw [if_pos c55] at H
                 exact (laws_FnDrillsTurnOfAll.j1_no _ _ _ _ _ _ _ _ _ _ _ _ _ _ _ _ _ _ (H.trans (congrArg some HE_.out))).elim
                ·
                 rw [if_neg c55] at H
                 have c55b0 : (t207 != t199) = false := by simpa using c55
                 (try (have c55b1 : decide (t207 = t199) = true := by simpa using c55))
                 (try (have c55b2 : (t207 == t199) = true := by simpa using c55))
                 clear c55
                 by_cases c56 : (t211 != t199) = true
                 ·
                  rw [if_pos c56] at H
                  exact (laws_FnDrillsTurnOfAll.j1_no _ _ _ _ _ _ _ _ _ _ _ _ _ _ _ _ _ _ (H.trans (congrArg some HE_.out))).elim
                 ·
                  rw [if_neg c56] at H
                  have c56b0 : (t211 != t199) = false := by simpa using c56
                  (try (have c56b1 : decide (t211 = t199) = true := by simpa using c56))
                  (try (have c56b2 : (t211 == t199) = true := by simpa using c56))
                  clear c56
                  by_cases c57 : (t215 != t199) = true
                  ·
                   rw [if_pos c57] at H
                   exact (laws_FnDrillsTurnOfAll.j1_no _ _ _ _ _ _ _ _ _ _ _ _ _ _ _ _ _ _ (H.trans (congrArg some HE_.out))).elim
                  ·
                   rw [if_neg c57] at H
                   have c57b0 : (t215 != t199) = false := by simpa using c57
                   (try (have c57b1 : decide (t215 = t199) = true := by simpa using c57))
                   (try (have c57b2 : (t215 == t199) = true := by simpa using c57))
                   clear c57
                   by_cases c58 : t199 = true
                   ·
                    subst c58
                    have H1 : ((impl_AreFacing.f a0).bind fun t221 => (if (t195 != t221) = true then (laws_FnDrillsTurnOfAll.j1 kj9 a0 a1 a2 a3 a4 a5 a6 a7 a8 t194 t195 t198 true t202 t206 t210 t214 true) else ((impl_AreFacing.f a0).bind fun t222 => ((spec_AreFacing.f kj9 a0).bind fun t223 => (laws_FnDrillsTurnOfAll.j1 kj9 a0 a1 a2 a3 a4 a5 a6 a7 a8 t194 t195 t198 true t202 t206 t210 t214 (t222 != t223)))))) = some r := by rw [if_pos rfl] at H; exact H
                    clear H
                    have H := H1
                    clear H1
                    replace H := Option.bind_eq_some_iff.mp H
                    obtain ⟨t221, A590, H⟩ := H
                    replace H : (if (t195 != t221) = true then (laws_FnDrillsTurnOfAll.j1 kj9 a0 a1 a2 a3 a4 a5 a6 a7 a8 t194 t195 t198 true t202 t206 t210 t214 true) else ((impl_AreFacing.f a0).bind fun t222 => ((spec_AreFacing.f kj9 a0).bind fun t223 => (laws_FnDrillsTurnOfAll.j1 kj9 a0 a1 a2 a3 a4 a5 a6 a7 a8 t194 t195 t198 true t202 t206 t210 t214 (t222 != t223))))) = some r := H
                    have A59 := Aside0.mk A590
                    clear A590
                    by_cases c60 : (t195 != t221) = true
                    ·
                     rw [if_pos c60] at H
                     exact (laws_FnDrillsTurnOfAll.j1_no _ _ _ _ _ _ _ _ _ _ _ _ _ _ _ _ _ _ (H.trans (congrArg some HE_.out))).elim
                    ·
                     rw [if_neg c60] at H
                     have c60b0 : (t195 != t221) = false := by simpa using c60
                     (try (have c60b1 : decide (t195 = t221) = true := by simpa using c60))
                     (try (have c60b2 : (t195 == t221) = true := by simpa using c60))
                     clear c60
                     replace H := Option.bind_eq_some_iff.mp H
                     obtain ⟨t222, A610, H⟩ := H
                     replace H : ((spec_AreFacing.f kj9 a0).bind fun t223 => (laws_FnDrillsTurnOfAll.j1 kj9 a0 a1 a2 a3 a4 a5 a6 a7 a8 t194 t195 t198 true t202 t206 t210 t214 (t222 != t223))) = some r := H
                     have A61 := Aside0.mk A610
                     clear A610
                     replace H := Option.bind_eq_some_iff.mp H
                     obtain ⟨t223, A620, H⟩ := H
                     replace H : (laws_FnDrillsTurnOfAll.j1 kj9 a0 a1 a2 a3 a4 a5 a6 a7 a8 t194 t195 t198 true t202 t206 t210 t214 (t222 != t223)) = some r := H
                     have A62 := Aside0.mk A620
                     clear A620
                     have H' := Aside0.mk H
                     clear H
                     (try (have e_ := Option.some.inj (A51.out.symm.trans A49.out); subst e_))
                     (try (have e_ := Option.some.inj (A61.out.symm.trans A59.out); subst e_))
                     go_wp2_with (first | (go_at_call 17; (with_reducible refine (impl_AreCommands.calls a1 t218 _ A49.out).mono ?_); rintro e w63 ⟨rfl, hb⟩; have n0_ := Aside0.mk (below_step (by repeat (first | (with_reducible first | exact HB.out | apply below_alloc | apply pw_below_drewN | apply below_drew1) | exact HB.out)) hb); clear HB; have HB := n0_; clear n0_; (try clear hb); (try clear hb2); (try clear hk); (try clear hi)) | (go_at_call 17; (with_reducible refine (impl_AreCommands.calls a1 t219 _ A51.out).mono ?_); rintro e w64 ⟨rfl, hb⟩; have n0_ := Aside0.mk (below_step (by repeat (first | (with_reducible first | exact HB.out | apply below_alloc | apply pw_below_drewN | apply below_drew1) | exact HB.out)) hb); clear HB; have HB := n0_; clear n0_; (try clear hb); (try clear hb2); (try clear hk); (try clear hi)) | (go_at_call 18; (with_reducible refine (spec_AreCommands.calls kj9 a1 t220 _ A52.out).mono ?_); rintro e w' ⟨rfl, ⟨nd, rfl⟩⟩) | (go_at_call 19; (with_reducible refine (impl_AreFacing.calls a0 t221 _ A59.out).mono ?_); rintro e w65 ⟨rfl, hb⟩; have n0_ := Aside0.mk (below_step (by repeat (first | (with_reducible first | exact HB.out | apply below_alloc | apply pw_below_drewN | apply below_drew1) | exact HB.out)) hb); clear HB; have HB := n0_; clear n0_; (try clear hb); (try clear hb2); (try clear hk); (try clear hi)) | (go_at_call 19; (with_reducible refine (impl_AreFacing.calls a0 t222 _ A61.out).mono ?_); rintro e w66 ⟨rfl, hb⟩; have n0_ := Aside0.mk (below_step (by repeat (first | (with_reducible first | exact HB.out | apply below_alloc | apply pw_below_drewN | apply below_drew1) | exact HB.out)) hb); clear HB; have HB := n0_; clear n0_; (try clear hb); (try clear hb2); (try clear hk); (try clear hi)) | (go_at_call 20; (with_reducible refine (spec_AreFacing.calls kj9 a0 t223 _ A62.out).mono ?_); rintro e w' ⟨rfl, ⟨nd, rfl⟩⟩))
                     go_meet
                     case rel => exact ⟨_, ((t222 != t223)), (by first | rfl | (simp; done) | (simp [*]; done)), H', ⟨by have := HJ9.out; first | omega | exact Nat.le_refl _⟩, ⟨by repeat (first | (with_reducible first | exact HB.out | apply below_alloc | apply pw_below_drewN | apply below_drew1) | exact HB.out)⟩⟩
                   ·
                    replace c58 := Bool.eq_false_iff.mpr c58
                    subst c58
                    have H1 : (if (t195 != false) = true then (laws_FnDrillsTurnOfAll.j1 kj9 a0 a1 a2 a3 a4 a5 a6 a7 a8 t194 t195 t198 false t202 t206 t210 t214 true) else ((impl_AreFacing.f a0).bind fun t224 => ((spec_AreFacing.f kj9 a0).bind fun t225 => (laws_FnDrillsTurnOfAll.j1 kj9 a0 a1 a2 a3 a4 a5 a6 a7 a8 t194 t195 t198 false t202 t206 t210 t214 (t224 != t225))))) = some r := by rw [if_neg (show ¬ (false = true) by decide)] at H; exact H
                    clear H
                    have H := H1
                    clear H1
                    by_cases c67 : (t195 != false) = true
                    ·
                     rw [if_pos c67] at H
                     exact (laws_FnDrillsTurnOfAll.j1_no _ _ _ _ _ _ _ _ _ _ _ _ _ _ _ _ _ _ (H.trans (congrArg some HE_.out))).elim
                    ·
                     rw [if_neg c67] at H
                     have c67b0 : (t195 != false) = false := by simpa using c67
                     (try (have c67b1 : decide (t195 = false) = true := by simpa using c67))
                     (try (have c67b2 : (t195 == false) = true := by simpa using c67))
                     clear c67
                     replace H := Option.bind_eq_some_iff.mp H
                     obtain ⟨t224, A680, H⟩ := H
                     replace H : ((spec_AreFacing.f kj9 a0).bind fun t225 => (laws_FnDrillsTurnOfAll.j1 kj9 a0 a1 a2 a3 a4 a5 a6 a7 a8 t194 t195 t198 false t202 t206 t210 t214 (t224 != t225))) = some r := H
                     have A68 := Aside0.mk A680
                     clear A680
                     replace H := Option.bind_eq_some_iff.mp H
                     obtain ⟨t225, A690, H⟩ := H
                     replace H : (laws_FnDrillsTurnOfAll.j1 kj9 a0 a1 a2 a3 a4 a5 a6 a7 a8 t194 t195 t198 false t202 t206 t210 t214 (t224 != t225)) = some r := H
                     have A69 := Aside0.mk A690
                     clear A690
                     have H' := Aside0.mk H
                     clear H
                     (try (have e_ := Option.some.inj (A51.out.symm.trans A49.out); subst e_))
                     go_wp2_with (first | (go_at_call 17; (with_reducible refine (impl_AreCommands.calls a1 t218 _ A49.out).mono ?_); rintro e w70 ⟨rfl, hb⟩; have n0_ := Aside0.mk (below_step (by repeat (first | (with_reducible first | exact HB.out | apply below_alloc | apply pw_below_drewN | apply below_drew1) | exact HB.out)) hb); clear HB; have HB := n0_; clear n0_; (try clear hb); (try clear hb2); (try clear hk); (try clear hi)) | (go_at_call 17; (with_reducible refine (impl_AreCommands.calls a1 t219 _ A51.out).mono ?_); rintro e w71 ⟨rfl, hb⟩; have n0_ := Aside0.mk (below_step (by repeat (first | (with_reducible first | exact HB.out | apply below_alloc | apply pw_below_drewN | apply below_drew1) | exact HB.out)) hb); clear HB; have HB := n0_; clear n0_; (try clear hb); (try clear hb2); (try clear hk); (try clear hi)) | (go_at_call 18; (with_reducible refine (spec_AreCommands.calls kj9 a1 t220 _ A52.out).mono ?_); rintro e w' ⟨rfl, ⟨nd, rfl⟩⟩) | (go_at_call 19; (with_reducible refine (impl_AreFacing.calls a0 t224 _ A68.out).mono ?_); rintro e w72 ⟨rfl, hb⟩; have n0_ := Aside0.mk (below_step (by repeat (first | (with_reducible first | exact HB.out | apply below_alloc | apply pw_below_drewN | apply below_drew1) | exact HB.out)) hb); clear HB; have HB := n0_; clear n0_; (try clear hb); (try clear hb2); (try clear hk); (try clear hi)) | (go_at_call 20; (with_reducible refine (spec_AreFacing.calls kj9 a0 t225 _ A69.out).mono ?_); rintro e w' ⟨rfl, ⟨nd, rfl⟩⟩))
                     go_meet
                     case rel => exact ⟨_, ((t224 != t225)), (by first | rfl | (simp; done) | (simp [*]; done)), H', ⟨by have := HJ9.out; first | omega | exact Nat.le_refl _⟩, ⟨by repeat (first | (with_reducible first | exact HB.out | apply below_alloc | apply pw_below_drewN | apply below_drew1) | exact HB.out)⟩⟩
            ·
             rw [if_neg c48] at H
             exact (laws_FnDrillsTurnOfAll.j1_no _ _ _ _ _ _ _ _ _ _ _ _ _ _ _ _ _ _ (H.trans (congrArg some HE_.out))).elim
          ·
           rw [if_neg c46] at H
           exact (laws_FnDrillsTurnOfAll.j1_no _ _ _ _ _ _ _ _ _ _ _ _ _ _ _ _ _ _ (H.trans (congrArg some HE_.out))).elim
        ·
         rw [if_neg c44] at H
         exact (laws_FnDrillsTurnOfAll.j1_no _ _ _ _ _ _ _ _ _ _ _ _ _ _ _ _ _ _ (H.trans (congrArg some HE_.out))).elim
      ·
       rw [if_neg c42] at H
       exact (laws_FnDrillsTurnOfAll.j1_no _ _ _ _ _ _ _ _ _ _ _ _ _ _ _ _ _ _ (H.trans (congrArg some HE_.out))).elim
    ·
     rw [if_neg c40] at H
     exact (laws_FnDrillsTurnOfAll.j1_no _ _ _ _ _ _ _ _ _ _ _ _ _ _ _ _ _ _ (H.trans (congrArg some HE_.out))).elim
  ·
   rw [if_neg c38] at H
   exact (laws_FnDrillsTurnOfAll.j1_no _ _ _ _ _ _ _ _ _ _ _ _ _ _ _ _ _ _ (H.trans (congrArg some HE_.out))).elim

set_option maxHeartbeats 8000000 in
set_option maxRecDepth 100000 in
def laws_FnDrillsTurnOfAll.part4 : Σ' (R1 R2 : Prop), PLift R1 → PLift R2 → (laws_FnDrillsTurnOfAll.part2.2.1) := by
 refine' ⟨_, _, fun hole1 hole2 => _⟩
 rotate_left 2
 ·
  conv => whnf
  intro a0 a1 a4 a5 a6 a8 t194 t196 t202 t204 t206 t208 t210 t212 r HE_ t195 t197 t199 t201 t203 t205 t207 A23 t209 t211 A25 t213 t215 t217 k kj9 HJ9 A17 A18 A21 A22 A24 A26 nd nd nd nd nd a2 a3 a7 t198 A19 t200 A20 t214 A27 t216 A28 HC29 K K u91 u92 u93 u94 u95 u96 u97 u98 u99 u100 u101 u102 u103 u104 u105 u106 u107 u108 u109 u110 u111 u112 u113 u114 u115 u116 u117 u118 u119 u120 u121 u122 u123 u124 u125 u126 u127 u128 u129 u130 u131 u132 u133 u134 u135 u136 u137 u138 u139 u140 u141 u142 u143 u144 u145 u146 u147 u148 u149 u150 u151 u152 u153 u154 u155 u156 u157 u158 u159 u160 u161 u162 u163 u164 u165 u166 u167 u168 u169 u170 u171 u172 u173 u174 u175 u176 u177 u178 u179 u180 u181 u182 u183 u184 u185 u186 u187 u188 u189 u190 u191 u192 u193 u194 u195 u196 u197 u198 u199 u200 u201 u202 u203 u204 u205 u206 u207 u208 u209 u210 u211 u212 u213 u214 u215 u216 u217 u218 u219 u220 u221 u222 u223 u224 u225 u226 u227 u228 u229 u230 u231 u232 u233 u234 u235 u236 u237 u238 u239 u240 u241 u242 u243 u244 u245 u246 u247 u248 u249 u250 u251 u252 u253 u254 u255 u256 u257 u258 u259 u260 u261 u262 u263 u264 u265 u266 u267 u268 u269 u270 u271 u272 u273 u274 u275 u276 u277 u278 u279 u280 u281 u282 u283 u284 u285 u286 u287 w HB Q' a a wc w30 w31 w32 w33 w34 w35 w36 HB wc hcut
  clear HC29
  try clear c16
  obtain ⟨kq, x287_28, rfl, HA, HJ28, HB⟩ := hcut
  cases kq with
  | zero => exact absurd HA.out (by simp [laws_FnDrillsTurnOfAll.j1])
  | succ kj28 =>
   have H := HA.out
   clear HA
   simp only [laws_FnDrillsTurnOfAll.j1] at H
   by_cases c73 : x287_28 = true
   ·
    subst c73
    have H1 : (some false) = some r := by rw [if_pos rfl] at H; exact H
    clear H
    have H := H1
    clear H1
    exact absurd (H.trans (congrArg some HE_.out)) (by simp)
   ·
    replace c73 := Bool.eq_false_iff.mpr c73
    subst c73
    have H1 : (if t199 = true then ((impl_NetTurn.f kj28 t202).bind fun bt226 => ((impl_NetTurn.f kj28 t206).bind fun bt228 => ((impl_NetTurn.f kj28 t210).bind fun bt230 => ((impl_MirrorCommands.f t210).bind fun bt232 => ((impl_BackCommands.f t206).bind fun bt234 => (if t198 < 0 then (some false) else (if t198 > 3 then (some false) else (if (t202.size : Int) > 1 then (some false) else (if bt226.2 = true then (if bt226.1 = t198 then (if bt228.2 = true then (if (Int.tmod (wrap64 (bt228.1 + t198)) 4) = 0 then (if bt230.2 = true then (if bt230.1 = bt228.1 then (if bt232.2 = true then (if bt232.1.toList = a1.toList then (if bt234.2 = true then (if bt234.1.toList = a1.toList then (if (t206.size : Int) = (a1.size : Int) then (if t214 < 1 then (some false) else (if (Int.tmod (wrap64 (t214 * t198)) 4) = 0 then (if t214 > 4 then (some false) else (laws_FnDrillsTurnOfAll.j2 kj28 a0 a2 a3 a4 a5 a6 a7 a8 t194 t195 t198 t202 t206)) else (some false))) else (some false)) else (some false)) else (some false)) else (some false)) else (some false)) else (some false)) else (some false)) else (some false)) else (some false)) else (some false)) else (some false)))))))))) else (laws_FnDrillsTurnOfAll.j2 kj28 a0 a2 a3 a4 a5 a6 a7 a8 t194 t195 t198 t202 t206)) = some r := by rw [if_neg (show ¬ (false = true) by decide)] at H; exact H
    clear H
    have H := H1
    clear H1
    have HC74 := Aside0.mk H
    clear H
    go_upto_if 288 with (fail)
    go_cut [] from 118 to 439 (fun wc => ∃ (kq : Nat), Aside0 (laws_FnDrillsTurnOfAll.j2 kq a0 a2 a3 a4 a5 a6 a7 a8 t194 t195 t198 t202 t206 = some r) ∧ Aside0 (kq ≤ kj28) ∧ Aside0 (Below w.heap.size w wc))
    case first =>
     -- part 5
     (repeat revert ‹World›)
     (repeat revert ‹Value›)
     (repeat revert ‹Nat → Act → World → Prop›)
     (repeat revert ‹Act → World → Prop›)
     (repeat revert ‹Int›)
     (repeat revert ‹Nat›)
     (repeat revert ‹Bool›)
     (repeat revert ‹List (List Int)›)
     (repeat revert ‹List Int›)
     (repeat revert ‹Addr›)
     (repeat revert ‹Option Addr›)
     (repeat revert ‹ByteArray›)
     (repeat revert ‹List ByteArray›)
     exact hole1.down
    case rest =>
     -- part 6
     (repeat revert ‹World›)
     (repeat revert ‹Value›)
     (repeat revert ‹Nat → Act → World → Prop›)
     (repeat revert ‹Act → World → Prop›)
     (repeat revert ‹Int›)
     (repeat revert ‹Nat›)
     (repeat revert ‹Bool›)
     (repeat revert ‹List (List Int)›)
     (repeat revert ‹List Int›)
     (repeat revert ‹Addr›)
     (repeat revert ‹Option Addr›)
     (repeat revert ‹ByteArray›)
     (repeat revert ‹List ByteArray›)
     exact hole2.down
end Go.Proofs.YtgdmbhldabeelaaRGreatDoor.PFnDrillsTurnOfAll
