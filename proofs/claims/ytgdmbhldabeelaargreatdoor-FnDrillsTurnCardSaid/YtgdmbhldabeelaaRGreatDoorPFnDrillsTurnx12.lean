-- Written by a program of this session's (pg.py) over the kit's print.
import Derived.Test.YtgdmbhldabeelaaRGreatDoorPFnDrillsTurnx0
import Derived.Test.YtgdmbhldabeelaaRGreatDoorPFnDrillsTurnx1
import Derived.Test.YtgdmbhldabeelaaRGreatDoorPFnDrillsTurnx2
import Derived.Test.YtgdmbhldabeelaaRGreatDoorPFnDrillsTurnx3
import Derived.Test.YtgdmbhldabeelaaRGreatDoorPFnDrillsTurnx4
import Derived.Test.YtgdmbhldabeelaaRGreatDoorPFnDrillsTurnx5
import Derived.Test.YtgdmbhldabeelaaRGreatDoorPFnDrillsTurnx6
import Derived.Test.YtgdmbhldabeelaaRGreatDoorPFnDrillsTurnx7
import Derived.Test.YtgdmbhldabeelaaRGreatDoorPFnDrillsTurnx8
import Derived.Test.YtgdmbhldabeelaaRGreatDoorPFnDrillsTurnx9
import Derived.Test.YtgdmbhldabeelaaRGreatDoorPFnDrillsTurnx10
import Derived.Deep.CutRange
import Derived.Test.YtgdmbhldabeelaaRGreatDoorPFnDrillsTurnx11
namespace Go.Proofs.YtgdmbhldabeelaaRGreatDoor.PFnDrillsTurn
open Go.RowKit Go.Proofs.YtgdmbhldabeelaaRGreatDoorW.PrintWords Go.Proofs.YtgdmbhldabeelaaRGreatDoorW.PrintLast Go.Proofs.YtgdmbhldabeelaaRGreatDoorW.PrintMore
attribute [local go_sem] max2_int min2_int max_two min_two max_three min_three max_four min_four   -- for this text's walks alone
set_option linter.unusedVariables false
set_option linter.unusedSimpArgs false


set_option maxHeartbeats 8000000 in
set_option maxRecDepth 100000 in
theorem laws_FnDrillsTurn.part1 : laws_FnDrillsTurn.part0.1 := by
 conv => whnf
 intro t270 t271 t272 t274 t280 t282 t284 t286 t288 t290 A0 A1 l0 l1 A3 r HE_ t273 t275 t277 t279 t281 t283 t285 A12 t287 t289 A14 t291 t293 t295 k A5 A6 A7 A10 A11 A13 A15 c0 HC0 c1 HC1 nd nd nd nd nd nd t276 A8 t278 A9 t292 A16 t294 A17 HC18 K K J K' a w HR0 HR1 Q' a a a w19 w20 w21 w22 w23 w24 w25 w26 HB
 have H := HC18.out
 clear HC18
 by_cases c27 : (t273 != t275) = true
 ·
  rw [if_pos c27] at H
  exact (laws_FnDrillsTurn.j0_no _ _ _ _ _ _ _ _ _ _ _ _ (H.trans (congrArg some HE_.out))).elim
 ·
  rw [if_neg c27] at H
  have c27b0 : (t273 != t275) = false := by simpa using c27
  (try (have c27b1 : decide (t273 = t275) = true := by simpa using c27))
  (try (have c27b2 : (t273 == t275) = true := by simpa using c27))
  clear c27
  (first | rw [c27b0] | (simp only [i64_w, i32_w]; rw [c27b0]) | skip)
  by_cases c28 : t272.toList = t274.toList
  ·
   rw [if_pos c28] at H
   have c28b0 : (t272.toList == t274.toList) = true := beq_iff_eq.mpr c28
   have c28b1 : (t272.toList != t274.toList) = false := bne_eq_false_iff_eq.mpr c28
   clear c28
   by_cases c29 : (t277 != t279) = true
   ·
    rw [if_pos c29] at H
    exact (laws_FnDrillsTurn.j0_no _ _ _ _ _ _ _ _ _ _ _ _ (H.trans (congrArg some HE_.out))).elim
   ·
    rw [if_neg c29] at H
    have c29b0 : (t277 != t279) = false := by simpa using c29
    (try (have c29b1 : decide (t277 = t279) = true := by simpa using c29))
    (try (have c29b2 : (t277 == t279) = true := by simpa using c29))
    clear c29
    by_cases c30 : t276 = t278
    ·
     rw [if_pos c30] at H
     have c30b0 : (t276 == t278) = true := beq_iff_eq.mpr c30
     have c30b1 : (t276 != t278) = false := bne_eq_false_iff_eq.mpr c30
     clear c30
     by_cases c31 : (t281 != t283) = true
     ·
      rw [if_pos c31] at H
      exact (laws_FnDrillsTurn.j0_no _ _ _ _ _ _ _ _ _ _ _ _ (H.trans (congrArg some HE_.out))).elim
     ·
      rw [if_neg c31] at H
      have c31b0 : (t281 != t283) = false := by simpa using c31
      (try (have c31b1 : decide (t281 = t283) = true := by simpa using c31))
      (try (have c31b2 : (t281 == t283) = true := by simpa using c31))
      clear c31
      by_cases c32 : t280.toList = t282.toList
      ·
       rw [if_pos c32] at H
       have c32b0 : (t280.toList == t282.toList) = true := beq_iff_eq.mpr c32
       have c32b1 : (t280.toList != t282.toList) = false := bne_eq_false_iff_eq.mpr c32
       clear c32
       by_cases c33 : (t285 != t287) = true
       ·
        rw [if_pos c33] at H
        exact (laws_FnDrillsTurn.j0_no _ _ _ _ _ _ _ _ _ _ _ _ (H.trans (congrArg some HE_.out))).elim
       ·
        rw [if_neg c33] at H
        have c33b0 : (t285 != t287) = false := by simpa using c33
        (try (have c33b1 : decide (t285 = t287) = true := by simpa using c33))
        (try (have c33b2 : (t285 == t287) = true := by simpa using c33))
        clear c33
        by_cases c34 : t284.toList = t286.toList
        ·
         rw [if_pos c34] at H
         have c34b0 : (t284.toList == t286.toList) = true := beq_iff_eq.mpr c34
         have c34b1 : (t284.toList != t286.toList) = false := bne_eq_false_iff_eq.mpr c34
         clear c34
         by_cases c35 : (t289 != t291) = true
         ·
          rw [if_pos c35] at H
          exact (laws_FnDrillsTurn.j0_no _ _ _ _ _ _ _ _ _ _ _ _ (H.trans (congrArg some HE_.out))).elim
         ·
          rw [if_neg c35] at H
          have c35b0 : (t289 != t291) = false := by simpa using c35
          (try (have c35b1 : decide (t289 = t291) = true := by simpa using c35))
          (try (have c35b2 : (t289 == t291) = true := by simpa using c35))
          clear c35
          by_cases c36 : t288.toList = t290.toList
          ·
           rw [if_pos c36] at H
           have c36b0 : (t288.toList == t290.toList) = true := beq_iff_eq.mpr c36
           have c36b1 : (t288.toList != t290.toList) = false := bne_eq_false_iff_eq.mpr c36
           clear c36
           by_cases c37 : (t293 != t295) = true
           ·
            rw [if_pos c37] at H
            exact (laws_FnDrillsTurn.j0_no _ _ _ _ _ _ _ _ _ _ _ _ (H.trans (congrArg some HE_.out))).elim
           ·
            rw [if_neg c37] at H
            have c37b0 : (t293 != t295) = false := by simpa using c37
            (try (have c37b1 : decide (t293 = t295) = true := by simpa using c37))
            (try (have c37b2 : (t293 == t295) = true := by simpa using c37))
            clear c37
            by_cases c38 : t292 = t294
            ·
             rw [if_pos c38] at H
             have c38b0 : (t292 == t294) = true := beq_iff_eq.mpr c38
             have c38b1 : (t292 != t294) = false := bne_eq_false_iff_eq.mpr c38
             clear c38
             replace H := Option.bind_eq_some_iff.mp H
             obtain ⟨t296, A390, H⟩ := H
             replace H : (if (t277 != t296) = true then (laws_FnDrillsTurn.j0 k l1 t270 t271 t272 t273 t276 t277 t280 t284 t288 t292 true) else ((impl_AreCommands.f t271).bind fun t297 => ((spec_AreCommands.f k t271).bind fun t298 => (if (t297 != t298) = true then (laws_FnDrillsTurn.j0 k l1 t270 t271 t272 t273 t276 t277 t280 t284 t288 t292 true) else (if (t281 != t277) = true then (laws_FnDrillsTurn.j0 k l1 t270 t271 t272 t273 t276 t277 t280 t284 t288 t292 true) else (if (t285 != t277) = true then (laws_FnDrillsTurn.j0 k l1 t270 t271 t272 t273 t276 t277 t280 t284 t288 t292 true) else (if (t289 != t277) = true then (laws_FnDrillsTurn.j0 k l1 t270 t271 t272 t273 t276 t277 t280 t284 t288 t292 true) else (if (t293 != t277) = true then (laws_FnDrillsTurn.j0 k l1 t270 t271 t272 t273 t276 t277 t280 t284 t288 t292 true) else (if t277 = true then ((impl_AreFacing.f t270).bind fun t299 => (if (t273 != t299) = true then (laws_FnDrillsTurn.j0 k l1 t270 t271 t272 t273 t276 t277 t280 t284 t288 t292 true) else ((impl_AreFacing.f t270).bind fun t300 => ((spec_AreFacing.f k t270).bind fun t301 => (laws_FnDrillsTurn.j0 k l1 t270 t271 t272 t273 t276 t277 t280 t284 t288 t292 (t300 != t301)))))) else (if (t273 != false) = true then (laws_FnDrillsTurn.j0 k l1 t270 t271 t272 t273 t276 t277 t280 t284 t288 t292 true) else ((impl_AreFacing.f t270).bind fun t302 => ((spec_AreFacing.f k t270).bind fun t303 => (laws_FnDrillsTurn.j0 k l1 t270 t271 t272 t273 t276 t277 t280 t284 t288 t292 (t302 != t303)))))))))))))) = some r := H
             have A39 := Aside0.mk A390
             clear A390
             by_cases c40 : (t277 != t296) = true
             ·
              rw [if_pos c40] at H
              exact (laws_FnDrillsTurn.j0_no _ _ _ _ _ _ _ _ _ _ _ _ (H.trans (congrArg some HE_.out))).elim
             ·
              rw [if_neg c40] at H
              have c40b0 : (t277 != t296) = false := by simpa using c40
              (try (have c40b1 : decide (t277 = t296) = true := by simpa using c40))
              (try (have c40b2 : (t277 == t296) = true := by simpa using c40))
              clear c40
              replace H := Option.bind_eq_some_iff.mp H
              obtain ⟨t297, A410, H⟩ := H
              replace H : ((spec_AreCommands.f k t271).bind fun t298 => (if (t297 != t298) = true then (laws_FnDrillsTurn.j0 k l1 t270 t271 t272 t273 t276 t277 t280 t284 t288 t292 true) else (if (t281 != t277) = true then (laws_FnDrillsTurn.j0 k l1 t270 t271 t272 t273 t276 t277 t280 t284 t288 t292 true) else (if (t285 != t277) = true then (laws_FnDrillsTurn.j0 k l1 t270 t271 t272 t273 t276 t277 t280 t284 t288 t292 true) else (if (t289 != t277) = true then (laws_FnDrillsTurn.j0 k l1 t270 t271 t272 t273 t276 t277 t280 t284 t288 t292 true) else (if (t293 != t277) = true then (laws_FnDrillsTurn.j0 k l1 t270 t271 t272 t273 t276 t277 t280 t284 t288 t292 true) else (if t277 = true then ((impl_AreFacing.f t270).bind fun t299 => (if (t273 != t299) = true then (laws_FnDrillsTurn.j0 k l1 t270 t271 t272 t273 t276 t277 t280 t284 t288 t292 true) else ((impl_AreFacing.f t270).bind fun t300 => ((spec_AreFacing.f k t270).bind fun t301 => (laws_FnDrillsTurn.j0 k l1 t270 t271 t272 t273 t276 t277 t280 t284 t288 t292 (t300 != t301)))))) else (if (t273 != false) = true then (laws_FnDrillsTurn.j0 k l1 t270 t271 t272 t273 t276 t277 t280 t284 t288 t292 true) else ((impl_AreFacing.f t270).bind fun t302 => ((spec_AreFacing.f k t270).bind fun t303 => (laws_FnDrillsTurn.j0 k l1 t270 t271 t272 t273 t276 t277 t280 t284 t288 t292 (t302 != t303)))))))))))) = some r := H
              have A41 := Aside0.mk A410
              clear A410
              replace H := Option.bind_eq_some_iff.mp H
              obtain ⟨t298, A420, H⟩ := H
              replace H : (if (t297 != t298) = true then (laws_FnDrillsTurn.j0 k l1 t270 t271 t272 t273 t276 t277 t280 t284 t288 t292 true) else (if (t281 != t277) = true then (laws_FnDrillsTurn.j0 k l1 t270 t271 t272 t273 t276 t277 t280 t284 t288 t292 true) else (if (t285 != t277) = true then (laws_FnDrillsTurn.j0 k l1 t270 t271 t272 t273 t276 t277 t280 t284 t288 t292 true) else (if (t289 != t277) = true then (laws_FnDrillsTurn.j0 k l1 t270 t271 t272 t273 t276 t277 t280 t284 t288 t292 true) else (if (t293 != t277) = true then (laws_FnDrillsTurn.j0 k l1 t270 t271 t272 t273 t276 t277 t280 t284 t288 t292 true) else (if t277 = true then ((impl_AreFacing.f t270).bind fun t299 => (if (t273 != t299) = true then (laws_FnDrillsTurn.j0 k l1 t270 t271 t272 t273 t276 t277 t280 t284 t288 t292 true) else ((impl_AreFacing.f t270).bind fun t300 => ((spec_AreFacing.f k t270).bind fun t301 => (laws_FnDrillsTurn.j0 k l1 t270 t271 t272 t273 t276 t277 t280 t284 t288 t292 (t300 != t301)))))) else (if (t273 != false) = true then (laws_FnDrillsTurn.j0 k l1 t270 t271 t272 t273 t276 t277 t280 t284 t288 t292 true) else ((impl_AreFacing.f t270).bind fun t302 => ((spec_AreFacing.f k t270).bind fun t303 => (laws_FnDrillsTurn.j0 k l1 t270 t271 t272 t273 t276 t277 t280 t284 t288 t292 (t302 != t303))))))))))) = some r := H
              have A42 := Aside0.mk A420
              clear A420
              by_cases c43 : (t297 != t298) = true
              ·
               rw [if_pos c43] at H
               exact (laws_FnDrillsTurn.j0_no _ _ _ _ _ _ _ _ _ _ _ _ (H.trans (congrArg some HE_.out))).elim
              ·
               rw [if_neg c43] at H
               have c43b0 : (t297 != t298) = false := by simpa using c43
               (try (have c43b1 : decide (t297 = t298) = true := by simpa using c43))
               (try (have c43b2 : (t297 == t298) = true := by simpa using c43))
               clear c43
               by_cases c44 : (t281 != t277) = true
               ·
                rw [if_pos c44] at H
                exact (laws_FnDrillsTurn.j0_no _ _ _ _ _ _ _ _ _ _ _ _ (H.trans (congrArg some HE_.out))).elim
               ·
                rw [if_neg c44] at H
                have c44b0 : (t281 != t277) = false := by simpa using c44
                (try (have c44b1 : decide (t281 = t277) = true := by simpa using c44))
                (try (have c44b2 : (t281 == t277) = true := by simpa using c44))
                clear c44
                by_cases c45 : (t285 != t277) = true
                ·
                 rw [if_pos c45] at H
                 exact (laws_FnDrillsTurn.j0_no _ _ _ _ _ _ _ _ _ _ _ _ (H.trans (congrArg some HE_.out))).elim
                ·
                 rw [if_neg c45] at H
                 have c45b0 : (t285 != t277) = false := by simpa using c45
                 (try (have c45b1 : decide (t285 = t277) = true := by simpa using c45))
                 (try (have c45b2 : (t285 == t277) = true := by simpa using c45))
                 clear c45
                 by_cases c46 : (t289 != t277) = true
                 ·
                  rw [if_pos c46] at H
                  exact (laws_FnDrillsTurn.j0_no _ _ _ _ _ _ _ _ _ _ _ _ (H.trans (congrArg some HE_.out))).elim
                 ·
                  rw [if_neg c46] at H
                  have c46b0 : (t289 != t277) = false := by simpa using c46
                  (try (have c46b1 : decide (t289 = t277) = true := by simpa using c46))
                  (try (have c46b2 : (t289 == t277) = true := by simpa using c46))
                  clear c46
                  by_cases c47 : (t293 != t277) = true
                  ·
                   rw [if_pos c47] at H
                   exact (laws_FnDrillsTurn.j0_no _ _ _ _ _ _ _ _ _ _ _ _ (H.trans (congrArg some HE_.out))).elim
                  ·
                   rw [if_neg c47] at H
                   have c47b0 : (t293 != t277) = false := by simpa using c47
                   (try (have c47b1 : decide (t293 = t277) = true := by simpa using c47))
                   (try (have c47b2 : (t293 == t277) = true := by simpa using c47))
                   clear c47
                   by_cases c48 : t277 = true
                   ·
                    subst c48
                    have H1 : ((impl_AreFacing.f t270).bind fun t299 => (if (t273 != t299) = true then (laws_FnDrillsTurn.j0 k l1 t270 t271 t272 t273 t276 true t280 t284 t288 t292 true) else ((impl_AreFacing.f t270).bind fun t300 => ((spec_AreFacing.f k t270).bind fun t301 => (laws_FnDrillsTurn.j0 k l1 t270 t271 t272 t273 t276 true t280 t284 t288 t292 (t300 != t301)))))) = some r := by rw [if_pos rfl] at H; exact H
                    clear H
                    have H := H1
                    clear H1
                    replace H := Option.bind_eq_some_iff.mp H
                    obtain ⟨t299, A490, H⟩ := H
                    replace H : (if (t273 != t299) = true then (laws_FnDrillsTurn.j0 k l1 t270 t271 t272 t273 t276 true t280 t284 t288 t292 true) else ((impl_AreFacing.f t270).bind fun t300 => ((spec_AreFacing.f k t270).bind fun t301 => (laws_FnDrillsTurn.j0 k l1 t270 t271 t272 t273 t276 true t280 t284 t288 t292 (t300 != t301))))) = some r := H
                    have A49 := Aside0.mk A490
                    clear A490
                    by_cases c50 : (t273 != t299) = true
                    ·
                     rw [if_pos c50] at H
                     exact (laws_FnDrillsTurn.j0_no _ _ _ _ _ _ _ _ _ _ _ _ (H.trans (congrArg some HE_.out))).elim
                    ·
                     rw [if_neg c50] at H
                     have c50b0 : (t273 != t299) = false := by simpa using c50
                     (try (have c50b1 : decide (t273 = t299) = true := by simpa using c50))
                     (try (have c50b2 : (t273 == t299) = true := by simpa using c50))
                     clear c50
                     replace H := Option.bind_eq_some_iff.mp H
                     obtain ⟨t300, A510, H⟩ := H
                     replace H : ((spec_AreFacing.f k t270).bind fun t301 => (laws_FnDrillsTurn.j0 k l1 t270 t271 t272 t273 t276 true t280 t284 t288 t292 (t300 != t301))) = some r := H
                     have A51 := Aside0.mk A510
                     clear A510
                     replace H := Option.bind_eq_some_iff.mp H
                     obtain ⟨t301, A520, H⟩ := H
                     replace H : (laws_FnDrillsTurn.j0 k l1 t270 t271 t272 t273 t276 true t280 t284 t288 t292 (t300 != t301)) = some r := H
                     have A52 := Aside0.mk A520
                     clear A520
                     have H' := Aside0.mk H
                     clear H
                     (try (have e_ := Option.some.inj (A41.out.symm.trans A39.out); subst e_))
                     (try (have e_ := Option.some.inj (A51.out.symm.trans A49.out); subst e_))
                     go_wp2_with (first | (go_at_call 17; (with_reducible refine (impl_AreCommands.calls t271 t296 _ A39.out).mono ?_); rintro e w53 ⟨rfl, hb⟩; have n0_ := Aside0.mk (below_step (by repeat (first | (with_reducible first | exact HB.out | apply below_alloc | apply pw_below_drewN | apply below_drew1) | exact HB.out)) hb); clear HB; have HB := n0_; clear n0_; (try clear hb); (try clear hb2); (try clear hk); (try clear hi)) | (go_at_call 17; (with_reducible refine (impl_AreCommands.calls t271 t297 _ A41.out).mono ?_); rintro e w54 ⟨rfl, hb⟩; have n0_ := Aside0.mk (below_step (by repeat (first | (with_reducible first | exact HB.out | apply below_alloc | apply pw_below_drewN | apply below_drew1) | exact HB.out)) hb); clear HB; have HB := n0_; clear n0_; (try clear hb); (try clear hb2); (try clear hk); (try clear hi)) | (go_at_call 18; (with_reducible refine (spec_AreCommands.calls k t271 t298 _ A42.out).mono ?_); rintro e w' ⟨rfl, ⟨nd, rfl⟩⟩) | (go_at_call 19; (with_reducible refine (impl_AreFacing.calls t270 t299 _ A49.out).mono ?_); rintro e w55 ⟨rfl, hb⟩; have n0_ := Aside0.mk (below_step (by repeat (first | (with_reducible first | exact HB.out | apply below_alloc | apply pw_below_drewN | apply below_drew1) | exact HB.out)) hb); clear HB; have HB := n0_; clear n0_; (try clear hb); (try clear hb2); (try clear hk); (try clear hi)) | (go_at_call 19; (with_reducible refine (impl_AreFacing.calls t270 t300 _ A51.out).mono ?_); rintro e w56 ⟨rfl, hb⟩; have n0_ := Aside0.mk (below_step (by repeat (first | (with_reducible first | exact HB.out | apply below_alloc | apply pw_below_drewN | apply below_drew1) | exact HB.out)) hb); clear HB; have HB := n0_; clear n0_; (try clear hb); (try clear hb2); (try clear hk); (try clear hi)) | (go_at_call 20; (with_reducible refine (spec_AreFacing.calls k t270 t301 _ A52.out).mono ?_); rintro e w' ⟨rfl, ⟨nd, rfl⟩⟩))
                     go_meet
                     case rel => exact ⟨_, ((t300 != t301)), (by first | rfl | (simp; done) | (simp [*]; done)), H', ⟨by first | omega | exact Nat.le_refl _⟩, ⟨by repeat (first | (with_reducible first | exact HB.out | apply below_alloc | apply pw_below_drewN | apply below_drew1) | exact HB.out)⟩⟩
                   ·
                    replace c48 := Bool.eq_false_iff.mpr c48
                    subst c48
                    have H1 : (if (t273 != false) = true then (laws_FnDrillsTurn.j0 k l1 t270 t271 t272 t273 t276 false t280 t284 t288 t292 true) else ((impl_AreFacing.f t270).bind fun t302 => ((spec_AreFacing.f k t270).bind fun t303 => (laws_FnDrillsTurn.j0 k l1 t270 t271 t272 t273 t276 false t280 t284 t288 t292 (t302 != t303))))) = some r := by rw [if_neg (show ¬ (false = true) by decide)] at H; exact H
                    clear H
                    have H := H1
                    clear H1
                    by_cases c57 : (t273 != false) = true
                    ·
                     rw [if_pos c57] at H
                     exact (laws_FnDrillsTurn.j0_no _ _ _ _ _ _ _ _ _ _ _ _ (H.trans (congrArg some HE_.out))).elim
                    ·
                     rw [if_neg c57] at H
                     have c57b0 : (t273 != false) = false := by simpa using c57
                     (try (have c57b1 : decide (t273 = false) = true := by simpa using c57))
                     (try (have c57b2 : (t273 == false) = true := by simpa using c57))
                     clear c57
                     replace H := Option.bind_eq_some_iff.mp H
                     obtain ⟨t302, A580, H⟩ := H
                     replace H : ((spec_AreFacing.f k t270).bind fun t303 => (laws_FnDrillsTurn.j0 k l1 t270 t271 t272 t273 t276 false t280 t284 t288 t292 (t302 != t303))) = some r := H
                     have A58 := Aside0.mk A580
                     clear A580
                     replace H := Option.bind_eq_some_iff.mp H
                     obtain ⟨t303, A590, H⟩ := H
                     replace H : (laws_FnDrillsTurn.j0 k l1 t270 t271 t272 t273 t276 false t280 t284 t288 t292 (t302 != t303)) = some r := H
                     have A59 := Aside0.mk A590
                     clear A590
                     have H' := Aside0.mk H
                     clear H
                     (try (have e_ := Option.some.inj (A41.out.symm.trans A39.out); subst e_))
                     go_wp2_with (first | (go_at_call 17; (with_reducible refine (impl_AreCommands.calls t271 t296 _ A39.out).mono ?_); rintro e w60 ⟨rfl, hb⟩; have n0_ := Aside0.mk (below_step (by repeat (first | (with_reducible first | exact HB.out | apply below_alloc | apply pw_below_drewN | apply below_drew1) | exact HB.out)) hb); clear HB; have HB := n0_; clear n0_; (try clear hb); (try clear hb2); (try clear hk); (try clear hi)) | (go_at_call 17; (with_reducible refine (impl_AreCommands.calls t271 t297 _ A41.out).mono ?_); rintro e w61 ⟨rfl, hb⟩; have n0_ := Aside0.mk (below_step (by repeat (first | (with_reducible first | exact HB.out | apply below_alloc | apply pw_below_drewN | apply below_drew1) | exact HB.out)) hb); clear HB; have HB := n0_; clear n0_; (try clear hb); (try clear hb2); (try clear hk); (try clear hi)) | (go_at_call 18; (with_reducible refine (spec_AreCommands.calls k t271 t298 _ A42.out).mono ?_); rintro e w' ⟨rfl, ⟨nd, rfl⟩⟩) | (go_at_call 19; (with_reducible refine (impl_AreFacing.calls t270 t302 _ A58.out).mono ?_); rintro e w62 ⟨rfl, hb⟩; have n0_ := Aside0.mk (below_step (by repeat (first | (with_reducible first | exact HB.out | apply below_alloc | apply pw_below_drewN | apply below_drew1) | exact HB.out)) hb); clear HB; have HB := n0_; clear n0_; (try clear hb); (try clear hb2); (try clear hk); (try clear hi)) | (go_at_call 20; (with_reducible refine (spec_AreFacing.calls k t270 t303 _ A59.out).mono ?_); rintro e w' ⟨rfl, ⟨nd, rfl⟩⟩))
                     go_meet
                     case rel => exact ⟨_, ((t302 != t303)), (by first | rfl | (simp; done) | (simp [*]; done)), H', ⟨by first | omega | exact Nat.le_refl _⟩, ⟨by repeat (first | (with_reducible first | exact HB.out | apply below_alloc | apply pw_below_drewN | apply below_drew1) | exact HB.out)⟩⟩
            ·
             rw [if_neg c38] at H
             exact (laws_FnDrillsTurn.j0_no _ _ _ _ _ _ _ _ _ _ _ _ (H.trans (congrArg some HE_.out))).elim
          ·
           rw [if_neg c36] at H
           exact (laws_FnDrillsTurn.j0_no _ _ _ _ _ _ _ _ _ _ _ _ (H.trans (congrArg some HE_.out))).elim
        ·
         rw [if_neg c34] at H
         exact (laws_FnDrillsTurn.j0_no _ _ _ _ _ _ _ _ _ _ _ _ (H.trans (congrArg some HE_.out))).elim
      ·
       rw [if_neg c32] at H
       exact (laws_FnDrillsTurn.j0_no _ _ _ _ _ _ _ _ _ _ _ _ (H.trans (congrArg some HE_.out))).elim
    ·
     rw [if_neg c30] at H
     exact (laws_FnDrillsTurn.j0_no _ _ _ _ _ _ _ _ _ _ _ _ (H.trans (congrArg some HE_.out))).elim
  ·
   rw [if_neg c28] at H
   exact (laws_FnDrillsTurn.j0_no _ _ _ _ _ _ _ _ _ _ _ _ (H.trans (congrArg some HE_.out))).elim

set_option maxHeartbeats 8000000 in
set_option maxRecDepth 100000 in
def laws_FnDrillsTurn.part2 : Σ' (R1 R2 : Prop), PLift R1 → PLift R2 → (laws_FnDrillsTurn.part0.2.1) := by
 refine' ⟨_, _, fun hole1 hole2 => _⟩
 rotate_left 2
 ·
  conv => whnf
  intro t270 t271 t272 t274 t280 t282 t284 t286 t288 t290 A0 A1 l0 l1 A3 r HE_ t273 t275 t277 t279 t281 t283 t285 A12 t287 t289 A14 t291 t293 t295 k A5 A6 A7 A10 A11 A13 A15 c0 HC0 c1 HC1 nd nd nd nd nd nd t276 A8 t278 A9 t292 A16 t294 A17 HC18 K K u156 u157 u158 u159 u160 u161 u162 u163 u164 u165 u166 u167 u168 u169 u170 u171 u172 u173 u174 u175 u176 u177 u178 u179 u180 u181 u182 u183 u184 u185 u186 u187 u188 u189 u190 u191 u192 u193 u194 u195 u196 u197 u198 u199 u200 u201 u202 u203 u204 u205 u206 u207 u208 u209 u210 u211 u212 u213 u214 u215 u216 u217 u218 u219 u220 u221 u222 u223 u224 u225 u226 u227 u228 u229 u230 u231 u232 u233 u234 u235 u236 u237 u238 u239 u240 u241 u242 u243 u244 u245 u246 u247 u248 u249 u250 u251 u252 u253 u254 u255 u256 u257 u258 u259 u260 u261 u262 w HR0 HR1 Q' a a w19 w20 w21 w22 w23 w24 w25 w26 HB wc hcut
  clear HC18
  try clear c1
  try clear c4
  obtain ⟨kq, x262_17, rfl, HA, HJ17, HB⟩ := hcut
  cases kq with
  | zero => exact absurd HA.out (by simp [laws_FnDrillsTurn.j0])
  | succ kj17 =>
   have H := HA.out
   clear HA
   simp only [laws_FnDrillsTurn.j0] at H
   by_cases c63 : x262_17 = true
   ·
    subst c63
    have H1 : (some false) = some r := by rw [if_pos rfl] at H; exact H
    clear H
    have H := H1
    clear H1
    exact absurd (H.trans (congrArg some HE_.out)) (by simp)
   ·
    replace c63 := Bool.eq_false_iff.mpr c63
    subst c63
    have H1 : (if t277 = true then ((impl_NetTurn.f kj17 t280).bind fun bt304 => ((impl_NetTurn.f kj17 t284).bind fun bt306 => ((impl_NetTurn.f kj17 t288).bind fun bt308 => ((impl_MirrorCommands.f t288).bind fun bt310 => ((impl_BackCommands.f t284).bind fun bt312 => (if t276 < 0 then (some false) else (if t276 > 3 then (some false) else (if (t280.size : Int) > 1 then (some false) else (if bt304.2 = true then (if bt304.1 = t276 then (if bt306.2 = true then (if (Int.tmod (wrap64 (bt306.1 + t276)) 4) = 0 then (if bt308.2 = true then (if bt308.1 = bt306.1 then (if bt310.2 = true then (if bt310.1.toList = t271.toList then (if bt312.2 = true then (if bt312.1.toList = t271.toList then (if (t284.size : Int) = (t271.size : Int) then (if t292 < 1 then (some false) else (if (Int.tmod (wrap64 (t292 * t276)) 4) = 0 then (if t292 > 4 then (some false) else (laws_FnDrillsTurn.j1 kj17 l1 t270 t272 t273 t276 t280 t284)) else (some false))) else (some false)) else (some false)) else (some false)) else (some false)) else (some false)) else (some false)) else (some false)) else (some false)) else (some false)) else (some false)) else (some false)))))))))) else (laws_FnDrillsTurn.j1 kj17 l1 t270 t272 t273 t276 t280 t284)) = some r := by rw [if_neg (show ¬ (false = true) by decide)] at H; exact H
    clear H
    have H := H1
    clear H1
    have HC64 := Aside0.mk H
    clear H
    go_upto_if 263 with (fail)
    go_cut [] from 262 to 414 (fun wc => ∃ (kq : Nat), Aside0 (laws_FnDrillsTurn.j1 kq l1 t270 t272 t273 t276 t280 t284 = some r) ∧ Aside0 (kq ≤ kj17) ∧ Aside0 (Below w.heap.size w wc))
    case first =>
     -- part 3
     (repeat revert ‹World›)
     (repeat revert ‹Value›)
     (repeat revert ‹Nat → Act → World → Prop›)
     (repeat revert ‹Act → World → Prop›)
     (repeat revert ‹Int›)
     (repeat revert ‹Nat›)
     (repeat revert ‹Bool›)
     (repeat revert ‹List (List Int)›)
     (repeat revert ‹List Int›)
     (repeat revert ‹Addr›)
     (repeat revert ‹Option Addr›)
     (repeat revert ‹ByteArray›)
     (repeat revert ‹List ByteArray›)
     exact hole1.down
    case rest =>
     -- part 4
     (repeat revert ‹World›)
     (repeat revert ‹Value›)
     (repeat revert ‹Nat → Act → World → Prop›)
     (repeat revert ‹Act → World → Prop›)
     (repeat revert ‹Int›)
     (repeat revert ‹Nat›)
     (repeat revert ‹Bool›)
     (repeat revert ‹List (List Int)›)
     (repeat revert ‹List Int›)
     (repeat revert ‹Addr›)
     (repeat revert ‹Option Addr›)
     (repeat revert ‹ByteArray›)
     (repeat revert ‹List ByteArray›)
     exact hole2.down
end Go.Proofs.YtgdmbhldabeelaaRGreatDoor.PFnDrillsTurn
