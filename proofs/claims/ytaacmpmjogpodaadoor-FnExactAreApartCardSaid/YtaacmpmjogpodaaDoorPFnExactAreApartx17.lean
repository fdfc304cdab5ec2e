-- Written by xprint.py (this session's own program, over the kit's print).
import Derived.Test.YtaacmpmjogpodaaDoorPFnExactAreApartx0
import Derived.Test.YtaacmpmjogpodaaDoorPFnExactAreApartx2
import Derived.Test.YtaacmpmjogpodaaDoorPFnExactAreApartx7
import Derived.Test.YtaacmpmjogpodaaDoorPFnExactAreApartx8
import Derived.Test.YtaacmpmjogpodaaDoorPFnExactAreApartx14
import Derived.Test.YtaacmpmjogpodaaDoorPFnExactAreApartx16
namespace Go.Proofs.YtaacmpmjogpodaaDoor.PFnExactAreApart
open Go.RowKit Go.Proofs.YtaacmpmjogpodaaDoorW.PrintWords Go.Proofs.YtaacmpmjogpodaaDoorW.PrintLast Go.Proofs.YtaacmpmjogpodaaDoorW.PrintMore
attribute [local go_sem] max2_int min2_int max_two min_two max_three min_three max_four min_four   -- for this text's walks alone
set_option linter.unusedVariables false
set_option linter.unusedSimpArgs false

/-! ### laws_FnExactAreApart: function 3 -/
def laws_FnExactAreApart.f (k : Nat) (l0 : List (S77)) : Option (Bool) := (laws_szWayS.f k l0 1048576).bind fun t234 => (if t234 < 0 then (some true) else ((laws_toWayS.f k l0).bind fun t235 => ((spec_AreApart.f k t235).bind fun bt238 => ((laws_toWayS.f k l0).bind fun t240 => ((impl_AreApart.f k t240).bind fun bt243 => (if (bt243.1 != bt238.1) = true then (some false) else (if (bt243.2 != bt238.2) = true then (some false) else ((laws_toWayS.f k l0).bind fun t245 => ((laws_eqWayS.f k t240 t245).bind fun t248 => (if t248 = true then (some true) else (some false)))))))))))
theorem laws_FnExactAreApart.mono : ∀ a0 k, LeO (laws_FnExactAreApart.f k a0) (laws_FnExactAreApart.f (k + 1) a0) := by
 intro a0 k
 unfold laws_FnExactAreApart.f
 repeat' first
   | (with_reducible exact impl_AreApart.mono _ _)
   | (with_reducible exact laws_eqWayS.mono _ _ _)
   | (with_reducible exact laws_szWayS.mono _ _ _)
   | (with_reducible exact laws_toWayS.mono _ _)
   | (with_reducible exact spec_AreApart.mono _ _)
   | (with_reducible exact LeO.refl _)
   | (with_reducible exact LeO.none _)
   | (with_reducible refine LeO.ite ?_ ?_)
   | (with_reducible refine LeO.bind ?_ (fun _ => ?_))
   | exact impl_AreApart.mono _ _
   | exact laws_eqWayS.mono _ _ _
   | exact laws_szWayS.mono _ _ _
   | exact laws_toWayS.mono _ _
   | exact spec_AreApart.mono _ _
   | exact LeO.none _
   | refine LeO.ite ?_ ?_
   | refine LeO.bind ?_ (fun _ => ?_)
set_option maxHeartbeats 8000000 in
set_option maxRecDepth 100000 in
theorem laws_FnExactAreApart.calls (k : Nat) (A0 : Option Addr) (c0 : Nat) (l0 : List (S77)) (w : World) (hr0 : Kd.C k77 w A0 l0.length l0) (hc0 : l0.length ≤ c0) (h : laws_FnExactAreApart.f k l0 = some true) :
  Calls Tryd.prog 3 #[.slice A0 l0.length c0] w fun e w' => e = .returned (.bool true) ∧ Below w.heap.size w w' := by
 have HR0 := Aside0.mk hr0
 have HC0 := Aside0.mk hc0
 clear hr0 hc0
 have HB := Aside0.mk (Below.refl w.heap.size w)
 have H : ((laws_szWayS.f k l0 1048576).bind fun t234 => (if t234 < 0 then (some true) else ((laws_toWayS.f k l0).bind fun t235 => ((spec_AreApart.f k t235).bind fun bt238 => ((laws_toWayS.f k l0).bind fun t240 => ((impl_AreApart.f k t240).bind fun bt243 => (if (bt243.1 != bt238.1) = true then (some false) else (if (bt243.2 != bt238.2) = true then (some false) else ((laws_toWayS.f k l0).bind fun t245 => ((laws_eqWayS.f k t240 t245).bind fun t248 => (if t248 = true then (some true) else (some false)))))))))))) = some true := h
 clear h
 replace H := Option.bind_eq_some_iff.mp H
 obtain ⟨t234, A20, H⟩ := H
 replace H : (if t234 < 0 then (some true) else ((laws_toWayS.f k l0).bind fun t235 => ((spec_AreApart.f k t235).bind fun bt238 => ((laws_toWayS.f k l0).bind fun t240 => ((impl_AreApart.f k t240).bind fun bt243 => (if (bt243.1 != bt238.1) = true then (some false) else (if (bt243.2 != bt238.2) = true then (some false) else ((laws_toWayS.f k l0).bind fun t245 => ((laws_eqWayS.f k t240 t245).bind fun t248 => (if t248 = true then (some true) else (some false))))))))))) = some true := H
 have A2 := Aside0.mk A20
 clear A20
 by_cases c3 : t234 < 0
 ·rw [if_pos c3] at H
  have c3b0 : decide (t234 < 0) = true := decide_eq_true c3
  clear c3
  clear H
  go_enter Tryd.func3, Tryd.ntmps3
  go_wp2_with (first | ((with_reducible refine gate_callee (f := 6) rfl ?_); refine goesL_ (some 11) rfl rfl Tryd.func6 (by kernel_rfl) rfl #[.slice A0 l0.length c0, .int .i64 1048576] rfl z4 ?_; (with_reducible refine (laws_szWayS.calls k _ _ l0 1048576 t234 _ ?side1 ?side2 A2.out).mono ?_); (case side1 => repeat (first | exact HR0.out | (with_reducible refine Kd.C_alloc ?_ _) | (with_reducible refine Kd.C_drewN ?_ _) | (with_reducible refine Kd.C_drew ?_))); (case side2 => exact HC0.out); rintro e w4 ⟨rfl, hb⟩; refine ⟨_, rfl, ?_⟩; have n0_ := Aside0.mk (below_step (zB HB) hb); clear HB; have HB := n0_; clear n0_; (try clear hb); (try clear hb2); (try clear hk); (try clear hi)))
  go_ret
  exact ⟨z2, zB HB⟩
 ·rw [if_neg c3] at H
  have c3b0 : decide (t234 < 0) = false := decide_eq_false c3
  clear c3
  replace H := Option.bind_eq_some_iff.mp H
  obtain ⟨t235, A50, H⟩ := H
  replace H : ((spec_AreApart.f k t235).bind fun bt238 => ((laws_toWayS.f k l0).bind fun t240 => ((impl_AreApart.f k t240).bind fun bt243 => (if (bt243.1 != bt238.1) = true then (some false) else (if (bt243.2 != bt238.2) = true then (some false) else ((laws_toWayS.f k l0).bind fun t245 => ((laws_eqWayS.f k t240 t245).bind fun t248 => (if t248 = true then (some true) else (some false))))))))) = some true := H
  have A5 := Aside0.mk A50
  clear A50
  replace H := Option.bind_eq_some_iff.mp H
  obtain ⟨⟨t238, t239⟩, A60, H⟩ := H
  replace H : ((laws_toWayS.f k l0).bind fun t240 => ((impl_AreApart.f k t240).bind fun bt243 => (if (bt243.1 != t238) = true then (some false) else (if (bt243.2 != t239) = true then (some false) else ((laws_toWayS.f k l0).bind fun t245 => ((laws_eqWayS.f k t240 t245).bind fun t248 => (if t248 = true then (some true) else (some false)))))))) = some true := H
  have A6 := Aside0.mk A60
  clear A60
  replace H := Option.bind_eq_some_iff.mp H
  obtain ⟨t240, A70, H⟩ := H
  replace H : ((impl_AreApart.f k t240).bind fun bt243 => (if (bt243.1 != t238) = true then (some false) else (if (bt243.2 != t239) = true then (some false) else ((laws_toWayS.f k l0).bind fun t245 => ((laws_eqWayS.f k t240 t245).bind fun t248 => (if t248 = true then (some true) else (some false))))))) = some true := H
  have A7 := Aside0.mk A70
  clear A70
  replace H := Option.bind_eq_some_iff.mp H
  obtain ⟨⟨t243, t244⟩, A80, H⟩ := H
  replace H : (if (t243 != t238) = true then (some false) else (if (t244 != t239) = true then (some false) else ((laws_toWayS.f k l0).bind fun t245 => ((laws_eqWayS.f k t240 t245).bind fun t248 => (if t248 = true then (some true) else (some false)))))) = some true := H
  have A8 := Aside0.mk A80
  clear A80
  have HP9 := Aside0.mk H
  clear H
  go_enter Tryd.func3, Tryd.ntmps3
  go_upto_region 8 with (first | ((with_reducible refine gate_callee (f := 6) rfl ?_); refine goesL_ (some 11) rfl rfl Tryd.func6 (by kernel_rfl) rfl #[.slice A0 l0.length c0, .int .i64 1048576] rfl z4 ?_; (with_reducible refine (laws_szWayS.calls k _ _ l0 1048576 t234 _ ?side1 ?side2 A2.out).mono ?_); (case side1 => repeat (first | exact HR0.out | (with_reducible refine Kd.C_alloc ?_ _) | (with_reducible refine Kd.C_drewN ?_ _) | (with_reducible refine Kd.C_drew ?_))); (case side2 => exact HC0.out); rintro e w10 ⟨rfl, hb⟩; refine ⟨_, rfl, ?_⟩; have n0_ := Aside0.mk (below_step (zB HB) hb); clear HB; have HB := n0_; clear n0_; (try clear hb); (try clear hb2); (try clear hk); (try clear hi)) | ((with_reducible refine gate_callee (f := 8) rfl ?_); refine goesL_ (some 16) rfl rfl Tryd.func8 (by kernel_rfl) rfl #[.slice A0 l0.length c0] rfl z4 ?_; (with_reducible refine (laws_toWayS.calls k _ _ l0 t235 _ ?side1 ?side2 A5.out).mono ?_); (case side1 => repeat (first | exact (Kd.C_below HR0.out HB.out) | (with_reducible refine Kd.C_alloc ?_ _) | (with_reducible refine Kd.C_drewN ?_ _) | (with_reducible refine Kd.C_drew ?_))); (case side2 => exact HC0.out); rintro e w11 ⟨v236, rfl, ho0, hb⟩; refine ⟨_, rfl, ?_⟩; have n0_ := Aside0.mk (Kd.R_lower ho0 (below_size (zB HB))); have n1_ := Aside0.mk (below_step (zB HB) hb); clear HB; have HO237 := n0_; have HB := n1_; clear n0_ n1_; (try clear hb); (try clear hb2); (try clear hk); (try clear hi); (try clear ho0); obtain ⟨Ao12, co12, eo12⟩ := Kd.R_slice HO237.out; subst eo12) | ((with_reducible refine gate_callee (f := 7) rfl ?_); refine goesL_ (some 17) rfl rfl Tryd.func7 (by kernel_rfl) rfl #[.slice Ao12 t235.length co12] rfl z4 ?_; (with_reducible refine (spec_AreApart.calls k _ _ t235 t238 t239 _ ?side1 ?side2 A6.out).mono ?_); (case side1 => repeat (first | exact (Kd.R_reads' HO237.out).2.2 | (with_reducible refine Kd.C_alloc ?_ _) | (with_reducible refine Kd.C_drewN ?_ _) | (with_reducible refine Kd.C_drew ?_))); (case side2 => exact (Kd.R_reads' HO237.out).2.1); rintro e w13 ⟨rfl, hb⟩; refine ⟨_, rfl, ?_⟩; have n0_ := Aside0.mk (Kd.R_below (zR HO237) hb); have n1_ := Aside0.mk (below_step (zB HB) hb); clear HO237; clear HB; have HO237 := n0_; have HB := n1_; clear n0_ n1_; (try clear hb); (try clear hb2); (try clear hk); (try clear hi)) | ((with_reducible refine gate_callee (f := 8) rfl ?_); refine goesL_ (some 21) rfl rfl Tryd.func8 (by kernel_rfl) rfl #[.slice A0 l0.length c0] rfl z4 ?_; (with_reducible refine (laws_toWayS.calls k _ _ l0 t240 _ ?side1 ?side2 A7.out).mono ?_); (case side1 => repeat (first | exact (Kd.C_below HR0.out HB.out) | (with_reducible refine Kd.C_alloc ?_ _) | (with_reducible refine Kd.C_drewN ?_ _) | (with_reducible refine Kd.C_drew ?_))); (case side2 => exact HC0.out); rintro e w14 ⟨v241, rfl, ho0, hb⟩; refine ⟨_, rfl, ?_⟩; have n0_ := Aside0.mk (Kd.R_elder' (zR HO237) (Kd.R_base ho0) hb); have n1_ := Aside0.mk (Kd.R_lower (Kd.R_new' ho0 (Kd.R_lt (zR HO237))) (below_size (zB HB))); have n2_ := Aside0.mk (below_step (zB HB) hb); clear HO237; clear HB; have HO237 := n0_; have HO242 := n1_; have HB := n2_; clear n0_ n1_ n2_; (try clear hb); (try clear hb2); (try clear hk); (try clear hi); (try clear ho0); obtain ⟨Ao15, co15, eo15⟩ := Kd.R_slice HO242.out; subst eo15) | ((with_reducible refine gate_callee (f := 9) rfl ?_); refine goesL_ (some 24) rfl rfl Tryd.func9 (by kernel_rfl) rfl #[.slice Ao15 t240.length co15] rfl z4 ?_; (with_reducible refine (impl_AreApart.calls k _ _ t240 t243 t244 _ ?side1 ?side2 A8.out).mono ?_); (case side1 => repeat (first | exact (Kd.R_reads' HO242.out).2.2 | (with_reducible refine Kd.C_alloc ?_ _) | (with_reducible refine Kd.C_drewN ?_ _) | (with_reducible refine Kd.C_drew ?_))); (case side2 => exact (Kd.R_reads' HO242.out).2.1); rintro e w16 ⟨rfl, hb⟩; refine ⟨_, rfl, ?_⟩; have n0_ := Aside0.mk (Kd.R_below (zR HO237) hb); have n1_ := Aside0.mk (Kd.R_below (zR HO242) hb); have n2_ := Aside0.mk (below_step (zB HB) hb); clear HO237; clear HO242; clear HB; have HO237 := n0_; have HO242 := n1_; have HB := n2_; clear n0_ n1_ n2_; (try clear hb); (try clear hb2); (try clear hk); (try clear hi)))
  (try simp only [Act.put, List.setIfInBounds_toArray, List.set_cons_zero, List.set_cons_succ])
  have H := HP9.out
  clear HP9
  by_cases c17 : (t243 != t238) = true
  ·rw [if_pos c17] at H
   have c17b0 : (t243 != t238) = true := c17
   (try (have c17b1 : decide (t243 = t238) = false := by simpa using c17))
   (try (have c17b2 : (t243 == t238) = false := by simpa using c17))
   (try (have c17b3 : ¬ (t243 = t238) := by simpa using c17))
   clear c17
   exact absurd H (by simp)
  ·rw [if_neg c17] at H
   have c17b0 : (t243 != t238) = false := by simpa using c17
   (try (have c17b1 : decide (t243 = t238) = true := by simpa using c17))
   (try (have c17b2 : (t243 == t238) = true := by simpa using c17))
   clear c17
   by_cases c18 : (t244 != t239) = true
   ·rw [if_pos c18] at H
    have c18b0 : (t244 != t239) = true := c18
    (try (have c18b1 : decide (t244 = t239) = false := by simpa using c18))
    (try (have c18b2 : (t244 == t239) = false := by simpa using c18))
    (try (have c18b3 : ¬ (t244 = t239) := by simpa using c18))
    clear c18
    exact absurd H (by simp)
   ·rw [if_neg c18] at H
    have c18b0 : (t244 != t239) = false := by simpa using c18
    (try (have c18b1 : decide (t244 = t239) = true := by simpa using c18))
    (try (have c18b2 : (t244 == t239) = true := by simpa using c18))
    clear c18
    replace H := Option.bind_eq_some_iff.mp H
    obtain ⟨t245, A190, H⟩ := H
    replace H : ((laws_eqWayS.f k t240 t245).bind fun t248 => (if t248 = true then (some true) else (some false))) = some true := H
    have A19 := Aside0.mk A190
    clear A190
    replace H := Option.bind_eq_some_iff.mp H
    obtain ⟨t248, A200, H⟩ := H
    replace H : (if t248 = true then (some true) else (some false)) = some true := H
    have A20 := Aside0.mk A200
    clear A200
    by_cases c21 : t248 = true
    ·subst c21
     have H1 : (some true) = some true := rfl
     clear H
     have H := H1
     clear H1
     clear H
     go_wp2_with (first | ((with_reducible refine gate_callee (f := 8) rfl ?_); refine goesL_ (some 37) rfl rfl Tryd.func8 (by kernel_rfl) rfl #[.slice A0 l0.length c0] rfl z4 ?_; (with_reducible refine (laws_toWayS.calls k _ _ l0 t245 _ ?side1 ?side2 A19.out).mono ?_); (case side1 => repeat (first | exact (Kd.C_below HR0.out HB.out) | (with_reducible refine Kd.C_alloc ?_ _) | (with_reducible refine Kd.C_drewN ?_ _) | (with_reducible refine Kd.C_drew ?_))); (case side2 => exact HC0.out); rintro e w22 ⟨v246, rfl, ho0, hb⟩; refine ⟨_, rfl, ?_⟩; have n0_ := Aside0.mk (Kd.R_elder' (zR HO237) (Kd.R_base ho0) hb); have n1_ := Aside0.mk (Kd.R_elder' (zR HO242) (Kd.R_base ho0) hb); have n2_ := Aside0.mk (Kd.R_lower (Kd.R_new' (Kd.R_new' ho0 (Kd.R_lt (zR HO237))) (Kd.R_lt (zR HO242))) (below_size (zB HB))); have n3_ := Aside0.mk (below_step (zB HB) hb); clear HO237; clear HO242; clear HB; have HO237 := n0_; have HO242 := n1_; have HO247 := n2_; have HB := n3_; clear n0_ n1_ n2_ n3_; (try clear hb); (try clear hb2); (try clear hk); (try clear hi); (try clear ho0); obtain ⟨Ao23, co23, eo23⟩ := Kd.R_slice HO247.out; subst eo23) | ((with_reducible refine gate_callee (f := 10) rfl ?_); refine goesL_ (some 38) rfl rfl Tryd.func10 (by kernel_rfl) rfl #[.slice Ao15 t240.length co15, .slice Ao23 t245.length co23] rfl z4 ?_; (with_reducible refine (laws_eqWayS.calls k _ _ t240 _ _ t245 true _ ?side1 ?side2 ?side3 ?side4 A20.out).mono ?_); (case side1 => repeat (first | exact (Kd.R_reads' HO242.out).2.2 | (with_reducible refine Kd.C_alloc ?_ _) | (with_reducible refine Kd.C_drewN ?_ _) | (with_reducible refine Kd.C_drew ?_))); (case side2 => exact (Kd.R_reads' HO242.out).2.1); (case side3 => repeat (first | exact (Kd.R_reads' HO247.out).2.2 | (with_reducible refine Kd.C_alloc ?_ _) | (with_reducible refine Kd.C_drewN ?_ _) | (with_reducible refine Kd.C_drew ?_))); (case side4 => exact (Kd.R_reads' HO247.out).2.1); rintro e w24 ⟨rfl, hb⟩; refine ⟨_, rfl, ?_⟩; have n0_ := Aside0.mk (Kd.R_below (zR HO237) hb); have n1_ := Aside0.mk (Kd.R_below (zR HO242) hb); have n2_ := Aside0.mk (Kd.R_below (zR HO247) hb); have n3_ := Aside0.mk (below_step (zB HB) hb); clear HO237; clear HO242; clear HO247; clear HB; have HO237 := n0_; have HO242 := n1_; have HO247 := n2_; have HB := n3_; clear n0_ n1_ n2_ n3_; (try clear hb); (try clear hb2); (try clear hk); (try clear hi)))
     go_ret
     exact ⟨z2, zB HB⟩
    ·replace c21 := Bool.eq_false_iff.mpr c21
     subst c21
     have H1 : (some false) = some true := by rw [if_neg (show ¬ (false = true) by decide)] at H; exact H
     clear H
     have H := H1
     clear H1
     exact absurd H (by simp)

end Go.Proofs.YtaacmpmjogpodaaDoor.PFnExactAreApart
