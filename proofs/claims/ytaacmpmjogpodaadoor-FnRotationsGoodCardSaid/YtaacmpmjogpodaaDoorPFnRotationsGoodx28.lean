-- Written by xprint.py (this session's own program, over the kit's print).
import Derived.Test.YtaacmpmjogpodaaDoorPFnRotationsGoodx0
import Derived.Test.YtaacmpmjogpodaaDoorPFnRotationsGoodx1
import Derived.Test.YtaacmpmjogpodaaDoorPFnRotationsGoodx4
import Derived.Test.YtaacmpmjogpodaaDoorPFnRotationsGoodx5
import Derived.Test.YtaacmpmjogpodaaDoorPFnRotationsGoodx9
import Derived.Test.YtaacmpmjogpodaaDoorPFnRotationsGoodx13
import Derived.Test.YtaacmpmjogpodaaDoorPFnRotationsGoodx14
import Derived.Test.YtaacmpmjogpodaaDoorPFnRotationsGoodx15
import Derived.Test.YtaacmpmjogpodaaDoorPFnRotationsGoodx16
import Derived.Test.YtaacmpmjogpodaaDoorPFnRotationsGoodx21
import Derived.Test.YtaacmpmjogpodaaDoorPFnRotationsGoodx24
import Derived.Test.YtaacmpmjogpodaaDoorPFnRotationsGoodx26
import Derived.Test.YtaacmpmjogpodaaDoorPFnRotationsGoodx27
namespace Go.Proofs.YtaacmpmjogpodaaDoor.PFnRotationsGood
open Go.RowKit Go.Proofs.YtaacmpmjogpodaaDoorW.PrintWords Go.Proofs.YtaacmpmjogpodaaDoorW.PrintLast Go.Proofs.YtaacmpmjogpodaaDoorW.PrintMore
attribute [local go_sem] max2_int min2_int max_two min_two max_three min_three max_four min_four   -- for this text's walks alone
set_option linter.unusedVariables false
set_option linter.unusedSimpArgs false
attribute [-simp] List.length_take ByteArray.size_extract

/-! ### laws_FnRotationsGood: function 4 -/
mutual
def laws_FnRotationsGood.j2 : Nat → List Int → Option (Bool)
 | 0, _ => none
 | k + 1, x1 => (spec_DrawRatioRotations.f k x1).bind fun bt387 => ((impl_RatioRotations.f k bt387.1 bt387.2).bind fun bt389 => ((spec_RatioRotations.f k bt387.1 bt387.2).bind fun bt393 => ((spec_DrawRotateList.f k x1).bind fun bt397 => ((impl_RotateList.f k bt397.1 bt397.2).bind fun bt401 => ((spec_RotateList.f k bt397.1 bt397.2).bind fun bt405 => (if (bt389.2 != bt393.2) = true then (some false) else ((laws_xSame.f k bt389.1 bt393.1).bind fun t409 => (if t409 = true then (if (bt401.2 != bt405.2) = true then (some false) else ((laws_xSame.f k bt401.1 bt405.1).bind fun t410 => (if t410 = true then (if bt389.2 = true then ((laws_xCount.f k bt387.1 85).bind fun t411 => ((laws_xCount.f k bt387.1 68).bind fun t412 => (if (wrap64 (t411 - (wrap64 (bt387.2 * t412)))) < 0 then (laws_FnRotationsGood.j3 k bt387.1 bt389.1 bt397.1 bt397.2 bt401.1 bt401.2 0) else (laws_FnRotationsGood.j3 k bt387.1 bt389.1 bt397.1 bt397.2 bt401.1 bt401.2 (wrap64 (t411 - (wrap64 (bt387.2 * t412)))))))) else (laws_FnRotationsGood.j5 k bt397.1 bt397.2 bt401.1 bt401.2)) else (some false)))) else (some false)))))))))
def laws_FnRotationsGood.j5 : Nat → List Int → Int → List Int → Bool → Option (Bool)
 | 0, _, _, _, _ => none
 | k + 1, x26, x27, x28, x29 => if x29 = true then (if (x26.length : Int) = 0 then (none) else ((impl_RotateList.f k x28 (Int.tmod (wrap64 ((x26.length : Int) - x27)) (x26.length : Int))).bind fun bt415 => (if bt415.2 = true then ((laws_xSame.f k bt415.1 x26).bind fun t419 => (if t419 = true then (some true) else (some false))) else (some false)))) else (some true)
def laws_FnRotationsGood.j3 : Nat → ByteArray → List Int → List Int → Int → List Int → Bool → Int → Option (Bool)
 | 0, _, _, _, _, _, _, _ => none
 | k + 1, x20, x22, x26, x27, x28, x29, x32 => if (x22.length : Int) = x32 then (laws_FnRotationsGood.l1 k x20 x22 x26 x27 x28 x29 x22 (x22.length : Int) 0) else (some false)
def laws_FnRotationsGood.l1 : Nat → ByteArray → List Int → List Int → Int → List Int → Bool → List Int → Int → Int → Option (Bool)
 | 0, _, _, _, _, _, _, _, _, _ => none
 | k + 1, x20, x22, x26, x27, x28, x29, x214, x215, x216 => if x216 < x215 then (if 0 ≤ x216 then (if x216 < (x214.length : Int) then (if 0 ≤ (rd x214 x216) then (if (rd x214 x216) < (x20.size : Int) then (if (bt x20 (rd x214 x216)) = 85 then (if x216 > 0 then (if 0 ≤ (wrap64 (x216 - 1)) then (if (wrap64 (x216 - 1)) < (x22.length : Int) then (if (rd x22 (wrap64 (x216 - 1))) ≥ (rd x214 x216) then (some false) else (laws_FnRotationsGood.l1 k x20 x22 x26 x27 x28 x29 x214 x215 (wrap64 (x216 + 1)))) else (none)) else (none)) else (laws_FnRotationsGood.l1 k x20 x22 x26 x27 x28 x29 x214 x215 (wrap64 (x216 + 1)))) else (some false)) else (none)) else (none)) else (none)) else (none)) else (laws_FnRotationsGood.j5 k x26 x27 x28 x29)
def laws_FnRotationsGood.j0 : Nat → List Int → List Int → List Int → Int → Int → Option (Bool)
 | 0, _, _, _, _, _ => none
 | k + 1, x1, x5, x6, x10, x14 => if (x6.length : Int) = x14 then ((laws_xSum.f k x5).bind fun t379 => (if x10 = (wrap64 ((x5.length : Int) - t379)) then (laws_FnRotationsGood.l0 k x1 x5 x6 (x5.length : Int) 0) else (some false))) else (some false)
def laws_FnRotationsGood.l0 : Nat → List Int → List Int → List Int → Int → Int → Option (Bool)
 | 0, _, _, _, _, _ => none
 | k + 1, x1, x5, x6, x117, x118 => if x118 < x117 then ((impl_RotateList.f k x5 x118).bind fun bt380 => ((impl_IsForest.f k bt380.1).bind fun bt384 => (if bt380.2 = true then (if bt384.2 = true then ((laws_xHas.f k x6 x118).bind fun t386 => (if (bt384.1 != t386) = true then (some false) else (laws_FnRotationsGood.l0 k x1 x5 x6 x117 (wrap64 (x118 + 1))))) else (some false)) else (some false)))) else (laws_FnRotationsGood.j2 k x1)
end
def laws_FnRotationsGood.f (k : Nat) (l0 : List Int) (l1 : List Int) : Option (Bool) := (laws_big.f l0 l1).bind fun t359 => (if t359 = true then (some true) else ((spec_DrawGoodRotations.f k l0).bind fun t360 => ((impl_GoodRotations.f k t360).bind fun bt363 => ((spec_GoodRotations.f k t360).bind fun bt367 => ((impl_ExcessOf.f k t360).bind fun bt371 => ((spec_ExcessOf.f k t360).bind fun bt373 => (if (bt363.2 != bt367.2) = true then (some false) else ((laws_xSame.f k bt363.1 bt367.1).bind fun t375 => (if t375 = true then (if (bt371.2 != bt373.2) = true then (some false) else (if bt371.1 = bt373.1 then ((impl_IsDegrees.f k t360).bind fun t376 => (if (bt363.2 != t376) = true then (some false) else ((impl_IsDegrees.f k t360).bind fun t377 => ((spec_IsDegrees.f k t360).bind fun t378 => (if (t377 != t378) = true then (some false) else (if (bt371.2 != bt363.2) = true then (some false) else (if bt363.2 = true then (if bt371.1 < 0 then (laws_FnRotationsGood.j0 k l1 t360 bt363.1 bt371.1 0) else (laws_FnRotationsGood.j0 k l1 t360 bt363.1 bt371.1 bt371.1)) else (laws_FnRotationsGood.j2 k l1)))))))) else (some false))) else (some false))))))))))
theorem laws_FnRotationsGood.mono_l : ∀ k, (∀ y0, LeO (laws_FnRotationsGood.j2 k y0) (laws_FnRotationsGood.j2 (k + 1) y0)) ∧ (∀ y0 y1 y2 y3, LeO (laws_FnRotationsGood.j5 k y0 y1 y2 y3) (laws_FnRotationsGood.j5 (k + 1) y0 y1 y2 y3)) ∧ (∀ y0 y1 y2 y3 y4 y5 y6, LeO (laws_FnRotationsGood.j3 k y0 y1 y2 y3 y4 y5 y6) (laws_FnRotationsGood.j3 (k + 1) y0 y1 y2 y3 y4 y5 y6)) ∧ (∀ y0 y1 y2 y3 y4 y5 y6 y7 y8, LeO (laws_FnRotationsGood.l1 k y0 y1 y2 y3 y4 y5 y6 y7 y8) (laws_FnRotationsGood.l1 (k + 1) y0 y1 y2 y3 y4 y5 y6 y7 y8)) ∧ (∀ y0 y1 y2 y3 y4, LeO (laws_FnRotationsGood.j0 k y0 y1 y2 y3 y4) (laws_FnRotationsGood.j0 (k + 1) y0 y1 y2 y3 y4)) ∧ (∀ y0 y1 y2 y3 y4, LeO (laws_FnRotationsGood.l0 k y0 y1 y2 y3 y4) (laws_FnRotationsGood.l0 (k + 1) y0 y1 y2 y3 y4))
 | 0 => ⟨fun _ r h => by simp [laws_FnRotationsGood.j2] at h, fun _ _ _ _ r h => by simp [laws_FnRotationsGood.j5] at h, fun _ _ _ _ _ _ _ r h => by simp [laws_FnRotationsGood.j3] at h, fun _ _ _ _ _ _ _ _ _ r h => by simp [laws_FnRotationsGood.l1] at h, fun _ _ _ _ _ r h => by simp [laws_FnRotationsGood.j0] at h, fun _ _ _ _ _ r h => by simp [laws_FnRotationsGood.l0] at h⟩
 | k + 1 => by
  obtain ⟨ih0, ih1, ih2, ih3, ih4, ih5⟩ := laws_FnRotationsGood.mono_l k
  refine ⟨?_, ?_, ?_, ?_, ?_, ?_⟩
  ·intro y0
   unfold laws_FnRotationsGood.j2
   repeat' first
   | (with_reducible exact ih0 _)
   | (with_reducible exact ih1 _ _ _ _)
   | (with_reducible exact ih2 _ _ _ _ _ _ _)
   | (with_reducible exact ih3 _ _ _ _ _ _ _ _ _)
   | (with_reducible exact ih4 _ _ _ _ _)
   | (with_reducible exact ih5 _ _ _ _ _)
   | (with_reducible exact impl_ExcessOf.mono _ _)
   | (with_reducible exact impl_GoodRotations.mono _ _)
   | (with_reducible exact impl_IsDegrees.mono _ _)
   | (with_reducible exact impl_IsForest.mono _ _)
   | (with_reducible exact impl_RatioRotations.mono _ _ _)
   | (with_reducible exact impl_RotateList.mono _ _ _)
   | (with_reducible exact laws_xCount.mono _ _ _)
   | (with_reducible exact laws_xHas.mono _ _ _)
   | (with_reducible exact laws_xSame.mono _ _ _)
   | (with_reducible exact laws_xSum.mono _ _)
   | (with_reducible exact spec_DrawGoodRotations.mono _ _)
   | (with_reducible exact spec_DrawRatioRotations.mono _ _)
   | (with_reducible exact spec_DrawRotateList.mono _ _)
   | (with_reducible exact spec_ExcessOf.mono _ _)
   | (with_reducible exact spec_GoodRotations.mono _ _)
   | (with_reducible exact spec_IsDegrees.mono _ _)
   | (with_reducible exact spec_RatioRotations.mono _ _ _)
   | (with_reducible exact spec_RotateList.mono _ _ _)
   | (with_reducible exact LeO.refl _)
   | (with_reducible exact LeO.none _)
   | (with_reducible refine LeO.ite ?_ ?_)
   | (with_reducible refine LeO.bind ?_ (fun _ => ?_))
   | exact ih0 _
   | exact ih1 _ _ _ _
   | exact ih2 _ _ _ _ _ _ _
   | exact ih3 _ _ _ _ _ _ _ _ _
   | exact ih4 _ _ _ _ _
   | exact ih5 _ _ _ _ _
   | exact impl_ExcessOf.mono _ _
   | exact impl_GoodRotations.mono _ _
   | exact impl_IsDegrees.mono _ _
   | exact impl_IsForest.mono _ _
   | exact impl_RatioRotations.mono _ _ _
   | exact impl_RotateList.mono _ _ _
   | exact laws_xCount.mono _ _ _
   | exact laws_xHas.mono _ _ _
   | exact laws_xSame.mono _ _ _
   | exact laws_xSum.mono _ _
   | exact spec_DrawGoodRotations.mono _ _
   | exact spec_DrawRatioRotations.mono _ _
   | exact spec_DrawRotateList.mono _ _
   | exact spec_ExcessOf.mono _ _
   | exact spec_GoodRotations.mono _ _
   | exact spec_IsDegrees.mono _ _
   | exact spec_RatioRotations.mono _ _ _
   | exact spec_RotateList.mono _ _ _
   | exact LeO.none _
   | refine LeO.ite ?_ ?_
   | refine LeO.bind ?_ (fun _ => ?_)
  ·intro y0 y1 y2 y3
   unfold laws_FnRotationsGood.j5
   repeat' first
   | (with_reducible exact ih0 _)
   | (with_reducible exact ih1 _ _ _ _)
   | (with_reducible exact ih2 _ _ _ _ _ _ _)
   | (with_reducible exact ih3 _ _ _ _ _ _ _ _ _)
   | (with_reducible exact ih4 _ _ _ _ _)
   | (with_reducible exact ih5 _ _ _ _ _)
   | (with_reducible exact impl_ExcessOf.mono _ _)
   | (with_reducible exact impl_GoodRotations.mono _ _)
   | (with_reducible exact impl_IsDegrees.mono _ _)
   | (with_reducible exact impl_IsForest.mono _ _)
   | (with_reducible exact impl_RatioRotations.mono _ _ _)
   | (with_reducible exact impl_RotateList.mono _ _ _)
   | (with_reducible exact laws_xCount.mono _ _ _)
   | (with_reducible exact laws_xHas.mono _ _ _)
   | (with_reducible exact laws_xSame.mono _ _ _)
   | (with_reducible exact laws_xSum.mono _ _)
   | (with_reducible exact spec_DrawGoodRotations.mono _ _)
   | (with_reducible exact spec_DrawRatioRotations.mono _ _)
   | (with_reducible exact spec_DrawRotateList.mono _ _)
   | (with_reducible exact spec_ExcessOf.mono _ _)
   | (with_reducible exact spec_GoodRotations.mono _ _)
   | (with_reducible exact spec_IsDegrees.mono _ _)
   | (with_reducible exact spec_RatioRotations.mono _ _ _)
   | (with_reducible exact spec_RotateList.mono _ _ _)
   | (with_reducible exact LeO.refl _)
   | (with_reducible exact LeO.none _)
   | (with_reducible refine LeO.ite ?_ ?_)
   | (with_reducible refine LeO.bind ?_ (fun _ => ?_))
   | exact ih0 _
   | exact ih1 _ _ _ _
   | exact ih2 _ _ _ _ _ _ _
   | exact ih3 _ _ _ _ _ _ _ _ _
   | exact ih4 _ _ _ _ _
   | exact ih5 _ _ _ _ _
   | exact impl_ExcessOf.mono _ _
   | exact impl_GoodRotations.mono _ _
   | exact impl_IsDegrees.mono _ _
   | exact impl_IsForest.mono _ _
   | exact impl_RatioRotations.mono _ _ _
   | exact impl_RotateList.mono _ _ _
   | exact laws_xCount.mono _ _ _
   | exact laws_xHas.mono _ _ _
   | exact laws_xSame.mono _ _ _
   | exact laws_xSum.mono _ _
   | exact spec_DrawGoodRotations.mono _ _
   | exact spec_DrawRatioRotations.mono _ _
   | exact spec_DrawRotateList.mono _ _
   | exact spec_ExcessOf.mono _ _
   | exact spec_GoodRotations.mono _ _
   | exact spec_IsDegrees.mono _ _
   | exact spec_RatioRotations.mono _ _ _
   | exact spec_RotateList.mono _ _ _
   | exact LeO.none _
   | refine LeO.ite ?_ ?_
   | refine LeO.bind ?_ (fun _ => ?_)
  ·intro y0 y1 y2 y3 y4 y5 y6
   unfold laws_FnRotationsGood.j3
   repeat' first
   | (with_reducible exact ih0 _)
   | (with_reducible exact ih1 _ _ _ _)
   | (with_reducible exact ih2 _ _ _ _ _ _ _)
   | (with_reducible exact ih3 _ _ _ _ _ _ _ _ _)
   | (with_reducible exact ih4 _ _ _ _ _)
   | (with_reducible exact ih5 _ _ _ _ _)
   | (with_reducible exact impl_ExcessOf.mono _ _)
   | (with_reducible exact impl_GoodRotations.mono _ _)
   | (with_reducible exact impl_IsDegrees.mono _ _)
   | (with_reducible exact impl_IsForest.mono _ _)
   | (with_reducible exact impl_RatioRotations.mono _ _ _)
   | (with_reducible exact impl_RotateList.mono _ _ _)
   | (with_reducible exact laws_xCount.mono _ _ _)
   | (with_reducible exact laws_xHas.mono _ _ _)
   | (with_reducible exact laws_xSame.mono _ _ _)
   | (with_reducible exact laws_xSum.mono _ _)
   | (with_reducible exact spec_DrawGoodRotations.mono _ _)
   | (with_reducible exact spec_DrawRatioRotations.mono _ _)
   | (with_reducible exact spec_DrawRotateList.mono _ _)
   | (with_reducible exact spec_ExcessOf.mono _ _)
   | (with_reducible exact spec_GoodRotations.mono _ _)
   | (with_reducible exact spec_IsDegrees.mono _ _)
   | (with_reducible exact spec_RatioRotations.mono _ _ _)
   | (with_reducible exact spec_RotateList.mono _ _ _)
   | (with_reducible exact LeO.refl _)
   | (with_reducible exact LeO.none _)
   | (with_reducible refine LeO.ite ?_ ?_)
   | (with_reducible refine LeO.bind ?_ (fun _ => ?_))
   | exact ih0 _
   | exact ih1 _ _ _ _
   | exact ih2 _ _ _ _ _ _ _
   | exact ih3 _ _ _ _ _ _ _ _ _
   | exact ih4 _ _ _ _ _
   | exact ih5 _ _ _ _ _
   | exact impl_ExcessOf.mono _ _
   | exact impl_GoodRotations.mono _ _
   | exact impl_IsDegrees.mono _ _
   | exact impl_IsForest.mono _ _
   | exact impl_RatioRotations.mono _ _ _
   | exact impl_RotateList.mono _ _ _
   | exact laws_xCount.mono _ _ _
   | exact laws_xHas.mono _ _ _
   | exact laws_xSame.mono _ _ _
   | exact laws_xSum.mono _ _
   | exact spec_DrawGoodRotations.mono _ _
   | exact spec_DrawRatioRotations.mono _ _
   | exact spec_DrawRotateList.mono _ _
   | exact spec_ExcessOf.mono _ _
   | exact spec_GoodRotations.mono _ _
   | exact spec_IsDegrees.mono _ _
   | exact spec_RatioRotations.mono _ _ _
   | exact spec_RotateList.mono _ _ _
   | exact LeO.none _
   | refine LeO.ite ?_ ?_
   | refine LeO.bind ?_ (fun _ => ?_)
  ·intro y0 y1 y2 y3 y4 y5 y6 y7 y8
   unfold laws_FnRotationsGood.l1
   repeat' first
   | (with_reducible exact ih0 _)
   | (with_reducible exact ih1 _ _ _ _)
   | (with_reducible exact ih2 _ _ _ _ _ _ _)
   | (with_reducible exact ih3 _ _ _ _ _ _ _ _ _)
   | (with_reducible exact ih4 _ _ _ _ _)
   | (with_reducible exact ih5 _ _ _ _ _)
   | (with_reducible exact impl_ExcessOf.mono _ _)
   | (with_reducible exact impl_GoodRotations.mono _ _)
   | (with_reducible exact impl_IsDegrees.mono _ _)
   | (with_reducible exact impl_IsForest.mono _ _)
   | (with_reducible exact impl_RatioRotations.mono _ _ _)
   | (with_reducible exact impl_RotateList.mono _ _ _)
   | (with_reducible exact laws_xCount.mono _ _ _)
   | (with_reducible exact laws_xHas.mono _ _ _)
   | (with_reducible exact laws_xSame.mono _ _ _)
   | (with_reducible exact laws_xSum.mono _ _)
   | (with_reducible exact spec_DrawGoodRotations.mono _ _)
   | (with_reducible exact spec_DrawRatioRotations.mono _ _)
   | (with_reducible exact spec_DrawRotateList.mono _ _)
   | (with_reducible exact spec_ExcessOf.mono _ _)
   | (with_reducible exact spec_GoodRotations.mono _ _)
   | (with_reducible exact spec_IsDegrees.mono _ _)
   | (with_reducible exact spec_RatioRotations.mono _ _ _)
   | (with_reducible exact spec_RotateList.mono _ _ _)
   | (with_reducible exact LeO.refl _)
   | (with_reducible exact LeO.none _)
   | (with_reducible refine LeO.ite ?_ ?_)
   | (with_reducible refine LeO.bind ?_ (fun _ => ?_))
   | exact ih0 _
   | exact ih1 _ _ _ _
   | exact ih2 _ _ _ _ _ _ _
   | exact ih3 _ _ _ _ _ _ _ _ _
   | exact ih4 _ _ _ _ _
   | exact ih5 _ _ _ _ _
   | exact impl_ExcessOf.mono _ _
   | exact impl_GoodRotations.mono _ _
   | exact impl_IsDegrees.mono _ _
   | exact impl_IsForest.mono _ _
   | exact impl_RatioRotations.mono _ _ _
   | exact impl_RotateList.mono _ _ _
   | exact laws_xCount.mono _ _ _
   | exact laws_xHas.mono _ _ _
   | exact laws_xSame.mono _ _ _
   | exact laws_xSum.mono _ _
   | exact spec_DrawGoodRotations.mono _ _
   | exact spec_DrawRatioRotations.mono _ _
   | exact spec_DrawRotateList.mono _ _
   | exact spec_ExcessOf.mono _ _
   | exact spec_GoodRotations.mono _ _
   | exact spec_IsDegrees.mono _ _
   | exact spec_RatioRotations.mono _ _ _
   | exact spec_RotateList.mono _ _ _
   | exact LeO.none _
   | refine LeO.ite ?_ ?_
   | refine LeO.bind ?_ (fun _ => ?_)
  ·intro y0 y1 y2 y3 y4
   unfold laws_FnRotationsGood.j0
   repeat' first
   | (with_reducible exact ih0 _)
   | (with_reducible exact ih1 _ _ _ _)
   | (with_reducible exact ih2 _ _ _ _ _ _ _)
   | (with_reducible exact ih3 _ _ _ _ _ _ _ _ _)
   | (with_reducible exact ih4 _ _ _ _ _)
   | (with_reducible exact ih5 _ _ _ _ _)
   | (with_reducible exact impl_ExcessOf.mono _ _)
   | (with_reducible exact impl_GoodRotations.mono _ _)
   | (with_reducible exact impl_IsDegrees.mono _ _)
   | (with_reducible exact impl_IsForest.mono _ _)
   | (with_reducible exact impl_RatioRotations.mono _ _ _)
   | (with_reducible exact impl_RotateList.mono _ _ _)
   | (with_reducible exact laws_xCount.mono _ _ _)
   | (with_reducible exact laws_xHas.mono _ _ _)
   | (with_reducible exact laws_xSame.mono _ _ _)
   | (with_reducible exact laws_xSum.mono _ _)
   | (with_reducible exact spec_DrawGoodRotations.mono _ _)
   | (with_reducible exact spec_DrawRatioRotations.mono _ _)
   | (with_reducible exact spec_DrawRotateList.mono _ _)
   | (with_reducible exact spec_ExcessOf.mono _ _)
   | (with_reducible exact spec_GoodRotations.mono _ _)
   | (with_reducible exact spec_IsDegrees.mono _ _)
   | (with_reducible exact spec_RatioRotations.mono _ _ _)
   | (with_reducible exact spec_RotateList.mono _ _ _)
   | (with_reducible exact LeO.refl _)
   | (with_reducible exact LeO.none _)
   | (with_reducible refine LeO.ite ?_ ?_)
   | (with_reducible refine LeO.bind ?_ (fun _ => ?_))
   | exact ih0 _
   | exact ih1 _ _ _ _
   | exact ih2 _ _ _ _ _ _ _
   | exact ih3 _ _ _ _ _ _ _ _ _
   | exact ih4 _ _ _ _ _
   | exact ih5 _ _ _ _ _
   | exact impl_ExcessOf.mono _ _
   | exact impl_GoodRotations.mono _ _
   | exact impl_IsDegrees.mono _ _
   | exact impl_IsForest.mono _ _
   | exact impl_RatioRotations.mono _ _ _
   | exact impl_RotateList.mono _ _ _
   | exact laws_xCount.mono _ _ _
   | exact laws_xHas.mono _ _ _
   | exact laws_xSame.mono _ _ _
   | exact laws_xSum.mono _ _
   | exact spec_DrawGoodRotations.mono _ _
   | exact spec_DrawRatioRotations.mono _ _
   | exact spec_DrawRotateList.mono _ _
   | exact spec_ExcessOf.mono _ _
   | exact spec_GoodRotations.mono _ _
   | exact spec_IsDegrees.mono _ _
   | exact spec_RatioRotations.mono _ _ _
   | exact spec_RotateList.mono _ _ _
   | exact LeO.none _
   | refine LeO.ite ?_ ?_
   | refine LeO.bind ?_ (fun _ => ?_)
  ·intro y0 y1 y2 y3 y4
   unfold laws_FnRotationsGood.l0
   repeat' first
   | (with_reducible exact ih0 _)
   | (with_reducible exact ih1 _ _ _ _)
   | (with_reducible exact ih2 _ _ _ _ _ _ _)
   | (with_reducible exact ih3 _ _ _ _ _ _ _ _ _)
   | (with_reducible exact ih4 _ _ _ _ _)
   | (with_reducible exact ih5 _ _ _ _ _)
   | (with_reducible exact impl_ExcessOf.mono _ _)
   | (with_reducible exact impl_GoodRotations.mono _ _)
   | (with_reducible exact impl_IsDegrees.mono _ _)
   | (with_reducible exact impl_IsForest.mono _ _)
   | (with_reducible exact impl_RatioRotations.mono _ _ _)
   | (with_reducible exact impl_RotateList.mono _ _ _)
   | (with_reducible exact laws_xCount.mono _ _ _)
   | (with_reducible exact laws_xHas.mono _ _ _)
   | (with_reducible exact laws_xSame.mono _ _ _)
   | (with_reducible exact laws_xSum.mono _ _)
   | (with_reducible exact spec_DrawGoodRotations.mono _ _)
   | (with_reducible exact spec_DrawRatioRotations.mono _ _)
   | (with_reducible exact spec_DrawRotateList.mono _ _)
   | (with_reducible exact spec_ExcessOf.mono _ _)
   | (with_reducible exact spec_GoodRotations.mono _ _)
   | (with_reducible exact spec_IsDegrees.mono _ _)
   | (with_reducible exact spec_RatioRotations.mono _ _ _)
   | (with_reducible exact spec_RotateList.mono _ _ _)
   | (with_reducible exact LeO.refl _)
   | (with_reducible exact LeO.none _)
   | (with_reducible refine LeO.ite ?_ ?_)
   | (with_reducible refine LeO.bind ?_ (fun _ => ?_))
   | exact ih0 _
   | exact ih1 _ _ _ _
   | exact ih2 _ _ _ _ _ _ _
   | exact ih3 _ _ _ _ _ _ _ _ _
   | exact ih4 _ _ _ _ _
   | exact ih5 _ _ _ _ _
   | exact impl_ExcessOf.mono _ _
   | exact impl_GoodRotations.mono _ _
   | exact impl_IsDegrees.mono _ _
   | exact impl_IsForest.mono _ _
   | exact impl_RatioRotations.mono _ _ _
   | exact impl_RotateList.mono _ _ _
   | exact laws_xCount.mono _ _ _
   | exact laws_xHas.mono _ _ _
   | exact laws_xSame.mono _ _ _
   | exact laws_xSum.mono _ _
   | exact spec_DrawGoodRotations.mono _ _
   | exact spec_DrawRatioRotations.mono _ _
   | exact spec_DrawRotateList.mono _ _
   | exact spec_ExcessOf.mono _ _
   | exact spec_GoodRotations.mono _ _
   | exact spec_IsDegrees.mono _ _
   | exact spec_RatioRotations.mono _ _ _
   | exact spec_RotateList.mono _ _ _
   | exact LeO.none _
   | refine LeO.ite ?_ ?_
   | refine LeO.bind ?_ (fun _ => ?_)
theorem laws_FnRotationsGood.mono : ∀ a0 a1 k, LeO (laws_FnRotationsGood.f k a0 a1) (laws_FnRotationsGood.f (k + 1) a0 a1) := by
 intro a0 a1 k
 obtain ⟨ih0, ih1, ih2, ih3, ih4, ih5⟩ := laws_FnRotationsGood.mono_l k
 unfold laws_FnRotationsGood.f
 repeat' first
   | (with_reducible exact ih0 _)
   | (with_reducible exact ih1 _ _ _ _)
   | (with_reducible exact ih2 _ _ _ _ _ _ _)
   | (with_reducible exact ih3 _ _ _ _ _ _ _ _ _)
   | (with_reducible exact ih4 _ _ _ _ _)
   | (with_reducible exact ih5 _ _ _ _ _)
   | (with_reducible exact impl_ExcessOf.mono _ _)
   | (with_reducible exact impl_GoodRotations.mono _ _)
   | (with_reducible exact impl_IsDegrees.mono _ _)
   | (with_reducible exact impl_IsForest.mono _ _)
   | (with_reducible exact impl_RatioRotations.mono _ _ _)
   | (with_reducible exact impl_RotateList.mono _ _ _)
   | (with_reducible exact laws_xCount.mono _ _ _)
   | (with_reducible exact laws_xHas.mono _ _ _)
   | (with_reducible exact laws_xSame.mono _ _ _)
   | (with_reducible exact laws_xSum.mono _ _)
   | (with_reducible exact spec_DrawGoodRotations.mono _ _)
   | (with_reducible exact spec_DrawRatioRotations.mono _ _)
   | (with_reducible exact spec_DrawRotateList.mono _ _)
   | (with_reducible exact spec_ExcessOf.mono _ _)
   | (with_reducible exact spec_GoodRotations.mono _ _)
   | (with_reducible exact spec_IsDegrees.mono _ _)
   | (with_reducible exact spec_RatioRotations.mono _ _ _)
   | (with_reducible exact spec_RotateList.mono _ _ _)
   | (with_reducible exact LeO.refl _)
   | (with_reducible exact LeO.none _)
   | (with_reducible refine LeO.ite ?_ ?_)
   | (with_reducible refine LeO.bind ?_ (fun _ => ?_))
   | exact ih0 _
   | exact ih1 _ _ _ _
   | exact ih2 _ _ _ _ _ _ _
   | exact ih3 _ _ _ _ _ _ _ _ _
   | exact ih4 _ _ _ _ _
   | exact ih5 _ _ _ _ _
   | exact impl_ExcessOf.mono _ _
   | exact impl_GoodRotations.mono _ _
   | exact impl_IsDegrees.mono _ _
   | exact impl_IsForest.mono _ _
   | exact impl_RatioRotations.mono _ _ _
   | exact impl_RotateList.mono _ _ _
   | exact laws_xCount.mono _ _ _
   | exact laws_xHas.mono _ _ _
   | exact laws_xSame.mono _ _ _
   | exact laws_xSum.mono _ _
   | exact spec_DrawGoodRotations.mono _ _
   | exact spec_DrawRatioRotations.mono _ _
   | exact spec_DrawRotateList.mono _ _
   | exact spec_ExcessOf.mono _ _
   | exact spec_GoodRotations.mono _ _
   | exact spec_IsDegrees.mono _ _
   | exact spec_RatioRotations.mono _ _ _
   | exact spec_RotateList.mono _ _ _
   | exact LeO.none _
   | refine LeO.ite ?_ ?_
   | refine LeO.bind ?_ (fun _ => ?_)
set_option maxHeartbeats 8000000 in
set_option maxRecDepth 100000 in
theorem laws_FnRotationsGood.calls (k : Nat) (A0 : Option Addr) (c0 : Nat) (l0 : List Int) (A1 : Option Addr) (c1 : Nat) (l1 : List Int) (w : World) (hr0 : Kd.C (Kd.int .u8) w A0 l0.length l0) (hc0 : l0.length ≤ c0) (hr1 : Kd.C (Kd.int .u8) w A1 l1.length l1) (hc1 : l1.length ≤ c1) (h : laws_FnRotationsGood.f k l0 l1 = some true) :
  Calls Tryd.prog 4 #[.slice A0 l0.length c0, .slice A1 l1.length c1] w fun e w' => e = .returned (.bool true) ∧ Below w.heap.size w w' := by
 have HR0 := Aside0.mk hr0
 have HC0 := Aside0.mk hc0
 clear hr0 hc0
 have HR1 := Aside0.mk hr1
 have HC1 := Aside0.mk hc1
 clear hr1 hc1
 have HB := Aside0.mk (Below.refl w.heap.size w)
 have H : ((laws_big.f l0 l1).bind fun t359 => (if t359 = true then (some true) else ((spec_DrawGoodRotations.f k l0).bind fun t360 => ((impl_GoodRotations.f k t360).bind fun bt363 => ((spec_GoodRotations.f k t360).bind fun bt367 => ((impl_ExcessOf.f k t360).bind fun bt371 => ((spec_ExcessOf.f k t360).bind fun bt373 => (if (bt363.2 != bt367.2) = true then (some false) else ((laws_xSame.f k bt363.1 bt367.1).bind fun t375 => (if t375 = true then (if (bt371.2 != bt373.2) = true then (some false) else (if bt371.1 = bt373.1 then ((impl_IsDegrees.f k t360).bind fun t376 => (if (bt363.2 != t376) = true then (some false) else ((impl_IsDegrees.f k t360).bind fun t377 => ((spec_IsDegrees.f k t360).bind fun t378 => (if (t377 != t378) = true then (some false) else (if (bt371.2 != bt363.2) = true then (some false) else (if bt363.2 = true then (if bt371.1 < 0 then (laws_FnRotationsGood.j0 k l1 t360 bt363.1 bt371.1 0) else (laws_FnRotationsGood.j0 k l1 t360 bt363.1 bt371.1 bt371.1)) else (laws_FnRotationsGood.j2 k l1)))))))) else (some false))) else (some false))))))))))) = some true := h
 clear h
 replace H := Option.bind_eq_some_iff.mp H
 obtain ⟨t359, A30, H⟩ := H
 replace H : (if t359 = true then (some true) else ((spec_DrawGoodRotations.f k l0).bind fun t360 => ((impl_GoodRotations.f k t360).bind fun bt363 => ((spec_GoodRotations.f k t360).bind fun bt367 => ((impl_ExcessOf.f k t360).bind fun bt371 => ((spec_ExcessOf.f k t360).bind fun bt373 => (if (bt363.2 != bt367.2) = true then (some false) else ((laws_xSame.f k bt363.1 bt367.1).bind fun t375 => (if t375 = true then (if (bt371.2 != bt373.2) = true then (some false) else (if bt371.1 = bt373.1 then ((impl_IsDegrees.f k t360).bind fun t376 => (if (bt363.2 != t376) = true then (some false) else ((impl_IsDegrees.f k t360).bind fun t377 => ((spec_IsDegrees.f k t360).bind fun t378 => (if (t377 != t378) = true then (some false) else (if (bt371.2 != bt363.2) = true then (some false) else (if bt363.2 = true then (if bt371.1 < 0 then (laws_FnRotationsGood.j0 k l1 t360 bt363.1 bt371.1 0) else (laws_FnRotationsGood.j0 k l1 t360 bt363.1 bt371.1 bt371.1)) else (laws_FnRotationsGood.j2 k l1)))))))) else (some false))) else (some false)))))))))) = some true := H
 have A3 := Aside0.mk A30
 clear A30
 by_cases c4 : t359 = true
 ·subst c4
  have H1 : (some true) = some true := rfl
  clear H
  have H := H1
  clear H1
  clear H
  go_enter Tryd.func4, Tryd.ntmps4
  go_wp2_with (first | ((with_reducible refine gate_callee (f := 11) rfl ?_); refine goesL_ (some 39) rfl rfl Tryd.func11 (by kernel_rfl) rfl #[.slice A0 l0.length c0, .slice A1 l1.length c1] rfl z4 ?_; (with_reducible refine (laws_big.calls _ _ l0 _ _ l1 true _ ?side1 ?side2 ?side3 ?side4 A3.out).mono ?_); (case side1 => repeat (first | exact HR0.out | (with_reducible refine Kd.C_alloc ?_ _) | (with_reducible refine Kd.C_drewN ?_ _) | (with_reducible refine Kd.C_drew ?_))); (case side2 => exact HC0.out); (case side3 => repeat (first | exact HR1.out | (with_reducible refine Kd.C_alloc ?_ _) | (with_reducible refine Kd.C_drewN ?_ _) | (with_reducible refine Kd.C_drew ?_))); (case side4 => exact HC1.out); rintro e w' ⟨rfl, ⟨nd, rfl⟩⟩; refine ⟨_, rfl, ?_⟩))
  go_ret
  exact ⟨z2, zB HB⟩
 ·replace c4 := Bool.eq_false_iff.mpr c4
  subst c4
  have H1 : ((spec_DrawGoodRotations.f k l0).bind fun t360 => ((impl_GoodRotations.f k t360).bind fun bt363 => ((spec_GoodRotations.f k t360).bind fun bt367 => ((impl_ExcessOf.f k t360).bind fun bt371 => ((spec_ExcessOf.f k t360).bind fun bt373 => (if (bt363.2 != bt367.2) = true then (some false) else ((laws_xSame.f k bt363.1 bt367.1).bind fun t375 => (if t375 = true then (if (bt371.2 != bt373.2) = true then (some false) else (if bt371.1 = bt373.1 then ((impl_IsDegrees.f k t360).bind fun t376 => (if (bt363.2 != t376) = true then (some false) else ((impl_IsDegrees.f k t360).bind fun t377 => ((spec_IsDegrees.f k t360).bind fun t378 => (if (t377 != t378) = true then (some false) else (if (bt371.2 != bt363.2) = true then (some false) else (if bt363.2 = true then (if bt371.1 < 0 then (laws_FnRotationsGood.j0 k l1 t360 bt363.1 bt371.1 0) else (laws_FnRotationsGood.j0 k l1 t360 bt363.1 bt371.1 bt371.1)) else (laws_FnRotationsGood.j2 k l1)))))))) else (some false))) else (some false))))))))) = some true := by rw [if_neg (show ¬ (false = true) by decide)] at H; exact H
  clear H
  have H := H1
  clear H1
  replace H := Option.bind_eq_some_iff.mp H
  obtain ⟨t360, A50, H⟩ := H
  replace H : ((impl_GoodRotations.f k t360).bind fun bt363 => ((spec_GoodRotations.f k t360).bind fun bt367 => ((impl_ExcessOf.f k t360).bind fun bt371 => ((spec_ExcessOf.f k t360).bind fun bt373 => (if (bt363.2 != bt367.2) = true then (some false) else ((laws_xSame.f k bt363.1 bt367.1).bind fun t375 => (if t375 = true then (if (bt371.2 != bt373.2) = true then (some false) else (if bt371.1 = bt373.1 then ((impl_IsDegrees.f k t360).bind fun t376 => (if (bt363.2 != t376) = true then (some false) else ((impl_IsDegrees.f k t360).bind fun t377 => ((spec_IsDegrees.f k t360).bind fun t378 => (if (t377 != t378) = true then (some false) else (if (bt371.2 != bt363.2) = true then (some false) else (if bt363.2 = true then (if bt371.1 < 0 then (laws_FnRotationsGood.j0 k l1 t360 bt363.1 bt371.1 0) else (laws_FnRotationsGood.j0 k l1 t360 bt363.1 bt371.1 bt371.1)) else (laws_FnRotationsGood.j2 k l1)))))))) else (some false))) else (some false)))))))) = some true := H
  have A5 := Aside0.mk A50
  clear A50
  replace H := Option.bind_eq_some_iff.mp H
  obtain ⟨⟨t363, t364⟩, A60, H⟩ := H
  replace H : ((spec_GoodRotations.f k t360).bind fun bt367 => ((impl_ExcessOf.f k t360).bind fun bt371 => ((spec_ExcessOf.f k t360).bind fun bt373 => (if (t364 != bt367.2) = true then (some false) else ((laws_xSame.f k t363 bt367.1).bind fun t375 => (if t375 = true then (if (bt371.2 != bt373.2) = true then (some false) else (if bt371.1 = bt373.1 then ((impl_IsDegrees.f k t360).bind fun t376 => (if (t364 != t376) = true then (some false) else ((impl_IsDegrees.f k t360).bind fun t377 => ((spec_IsDegrees.f k t360).bind fun t378 => (if (t377 != t378) = true then (some false) else (if (bt371.2 != t364) = true then (some false) else (if t364 = true then (if bt371.1 < 0 then (laws_FnRotationsGood.j0 k l1 t360 t363 bt371.1 0) else (laws_FnRotationsGood.j0 k l1 t360 t363 bt371.1 bt371.1)) else (laws_FnRotationsGood.j2 k l1)))))))) else (some false))) else (some false))))))) = some true := H
  have A6 := Aside0.mk A60
  clear A60
  replace H := Option.bind_eq_some_iff.mp H
  obtain ⟨⟨t367, t368⟩, A70, H⟩ := H
  replace H : ((impl_ExcessOf.f k t360).bind fun bt371 => ((spec_ExcessOf.f k t360).bind fun bt373 => (if (t364 != t368) = true then (some false) else ((laws_xSame.f k t363 t367).bind fun t375 => (if t375 = true then (if (bt371.2 != bt373.2) = true then (some false) else (if bt371.1 = bt373.1 then ((impl_IsDegrees.f k t360).bind fun t376 => (if (t364 != t376) = true then (some false) else ((impl_IsDegrees.f k t360).bind fun t377 => ((spec_IsDegrees.f k t360).bind fun t378 => (if (t377 != t378) = true then (some false) else (if (bt371.2 != t364) = true then (some false) else (if t364 = true then (if bt371.1 < 0 then (laws_FnRotationsGood.j0 k l1 t360 t363 bt371.1 0) else (laws_FnRotationsGood.j0 k l1 t360 t363 bt371.1 bt371.1)) else (laws_FnRotationsGood.j2 k l1)))))))) else (some false))) else (some false)))))) = some true := H
  have A7 := Aside0.mk A70
  clear A70
  replace H := Option.bind_eq_some_iff.mp H
  obtain ⟨⟨t371, t372⟩, A80, H⟩ := H
  replace H : ((spec_ExcessOf.f k t360).bind fun bt373 => (if (t364 != t368) = true then (some false) else ((laws_xSame.f k t363 t367).bind fun t375 => (if t375 = true then (if (t372 != bt373.2) = true then (some false) else (if t371 = bt373.1 then ((impl_IsDegrees.f k t360).bind fun t376 => (if (t364 != t376) = true then (some false) else ((impl_IsDegrees.f k t360).bind fun t377 => ((spec_IsDegrees.f k t360).bind fun t378 => (if (t377 != t378) = true then (some false) else (if (t372 != t364) = true then (some false) else (if t364 = true then (if t371 < 0 then (laws_FnRotationsGood.j0 k l1 t360 t363 t371 0) else (laws_FnRotationsGood.j0 k l1 t360 t363 t371 t371)) else (laws_FnRotationsGood.j2 k l1)))))))) else (some false))) else (some false))))) = some true := H
  have A8 := Aside0.mk A80
  clear A80
  replace H := Option.bind_eq_some_iff.mp H
  obtain ⟨⟨t373, t374⟩, A90, H⟩ := H
  replace H : (if (t364 != t368) = true then (some false) else ((laws_xSame.f k t363 t367).bind fun t375 => (if t375 = true then (if (t372 != t374) = true then (some false) else (if t371 = t373 then ((impl_IsDegrees.f k t360).bind fun t376 => (if (t364 != t376) = true then (some false) else ((impl_IsDegrees.f k t360).bind fun t377 => ((spec_IsDegrees.f k t360).bind fun t378 => (if (t377 != t378) = true then (some false) else (if (t372 != t364) = true then (some false) else (if t364 = true then (if t371 < 0 then (laws_FnRotationsGood.j0 k l1 t360 t363 t371 0) else (laws_FnRotationsGood.j0 k l1 t360 t363 t371 t371)) else (laws_FnRotationsGood.j2 k l1)))))))) else (some false))) else (some false)))) = some true := H
  have A9 := Aside0.mk A90
  clear A90
  have HP10 := Aside0.mk H
  clear H
  go_enter Tryd.func4, Tryd.ntmps4
  go_upto_region 8 with (first | ((with_reducible refine gate_callee (f := 11) rfl ?_); refine goesL_ (some 39) rfl rfl Tryd.func11 (by kernel_rfl) rfl #[.slice A0 l0.length c0, .slice A1 l1.length c1] rfl z4 ?_; (with_reducible refine (laws_big.calls _ _ l0 _ _ l1 false _ ?side1 ?side2 ?side3 ?side4 A3.out).mono ?_); (case side1 => repeat (first | exact HR0.out | (with_reducible refine Kd.C_alloc ?_ _) | (with_reducible refine Kd.C_drewN ?_ _) | (with_reducible refine Kd.C_drew ?_))); (case side2 => exact HC0.out); (case side3 => repeat (first | exact HR1.out | (with_reducible refine Kd.C_alloc ?_ _) | (with_reducible refine Kd.C_drewN ?_ _) | (with_reducible refine Kd.C_drew ?_))); (case side4 => exact HC1.out); rintro e w' ⟨rfl, ⟨nd, rfl⟩⟩; refine ⟨_, rfl, ?_⟩) | ((with_reducible refine gate_callee (f := 12) rfl ?_); refine goesL_ (some 41) rfl rfl Tryd.func12 (by kernel_rfl) rfl #[.slice A0 l0.length c0] rfl z4 ?_; (with_reducible refine (spec_DrawGoodRotations.calls k _ _ l0 t360 _ ?side1 ?side2 A5.out).mono ?_); (case side1 => repeat (first | exact HR0.out | (with_reducible refine Kd.C_alloc ?_ _) | (with_reducible refine Kd.C_drewN ?_ _) | (with_reducible refine Kd.C_drew ?_))); (case side2 => exact HC0.out); rintro e w11 ⟨v361, rfl, ho0, hb⟩; refine ⟨_, rfl, ?_⟩; have n0_ := Aside0.mk (Kd.R_lower ho0 (below_size (zB HB))); have n1_ := Aside0.mk (below_step (zB HB) hb); clear HB; have HO362 := n0_; have HB := n1_; clear n0_ n1_; (try clear hb); (try clear hb2); (try clear hk); (try clear hi); (try clear ho0); obtain ⟨Ao12, co12, eo12⟩ := Kd.R_slice HO362.out; subst eo12) | ((with_reducible refine gate_callee (f := 13) rfl ?_); refine goesL_ (some 44) rfl rfl Tryd.func13 (by kernel_rfl) rfl #[.slice Ao12 t360.length co12] rfl z4 ?_; (with_reducible refine (impl_GoodRotations.calls k _ _ t360 t363 t364 _ ?side1 ?side2 A6.out).mono ?_); (case side1 => repeat (first | exact (Kd.R_reads' HO362.out).2.2 | (with_reducible refine Kd.C_alloc ?_ _) | (with_reducible refine Kd.C_drewN ?_ _) | (with_reducible refine Kd.C_drew ?_))); (case side2 => exact (Kd.R_reads' HO362.out).2.1); rintro e w13 ⟨v365, rfl, ho0, hb⟩; refine ⟨_, rfl, ?_⟩; have n0_ := Aside0.mk (Kd.R_elder' (zR HO362) (Kd.R_base ho0) hb); have n1_ := Aside0.mk (Kd.R_lower (Kd.R_new' ho0 (Kd.R_lt (zR HO362))) (below_size (zB HB))); have n2_ := Aside0.mk (below_step (zB HB) hb); clear HO362; clear HB; have HO362 := n0_; have HO366 := n1_; have HB := n2_; clear n0_ n1_ n2_; (try clear hb); (try clear hb2); (try clear hk); (try clear hi); (try clear ho0)) | ((with_reducible refine gate_callee (f := 14) rfl ?_); refine goesL_ (some 49) rfl rfl Tryd.func14 (by kernel_rfl) rfl #[.slice Ao12 t360.length co12] rfl z4 ?_; (with_reducible refine (spec_GoodRotations.calls k _ _ t360 t367 t368 _ ?side1 ?side2 A7.out).mono ?_); (case side1 => repeat (first | exact (Kd.R_reads' HO362.out).2.2 | (with_reducible refine Kd.C_alloc ?_ _) | (with_reducible refine Kd.C_drewN ?_ _) | (with_reducible refine Kd.C_drew ?_))); (case side2 => exact (Kd.R_reads' HO362.out).2.1); rintro e w14 ⟨v369, rfl, ho0, hb⟩; refine ⟨_, rfl, ?_⟩; have n0_ := Aside0.mk (Kd.R_elder' (zR HO362) (Kd.R_base ho0) hb); have n1_ := Aside0.mk (Kd.R_elder' (zR HO366) (Kd.R_base ho0) hb); have n2_ := Aside0.mk (Kd.R_lower (Kd.R_new' (Kd.R_new' ho0 (Kd.R_lt (zR HO362))) (Kd.R_lt (zR HO366))) (below_size (zB HB))); have n3_ := Aside0.mk (below_step (zB HB) hb); clear HO362; clear HO366; clear HB; have HO362 := n0_; have HO366 := n1_; have HO370 := n2_; have HB := n3_; clear n0_ n1_ n2_ n3_; (try clear hb); (try clear hb2); (try clear hk); (try clear hi); (try clear ho0)) | ((with_reducible refine gate_callee (f := 15) rfl ?_); refine goesL_ (some 54) rfl rfl Tryd.func15 (by kernel_rfl) rfl #[.slice Ao12 t360.length co12] rfl z4 ?_; (with_reducible refine (impl_ExcessOf.calls k _ _ t360 t371 t372 _ ?side1 ?side2 A8.out).mono ?_); (case side1 => repeat (first | exact (Kd.R_reads' HO362.out).2.2 | (with_reducible refine Kd.C_alloc ?_ _) | (with_reducible refine Kd.C_drewN ?_ _) | (with_reducible refine Kd.C_drew ?_))); (case side2 => exact (Kd.R_reads' HO362.out).2.1); rintro e w15 ⟨rfl, hb⟩; refine ⟨_, rfl, ?_⟩; have n0_ := Aside0.mk (Kd.R_below (zR HO362) hb); have n1_ := Aside0.mk (Kd.R_below (zR HO366) hb); have n2_ := Aside0.mk (Kd.R_below (zR HO370) hb); have n3_ := Aside0.mk (below_step (zB HB) hb); clear HO362; clear HO366; clear HO370; clear HB; have HO362 := n0_; have HO366 := n1_; have HO370 := n2_; have HB := n3_; clear n0_ n1_ n2_ n3_; (try clear hb); (try clear hb2); (try clear hk); (try clear hi)) | ((with_reducible refine gate_callee (f := 16) rfl ?_); refine goesL_ (some 59) rfl rfl Tryd.func16 (by kernel_rfl) rfl #[.slice Ao12 t360.length co12] rfl z4 ?_; (with_reducible refine (spec_ExcessOf.calls k _ _ t360 t373 t374 _ ?side1 ?side2 A9.out).mono ?_); (case side1 => repeat (first | exact (Kd.R_reads' HO362.out).2.2 | (with_reducible refine Kd.C_alloc ?_ _) | (with_reducible refine Kd.C_drewN ?_ _) | (with_reducible refine Kd.C_drew ?_))); (case side2 => exact (Kd.R_reads' HO362.out).2.1); rintro e w' ⟨rfl, ⟨nd, rfl⟩⟩; refine ⟨_, rfl, ?_⟩))
  (try simp only [Act.put, List.setIfInBounds_toArray, List.set_cons_zero, List.set_cons_succ])
  have H := HP10.out
  clear HP10
  by_cases c16 : (t364 != t368) = true
  ·rw [if_pos c16] at H
   have c16b0 : (t364 != t368) = true := c16
   (try (have c16b1 : decide (t364 = t368) = false := by simpa using c16))
   (try (have c16b2 : (t364 == t368) = false := by simpa using c16))
   (try (have c16b3 : ¬ (t364 = t368) := by simpa using c16))
   clear c16
   exact absurd H (by simp)
  ·rw [if_neg c16] at H
   have c16b0 : (t364 != t368) = false := by simpa using c16
   (try (have c16b1 : decide (t364 = t368) = true := by simpa using c16))
   (try (have c16b2 : (t364 == t368) = true := by simpa using c16))
   clear c16
   replace H := Option.bind_eq_some_iff.mp H
   obtain ⟨t375, A170, H⟩ := H
   replace H : (if t375 = true then (if (t372 != t374) = true then (some false) else (if t371 = t373 then ((impl_IsDegrees.f k t360).bind fun t376 => (if (t364 != t376) = true then (some false) else ((impl_IsDegrees.f k t360).bind fun t377 => ((spec_IsDegrees.f k t360).bind fun t378 => (if (t377 != t378) = true then (some false) else (if (t372 != t364) = true then (some false) else (if t364 = true then (if t371 < 0 then (laws_FnRotationsGood.j0 k l1 t360 t363 t371 0) else (laws_FnRotationsGood.j0 k l1 t360 t363 t371 t371)) else (laws_FnRotationsGood.j2 k l1)))))))) else (some false))) else (some false)) = some true := H
   have A17 := Aside0.mk A170
   clear A170
   by_cases c18 : t375 = true
   ·subst c18
    have H1 : (if (t372 != t374) = true then (some false) else (if t371 = t373 then ((impl_IsDegrees.f k t360).bind fun t376 => (if (t364 != t376) = true then (some false) else ((impl_IsDegrees.f k t360).bind fun t377 => ((spec_IsDegrees.f k t360).bind fun t378 => (if (t377 != t378) = true then (some false) else (if (t372 != t364) = true then (some false) else (if t364 = true then (if t371 < 0 then (laws_FnRotationsGood.j0 k l1 t360 t363 t371 0) else (laws_FnRotationsGood.j0 k l1 t360 t363 t371 t371)) else (laws_FnRotationsGood.j2 k l1)))))))) else (some false))) = some true := by rw [if_pos rfl] at H; exact H
    clear H
    have H := H1
    clear H1
    by_cases c19 : (t372 != t374) = true
    ·rw [if_pos c19] at H
     have c19b0 : (t372 != t374) = true := c19
     (try (have c19b1 : decide (t372 = t374) = false := by simpa using c19))
     (try (have c19b2 : (t372 == t374) = false := by simpa using c19))
     (try (have c19b3 : ¬ (t372 = t374) := by simpa using c19))
     clear c19
     exact absurd H (by simp)
    ·rw [if_neg c19] at H
     have c19b0 : (t372 != t374) = false := by simpa using c19
     (try (have c19b1 : decide (t372 = t374) = true := by simpa using c19))
     (try (have c19b2 : (t372 == t374) = true := by simpa using c19))
     clear c19
     by_cases c20 : t371 = t373
     ·rw [if_pos c20] at H
      have c20b0 : (t371 == t373) = true := beq_iff_eq.mpr c20
      have c20b1 : (t371 != t373) = false := bne_eq_false_iff_eq.mpr c20
      clear c20
      replace H := Option.bind_eq_some_iff.mp H
      obtain ⟨t376, A210, H⟩ := H
      replace H : (if (t364 != t376) = true then (some false) else ((impl_IsDegrees.f k t360).bind fun t377 => ((spec_IsDegrees.f k t360).bind fun t378 => (if (t377 != t378) = true then (some false) else (if (t372 != t364) = true then (some false) else (if t364 = true then (if t371 < 0 then (laws_FnRotationsGood.j0 k l1 t360 t363 t371 0) else (laws_FnRotationsGood.j0 k l1 t360 t363 t371 t371)) else (laws_FnRotationsGood.j2 k l1))))))) = some true := H
      have A21 := Aside0.mk A210
      clear A210
      by_cases c22 : (t364 != t376) = true
      ·rw [if_pos c22] at H
       have c22b0 : (t364 != t376) = true := c22
       (try (have c22b1 : decide (t364 = t376) = false := by simpa using c22))
       (try (have c22b2 : (t364 == t376) = false := by simpa using c22))
       (try (have c22b3 : ¬ (t364 = t376) := by simpa using c22))
       clear c22
       exact absurd H (by simp)
      ·rw [if_neg c22] at H
       have c22b0 : (t364 != t376) = false := by simpa using c22
       (try (have c22b1 : decide (t364 = t376) = true := by simpa using c22))
       (try (have c22b2 : (t364 == t376) = true := by simpa using c22))
       clear c22
       replace H := Option.bind_eq_some_iff.mp H
       obtain ⟨t377, A230, H⟩ := H
       replace H : ((spec_IsDegrees.f k t360).bind fun t378 => (if (t377 != t378) = true then (some false) else (if (t372 != t364) = true then (some false) else (if t364 = true then (if t371 < 0 then (laws_FnRotationsGood.j0 k l1 t360 t363 t371 0) else (laws_FnRotationsGood.j0 k l1 t360 t363 t371 t371)) else (laws_FnRotationsGood.j2 k l1))))) = some true := H
       have A23 := Aside0.mk A230
       clear A230
       replace H := Option.bind_eq_some_iff.mp H
       obtain ⟨t378, A240, H⟩ := H
       replace H : (if (t377 != t378) = true then (some false) else (if (t372 != t364) = true then (some false) else (if t364 = true then (if t371 < 0 then (laws_FnRotationsGood.j0 k l1 t360 t363 t371 0) else (laws_FnRotationsGood.j0 k l1 t360 t363 t371 t371)) else (laws_FnRotationsGood.j2 k l1)))) = some true := H
       have A24 := Aside0.mk A240
       clear A240
       by_cases c25 : (t377 != t378) = true
       ·rw [if_pos c25] at H
        have c25b0 : (t377 != t378) = true := c25
        (try (have c25b1 : decide (t377 = t378) = false := by simpa using c25))
        (try (have c25b2 : (t377 == t378) = false := by simpa using c25))
        (try (have c25b3 : ¬ (t377 = t378) := by simpa using c25))
        clear c25
        exact absurd H (by simp)
       ·rw [if_neg c25] at H
        have c25b0 : (t377 != t378) = false := by simpa using c25
        (try (have c25b1 : decide (t377 = t378) = true := by simpa using c25))
        (try (have c25b2 : (t377 == t378) = true := by simpa using c25))
        clear c25
        by_cases c26 : (t372 != t364) = true
        ·rw [if_pos c26] at H
         have c26b0 : (t372 != t364) = true := c26
         (try (have c26b1 : decide (t372 = t364) = false := by simpa using c26))
         (try (have c26b2 : (t372 == t364) = false := by simpa using c26))
         (try (have c26b3 : ¬ (t372 = t364) := by simpa using c26))
         clear c26
         exact absurd H (by simp)
        ·rw [if_neg c26] at H
         have c26b0 : (t372 != t364) = false := by simpa using c26
         (try (have c26b1 : decide (t372 = t364) = true := by simpa using c26))
         (try (have c26b2 : (t372 == t364) = true := by simpa using c26))
         clear c26
         have HC27 := Aside0.mk H
         clear H
         obtain ⟨Ao28, co28, eo28⟩ := Kd.R_slice HO366.out
         subst eo28
         obtain ⟨Ao29, co29, eo29⟩ := Kd.R_slice HO370.out
         subst eo29
         have e_t377 : t377 = t376 := Option.some.inj (A23.out.symm.trans A21.out)
         (try (have c25b0x := c25b0; rw [e_t377] at c25b0x))
         (try (have c25b1x := c25b1; rw [e_t377] at c25b1x))
         (try (have c25b2x := c25b2; rw [e_t377] at c25b2x))
         (try (have c25b3x := c25b3; rw [e_t377] at c25b3x))
         clear e_t377
         go_upto_if 99 with (first | (go_at_call 17; (with_reducible refine (laws_xSame.calls k _ _ t363 _ _ t367 true _ ?side1 ?side2 ?side3 ?side4 A17.out).mono ?_); (case side1 => repeat (first | exact (Kd.R_reads' HO366.out).2.2 | (with_reducible refine Kd.C_alloc ?_ _) | (with_reducible refine Kd.C_drewN ?_ _) | (with_reducible refine Kd.C_drew ?_))); (case side2 => exact (Kd.R_reads' HO366.out).2.1); (case side3 => repeat (first | exact (Kd.R_reads' HO370.out).2.2 | (with_reducible refine Kd.C_alloc ?_ _) | (with_reducible refine Kd.C_drewN ?_ _) | (with_reducible refine Kd.C_drew ?_))); (case side4 => exact (Kd.R_reads' HO370.out).2.1); rintro e w' ⟨rfl, ⟨nd, rfl⟩⟩) | (go_at_call 18; (with_reducible refine (impl_IsDegrees.calls k _ _ t360 t376 _ ?side1 ?side2 A21.out).mono ?_); (case side1 => repeat (first | exact (Kd.R_reads' HO362.out).2.2 | (with_reducible refine Kd.C_alloc ?_ _) | (with_reducible refine Kd.C_drewN ?_ _) | (with_reducible refine Kd.C_drew ?_))); (case side2 => exact (Kd.R_reads' HO362.out).2.1); rintro e w30 ⟨rfl, hb⟩; have n0_ := Aside0.mk (Kd.R_below (zR HO362) hb); have n1_ := Aside0.mk (Kd.R_below (zR HO366) hb); have n2_ := Aside0.mk (Kd.R_below (zR HO370) hb); have n3_ := Aside0.mk (below_step (zB HB) hb); clear HO362; clear HO366; clear HO370; clear HB; have HO362 := n0_; have HO366 := n1_; have HO370 := n2_; have HB := n3_; clear n0_ n1_ n2_ n3_; (try clear hb); (try clear hb2); (try clear hk); (try clear hi)) | (go_at_call 18; (with_reducible refine (impl_IsDegrees.calls k _ _ t360 t377 _ ?side1 ?side2 A23.out).mono ?_); (case side1 => repeat (first | exact (Kd.R_reads' HO362.out).2.2 | (with_reducible refine Kd.C_alloc ?_ _) | (with_reducible refine Kd.C_drewN ?_ _) | (with_reducible refine Kd.C_drew ?_))); (case side2 => exact (Kd.R_reads' HO362.out).2.1); rintro e w31 ⟨rfl, hb⟩; have n0_ := Aside0.mk (Kd.R_below (zR HO362) hb); have n1_ := Aside0.mk (Kd.R_below (zR HO366) hb); have n2_ := Aside0.mk (Kd.R_below (zR HO370) hb); have n3_ := Aside0.mk (below_step (zB HB) hb); clear HO362; clear HO366; clear HO370; clear HB; have HO362 := n0_; have HO366 := n1_; have HO370 := n2_; have HB := n3_; clear n0_ n1_ n2_ n3_; (try clear hb); (try clear hb2); (try clear hk); (try clear hi)) | (go_at_call 19; (with_reducible refine (spec_IsDegrees.calls k _ _ t360 t378 _ ?side1 ?side2 A24.out).mono ?_); (case side1 => repeat (first | exact (Kd.R_reads' HO362.out).2.2 | (with_reducible refine Kd.C_alloc ?_ _) | (with_reducible refine Kd.C_drewN ?_ _) | (with_reducible refine Kd.C_drew ?_))); (case side2 => exact (Kd.R_reads' HO362.out).2.1); rintro e w' ⟨rfl, ⟨nd, rfl⟩⟩))
         (try simp only [Act.put, List.setIfInBounds_toArray, List.set_cons_zero, List.set_cons_succ])
         go_cut [] (fun wc => ∃ (kq : Nat), Aside0 (laws_FnRotationsGood.j2 kq l1 = some true) ∧ Aside0 (kq ≤ k) ∧ Aside0 (Below w.heap.size w wc))
         case first =>
          have H := HC27.out
          clear HC27
          by_cases c32 : t364 = true
          ·subst c32
           have H1 : (if t371 < 0 then (laws_FnRotationsGood.j0 k l1 t360 t363 t371 0) else (laws_FnRotationsGood.j0 k l1 t360 t363 t371 t371)) = some true := by rw [if_pos rfl] at H; exact H
           clear H
           have H := H1
           clear H1
           have HC33 := Aside0.mk H
           clear H
           go_upto_if 102 with (fail)
           go_cut [14] (fun v14 wc => ∃ (kq : Nat) (x14_32 : Int), v14 = .int .i64 x14_32 ∧ Aside0 (laws_FnRotationsGood.j0 kq l1 t360 t363 t371 x14_32 = some true) ∧ Aside0 (kq ≤ k) ∧ Aside0 (Kd.R (Kd.int .i64) 3 wc w.heap.size (fun k_ => some k_ ≠ ((.slice Ao28 t363.length co28) : Value).ownBlock) (.slice Ao12 t360.length co12) t360) ∧ Aside0 (Kd.R (Kd.int .i64) 3 wc w.heap.size (fun k_ => some k_ ≠ ((.slice Ao12 t360.length co12) : Value).ownBlock) (.slice Ao28 t363.length co28) t363) ∧ Aside0 (Below w.heap.size w wc))
           case first =>
            have H := HC33.out
            clear HC33
            by_cases c34 : t371 < 0
            ·rw [if_pos c34] at H
             have c34b0 : decide (t371 < 0) = true := decide_eq_true c34
             clear c34
             (first | rw [c34b0] | (simp only [i64_w, i32_w]; rw [c34b0]) | skip)
             have H' := Aside0.mk H
             clear H
             go_wp2
             go_meet
             case rel => exact ⟨_, (0), (z1), H', ⟨by first | omega | exact Nat.le_refl _⟩, ⟨by (with_reducible repeat (first | apply Kd.R_alloc | apply Kd.R_drewN | apply Kd.R_drew)); exact Kd.R_mono HO362.out (fun _ hk => hk.1.2)⟩, ⟨by (with_reducible repeat (first | apply Kd.R_alloc | apply Kd.R_drewN | apply Kd.R_drew)); exact Kd.R_mono HO366.out (fun _ hk => hk.1.2)⟩, ⟨zB HB⟩⟩
            ·rw [if_neg c34] at H
             have c34b0 : decide (t371 < 0) = false := decide_eq_false c34
             clear c34
             (first | rw [c34b0] | (simp only [i64_w, i32_w]; rw [c34b0]) | skip)
             have H' := Aside0.mk H
             clear H
             go_wp2
             go_meet
             case rel => exact ⟨_, (t371), (z1), H', ⟨by first | omega | exact Nat.le_refl _⟩, ⟨by (with_reducible repeat (first | apply Kd.R_alloc | apply Kd.R_drewN | apply Kd.R_drew)); exact Kd.R_mono HO362.out (fun _ hk => hk.1.2)⟩, ⟨by (with_reducible repeat (first | apply Kd.R_alloc | apply Kd.R_drewN | apply Kd.R_drew)); exact Kd.R_mono HO366.out (fun _ hk => hk.1.2)⟩, ⟨zB HB⟩⟩
           case rest =>
            as_aux_lemma =>
             clear HC33
             try clear c1
             try clear c2
             try clear p2
             try clear c3
             try clear c4
             try clear c11
             try clear c12
             try clear c13
             try clear c14
             try clear c15
             try clear c16
             try clear c16b0
             try clear c16b1
             try clear c16b2
             try clear c18
             try clear c19
             try clear c19b0
             try clear c19b1
             try clear c19b2
             try clear c20
             try clear c20b0
             try clear c20b1
             try clear c22
             try clear c22b0
             try clear c22b1
             try clear c22b2
             try clear c25
             try clear c25b0
             try clear c25b1
             try clear c25b2
             try clear c26
             try clear c26b0
             try clear c26b1
             try clear c26b2
             try clear c32
             try clear c34
             try clear c34b0
             obtain ⟨kq, x14_32, rfl, HA, HJ32, HO_5, HO_6, HB⟩ := hcut
             cases kq with
             | zero => exact absurd HA.out (by simp [laws_FnRotationsGood.j0])
             | succ kj32 =>
              have H := HA.out
              clear HA
              simp only [laws_FnRotationsGood.j0] at H
              have HP35 := Aside0.mk H
              clear H
              go_upto_region 14 with (fail)
              have H := HP35.out
              clear HP35
              by_cases c36 : (t363.length : Int) = x14_32
              ·rw [if_pos c36] at H
               have c36b0 : ((t363.length : Int) == x14_32) = true := beq_iff_eq.mpr c36
               have c36b1 : ((t363.length : Int) != x14_32) = false := bne_eq_false_iff_eq.mpr c36
               clear c36
               replace H := Option.bind_eq_some_iff.mp H
               obtain ⟨t379, A370, H⟩ := H
               replace H : (if t371 = (wrap64 ((t360.length : Int) - t379)) then (laws_FnRotationsGood.l0 kj32 l1 t360 t363 (t360.length : Int) 0) else (some false)) = some true := H
               have A37 := Aside0.mk A370
               clear A370
               by_cases c38 : t371 = (wrap64 ((t360.length : Int) - t379))
               ·rw [if_pos c38] at H
                have c38b0 : (t371 == (wrap64 ((t360.length : Int) - t379))) = true := beq_iff_eq.mpr c38
                have c38b1 : (t371 != (wrap64 ((t360.length : Int) - t379))) = false := bne_eq_false_iff_eq.mpr c38
                clear c38
                have H' := Aside0.mk H
                clear H
                go_wp2_with (first | (go_at_call 20; (with_reducible refine (laws_xSum.calls kj32 _ _ t360 t379 _ ?side1 ?side2 A37.out).mono ?_); (case side1 => repeat (first | exact (Kd.R_reads' HO_5.out).2.2 | (with_reducible refine Kd.C_alloc ?_ _) | (with_reducible refine Kd.C_drewN ?_ _) | (with_reducible refine Kd.C_drew ?_))); (case side2 => exact (Kd.R_reads' HO_5.out).2.1); rintro e w' ⟨rfl, ⟨nd, rfl⟩⟩))
                go_loopg [118] kj32 (fun kq v118 w' => ∃ (x118_2 : Int), v118 = .int .i64 x118_2 ∧ Aside0 (laws_FnRotationsGood.l0 kq l1 t360 t363 (t360.length : Int) x118_2 = some true) ∧ Aside0 (kq ≤ kj32) ∧ Aside0 (Kd.R (Kd.int .i64) 3 w' w.heap.size (fun k_ => some k_ ≠ ((.slice Ao28 t363.length co28) : Value).ownBlock) (.slice Ao12 t360.length co12) t360) ∧ Aside0 (Kd.R (Kd.int .i64) 3 w' w.heap.size (fun k_ => some k_ ≠ ((.slice Ao12 t360.length co12) : Value).ownBlock) (.slice Ao28 t363.length co28) t363) ∧ Aside0 (Below w.heap.size w w'))
                case atStart => exact ⟨(0), (z1), H', ⟨Nat.le_refl _⟩, ⟨zR HO_5⟩, ⟨zR HO_6⟩, ⟨zB HB⟩⟩
                case round =>
                 clear H'
                 try clear c1
                 try clear c2
                 try clear p2
                 try clear c3
                 try clear c4
                 try clear p6
                 try clear c11
                 try clear c12
                 try clear c13
                 try clear c14
                 try clear c15
                 try clear c16
                 try clear c16b0
                 try clear c16b1
                 try clear c16b2
                 try clear c18
                 try clear c19
                 try clear c19b0
                 try clear c19b1
                 try clear c19b2
                 try clear c20
                 try clear c20b0
                 try clear c20b1
                 try clear c22
                 try clear c22b0
                 try clear c22b1
                 try clear c22b2
                 try clear c25
                 try clear c25b0
                 try clear c25b1
                 try clear c25b2
                 try clear c26
                 try clear c26b0
                 try clear c26b1
                 try clear c26b2
                 try clear c32
                 try clear c34
                 try clear c34b0
                 try clear c36
                 try clear c36b0
                 try clear c36b1
                 try clear c38
                 try clear c38b0
                 try clear c38b1
                 try clear p2
                 obtain ⟨x118_2, rfl, HA, HK2, HO_5, HO_6, HB⟩ := hrel
                 cases gk with
                 | zero => exact absurd HA.out (by simp [laws_FnRotationsGood.l0])
                 | succ k2 =>
                  have H := HA.out
                  clear HA
                  simp only [laws_FnRotationsGood.l0] at H
                  by_cases c39 : x118_2 < (t360.length : Int)
                  ·rw [if_pos c39] at H
                   have c39b0 : decide (x118_2 < (t360.length : Int)) = true := decide_eq_true c39
                   clear c39
                   replace H := Option.bind_eq_some_iff.mp H
                   obtain ⟨⟨t380, t381⟩, A400, H⟩ := H
                   replace H : ((impl_IsForest.f k2 t380).bind fun bt384 => (if t381 = true then (if bt384.2 = true then ((laws_xHas.f k2 t363 x118_2).bind fun t386 => (if (bt384.1 != t386) = true then (some false) else (laws_FnRotationsGood.l0 k2 l1 t360 t363 (t360.length : Int) (wrap64 (x118_2 + 1))))) else (some false)) else (some false))) = some true := H
                   have A40 := Aside0.mk A400
                   clear A400
                   replace H := Option.bind_eq_some_iff.mp H
                   obtain ⟨⟨t384, t385⟩, A410, H⟩ := H
                   replace H : (if t381 = true then (if t385 = true then ((laws_xHas.f k2 t363 x118_2).bind fun t386 => (if (t384 != t386) = true then (some false) else (laws_FnRotationsGood.l0 k2 l1 t360 t363 (t360.length : Int) (wrap64 (x118_2 + 1))))) else (some false)) else (some false)) = some true := H
                   have A41 := Aside0.mk A410
                   clear A410
                   have HP42 := Aside0.mk H
                   clear H
                   go_upto_region 21 with (first | ((with_reducible refine gate_callee (f := 21) rfl ?_); refine goesL_ (some 124) rfl rfl Tryd.func21 (by kernel_rfl) rfl #[.slice Ao12 t360.length co12, .int .i64 x118_2] rfl z4 ?_; (with_reducible refine (impl_RotateList.calls k2 _ _ t360 x118_2 t380 t381 _ ?side1 ?side2 A40.out).mono ?_); (case side1 => repeat (first | exact (Kd.R_reads' HO_5.out).2.2 | (with_reducible refine Kd.C_alloc ?_ _) | (with_reducible refine Kd.C_drewN ?_ _) | (with_reducible refine Kd.C_drew ?_))); (case side2 => exact (Kd.R_reads' HO_5.out).2.1); rintro e w43 ⟨v382, rfl, ho0, hb⟩; refine ⟨_, rfl, ?_⟩; have n0_ := Aside0.mk (Kd.R_elder' (zR HO_5) (Kd.R_base ho0) hb); have n1_ := Aside0.mk (Kd.R_elder' (zR HO_6) (Kd.R_base ho0) hb); have n2_ := Aside0.mk (Kd.R_lower (Kd.R_new' (Kd.R_new' ho0 (Kd.R_lt (zR HO_5))) (Kd.R_lt (zR HO_6))) (below_size (zB HB))); have n3_ := Aside0.mk (below_step (zB HB) hb); clear HO_5; clear HO_6; clear HB; have HO_5 := n0_; have HO_6 := n1_; have HO383 := n2_; have HB := n3_; clear n0_ n1_ n2_ n3_; (try clear hb); (try clear hb2); (try clear hk); (try clear hi); (try clear ho0); obtain ⟨Ao44, co44, eo44⟩ := Kd.R_slice HO383.out; subst eo44) | ((with_reducible refine gate_callee (f := 22) rfl ?_); refine goesL_ (some 129) rfl rfl Tryd.func22 (by kernel_rfl) rfl #[.slice Ao44 t380.length co44] rfl z4 ?_; (with_reducible refine (impl_IsForest.calls k2 _ _ t380 t384 t385 _ ?side1 ?side2 A41.out).mono ?_); (case side1 => repeat (first | exact (Kd.R_reads' HO383.out).2.2 | (with_reducible refine Kd.C_alloc ?_ _) | (with_reducible refine Kd.C_drewN ?_ _) | (with_reducible refine Kd.C_drew ?_))); (case side2 => exact (Kd.R_reads' HO383.out).2.1); rintro e w45 ⟨rfl, hb⟩; refine ⟨_, rfl, ?_⟩; have n0_ := Aside0.mk (Kd.R_below (zR HO_5) hb); have n1_ := Aside0.mk (Kd.R_below (zR HO_6) hb); have n2_ := Aside0.mk (Kd.R_below (zR HO383) hb); have n3_ := Aside0.mk (below_step (zB HB) hb); clear HO_5; clear HO_6; clear HO383; clear HB; have HO_5 := n0_; have HO_6 := n1_; have HO383 := n2_; have HB := n3_; clear n0_ n1_ n2_ n3_; (try clear hb); (try clear hb2); (try clear hk); (try clear hi)))
                   (try simp only [Act.put, List.setIfInBounds_toArray, List.set_cons_zero, List.set_cons_succ])
                   have H := HP42.out
                   clear HP42
                   by_cases c46 : t381 = true
                   ·subst c46
                    have H1 : (if t385 = true then ((laws_xHas.f k2 t363 x118_2).bind fun t386 => (if (t384 != t386) = true then (some false) else (laws_FnRotationsGood.l0 k2 l1 t360 t363 (t360.length : Int) (wrap64 (x118_2 + 1))))) else (some false)) = some true := by rw [if_pos rfl] at H; exact H
                    clear H
                    have H := H1
                    clear H1
                    by_cases c47 : t385 = true
                    ·subst c47
                     have H1 : ((laws_xHas.f k2 t363 x118_2).bind fun t386 => (if (t384 != t386) = true then (some false) else (laws_FnRotationsGood.l0 k2 l1 t360 t363 (t360.length : Int) (wrap64 (x118_2 + 1))))) = some true := by rw [if_pos rfl] at H; exact H
                     clear H
                     have H := H1
                     clear H1
                     replace H := Option.bind_eq_some_iff.mp H
                     obtain ⟨t386, A480, H⟩ := H
                     replace H : (if (t384 != t386) = true then (some false) else (laws_FnRotationsGood.l0 k2 l1 t360 t363 (t360.length : Int) (wrap64 (x118_2 + 1)))) = some true := H
                     have A48 := Aside0.mk A480
                     clear A480
                     by_cases c49 : (t384 != t386) = true
                     ·rw [if_pos c49] at H
                      have c49b0 : (t384 != t386) = true := c49
                      (try (have c49b1 : decide (t384 = t386) = false := by simpa using c49))
                      (try (have c49b2 : (t384 == t386) = false := by simpa using c49))
                      (try (have c49b3 : ¬ (t384 = t386) := by simpa using c49))
                      clear c49
                      exact absurd H (by simp)
                     ·rw [if_neg c49] at H
                      have c49b0 : (t384 != t386) = false := by simpa using c49
                      (try (have c49b1 : decide (t384 = t386) = true := by simpa using c49))
                      (try (have c49b2 : (t384 == t386) = true := by simpa using c49))
                      clear c49
                      have H' := Aside0.mk H
                      clear H
                      go_wp2_with (first | (go_at_call 23; (with_reducible refine (laws_xHas.calls k2 _ _ t363 x118_2 t386 _ ?side1 ?side2 A48.out).mono ?_); (case side1 => repeat (first | exact (Kd.R_reads' HO_6.out).2.2 | (with_reducible refine Kd.C_alloc ?_ _) | (with_reducible refine Kd.C_drewN ?_ _) | (with_reducible refine Kd.C_drew ?_))); (case side2 => exact (Kd.R_reads' HO_6.out).2.1); rintro e w' ⟨rfl, ⟨nd, rfl⟩⟩))
                      go_roundg k2
                      case measure => have := HJ32.out; have := HK2.out; omega
                      case rel => exact ⟨(wrap64 (x118_2 + 1)), (z1), H', ⟨by have := HJ32.out; have := HK2.out; omega⟩, ⟨by (with_reducible repeat (first | apply Kd.R_alloc | apply Kd.R_drewN | apply Kd.R_drew)); exact Kd.R_mono HO_5.out (fun _ hk => hk.1)⟩, ⟨by (with_reducible repeat (first | apply Kd.R_alloc | apply Kd.R_drewN | apply Kd.R_drew)); exact Kd.R_mono HO_6.out (fun _ hk => hk.1)⟩, ⟨zB HB⟩⟩
                    ·replace c47 := Bool.eq_false_iff.mpr c47
                     subst c47
                     have H1 : (some false) = some true := by rw [if_neg (show ¬ (false = true) by decide)] at H; exact H
                     clear H
                     have H := H1
                     clear H1
                     exact absurd H (by simp)
                   ·replace c46 := Bool.eq_false_iff.mpr c46
                    subst c46
                    have H1 : (some false) = some true := by rw [if_neg (show ¬ (false = true) by decide)] at H; exact H
                    clear H
                    have H := H1
                    clear H1
                    exact absurd H (by simp)
                  ·rw [if_neg c39] at H
                   have c39b0 : decide (x118_2 < (t360.length : Int)) = false := decide_eq_false c39
                   clear c39
                   have H' := Aside0.mk H
                   clear H
                   go_wp2
                   go_meet
                   case rel => exact ⟨_, H', ⟨by have := HJ32.out; have := HK2.out; first | omega | exact Nat.le_refl _⟩, ⟨zB HB⟩⟩
               ·rw [if_neg c38] at H
                have c38b0 : (t371 == (wrap64 ((t360.length : Int) - t379))) = false := beq_eq_false_iff_ne.mpr c38
                have c38b1 : (t371 != (wrap64 ((t360.length : Int) - t379))) = true := bne_iff_ne.mpr c38
                exact absurd H (by simp)
              ·rw [if_neg c36] at H
               have c36b0 : ((t363.length : Int) == x14_32) = false := beq_eq_false_iff_ne.mpr c36
               have c36b1 : ((t363.length : Int) != x14_32) = true := bne_iff_ne.mpr c36
               exact absurd H (by simp)
          ·replace c32 := Bool.eq_false_iff.mpr c32
           subst c32
           have H1 : (laws_FnRotationsGood.j2 k l1) = some true := by rw [if_neg (show ¬ (false = true) by decide)] at H; exact H
           clear H
           have H := H1
           clear H1
           have H' := Aside0.mk H
           clear H
           go_wp2
           go_meet
           case rel => exact ⟨_, H', ⟨by first | omega | exact Nat.le_refl _⟩, ⟨zB HB⟩⟩
         case rest =>
          as_aux_lemma =>
           clear HC27
           try clear c1
           try clear c2
           try clear p2
           try clear c3
           try clear c4
           try clear p6
           try clear c11
           try clear c12
           try clear c13
           try clear c14
           try clear c15
           try clear c16
           try clear c16b0
           try clear c16b1
           try clear c16b2
           try clear c18
           try clear c19
           try clear c19b0
           try clear c19b1
           try clear c19b2
           try clear c20
           try clear c20b0
           try clear c20b1
           try clear c21
           try clear c22
           try clear c22b0
           try clear c22b1
           try clear c22b2
           try clear c25
           try clear c25b0
           try clear c25b1
           try clear c25b2
           try clear c26
           try clear c26b0
           try clear c26b1
           try clear c26b2
           try clear c32
           try clear c34
           try clear c34b0
           try clear c36
           try clear c36b0
           try clear c36b1
           try clear c38
           try clear c38b0
           try clear c38b1
           try clear c39
           try clear c39b0
           try clear c46
           try clear c47
           try clear c49
           try clear c49b0
           try clear c49b1
           try clear c49b2
           try clear p2
           try clear p6
           obtain ⟨kq, HA, HJ26, HB⟩ := hcut
           cases kq with
           | zero => exact absurd HA.out (by simp [laws_FnRotationsGood.j2])
           | succ kj26 =>
            have H := HA.out
            clear HA
            simp only [laws_FnRotationsGood.j2] at H
            replace H := Option.bind_eq_some_iff.mp H
            obtain ⟨⟨t387, t388⟩, A500, H⟩ := H
            replace H : ((impl_RatioRotations.f kj26 t387 t388).bind fun bt389 => ((spec_RatioRotations.f kj26 t387 t388).bind fun bt393 => ((spec_DrawRotateList.f kj26 l1).bind fun bt397 => ((impl_RotateList.f kj26 bt397.1 bt397.2).bind fun bt401 => ((spec_RotateList.f kj26 bt397.1 bt397.2).bind fun bt405 => (if (bt389.2 != bt393.2) = true then (some false) else ((laws_xSame.f kj26 bt389.1 bt393.1).bind fun t409 => (if t409 = true then (if (bt401.2 != bt405.2) = true then (some false) else ((laws_xSame.f kj26 bt401.1 bt405.1).bind fun t410 => (if t410 = true then (if bt389.2 = true then ((laws_xCount.f kj26 t387 85).bind fun t411 => ((laws_xCount.f kj26 t387 68).bind fun t412 => (if (wrap64 (t411 - (wrap64 (t388 * t412)))) < 0 then (laws_FnRotationsGood.j3 kj26 t387 bt389.1 bt397.1 bt397.2 bt401.1 bt401.2 0) else (laws_FnRotationsGood.j3 kj26 t387 bt389.1 bt397.1 bt397.2 bt401.1 bt401.2 (wrap64 (t411 - (wrap64 (t388 * t412)))))))) else (laws_FnRotationsGood.j5 kj26 bt397.1 bt397.2 bt401.1 bt401.2)) else (some false)))) else (some false))))))))) = some true := H
            have A50 := Aside0.mk A500
            clear A500
            replace H := Option.bind_eq_some_iff.mp H
            obtain ⟨⟨t389, t390⟩, A510, H⟩ := H
            replace H : ((spec_RatioRotations.f kj26 t387 t388).bind fun bt393 => ((spec_DrawRotateList.f kj26 l1).bind fun bt397 => ((impl_RotateList.f kj26 bt397.1 bt397.2).bind fun bt401 => ((spec_RotateList.f kj26 bt397.1 bt397.2).bind fun bt405 => (if (t390 != bt393.2) = true then (some false) else ((laws_xSame.f kj26 t389 bt393.1).bind fun t409 => (if t409 = true then (if (bt401.2 != bt405.2) = true then (some false) else ((laws_xSame.f kj26 bt401.1 bt405.1).bind fun t410 => (if t410 = true then (if t390 = true then ((laws_xCount.f kj26 t387 85).bind fun t411 => ((laws_xCount.f kj26 t387 68).bind fun t412 => (if (wrap64 (t411 - (wrap64 (t388 * t412)))) < 0 then (laws_FnRotationsGood.j3 kj26 t387 t389 bt397.1 bt397.2 bt401.1 bt401.2 0) else (laws_FnRotationsGood.j3 kj26 t387 t389 bt397.1 bt397.2 bt401.1 bt401.2 (wrap64 (t411 - (wrap64 (t388 * t412)))))))) else (laws_FnRotationsGood.j5 kj26 bt397.1 bt397.2 bt401.1 bt401.2)) else (some false)))) else (some false)))))))) = some true := H
            have A51 := Aside0.mk A510
            clear A510
            replace H := Option.bind_eq_some_iff.mp H
            obtain ⟨⟨t393, t394⟩, A520, H⟩ := H
            replace H : ((spec_DrawRotateList.f kj26 l1).bind fun bt397 => ((impl_RotateList.f kj26 bt397.1 bt397.2).bind fun bt401 => ((spec_RotateList.f kj26 bt397.1 bt397.2).bind fun bt405 => (if (t390 != t394) = true then (some false) else ((laws_xSame.f kj26 t389 t393).bind fun t409 => (if t409 = true then (if (bt401.2 != bt405.2) = true then (some false) else ((laws_xSame.f kj26 bt401.1 bt405.1).bind fun t410 => (if t410 = true then (if t390 = true then ((laws_xCount.f kj26 t387 85).bind fun t411 => ((laws_xCount.f kj26 t387 68).bind fun t412 => (if (wrap64 (t411 - (wrap64 (t388 * t412)))) < 0 then (laws_FnRotationsGood.j3 kj26 t387 t389 bt397.1 bt397.2 bt401.1 bt401.2 0) else (laws_FnRotationsGood.j3 kj26 t387 t389 bt397.1 bt397.2 bt401.1 bt401.2 (wrap64 (t411 - (wrap64 (t388 * t412)))))))) else (laws_FnRotationsGood.j5 kj26 bt397.1 bt397.2 bt401.1 bt401.2)) else (some false)))) else (some false))))))) = some true := H
            have A52 := Aside0.mk A520
            clear A520
            replace H := Option.bind_eq_some_iff.mp H
            obtain ⟨⟨t397, t398⟩, A530, H⟩ := H
            replace H : ((impl_RotateList.f kj26 t397 t398).bind fun bt401 => ((spec_RotateList.f kj26 t397 t398).bind fun bt405 => (if (t390 != t394) = true then (some false) else ((laws_xSame.f kj26 t389 t393).bind fun t409 => (if t409 = true then (if (bt401.2 != bt405.2) = true then (some false) else ((laws_xSame.f kj26 bt401.1 bt405.1).bind fun t410 => (if t410 = true then (if t390 = true then ((laws_xCount.f kj26 t387 85).bind fun t411 => ((laws_xCount.f kj26 t387 68).bind fun t412 => (if (wrap64 (t411 - (wrap64 (t388 * t412)))) < 0 then (laws_FnRotationsGood.j3 kj26 t387 t389 t397 t398 bt401.1 bt401.2 0) else (laws_FnRotationsGood.j3 kj26 t387 t389 t397 t398 bt401.1 bt401.2 (wrap64 (t411 - (wrap64 (t388 * t412)))))))) else (laws_FnRotationsGood.j5 kj26 t397 t398 bt401.1 bt401.2)) else (some false)))) else (some false)))))) = some true := H
            have A53 := Aside0.mk A530
            clear A530
            replace H := Option.bind_eq_some_iff.mp H
            obtain ⟨⟨t401, t402⟩, A540, H⟩ := H
            replace H : ((spec_RotateList.f kj26 t397 t398).bind fun bt405 => (if (t390 != t394) = true then (some false) else ((laws_xSame.f kj26 t389 t393).bind fun t409 => (if t409 = true then (if (t402 != bt405.2) = true then (some false) else ((laws_xSame.f kj26 t401 bt405.1).bind fun t410 => (if t410 = true then (if t390 = true then ((laws_xCount.f kj26 t387 85).bind fun t411 => ((laws_xCount.f kj26 t387 68).bind fun t412 => (if (wrap64 (t411 - (wrap64 (t388 * t412)))) < 0 then (laws_FnRotationsGood.j3 kj26 t387 t389 t397 t398 t401 t402 0) else (laws_FnRotationsGood.j3 kj26 t387 t389 t397 t398 t401 t402 (wrap64 (t411 - (wrap64 (t388 * t412)))))))) else (laws_FnRotationsGood.j5 kj26 t397 t398 t401 t402)) else (some false)))) else (some false))))) = some true := H
            have A54 := Aside0.mk A540
            clear A540
            replace H := Option.bind_eq_some_iff.mp H
            obtain ⟨⟨t405, t406⟩, A550, H⟩ := H
            replace H : (if (t390 != t394) = true then (some false) else ((laws_xSame.f kj26 t389 t393).bind fun t409 => (if t409 = true then (if (t402 != t406) = true then (some false) else ((laws_xSame.f kj26 t401 t405).bind fun t410 => (if t410 = true then (if t390 = true then ((laws_xCount.f kj26 t387 85).bind fun t411 => ((laws_xCount.f kj26 t387 68).bind fun t412 => (if (wrap64 (t411 - (wrap64 (t388 * t412)))) < 0 then (laws_FnRotationsGood.j3 kj26 t387 t389 t397 t398 t401 t402 0) else (laws_FnRotationsGood.j3 kj26 t387 t389 t397 t398 t401 t402 (wrap64 (t411 - (wrap64 (t388 * t412)))))))) else (laws_FnRotationsGood.j5 kj26 t397 t398 t401 t402)) else (some false)))) else (some false)))) = some true := H
            have A55 := Aside0.mk A550
            clear A550
            have HP56 := Aside0.mk H
            clear H
            go_upto_region 30 with (first | ((with_reducible refine gate_callee (f := 24) rfl ?_); refine goesL_ (some 148) rfl rfl Tryd.func24 (by kernel_rfl) rfl #[.slice A1 l1.length c1] rfl z4 ?_; (with_reducible refine (spec_DrawRatioRotations.calls kj26 _ _ l1 t387 t388 _ ?side1 ?side2 A50.out).mono ?_); (case side1 => repeat (first | exact (Kd.C_below HR1.out HB.out) | (with_reducible refine Kd.C_alloc ?_ _) | (with_reducible refine Kd.C_drewN ?_ _) | (with_reducible refine Kd.C_drew ?_))); (case side2 => exact HC1.out); rintro e w57 ⟨rfl, hb⟩; refine ⟨_, rfl, ?_⟩; have n0_ := Aside0.mk (below_step (zB HB) hb); clear HB; have HB := n0_; clear n0_; (try clear hb); (try clear hb2); (try clear hk); (try clear hi)) | ((with_reducible refine gate_callee (f := 25) rfl ?_); refine goesL_ (some 154) rfl rfl Tryd.func25 (by kernel_rfl) rfl #[.string t387, .int .i64 t388] rfl z4 ?_; (with_reducible refine (impl_RatioRotations.calls kj26 t387 t388 t389 t390 _ A51.out).mono ?_); rintro e w58 ⟨v391, rfl, ho0, hb⟩; refine ⟨_, rfl, ?_⟩; have n0_ := Aside0.mk (Kd.R_lower ho0 (below_size (zB HB))); have n1_ := Aside0.mk (below_step (zB HB) hb); clear HB; have HO392 := n0_; have HB := n1_; clear n0_ n1_; (try clear hb); (try clear hb2); (try clear hk); (try clear hi); (try clear ho0)) | ((with_reducible refine gate_callee (f := 26) rfl ?_); refine goesL_ (some 160) rfl rfl Tryd.func26 (by kernel_rfl) rfl #[.string t387, .int .i64 t388] rfl z4 ?_; (with_reducible refine (spec_RatioRotations.calls kj26 t387 t388 t393 t394 _ A52.out).mono ?_); rintro e w59 ⟨v395, rfl, ho0, hb⟩; refine ⟨_, rfl, ?_⟩; have n0_ := Aside0.mk (Kd.R_elder' (zR HO392) (Kd.R_base ho0) hb); have n1_ := Aside0.mk (Kd.R_lower (Kd.R_new' ho0 (Kd.R_lt (zR HO392))) (below_size (zB HB))); have n2_ := Aside0.mk (below_step (zB HB) hb); clear HO392; clear HB; have HO392 := n0_; have HO396 := n1_; have HB := n2_; clear n0_ n1_ n2_; (try clear hb); (try clear hb2); (try clear hk); (try clear hi); (try clear ho0)) | ((with_reducible refine gate_callee (f := 27) rfl ?_); refine goesL_ (some 165) rfl rfl Tryd.func27 (by kernel_rfl) rfl #[.slice A1 l1.length c1] rfl z4 ?_; (with_reducible refine (spec_DrawRotateList.calls kj26 _ _ l1 t397 t398 _ ?side1 ?side2 A53.out).mono ?_); (case side1 => repeat (first | exact (Kd.C_below HR1.out HB.out) | (with_reducible refine Kd.C_alloc ?_ _) | (with_reducible refine Kd.C_drewN ?_ _) | (with_reducible refine Kd.C_drew ?_))); (case side2 => exact HC1.out); rintro e w60 ⟨v399, rfl, ho0, hb⟩; refine ⟨_, rfl, ?_⟩; have n0_ := Aside0.mk (Kd.R_elder' (zR HO392) (Kd.R_base ho0) hb); have n1_ := Aside0.mk (Kd.R_elder' (zR HO396) (Kd.R_base ho0) hb); have n2_ := Aside0.mk (Kd.R_lower (Kd.R_new' (Kd.R_new' ho0 (Kd.R_lt (zR HO392))) (Kd.R_lt (zR HO396))) (below_size (zB HB))); have n3_ := Aside0.mk (below_step (zB HB) hb); clear HO392; clear HO396; clear HB; have HO392 := n0_; have HO396 := n1_; have HO400 := n2_; have HB := n3_; clear n0_ n1_ n2_ n3_; (try clear hb); (try clear hb2); (try clear hk); (try clear hi); (try clear ho0); obtain ⟨Ao61, co61, eo61⟩ := Kd.R_slice HO400.out; subst eo61) | ((with_reducible refine gate_callee (f := 21) rfl ?_); refine goesL_ (some 171) rfl rfl Tryd.func21 (by kernel_rfl) rfl #[.slice Ao61 t397.length co61, .int .i64 t398] rfl z4 ?_; (with_reducible refine (impl_RotateList.calls kj26 _ _ t397 t398 t401 t402 _ ?side1 ?side2 A54.out).mono ?_); (case side1 => repeat (first | exact (Kd.R_reads' HO400.out).2.2 | (with_reducible refine Kd.C_alloc ?_ _) | (with_reducible refine Kd.C_drewN ?_ _) | (with_reducible refine Kd.C_drew ?_))); (case side2 => exact (Kd.R_reads' HO400.out).2.1); rintro e w62 ⟨v403, rfl, ho0, hb⟩; refine ⟨_, rfl, ?_⟩; have n0_ := Aside0.mk (Kd.R_elder' (zR HO392) (Kd.R_base ho0) hb); have n1_ := Aside0.mk (Kd.R_elder' (zR HO396) (Kd.R_base ho0) hb); have n2_ := Aside0.mk (Kd.R_elder' (zR HO400) (Kd.R_base ho0) hb); have n3_ := Aside0.mk (Kd.R_lower (Kd.R_new' (Kd.R_new' (Kd.R_new' ho0 (Kd.R_lt (zR HO392))) (Kd.R_lt (zR HO396))) (Kd.R_lt (zR HO400))) (below_size (zB HB))); have n4_ := Aside0.mk (below_step (zB HB) hb); clear HO392; clear HO396; clear HO400; clear HB; have HO392 := n0_; have HO396 := n1_; have HO400 := n2_; have HO404 := n3_; have HB := n4_; clear n0_ n1_ n2_ n3_ n4_; (try clear hb); (try clear hb2); (try clear hk); (try clear hi); (try clear ho0)) | ((with_reducible refine gate_callee (f := 28) rfl ?_); refine goesL_ (some 177) rfl rfl Tryd.func28 (by kernel_rfl) rfl #[.slice Ao61 t397.length co61, .int .i64 t398] rfl z4 ?_; (with_reducible refine (spec_RotateList.calls kj26 _ _ t397 t398 t405 t406 _ ?side1 ?side2 A55.out).mono ?_); (case side1 => repeat (first | exact (Kd.R_reads' HO400.out).2.2 | (with_reducible refine Kd.C_alloc ?_ _) | (with_reducible refine Kd.C_drewN ?_ _) | (with_reducible refine Kd.C_drew ?_))); (case side2 => exact (Kd.R_reads' HO400.out).2.1); rintro e w63 ⟨v407, rfl, ho0, hb⟩; refine ⟨_, rfl, ?_⟩; have n0_ := Aside0.mk (Kd.R_elder' (zR HO392) (Kd.R_base ho0) hb); have n1_ := Aside0.mk (Kd.R_elder' (zR HO396) (Kd.R_base ho0) hb); have n2_ := Aside0.mk (Kd.R_elder' (zR HO400) (Kd.R_base ho0) hb); have n3_ := Aside0.mk (Kd.R_elder' (zR HO404) (Kd.R_base ho0) hb); have n4_ := Aside0.mk (Kd.R_lower (Kd.R_new' (Kd.R_new' (Kd.R_new' (Kd.R_new' ho0 (Kd.R_lt (zR HO392))) (Kd.R_lt (zR HO396))) (Kd.R_lt (zR HO400))) (Kd.R_lt (zR HO404))) (below_size (zB HB))); have n5_ := Aside0.mk (below_step (zB HB) hb); clear HO392; clear HO396; clear HO400; clear HO404; clear HB; have HO392 := n0_; have HO396 := n1_; have HO400 := n2_; have HO404 := n3_; have HO408 := n4_; have HB := n5_; clear n0_ n1_ n2_ n3_ n4_ n5_; (try clear hb); (try clear hb2); (try clear hk); (try clear hi); (try clear ho0)))
            (try simp only [Act.put, List.setIfInBounds_toArray, List.set_cons_zero, List.set_cons_succ])
            have H := HP56.out
            clear HP56
            by_cases c64 : (t390 != t394) = true
            ·rw [if_pos c64] at H
             have c64b0 : (t390 != t394) = true := c64
             (try (have c64b1 : decide (t390 = t394) = false := by simpa using c64))
             (try (have c64b2 : (t390 == t394) = false := by simpa using c64))
             (try (have c64b3 : ¬ (t390 = t394) := by simpa using c64))
             clear c64
             exact absurd H (by simp)
            ·rw [if_neg c64] at H
             have c64b0 : (t390 != t394) = false := by simpa using c64
             (try (have c64b1 : decide (t390 = t394) = true := by simpa using c64))
             (try (have c64b2 : (t390 == t394) = true := by simpa using c64))
             clear c64
             replace H := Option.bind_eq_some_iff.mp H
             obtain ⟨t409, A650, H⟩ := H
             replace H : (if t409 = true then (if (t402 != t406) = true then (some false) else ((laws_xSame.f kj26 t401 t405).bind fun t410 => (if t410 = true then (if t390 = true then ((laws_xCount.f kj26 t387 85).bind fun t411 => ((laws_xCount.f kj26 t387 68).bind fun t412 => (if (wrap64 (t411 - (wrap64 (t388 * t412)))) < 0 then (laws_FnRotationsGood.j3 kj26 t387 t389 t397 t398 t401 t402 0) else (laws_FnRotationsGood.j3 kj26 t387 t389 t397 t398 t401 t402 (wrap64 (t411 - (wrap64 (t388 * t412)))))))) else (laws_FnRotationsGood.j5 kj26 t397 t398 t401 t402)) else (some false)))) else (some false)) = some true := H
             have A65 := Aside0.mk A650
             clear A650
             by_cases c66 : t409 = true
             ·subst c66
              have H1 : (if (t402 != t406) = true then (some false) else ((laws_xSame.f kj26 t401 t405).bind fun t410 => (if t410 = true then (if t390 = true then ((laws_xCount.f kj26 t387 85).bind fun t411 => ((laws_xCount.f kj26 t387 68).bind fun t412 => (if (wrap64 (t411 - (wrap64 (t388 * t412)))) < 0 then (laws_FnRotationsGood.j3 kj26 t387 t389 t397 t398 t401 t402 0) else (laws_FnRotationsGood.j3 kj26 t387 t389 t397 t398 t401 t402 (wrap64 (t411 - (wrap64 (t388 * t412)))))))) else (laws_FnRotationsGood.j5 kj26 t397 t398 t401 t402)) else (some false)))) = some true := by rw [if_pos rfl] at H; exact H
              clear H
              have H := H1
              clear H1
              by_cases c67 : (t402 != t406) = true
              ·rw [if_pos c67] at H
               have c67b0 : (t402 != t406) = true := c67
               (try (have c67b1 : decide (t402 = t406) = false := by simpa using c67))
               (try (have c67b2 : (t402 == t406) = false := by simpa using c67))
               (try (have c67b3 : ¬ (t402 = t406) := by simpa using c67))
               clear c67
               exact absurd H (by simp)
              ·rw [if_neg c67] at H
               have c67b0 : (t402 != t406) = false := by simpa using c67
               (try (have c67b1 : decide (t402 = t406) = true := by simpa using c67))
               (try (have c67b2 : (t402 == t406) = true := by simpa using c67))
               clear c67
               replace H := Option.bind_eq_some_iff.mp H
               obtain ⟨t410, A680, H⟩ := H
               replace H : (if t410 = true then (if t390 = true then ((laws_xCount.f kj26 t387 85).bind fun t411 => ((laws_xCount.f kj26 t387 68).bind fun t412 => (if (wrap64 (t411 - (wrap64 (t388 * t412)))) < 0 then (laws_FnRotationsGood.j3 kj26 t387 t389 t397 t398 t401 t402 0) else (laws_FnRotationsGood.j3 kj26 t387 t389 t397 t398 t401 t402 (wrap64 (t411 - (wrap64 (t388 * t412)))))))) else (laws_FnRotationsGood.j5 kj26 t397 t398 t401 t402)) else (some false)) = some true := H
               have A68 := Aside0.mk A680
               clear A680
               by_cases c69 : t410 = true
               ·subst c69
                have H1 : (if t390 = true then ((laws_xCount.f kj26 t387 85).bind fun t411 => ((laws_xCount.f kj26 t387 68).bind fun t412 => (if (wrap64 (t411 - (wrap64 (t388 * t412)))) < 0 then (laws_FnRotationsGood.j3 kj26 t387 t389 t397 t398 t401 t402 0) else (laws_FnRotationsGood.j3 kj26 t387 t389 t397 t398 t401 t402 (wrap64 (t411 - (wrap64 (t388 * t412)))))))) else (laws_FnRotationsGood.j5 kj26 t397 t398 t401 t402)) = some true := by rw [if_pos rfl] at H; exact H
                clear H
                have H := H1
                clear H1
                have HC70 := Aside0.mk H
                clear H
                obtain ⟨Ao71, co71, eo71⟩ := Kd.R_slice HO392.out
                subst eo71
                obtain ⟨Ao72, co72, eo72⟩ := Kd.R_slice HO396.out
                subst eo72
                go_upto_if 200 with (first | (go_at_call 17; (with_reducible refine (laws_xSame.calls kj26 _ _ t389 _ _ t393 true _ ?side1 ?side2 ?side3 ?side4 A65.out).mono ?_); (case side1 => repeat (first | exact (Kd.R_reads' HO392.out).2.2 | (with_reducible refine Kd.C_alloc ?_ _) | (with_reducible refine Kd.C_drewN ?_ _) | (with_reducible refine Kd.C_drew ?_))); (case side2 => exact (Kd.R_reads' HO392.out).2.1); (case side3 => repeat (first | exact (Kd.R_reads' HO396.out).2.2 | (with_reducible refine Kd.C_alloc ?_ _) | (with_reducible refine Kd.C_drewN ?_ _) | (with_reducible refine Kd.C_drew ?_))); (case side4 => exact (Kd.R_reads' HO396.out).2.1); rintro e w' ⟨rfl, ⟨nd, rfl⟩⟩; obtain ⟨Ao73, co73, eo73⟩ := Kd.R_slice HO404.out; subst eo73; obtain ⟨Ao74, co74, eo74⟩ := Kd.R_slice HO408.out; subst eo74) | (go_at_call 17; (with_reducible refine (laws_xSame.calls kj26 _ _ t401 _ _ t405 true _ ?side1 ?side2 ?side3 ?side4 A68.out).mono ?_); (case side1 => repeat (first | exact (Kd.R_reads' HO404.out).2.2 | (with_reducible refine Kd.C_alloc ?_ _) | (with_reducible refine Kd.C_drewN ?_ _) | (with_reducible refine Kd.C_drew ?_))); (case side2 => exact (Kd.R_reads' HO404.out).2.1); (case side3 => repeat (first | exact (Kd.R_reads' HO408.out).2.2 | (with_reducible refine Kd.C_alloc ?_ _) | (with_reducible refine Kd.C_drewN ?_ _) | (with_reducible refine Kd.C_drew ?_))); (case side4 => exact (Kd.R_reads' HO408.out).2.1); rintro e w' ⟨rfl, ⟨nd, rfl⟩⟩))
                (try simp only [Act.put, List.setIfInBounds_toArray, List.set_cons_zero, List.set_cons_succ])
                go_cut [] (fun wc => ∃ (kq : Nat), Aside0 (laws_FnRotationsGood.j5 kq t397 t398 t401 t402 = some true) ∧ Aside0 (kq ≤ kj26) ∧ Aside0 (Kd.R (Kd.int .i64) 3 wc w.heap.size (fun k_ => some k_ ≠ ((.slice Ao73 t401.length co73) : Value).ownBlock) (.slice Ao61 t397.length co61) t397) ∧ Aside0 (Kd.R (Kd.int .i64) 3 wc w.heap.size (fun k_ => some k_ ≠ ((.slice Ao61 t397.length co61) : Value).ownBlock) (.slice Ao73 t401.length co73) t401) ∧ Aside0 (Below w.heap.size w wc))
                case first =>
                 have H := HC70.out
                 clear HC70
                 by_cases c75 : t390 = true
                 ·subst c75
                  have H1 : ((laws_xCount.f kj26 t387 85).bind fun t411 => ((laws_xCount.f kj26 t387 68).bind fun t412 => (if (wrap64 (t411 - (wrap64 (t388 * t412)))) < 0 then (laws_FnRotationsGood.j3 kj26 t387 t389 t397 t398 t401 t402 0) else (laws_FnRotationsGood.j3 kj26 t387 t389 t397 t398 t401 t402 (wrap64 (t411 - (wrap64 (t388 * t412)))))))) = some true := by rw [if_pos rfl] at H; exact H
                  clear H
                  have H := H1
                  clear H1
                  replace H := Option.bind_eq_some_iff.mp H
                  obtain ⟨t411, A760, H⟩ := H
                  replace H : ((laws_xCount.f kj26 t387 68).bind fun t412 => (if (wrap64 (t411 - (wrap64 (t388 * t412)))) < 0 then (laws_FnRotationsGood.j3 kj26 t387 t389 t397 t398 t401 t402 0) else (laws_FnRotationsGood.j3 kj26 t387 t389 t397 t398 t401 t402 (wrap64 (t411 - (wrap64 (t388 * t412))))))) = some true := H
                  have A76 := Aside0.mk A760
                  clear A760
                  replace H := Option.bind_eq_some_iff.mp H
                  obtain ⟨t412, A770, H⟩ := H
                  replace H : (if (wrap64 (t411 - (wrap64 (t388 * t412)))) < 0 then (laws_FnRotationsGood.j3 kj26 t387 t389 t397 t398 t401 t402 0) else (laws_FnRotationsGood.j3 kj26 t387 t389 t397 t398 t401 t402 (wrap64 (t411 - (wrap64 (t388 * t412)))))) = some true := H
                  have A77 := Aside0.mk A770
                  clear A770
                  have HC78 := Aside0.mk H
                  clear H
                  go_upto_if 209 with (first | ((with_reducible refine gate_callee (f := 29) rfl ?_); refine goesL_ (some 202) rfl rfl Tryd.func29 (by kernel_rfl) rfl #[.string t387, .int .u8 85] rfl z4 ?_; (with_reducible refine (laws_xCount.calls kj26 t387 85 t411 _ A76.out).mono ?_); rintro e w' ⟨rfl, ⟨nd, rfl⟩⟩; refine ⟨_, rfl, ?_⟩) | ((with_reducible refine gate_callee (f := 29) rfl ?_); refine goesL_ (some 205) rfl rfl Tryd.func29 (by kernel_rfl) rfl #[.string t387, .int .u8 68] rfl z4 ?_; (with_reducible refine (laws_xCount.calls kj26 t387 68 t412 _ A77.out).mono ?_); rintro e w' ⟨rfl, ⟨nd, rfl⟩⟩; refine ⟨_, rfl, ?_⟩))
                  (try simp only [Act.put, List.setIfInBounds_toArray, List.set_cons_zero, List.set_cons_succ])
                  go_cut [32] (fun v32 wc => ∃ (kq : Nat) (x32_77 : Int), v32 = .int .i64 x32_77 ∧ Aside0 (laws_FnRotationsGood.j3 kq t387 t389 t397 t398 t401 t402 x32_77 = some true) ∧ Aside0 (kq ≤ kj26) ∧ Aside0 (Kd.R (Kd.int .i64) 3 wc w.heap.size (fun k_ => some k_ ≠ ((.slice Ao61 t397.length co61) : Value).ownBlock ∧ some k_ ≠ ((.slice Ao73 t401.length co73) : Value).ownBlock) (.slice Ao71 t389.length co71) t389) ∧ Aside0 (Kd.R (Kd.int .i64) 3 wc w.heap.size (fun k_ => some k_ ≠ ((.slice Ao71 t389.length co71) : Value).ownBlock ∧ some k_ ≠ ((.slice Ao73 t401.length co73) : Value).ownBlock) (.slice Ao61 t397.length co61) t397) ∧ Aside0 (Kd.R (Kd.int .i64) 3 wc w.heap.size (fun k_ => some k_ ≠ ((.slice Ao71 t389.length co71) : Value).ownBlock ∧ some k_ ≠ ((.slice Ao61 t397.length co61) : Value).ownBlock) (.slice Ao73 t401.length co73) t401) ∧ Aside0 (Below w.heap.size w wc))
                  case first =>
                   have H := HC78.out
                   clear HC78
                   by_cases c79 : (wrap64 (t411 - (wrap64 (t388 * t412)))) < 0
                   ·rw [if_pos c79] at H
                    have c79b0 : decide ((wrap64 (t411 - (wrap64 (t388 * t412)))) < 0) = true := decide_eq_true c79
                    clear c79
                    (first | rw [c79b0] | (simp only [i64_w, i32_w]; rw [c79b0]) | skip)
                    have H' := Aside0.mk H
                    clear H
                    go_wp2
                    go_meet
                    case rel => exact ⟨_, (0), (z1), H', ⟨by have := HJ26.out; first | omega | exact Nat.le_refl _⟩, ⟨by (with_reducible repeat (first | apply Kd.R_alloc | apply Kd.R_drewN | apply Kd.R_drew)); exact Kd.R_mono HO392.out (fun _ hk => ⟨hk.1.1.2, hk.1.2⟩)⟩, ⟨by (with_reducible repeat (first | apply Kd.R_alloc | apply Kd.R_drewN | apply Kd.R_drew)); exact Kd.R_mono HO400.out (fun _ hk => ⟨hk.1.1.1.2, hk.1.2⟩)⟩, ⟨by (with_reducible repeat (first | apply Kd.R_alloc | apply Kd.R_drewN | apply Kd.R_drew)); exact Kd.R_mono HO404.out (fun _ hk => ⟨hk.1.1.1.2, hk.1.2⟩)⟩, ⟨zB HB⟩⟩
                   ·rw [if_neg c79] at H
                    have c79b0 : decide ((wrap64 (t411 - (wrap64 (t388 * t412)))) < 0) = false := decide_eq_false c79
                    clear c79
                    (first | rw [c79b0] | (simp only [i64_w, i32_w]; rw [c79b0]) | skip)
                    have H' := Aside0.mk H
                    clear H
                    go_wp2
                    go_meet
                    case rel => exact ⟨_, (wrap64 (t411 - (wrap64 (t388 * t412)))), (z1), H', ⟨by have := HJ26.out; first | omega | exact Nat.le_refl _⟩, ⟨by (with_reducible repeat (first | apply Kd.R_alloc | apply Kd.R_drewN | apply Kd.R_drew)); exact Kd.R_mono HO392.out (fun _ hk => ⟨hk.1.1.2, hk.1.2⟩)⟩, ⟨by (with_reducible repeat (first | apply Kd.R_alloc | apply Kd.R_drewN | apply Kd.R_drew)); exact Kd.R_mono HO400.out (fun _ hk => ⟨hk.1.1.1.2, hk.1.2⟩)⟩, ⟨by (with_reducible repeat (first | apply Kd.R_alloc | apply Kd.R_drewN | apply Kd.R_drew)); exact Kd.R_mono HO404.out (fun _ hk => ⟨hk.1.1.1.2, hk.1.2⟩)⟩, ⟨zB HB⟩⟩
                  case rest =>
                   as_aux_lemma =>
                    clear HC78
                    try clear c1
                    try clear c2
                    try clear p2
                    try clear c3
                    try clear c4
                    try clear c6
                    try clear p6
                    try clear c7
                    try clear c11
                    try clear c12
                    try clear c13
                    try clear c14
                    try clear c15
                    try clear c16
                    try clear c16b0
                    try clear c16b1
                    try clear c16b2
                    try clear c18
                    try clear c19
                    try clear c19b0
                    try clear c19b1
                    try clear c19b2
                    try clear c20
                    try clear c20b0
                    try clear c20b1
                    try clear c21
                    try clear c22
                    try clear c22b0
                    try clear c22b1
                    try clear c22b2
                    try clear c24
                    try clear c25
                    try clear c25b0
                    try clear c25b1
                    try clear c25b2
                    try clear c26
                    try clear c26b0
                    try clear c26b1
                    try clear c26b2
                    try clear c27
                    try clear c28
                    try clear c29
                    try clear c32
                    try clear c34
                    try clear c34b0
                    try clear c36
                    try clear c36b0
                    try clear c36b1
                    try clear c38
                    try clear c38b0
                    try clear c38b1
                    try clear c39
                    try clear c39b0
                    try clear c46
                    try clear c47
                    try clear c49
                    try clear c49b0
                    try clear c49b1
                    try clear c49b2
                    try clear c64
                    try clear c64b0
                    try clear c64b1
                    try clear c64b2
                    try clear p64
                    try clear c66
                    try clear c67
                    try clear c67b0
                    try clear c67b1
                    try clear c67b2
                    try clear c69
                    try clear c75
                    try clear c79
                    try clear c79b0
                    try clear p2
                    try clear p6
                    obtain ⟨kq, x32_77, rfl, HA, HJ77, HO_22, HO_26, HO_28, HB⟩ := hcut
                    cases kq with
                    | zero => exact absurd HA.out (by simp [laws_FnRotationsGood.j3])
                    | succ kj77 =>
                     have H := HA.out
                     clear HA
                     simp only [laws_FnRotationsGood.j3] at H
                     by_cases c80 : (t389.length : Int) = x32_77
                     ·rw [if_pos c80] at H
                      have c80b0 : ((t389.length : Int) == x32_77) = true := beq_iff_eq.mpr c80
                      have c80b1 : ((t389.length : Int) != x32_77) = false := bne_eq_false_iff_eq.mpr c80
                      clear c80
                      have H' := Aside0.mk H
                      clear H
                      go_wp2
                      go_loopg [216] kj77 (fun kq v216 w' => ∃ (x216_3 : Int), v216 = .int .i64 x216_3 ∧ Aside0 (laws_FnRotationsGood.l1 kq t387 t389 t397 t398 t401 t402 t389 (t389.length : Int) x216_3 = some true) ∧ Aside0 (kq ≤ kj77) ∧ Aside0 (Kd.R (Kd.int .i64) 3 w' w.heap.size (fun k_ => some k_ ≠ ((.slice Ao61 t397.length co61) : Value).ownBlock ∧ some k_ ≠ ((.slice Ao73 t401.length co73) : Value).ownBlock) (.slice Ao71 t389.length co71) t389) ∧ Aside0 (Kd.R (Kd.int .i64) 3 w' w.heap.size (fun k_ => some k_ ≠ ((.slice Ao71 t389.length co71) : Value).ownBlock ∧ some k_ ≠ ((.slice Ao73 t401.length co73) : Value).ownBlock ∧ some k_ ≠ ((.slice Ao71 t389.length co71) : Value).ownBlock) (.slice Ao61 t397.length co61) t397) ∧ Aside0 (Kd.R (Kd.int .i64) 3 w' w.heap.size (fun k_ => some k_ ≠ ((.slice Ao71 t389.length co71) : Value).ownBlock ∧ some k_ ≠ ((.slice Ao61 t397.length co61) : Value).ownBlock ∧ some k_ ≠ ((.slice Ao71 t389.length co71) : Value).ownBlock) (.slice Ao73 t401.length co73) t401) ∧ Aside0 (Kd.R (Kd.int .i64) 3 w' w.heap.size (fun k_ => some k_ ≠ ((.slice Ao61 t397.length co61) : Value).ownBlock ∧ some k_ ≠ ((.slice Ao73 t401.length co73) : Value).ownBlock) (.slice Ao71 t389.length co71) t389) ∧ Aside0 (Below w.heap.size w w'))
                      case atStart => exact ⟨(0), (z1), H', ⟨Nat.le_refl _⟩, ⟨zR HO_22⟩, ⟨by (with_reducible repeat (first | apply Kd.R_alloc | apply Kd.R_drewN | apply Kd.R_drew)); exact Kd.R_mono HO_26.out (fun _ hk => ⟨hk.1, ⟨hk.2, hk.1⟩⟩)⟩, ⟨by (with_reducible repeat (first | apply Kd.R_alloc | apply Kd.R_drewN | apply Kd.R_drew)); exact Kd.R_mono HO_28.out (fun _ hk => ⟨hk.1, ⟨hk.2, hk.1⟩⟩)⟩, ⟨zR HO_22⟩, ⟨zB HB⟩⟩
                      case round =>
                       clear H'
                       try clear c1
                       try clear c2
                       try clear p2
                       try clear c3
                       try clear c4
                       try clear c6
                       try clear p6
                       try clear c7
                       try clear c8
                       try clear c11
                       try clear c12
                       try clear c13
                       try clear c14
                       try clear c15
                       try clear c16
                       try clear c16b0
                       try clear c16b1
                       try clear c16b2
                       try clear c18
                       try clear c19
                       try clear c19b0
                       try clear c19b1
                       try clear c19b2
                       try clear c20
                       try clear c20b0
                       try clear c20b1
                       try clear c21
                       try clear c22
                       try clear c22b0
                       try clear c22b1
                       try clear c22b2
                       try clear c24
                       try clear c25
                       try clear c25b0
                       try clear c25b1
                       try clear c25b2
                       try clear c26
                       try clear c26b0
                       try clear c26b1
                       try clear c26b2
                       try clear c27
                       try clear c28
                       try clear c29
                       try clear c32
                       try clear c34
                       try clear c34b0
                       try clear c36
                       try clear c36b0
                       try clear c36b1
                       try clear c38
                       try clear c38b0
                       try clear c38b1
                       try clear c39
                       try clear c39b0
                       try clear c46
                       try clear c47
                       try clear c49
                       try clear c49b0
                       try clear c49b1
                       try clear c49b2
                       try clear c64
                       try clear c64b0
                       try clear c64b1
                       try clear c64b2
                       try clear p64
                       try clear c66
                       try clear c67
                       try clear c67b0
                       try clear c67b1
                       try clear c67b2
                       try clear c69
                       try clear c75
                       try clear c79
                       try clear c79b0
                       try clear c80
                       try clear c80b0
                       try clear c80b1
                       try clear p2
                       try clear p6
                       try clear p64
                       obtain ⟨x216_3, rfl, HA, HK3, HO_22, HO_26, HO_28, HO_214, HB⟩ := hrel
                       cases gk with
                       | zero => exact absurd HA.out (by simp [laws_FnRotationsGood.l1])
                       | succ k3 =>
                        have H := HA.out
                        clear HA
                        simp only [laws_FnRotationsGood.l1] at H
                        by_cases c81 : x216_3 < (t389.length : Int)
                        ·rw [if_pos c81] at H
                         have c81b0 : decide (x216_3 < (t389.length : Int)) = true := decide_eq_true c81
                         clear c81
                         by_cases c82 : 0 ≤ x216_3
                         ·rw [if_pos c82] at H
                          have c82b0 : decide (0 ≤ x216_3) = true := decide_eq_true c82
                          clear c82
                          by_cases c83 : x216_3 < (t389.length : Int)
                          ·rw [if_pos c83] at H
                           have c83b0 : decide (x216_3 < (t389.length : Int)) = true := decide_eq_true c83
                           clear c83
                           have HP84 := Aside0.mk H
                           clear H
                           have p413 : 0 ≤ (x216_3 : Int) := of_decide_eq_true z3
                           have q413 : x216_3 < (t389.length : Int) := of_decide_eq_true z3
                           obtain ⟨ad413, e413, hx413_0⟩ := Kd.at_int (Kd.R_reads' HO_214.out).2.2 x216_3 p413 q413
                           cases e413
                           replace p413 := eq_true p413
                           replace q413 := eq_true q413
                           go_upto_region 41 with (fail)
                           have H := HP84.out
                           clear HP84
                           by_cases c85 : 0 ≤ (rd t389 x216_3)
                           ·rw [if_pos c85] at H
                            have c85b0 : decide (0 ≤ (rd t389 x216_3)) = true := decide_eq_true c85
                            clear c85
                            by_cases c86 : (rd t389 x216_3) < (t387.size : Int)
                            ·rw [if_pos c86] at H
                             have c86b0 : decide ((rd t389 x216_3) < (t387.size : Int)) = true := decide_eq_true c86
                             clear c86
                             by_cases c88 : (bt t387 (rd t389 x216_3)) = 85
                             ·rw [if_pos c88] at H
                              have c88b0 : ((bt t387 (rd t389 x216_3)) == 85) = true := beq_iff_eq.mpr c88
                              have c88b1 : ((bt t387 (rd t389 x216_3)) != 85) = false := bne_eq_false_iff_eq.mpr c88
                              clear c88
                              by_cases c89 : x216_3 > 0
                              ·rw [if_pos c89] at H
                               have c89b0 : decide (0 < x216_3) = true := decide_eq_true c89
                               clear c89
                               obtain ⟨ji90, hji90⟩ : ∃ j_ : Int, (wrap64 (x216_3 - 1)) = j_ := ⟨_, rfl⟩
                               replace H : (if 0 ≤ (ji90) then (if (ji90) < (t389.length : Int) then (if (rd t389 (ji90)) ≥ (rd t389 x216_3) then (some false) else (laws_FnRotationsGood.l1 k3 t387 t389 t397 t398 t401 t402 t389 (t389.length : Int) (wrap64 (x216_3 + 1)))) else (none)) else (none)) = some true := by first | (rw [hji90] at H; exact H) | (simp only [hji90] at H ⊢; exact H)
                               have hji90w : (IntKind.i64.wrap (x216_3 - 1)) = ji90 := (i64_w _).trans hji90
                               by_cases c91 : 0 ≤ (ji90)
                               ·rw [if_pos c91] at H
                                have c91b0 : decide (0 ≤ (ji90)) = true := decide_eq_true c91
                                clear c91
                                by_cases c92 : (ji90) < (t389.length : Int)
                                ·rw [if_pos c92] at H
                                 have c92b0 : decide ((ji90) < (t389.length : Int)) = true := decide_eq_true c92
                                 clear c92
                                 by_cases c93 : (rd t389 (ji90)) ≥ (rd t389 x216_3)
                                 ·rw [if_pos c93] at H
                                  have c93b0 : decide ((rd t389 x216_3) ≤ (rd t389 (ji90))) = true := decide_eq_true c93
                                  clear c93
                                  exact absurd H (by simp)
                                 ·rw [if_neg c93] at H
                                  have c93b0 : decide ((rd t389 x216_3) ≤ (rd t389 (ji90))) = false := decide_eq_false c93
                                  clear c93
                                  have H' := Aside0.mk H
                                  clear H
                                  have p87 : 0 ≤ ((rd t389 x216_3) : Int) := of_decide_eq_true z3
                                  have q87 : (rd t389 x216_3) < (t387.size : Int) := of_decide_eq_true z3
                                  have hx87 := bt_at t387 (rd t389 x216_3)
                                  replace p87 := eq_true p87
                                  replace q87 := eq_true q87
                                  have p414 : 0 ≤ ((ji90) : Int) := of_decide_eq_true z3
                                  have q414 : (ji90) < (t389.length : Int) := of_decide_eq_true z3
                                  obtain ⟨ad414, e414, hx414_0⟩ := Kd.at_int (Kd.R_reads' HO_22.out).2.2 (ji90) p414 q414
                                  obtain rfl : ad413 = ad414 := (by injection e414)
                                  replace p414 := eq_true p414
                                  replace q414 := eq_true q414
                                  go_wp2
                                  go_roundg k3
                                  case measure => have := HJ26.out; have := HJ77.out; have := HK3.out; omega
                                  case rel => exact ⟨(wrap64 (x216_3 + 1)), (z1), H', ⟨by have := HJ26.out; have := HJ77.out; have := HK3.out; omega⟩, ⟨zR HO_22⟩, ⟨zR HO_26⟩, ⟨zR HO_28⟩, ⟨zR HO_214⟩, ⟨zB HB⟩⟩
                                ·rw [if_neg c92] at H
                                 exact absurd H (by simp)
                               ·rw [if_neg c91] at H
                                exact absurd H (by simp)
                              ·rw [if_neg c89] at H
                               have c89b0 : decide (0 < x216_3) = false := decide_eq_false c89
                               clear c89
                               have H' := Aside0.mk H
                               clear H
                               have p87 : 0 ≤ ((rd t389 x216_3) : Int) := of_decide_eq_true z3
                               have q87 : (rd t389 x216_3) < (t387.size : Int) := of_decide_eq_true z3
                               have hx87 := bt_at t387 (rd t389 x216_3)
                               replace p87 := eq_true p87
                               replace q87 := eq_true q87
                               go_wp2
                               go_roundg k3
                               case measure => have := HJ26.out; have := HJ77.out; have := HK3.out; omega
                               case rel => exact ⟨(wrap64 (x216_3 + 1)), (z1), H', ⟨by have := HJ26.out; have := HJ77.out; have := HK3.out; omega⟩, ⟨zR HO_22⟩, ⟨zR HO_26⟩, ⟨zR HO_28⟩, ⟨zR HO_214⟩, ⟨zB HB⟩⟩
                             ·rw [if_neg c88] at H
                              have c88b0 : ((bt t387 (rd t389 x216_3)) == 85) = false := beq_eq_false_iff_ne.mpr c88
                              have c88b1 : ((bt t387 (rd t389 x216_3)) != 85) = true := bne_iff_ne.mpr c88
                              exact absurd H (by simp)
                            ·rw [if_neg c86] at H
                             exact absurd H (by simp)
                           ·rw [if_neg c85] at H
                            exact absurd H (by simp)
                          ·rw [if_neg c83] at H
                           exact absurd H (by simp)
                         ·rw [if_neg c82] at H
                          exact absurd H (by simp)
                        ·rw [if_neg c81] at H
                         have c81b0 : decide (x216_3 < (t389.length : Int)) = false := decide_eq_false c81
                         clear c81
                         have H' := Aside0.mk H
                         clear H
                         go_wp2
                         go_meet
                         case rel => exact ⟨_, H', ⟨by have := HJ26.out; have := HJ77.out; have := HK3.out; first | omega | exact Nat.le_refl _⟩, ⟨by (with_reducible repeat (first | apply Kd.R_alloc | apply Kd.R_drewN | apply Kd.R_drew)); exact Kd.R_mono HO_26.out (fun _ hk => hk.2.1)⟩, ⟨by (with_reducible repeat (first | apply Kd.R_alloc | apply Kd.R_drewN | apply Kd.R_drew)); exact Kd.R_mono HO_28.out (fun _ hk => hk.2.1)⟩, ⟨zB HB⟩⟩
                     ·rw [if_neg c80] at H
                      have c80b0 : ((t389.length : Int) == x32_77) = false := beq_eq_false_iff_ne.mpr c80
                      have c80b1 : ((t389.length : Int) != x32_77) = true := bne_iff_ne.mpr c80
                      exact absurd H (by simp)
                 ·replace c75 := Bool.eq_false_iff.mpr c75
                  subst c75
                  have H1 : (laws_FnRotationsGood.j5 kj26 t397 t398 t401 t402) = some true := by rw [if_neg (show ¬ (false = true) by decide)] at H; exact H
                  clear H
                  have H := H1
                  clear H1
                  have H' := Aside0.mk H
                  clear H
                  go_wp2
                  go_meet
                  case rel => exact ⟨_, H', ⟨by have := HJ26.out; first | omega | exact Nat.le_refl _⟩, ⟨by (with_reducible repeat (first | apply Kd.R_alloc | apply Kd.R_drewN | apply Kd.R_drew)); exact Kd.R_mono HO400.out (fun _ hk => hk.1.2)⟩, ⟨by (with_reducible repeat (first | apply Kd.R_alloc | apply Kd.R_drewN | apply Kd.R_drew)); exact Kd.R_mono HO404.out (fun _ hk => hk.1.2)⟩, ⟨zB HB⟩⟩
                case rest =>
                 as_aux_lemma =>
                  clear HC70
                  try clear c1
                  try clear c2
                  try clear p2
                  try clear c3
                  try clear c4
                  try clear p4
                  try clear q4
                  try clear hx4
                  try clear c6
                  try clear p6
                  try clear c7
                  try clear c8
                  try clear p8
                  try clear q8
                  try clear hx8
                  try clear c9
                  try clear c11
                  try clear c12
                  try clear c13
                  try clear c14
                  try clear c15
                  try clear c16
                  try clear c16b0
                  try clear c16b1
                  try clear c16b2
                  try clear c18
                  try clear c19
                  try clear c19b0
                  try clear c19b1
                  try clear c19b2
                  try clear c20
                  try clear c20b0
                  try clear c20b1
                  try clear c21
                  try clear c22
                  try clear c22b0
                  try clear c22b1
                  try clear c22b2
                  try clear c24
                  try clear c25
                  try clear c25b0
                  try clear c25b1
                  try clear c25b2
                  try clear c26
                  try clear c26b0
                  try clear c26b1
                  try clear c26b2
                  try clear c27
                  try clear c28
                  try clear c29
                  try clear c32
                  try clear c34
                  try clear c34b0
                  try clear c36
                  try clear c36b0
                  try clear c36b1
                  try clear c38
                  try clear c38b0
                  try clear c38b1
                  try clear c39
                  try clear c39b0
                  try clear p41
                  try clear q41
                  try clear hx41
                  try clear c46
                  try clear c47
                  try clear c49
                  try clear c49b0
                  try clear c49b1
                  try clear c49b2
                  try clear c64
                  try clear c64b0
                  try clear c64b1
                  try clear c64b2
                  try clear p64
                  try clear c66
                  try clear c67
                  try clear c67b0
                  try clear c67b1
                  try clear c67b2
                  try clear c69
                  try clear c75
                  try clear c79
                  try clear c79b0
                  try clear c80
                  try clear c80b0
                  try clear c80b1
                  try clear c81
                  try clear c81b0
                  try clear c82
                  try clear c82b0
                  try clear c83
                  try clear c83b0
                  try clear c85
                  try clear c85b0
                  try clear c86
                  try clear c86b0
                  try clear p87
                  try clear q87
                  try clear hx87
                  try clear c88
                  try clear c88b0
                  try clear c88b1
                  try clear c89
                  try clear c89b0
                  try clear c91
                  try clear c91b0
                  try clear c92
                  try clear c92b0
                  try clear c93
                  try clear c93b0
                  try clear hx413_0
                  try clear hx414_0
                  try clear p2
                  try clear p413
                  try clear p414
                  try clear p6
                  try clear p64
                  try clear p87
                  try clear q413
                  try clear q414
                  try clear q87
                  obtain ⟨kq, HA, HJ69, HO_26, HO_28, HB⟩ := hcut
                  cases kq with
                  | zero => exact absurd HA.out (by simp [laws_FnRotationsGood.j5])
                  | succ kj69 =>
                   have H := HA.out
                   clear HA
                   simp only [laws_FnRotationsGood.j5] at H
                   by_cases c94 : t402 = true
                   ·subst c94
                    have H1 : (if (t397.length : Int) = 0 then (none) else ((impl_RotateList.f kj69 t401 (Int.tmod (wrap64 ((t397.length : Int) - t398)) (t397.length : Int))).bind fun bt415 => (if bt415.2 = true then ((laws_xSame.f kj69 bt415.1 t397).bind fun t419 => (if t419 = true then (some true) else (some false))) else (some false)))) = some true := by rw [if_pos rfl] at H; exact H
                    clear H
                    have H := H1
                    clear H1
                    by_cases c95 : (t397.length : Int) = 0
                    ·rw [if_pos c95] at H
                     exact absurd H (by simp)
                    ·rw [if_neg c95] at H
                     have c95b0 : ((t397.length : Int) == 0) = false := beq_eq_false_iff_ne.mpr c95
                     have c95b1 : ((t397.length : Int) != 0) = true := bne_iff_ne.mpr c95
                     have c95b2 : ¬ (t397 = []) := fun h_ => c95 (by rw [h_]; rfl)
                     replace H := Option.bind_eq_some_iff.mp H
                     obtain ⟨⟨t415, t416⟩, A960, H⟩ := H
                     replace H : (if t416 = true then ((laws_xSame.f kj69 t415 t397).bind fun t419 => (if t419 = true then (some true) else (some false))) else (some false)) = some true := H
                     have A96 := Aside0.mk A960
                     clear A960
                     have HP97 := Aside0.mk H
                     clear H
                     go_upto_region 46 with (first | ((with_reducible refine gate_callee (f := 21) rfl ?_); refine goesL_ (some 249) rfl rfl Tryd.func21 (by kernel_rfl) rfl #[.slice Ao73 t401.length co73, .int .i64 (Int.tmod (wrap64 ((t397.length : Int) - t398)) (t397.length : Int))] rfl z4 ?_; (with_reducible refine (impl_RotateList.calls kj69 _ _ t401 (Int.tmod (wrap64 ((t397.length : Int) - t398)) (t397.length : Int)) t415 t416 _ ?side1 ?side2 A96.out).mono ?_); (case side1 => repeat (first | exact (Kd.R_reads' HO_28.out).2.2 | (with_reducible refine Kd.C_alloc ?_ _) | (with_reducible refine Kd.C_drewN ?_ _) | (with_reducible refine Kd.C_drew ?_))); (case side2 => exact (Kd.R_reads' HO_28.out).2.1); rintro e w98 ⟨v417, rfl, ho0, hb⟩; refine ⟨_, rfl, ?_⟩; have n0_ := Aside0.mk (Kd.R_elder' (zR HO_26) (Kd.R_base ho0) hb); have n1_ := Aside0.mk (Kd.R_elder' (zR HO_28) (Kd.R_base ho0) hb); have n2_ := Aside0.mk (Kd.R_lower (Kd.R_new' (Kd.R_new' ho0 (Kd.R_lt (zR HO_26))) (Kd.R_lt (zR HO_28))) (below_size (zB HB))); have n3_ := Aside0.mk (below_step (zB HB) hb); clear HO_26; clear HO_28; clear HB; have HO_26 := n0_; have HO_28 := n1_; have HO418 := n2_; have HB := n3_; clear n0_ n1_ n2_ n3_; (try clear hb); (try clear hb2); (try clear hk); (try clear hi); (try clear ho0)))
                     (try simp only [Act.put, List.setIfInBounds_toArray, List.set_cons_zero, List.set_cons_succ])
                     have H := HP97.out
                     clear HP97
                     by_cases c99 : t416 = true
                     ·subst c99
                      have H1 : ((laws_xSame.f kj69 t415 t397).bind fun t419 => (if t419 = true then (some true) else (some false))) = some true := by rw [if_pos rfl] at H; exact H
                      clear H
                      have H := H1
                      clear H1
                      replace H := Option.bind_eq_some_iff.mp H
                      obtain ⟨t419, A1000, H⟩ := H
                      replace H : (if t419 = true then (some true) else (some false)) = some true := H
                      have A100 := Aside0.mk A1000
                      clear A1000
                      by_cases c101 : t419 = true
                      ·subst c101
                       have H1 : (some true) = some true := rfl
                       clear H
                       have H := H1
                       clear H1
                       clear H
                       obtain ⟨Ao102, co102, eo102⟩ := Kd.R_slice HO418.out
                       subst eo102
                       go_wp2_with (first | (go_at_call 17; (with_reducible refine (laws_xSame.calls kj69 _ _ t415 _ _ t397 true _ ?side1 ?side2 ?side3 ?side4 A100.out).mono ?_); (case side1 => repeat (first | exact (Kd.R_reads' HO418.out).2.2 | (with_reducible refine Kd.C_alloc ?_ _) | (with_reducible refine Kd.C_drewN ?_ _) | (with_reducible refine Kd.C_drew ?_))); (case side2 => exact (Kd.R_reads' HO418.out).2.1); (case side3 => repeat (first | exact (Kd.R_reads' HO_26.out).2.2 | (with_reducible refine Kd.C_alloc ?_ _) | (with_reducible refine Kd.C_drewN ?_ _) | (with_reducible refine Kd.C_drew ?_))); (case side4 => exact (Kd.R_reads' HO_26.out).2.1); rintro e w' ⟨rfl, ⟨nd, rfl⟩⟩))
                       go_ret
                       exact ⟨z2, zB HB⟩
                      ·replace c101 := Bool.eq_false_iff.mpr c101
                       subst c101
                       have H1 : (some false) = some true := by rw [if_neg (show ¬ (false = true) by decide)] at H; exact H
                       clear H
                       have H := H1
                       clear H1
                       exact absurd H (by simp)
                     ·replace c99 := Bool.eq_false_iff.mpr c99
                      subst c99
                      have H1 : (some false) = some true := by rw [if_neg (show ¬ (false = true) by decide)] at H; exact H
                      clear H
                      have H := H1
                      clear H1
                      exact absurd H (by simp)
                   ·replace c94 := Bool.eq_false_iff.mpr c94
                    subst c94
                    have H1 : (some true) = some true := rfl
                    clear H
                    have H := H1
                    clear H1
                    clear H
                    go_wp2
                    go_ret
                    exact ⟨z2, zB HB⟩
               ·replace c69 := Bool.eq_false_iff.mpr c69
                subst c69
                have H1 : (some false) = some true := by rw [if_neg (show ¬ (false = true) by decide)] at H; exact H
                clear H
                have H := H1
                clear H1
                exact absurd H (by simp)
             ·replace c66 := Bool.eq_false_iff.mpr c66
              subst c66
              have H1 : (some false) = some true := by rw [if_neg (show ¬ (false = true) by decide)] at H; exact H
              clear H
              have H := H1
              clear H1
              exact absurd H (by simp)
     ·rw [if_neg c20] at H
      have c20b0 : (t371 == t373) = false := beq_eq_false_iff_ne.mpr c20
      have c20b1 : (t371 != t373) = true := bne_iff_ne.mpr c20
      exact absurd H (by simp)
   ·replace c18 := Bool.eq_false_iff.mpr c18
    subst c18
    have H1 : (some false) = some true := by rw [if_neg (show ¬ (false = true) by decide)] at H; exact H
    clear H
    have H := H1
    clear H1
    exact absurd H (by simp)

/-- THE ONE PURE STATEMENT of laws_FnRotationsGood: yours. -/
def laws_FnRotationsGood.Pure : Prop := ∀ (l0 : List Int) (l1 : List Int), l0.length ≤ maxLen → l0.length * 1 ≤ 140737488351232 → (∀ x ∈ l0, (Lit.int .u8 x).wf = true) → l1.length ≤ maxLen → l1.length * 1 ≤ 140737488351232 → (∀ x ∈ l1, (Lit.int .u8 x).wf = true) → ∃ k, laws_FnRotationsGood.f k l0 l1 = some true
theorem laws_FnRotationsGood.walk (P : laws_FnRotationsGood.Pure) (a0 : Option Addr) (len0 cap0 : Nat) (z0 : List Int) (a1 : Option Addr) (len1 cap1 : Nat) (z1 : List Int) (w : World) (w0 : (a0 = none ∧ len0 = 0 ∧ cap0 = 0 ∧ z0 = []) ∨ ∃ x, a0 = some x ∧ len0 ≤ cap0 ∧ cap0 ≤ maxLen ∧ z0.length = cap0 ∧ (∀ i, i < z0.length → w.cell? (x.add i) = some (.int .u8 (z0.getD i 0))) ∧ ∀ n ∈ z0, (Lit.int .u8 n).wf = true) (y0 : len0 * 1 ≤ 140737488351232) (w1 : (a1 = none ∧ len1 = 0 ∧ cap1 = 0 ∧ z1 = []) ∨ ∃ x, a1 = some x ∧ len1 ≤ cap1 ∧ cap1 ≤ maxLen ∧ z1.length = cap1 ∧ (∀ i, i < z1.length → w.cell? (x.add i) = some (.int .u8 (z1.getD i 0))) ∧ ∀ n ∈ z1, (Lit.int .u8 n).wf = true) (y1 : len1 * 1 ≤ 140737488351232) :
  Calls Tryd.prog 4 #[.slice a0 len0 cap0, .slice a1 len1 cap1] w fun e w' => e = .returned (.bool true) ∧ Below w.heap.size w w' := by
 obtain ⟨l0, rfl, hr0, hm0, hw0, hc0⟩ := ReadsInt.ofRowC w0
 obtain ⟨l1, rfl, hr1, hm1, hw1, hc1⟩ := ReadsInt.ofRowC w1
 obtain ⟨k, h⟩ := P l0 l1 hm0 y0 hw0 hm1 y1 hw1
 refine (laws_FnRotationsGood.calls k _ _ l0 _ _ l1 w (Kd.C_of_reads (d := (0 : Int)) (h1 := fun _ => rfl) hr0) hc0 (Kd.C_of_reads (d := (0 : Int)) (h1 := fun _ => rfl) hr1) hc1 h).mono ?_
 rintro e w' ⟨rfl, hd⟩
 exact ⟨rfl, hd⟩

end Go.Proofs.YtaacmpmjogpodaaDoor.PFnRotationsGood
