-- Written by xprint.py (this session's own program, over the kit's print).
import Derived.Test.YtaacmpmjogpodaaDoorPFnRotationsGoodx0
import Derived.Test.YtaacmpmjogpodaaDoorPFnRotationsGoodx5
namespace Go.Proofs.YtaacmpmjogpodaaDoor.PFnRotationsGood
open Go.RowKit Go.Proofs.YtaacmpmjogpodaaDoorW.PrintWords Go.Proofs.YtaacmpmjogpodaaDoorW.PrintLast Go.Proofs.YtaacmpmjogpodaaDoorW.PrintMore
attribute [local go_sem] max2_int min2_int max_two min_two max_three min_three max_four min_four   -- for this text's walks alone
set_option linter.unusedVariables false
set_option linter.unusedSimpArgs false
attribute [-simp] List.length_take ByteArray.size_extract

/-! ### impl_isForest: function 63 -/
def impl_isForest.l0 : Nat → Int → Int → List Int → Int → Int → Option (Bool)
 | 0, _, _, _, _, _ => none
 | k + 1, x3, x4, x13, x14, x15 => if x15 < x14 then (if 0 ≤ x15 then (if x15 < (x13.length : Int) then (if (wrap64 (x4 + (wrap64 ((rd x13 x15) - 1)))) ≤ (wrap64 (-x3)) then (some false) else (impl_isForest.l0 k x3 (wrap64 (x4 + (wrap64 ((rd x13 x15) - 1)))) x13 x14 (wrap64 (x15 + 1)))) else (none)) else (none)) else (some (decide (x3 ≥ 1)))
def impl_isForest.f (k : Nat) (l0 : List Int) : Option (Bool) := (impl_excess.f k l0).bind fun t161 => (if 0 ≤ (wrap64 ((l0.length : Int) - 1)) then (if (wrap64 ((l0.length : Int) - 1)) ≤ (l0.length : Int) then (impl_isForest.l0 k t161 0 (l0.take ((wrap64 ((l0.length : Int) - 1)) : Int).toNat) ((l0.take ((wrap64 ((l0.length : Int) - 1)) : Int).toNat).length : Int) 0) else (none)) else (none))
theorem impl_isForest.mono_l : ∀ k, (∀ y0 y1 y2 y3 y4, LeO (impl_isForest.l0 k y0 y1 y2 y3 y4) (impl_isForest.l0 (k + 1) y0 y1 y2 y3 y4))
 | 0 => fun _ _ _ _ _ r h => by simp [impl_isForest.l0] at h
 | k + 1 => by
  have ih0 := impl_isForest.mono_l k
  ·intro y0 y1 y2 y3 y4
   unfold impl_isForest.l0
   repeat' first
   | (with_reducible exact ih0 _ _ _ _ _)
   | (with_reducible exact impl_excess.mono _ _)
   | (with_reducible exact LeO.refl _)
   | (with_reducible exact LeO.none _)
   | (with_reducible refine LeO.ite ?_ ?_)
   | (with_reducible refine LeO.bind ?_ (fun _ => ?_))
   | exact ih0 _ _ _ _ _
   | exact impl_excess.mono _ _
   | exact LeO.none _
   | refine LeO.ite ?_ ?_
   | refine LeO.bind ?_ (fun _ => ?_)
theorem impl_isForest.mono : ∀ a0 k, LeO (impl_isForest.f k a0) (impl_isForest.f (k + 1) a0) := by
 intro a0 k
 have ih0 := impl_isForest.mono_l k
 unfold impl_isForest.f
 repeat' first
   | (with_reducible exact ih0 _ _ _ _ _)
   | (with_reducible exact impl_excess.mono _ _)
   | (with_reducible exact LeO.refl _)
   | (with_reducible exact LeO.none _)
   | (with_reducible refine LeO.ite ?_ ?_)
   | (with_reducible refine LeO.bind ?_ (fun _ => ?_))
   | exact ih0 _ _ _ _ _
   | exact impl_excess.mono _ _
   | exact LeO.none _
   | refine LeO.ite ?_ ?_
   | refine LeO.bind ?_ (fun _ => ?_)
set_option maxHeartbeats 8000000 in
set_option maxRecDepth 100000 in
theorem impl_isForest.calls (k : Nat) (A0 : Option Addr) (c0 : Nat) (l0 : List Int) (r : Bool) (w : World) (hr0 : Kd.C (Kd.int .i64) w A0 l0.length l0) (hc0 : l0.length ≤ c0) (h : impl_isForest.f k l0 = some r) :
  Calls Tryd.prog 63 #[.slice A0 l0.length c0] w fun e w' => e = .returned (.bool r) ∧ Drawn0 w w' := by
 have HR0 := Aside0.mk hr0
 have HC0 := Aside0.mk hc0
 clear hr0 hc0
 have H : ((impl_excess.f k l0).bind fun t161 => (if 0 ≤ (wrap64 ((l0.length : Int) - 1)) then (if (wrap64 ((l0.length : Int) - 1)) ≤ (l0.length : Int) then (impl_isForest.l0 k t161 0 (l0.take ((wrap64 ((l0.length : Int) - 1)) : Int).toNat) ((l0.take ((wrap64 ((l0.length : Int) - 1)) : Int).toNat).length : Int) 0) else (none)) else (none))) = some r := h
 clear h
 replace H := Option.bind_eq_some_iff.mp H
 obtain ⟨t161, A20, H⟩ := H
 replace H : (if 0 ≤ (wrap64 ((l0.length : Int) - 1)) then (if (wrap64 ((l0.length : Int) - 1)) ≤ (l0.length : Int) then (impl_isForest.l0 k t161 0 (l0.take ((wrap64 ((l0.length : Int) - 1)) : Int).toNat) ((l0.take ((wrap64 ((l0.length : Int) - 1)) : Int).toNat).length : Int) 0) else (none)) else (none)) = some r := H
 have A2 := Aside0.mk A20
 clear A20
 obtain ⟨ji3, hji3⟩ : ∃ j_ : Int, (wrap64 ((l0.length : Int) - 1)) = j_ := ⟨_, rfl⟩
 replace H : (if 0 ≤ (ji3) then (if (ji3) ≤ (l0.length : Int) then (impl_isForest.l0 k t161 0 (l0.take ((ji3) : Int).toNat) ((l0.take ((ji3) : Int).toNat).length : Int) 0) else (none)) else (none)) = some r := by first | (rw [hji3] at H; exact H) | (simp only [hji3] at H ⊢; exact H)
 (try rw [hji3] at A2)
 have hji3w : (IntKind.i64.wrap ((l0.length : Int) - 1)) = ji3 := (i64_w _).trans hji3
 by_cases c4 : 0 ≤ (ji3)
 ·rw [if_pos c4] at H
  have c4b0 := eq_true c4
  have c4b1 : decide (0 ≤ (ji3)) = true := decide_eq_true c4
  clear c4
  by_cases c5 : (ji3) ≤ (l0.length : Int)
  ·rw [if_pos c5] at H
   have c5b0 := eq_true c5
   have c5b1 : decide ((ji3) ≤ (l0.length : Int)) = true := decide_eq_true c5
   clear c5
   have H' := Aside0.mk H
   clear H
   go_enter Tryd.func63, Tryd.ntmps63
   go_wp2_with (first | ((with_reducible refine gate_callee (f := 68) rfl ?_); refine goesL_ (some 8) rfl rfl Tryd.func68 (by kernel_rfl) rfl #[.slice A0 l0.length c0] rfl z4 ?_; (with_reducible refine (impl_excess.calls k _ _ l0 t161 _ ?side1 ?side2 A2.out).mono ?_); (case side1 => repeat (first | exact HR0.out | (with_reducible refine Kd.C_alloc ?_ _) | (with_reducible refine Kd.C_drewN ?_ _) | (with_reducible refine Kd.C_drew ?_))); (case side2 => exact HC0.out); rintro e w' ⟨rfl, ⟨nd, rfl⟩⟩; refine ⟨_, rfl, ?_⟩; obtain ⟨i06, hi06, _, hsz6, _⟩ := info_parts info3; obtain ⟨hcut6, hA6, hC6⟩ := print_take_of (P := Tryd.prog) (Value.int .i64) 0 32 3 .i64 Tryd.underlying32 hi06 hsz6 A0 c0 l0 (ji3) (of_decide_eq_true z3) (of_decide_eq_true z3) HC0.out; have HR162 := Aside0.mk (Kd.C_of_reads (h1 := fun _ => rfl) (hA6 _ (Kd.reads_of_C HR0.out))); have HC162 := Aside0.mk hC6; clear hA6 hC6 hi06 hsz6))
   go_loopg [4, 15] k (fun kq v4 v15 w' => ∃ (x4_1 : Int) (x15_1 : Int), v4 = .int .i64 x4_1 ∧ v15 = .int .i64 x15_1 ∧ Aside0 (impl_isForest.l0 kq t161 x4_1 (l0.take ((ji3) : Int).toNat) ((l0.take ((ji3) : Int).toNat).length : Int) x15_1 = some r) ∧ Aside0 (kq ≤ k) ∧ Drawn0 w w')
   case atStart => exact ⟨(0), (0), (z1), (z1), H', ⟨Nat.le_refl _⟩, z5⟩
   case round =>
    clear H'
    try clear p2
    try clear c4
    try clear c4b0
    try clear c4b1
    try clear c5
    try clear c5b0
    try clear c5b1
    try clear c6
    try clear p6
    obtain ⟨x4_1, x15_1, rfl, rfl, HA, HK1, ⟨m1, rfl⟩⟩ := hrel
    cases gk with
    | zero => exact absurd HA.out (by simp [impl_isForest.l0])
    | succ k1 =>
     have H := HA.out
     clear HA
     simp only [impl_isForest.l0] at H
     by_cases c7 : x15_1 < ((l0.take ((ji3) : Int).toNat).length : Int)
     ·rw [if_pos c7] at H
      have c7b0 : decide (x15_1 < ((l0.take ((ji3) : Int).toNat).length : Int)) = true := decide_eq_true c7
      clear c7
      by_cases c8 : 0 ≤ x15_1
      ·rw [if_pos c8] at H
       have c8b0 : decide (0 ≤ x15_1) = true := decide_eq_true c8
       clear c8
       by_cases c9 : x15_1 < ((l0.take ((ji3) : Int).toNat).length : Int)
       ·rw [if_pos c9] at H
        have c9b0 : decide (x15_1 < ((l0.take ((ji3) : Int).toNat).length : Int)) = true := decide_eq_true c9
        clear c9
        by_cases c10 : (wrap64 (x4_1 + (wrap64 ((rd (l0.take ((ji3) : Int).toNat) x15_1) - 1)))) ≤ (wrap64 (-t161))
        ·rw [if_pos c10] at H
         have c10b0 : decide ((wrap64 (x4_1 + (wrap64 ((rd (l0.take ((ji3) : Int).toNat) x15_1) - 1)))) ≤ (wrap64 (-t161))) = true := decide_eq_true c10
         clear c10
         obtain rfl := Option.some.inj H
         have p163 : 0 ≤ (x15_1 : Int) := of_decide_eq_true z3
         have q163 : x15_1 < ((l0.take ((ji3) : Int).toNat).length : Int) := of_decide_eq_true z3
         obtain ⟨ad163, e163, hx163_0⟩ := Kd.at_int HR162.out x15_1 p163 q163
         cases e163
         replace p163 := eq_true p163
         replace q163 := eq_true q163
         go_wp2
         go_ret
         exact ⟨by first | rfl | (simp; done) | (simp only [← hji3] <;> (first | rfl | simp)) | (simp [*]; done), z5⟩
        ·rw [if_neg c10] at H
         have c10b0 : decide ((wrap64 (x4_1 + (wrap64 ((rd (l0.take ((ji3) : Int).toNat) x15_1) - 1)))) ≤ (wrap64 (-t161))) = false := decide_eq_false c10
         clear c10
         have H' := Aside0.mk H
         clear H
         have p163 : 0 ≤ (x15_1 : Int) := of_decide_eq_true z3
         have q163 : x15_1 < ((l0.take ((ji3) : Int).toNat).length : Int) := of_decide_eq_true z3
         obtain ⟨ad163, e163, hx163_0⟩ := Kd.at_int HR162.out x15_1 p163 q163
         cases e163
         replace p163 := eq_true p163
         replace q163 := eq_true q163
         go_wp2
         go_roundg k1
         case measure => have := HK1.out; omega
         case rel => exact ⟨(wrap64 (x4_1 + (wrap64 ((rd (l0.take ((ji3) : Int).toNat) x15_1) - 1)))), (wrap64 (x15_1 + 1)), (by first | rfl | (simp; done) | (simp only [← hji3] <;> (first | rfl | simp)) | (simp [*]; done)), (z1), H', ⟨by have := HK1.out; omega⟩, z5⟩
       ·rw [if_neg c9] at H
        exact absurd H (by simp)
      ·rw [if_neg c8] at H
       exact absurd H (by simp)
     ·rw [if_neg c7] at H
      have c7b0 : decide (x15_1 < ((l0.take ((ji3) : Int).toNat).length : Int)) = false := decide_eq_false c7
      clear c7
      obtain rfl := Option.some.inj H
      go_wp2
      go_ret
      exact ⟨by first | rfl | (simp; done) | (simp only [← hji3] <;> (first | rfl | simp)) | (simp [*]; done), z5⟩
  ·rw [if_neg c5] at H
   exact absurd H (by simp)
 ·rw [if_neg c4] at H
  exact absurd H (by simp)

/-! ### slices_Grow_int_int_on_nil: function 114 -/
def growRen : Go.Shelf.Ren := ⟨fun | 4 => 114 | n => n, fun | 22 => 32 | 25 => 3 | n => n, fun | n => n⟩
theorem growLays : Go.Proofs.Lays8.n4 Tryd.prog growRen := {
 mixed := by kernel_rfl
 f4 := ⟨"slices.Grow[[]int,int]", by decide, Tryd.func114.trans (congrArg some (by kernel_rfl))⟩
 t0 := Tryd.underlying0
 a0 := Tryd.isAgg0
 z0 := Tryd.sizeOf0
 v0 := Tryd.zeroValue0
 t3 := Tryd.underlying3
 a3 := Tryd.isAgg3
 z3 := Tryd.sizeOf3
 v3 := Tryd.zeroValue3
 t4 := Tryd.underlying4
 a4 := Tryd.isAgg4
 z4 := Tryd.sizeOf4
 v4 := Tryd.zeroValue4
 t9 := Tryd.underlying9
 a9 := Tryd.isAgg9
 z9 := Tryd.sizeOf9
 v9 := Tryd.zeroValue9
 t20 := Tryd.underlying20
 a20 := Tryd.isAgg20
 z20 := Tryd.sizeOf20
 v20 := Tryd.zeroValue20
 t22 := Tryd.underlying32
 a22 := Tryd.isAgg32
 z22 := Tryd.sizeOf32
 v22 := Tryd.zeroValue32 }
def slices_Grow_int_int_on_nil.f (a1 : Int) : Option (List Int) := if 0 ≤ a1 then (if a1 < 17592186044416 then some [] else none) else none
theorem slices_Grow_int_int_on_nil.calls (a1 : Int) (r : List Int) (w : World) (h : slices_Grow_int_int_on_nil.f a1 = some r) :
  Calls Tryd.prog 114 #[.slice none 0 0, .int .i64 a1] w fun e w' => ∃ v0_ : Value, e = .returned (v0_) ∧ Kd.R (Kd.int .i64) 3 w' w.heap.size (fun _ => True) v0_ r ∧ Below w.heap.size w w' := by
 unfold slices_Grow_int_int_on_nil.f at h
 split at h
 ·rename_i h0
  split at h
  ·rename_i h1
   obtain rfl := Option.some.inj h
   obtain ⟨n, rfl⟩ := Int.eq_ofNat_of_zero_le h0
   by_cases hn : n = 0
   ·subst hn
    refine (Any8.slices_Grow_room growLays none 0 0 0 w (by omega) (by omega) (by omega) (by omega)).mono ?_
    rintro e w' ⟨rfl, rfl⟩
    exact ⟨_, rfl, Kd.R_nil _ _ _ _ _, Below.refl _ _⟩
   ·have hz : growRen.t 25 = 3 := rfl
    obtain ⟨i0, hi0, hz0, hs0, hb0⟩ := info_parts info3
    refine (Any8.slices_Grow_grow growLays i0 (.int .i64 0) hi0 hz0 (by omega) none 0 0 n [] w (by omega) (by omega) (by rw [hb0]; omega) (by omega) (by simp) (fun _ => rfl) (fun a h => by cases h)).mono ?_
    rintro e w' ⟨rfl, rfl⟩
    have hc := grownCap_le_maxLen w (0 + n) 0 (growRen.t 25) (by unfold maxLen; omega)
    have hg := grownCap_ge w (0 + n) 0 (growRen.t 25)
    generalize grownCap w (0 + n) 0 (growRen.t 25) = G at hc hg ⊢
    refine ⟨_, rfl, ⟨fun _ _ => trivial, [], ?_, Reps.none _ _⟩, (Below.refl w.heap.size w).drew.alloc (Nat.le_refl _) _⟩
    exact World.ownsRow_made w.drew _ G (Nat.le_refl _) hc (by change _ = G * 1; simp [size_zeroCells, Value.cells]; omega)
  ·cases h
 ·cases h

end Go.Proofs.YtaacmpmjogpodaaDoor.PFnRotationsGood
