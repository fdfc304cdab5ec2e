-- Written by xprint.py (this session's own program, over the kit's print).
import Derived.Test.YtaacmpmjogpodaaDoorPFnRotationsGoodx0
import Derived.Test.YtaacmpmjogpodaaDoorPFnRotationsGoodx22
namespace Go.Proofs.YtaacmpmjogpodaaDoor.PFnRotationsGood
open Go.RowKit Go.Proofs.YtaacmpmjogpodaaDoorW.PrintWords Go.Proofs.YtaacmpmjogpodaaDoorW.PrintLast Go.Proofs.YtaacmpmjogpodaaDoorW.PrintMore
attribute [local go_sem] max2_int min2_int max_two min_two max_three min_three max_four min_four   -- for this text's walks alone
set_option linter.unusedVariables false
set_option linter.unusedSimpArgs false
attribute [-simp] List.length_take ByteArray.size_extract

/-! ### impl_first_on_isLevel: function 75 -/
def impl_first_on_isLevel.l0 : Nat → Int → List Int → Int → Int → Option (Int × Bool)
 | 0, _, _, _, _ => none
 | k + 1, x2, x14, x15, x16 => if x16 < x15 then (if 0 ≤ x16 then (if x16 < (x14.length : Int) then (if x16 ≥ x2 then ((impl_isLevel.f (rd x14 x16)).bind fun t336 => (if t336 = true then (some (x16, true)) else (impl_first_on_isLevel.l0 k x2 x14 x15 (wrap64 (x16 + 1))))) else (impl_first_on_isLevel.l0 k x2 x14 x15 (wrap64 (x16 + 1)))) else (none)) else (none)) else (some (0, false))
def impl_first_on_isLevel.f (k : Nat) (a0 : ByteArray) (a1 : Int) (a2 : Int)  : Option (Int × Bool) := (impl_leads.f k a0 a1).bind fun t332 => (impl_first_on_isLevel.l0 k a2 t332 (t332.length : Int) 0)
theorem impl_first_on_isLevel.mono_l : ∀ k, (∀ y0 y1 y2 y3, LeO (impl_first_on_isLevel.l0 k y0 y1 y2 y3) (impl_first_on_isLevel.l0 (k + 1) y0 y1 y2 y3))
 | 0 => fun _ _ _ _ r h => by simp [impl_first_on_isLevel.l0] at h
 | k + 1 => by
  have ih0 := impl_first_on_isLevel.mono_l k
  ·intro y0 y1 y2 y3
   unfold impl_first_on_isLevel.l0
   repeat' first
   | (with_reducible exact ih0 _ _ _ _)
   | (with_reducible exact impl_leads.mono _ _ _)
   | (with_reducible exact LeO.refl _)
   | (with_reducible exact LeO.none _)
   | (with_reducible refine LeO.ite ?_ ?_)
   | (with_reducible refine LeO.bind ?_ (fun _ => ?_))
   | exact ih0 _ _ _ _
   | exact impl_leads.mono _ _ _
   | exact LeO.none _
   | refine LeO.ite ?_ ?_
   | refine LeO.bind ?_ (fun _ => ?_)
theorem impl_first_on_isLevel.mono : ∀ a0 a1 a2 k, LeO (impl_first_on_isLevel.f k a0 a1 a2) (impl_first_on_isLevel.f (k + 1) a0 a1 a2) := by
 intro a0 a1 a2 k
 have ih0 := impl_first_on_isLevel.mono_l k
 unfold impl_first_on_isLevel.f
 repeat' first
   | (with_reducible exact ih0 _ _ _ _)
   | (with_reducible exact impl_leads.mono _ _ _)
   | (with_reducible exact LeO.refl _)
   | (with_reducible exact LeO.none _)
   | (with_reducible refine LeO.ite ?_ ?_)
   | (with_reducible refine LeO.bind ?_ (fun _ => ?_))
   | exact ih0 _ _ _ _
   | exact impl_leads.mono _ _ _
   | exact LeO.none _
   | refine LeO.ite ?_ ?_
   | refine LeO.bind ?_ (fun _ => ?_)
set_option maxHeartbeats 8000000 in
set_option maxRecDepth 100000 in
theorem impl_first_on_isLevel.calls (k : Nat) (a0 : ByteArray) (a1 : Int) (a2 : Int)  (r1 : Int) (r2 : Bool) (w : World) (h : impl_first_on_isLevel.f k a0 a1 a2 = some (r1, r2)) :
  Calls Tryd.prog 75 #[.string a0, .int .i64 a1, .int .i64 a2, .func (.func 76) #[] #[]] w fun e w' => e = .returned (.tuple #[.int .i64 r1, .bool r2]) ∧ Below w.heap.size w w' := by
 have HB := Aside0.mk (Below.refl w.heap.size w)
 have H : ((impl_leads.f k a0 a1).bind fun t332 => (impl_first_on_isLevel.l0 k a2 t332 (t332.length : Int) 0)) = some (r1, r2) := h
 clear h
 replace H := Option.bind_eq_some_iff.mp H
 obtain ⟨t332, A50, H⟩ := H
 replace H : (impl_first_on_isLevel.l0 k a2 t332 (t332.length : Int) 0) = some (r1, r2) := H
 have A5 := Aside0.mk A50
 clear A50
 have H' := Aside0.mk H
 clear H
 go_enter Tryd.func75, Tryd.ntmps75
 go_wp2_with (first | ((with_reducible refine gate_callee (f := 105) rfl ?_); refine goesL_ (some 14) rfl rfl Tryd.func105 (by kernel_rfl) rfl #[.string a0, .int .i64 a1] rfl z4 ?_; (with_reducible refine (impl_leads.calls k a0 a1 t332 _ A5.out).mono ?_); rintro e w6 ⟨v333, rfl, ho0, hb⟩; refine ⟨_, rfl, ?_⟩; have n0_ := Aside0.mk (Kd.R_lower ho0 (below_size (zB HB))); have n1_ := Aside0.mk (below_step (zB HB) hb); clear HB; have HO334 := n0_; have HB := n1_; clear n0_ n1_; (try clear hb); (try clear hb2); (try clear hk); (try clear hi); (try clear ho0); obtain ⟨Ao7, co7, eo7⟩ := Kd.R_slice HO334.out; subst eo7))
 go_loopg [16] k (fun kq v16 w' => ∃ (x16_1 : Int), v16 = .int .i64 x16_1 ∧ Aside0 (impl_first_on_isLevel.l0 kq a2 t332 (t332.length : Int) x16_1 = some (r1, r2)) ∧ Aside0 (kq ≤ k) ∧ Aside0 (Kd.R (Kd.int .i64) 3 w' w.heap.size (fun _ => True) (.slice Ao7 t332.length co7) t332) ∧ Aside0 (Below w.heap.size w w'))
 case atStart => exact ⟨(0), (z1), H', ⟨Nat.le_refl _⟩, ⟨zR HO334⟩, ⟨zB HB⟩⟩
 case round =>
  clear H'
  try clear c1
  try clear p2
  try clear c7
  obtain ⟨x16_1, rfl, HA, HK1, HO_14, HB⟩ := hrel
  cases gk with
  | zero => exact absurd HA.out (by simp [impl_first_on_isLevel.l0])
  | succ k1 =>
   have H := HA.out
   clear HA
   simp only [impl_first_on_isLevel.l0] at H
   by_cases c8 : x16_1 < (t332.length : Int)
   ·rw [if_pos c8] at H
    have c8b0 : decide (x16_1 < (t332.length : Int)) = true := decide_eq_true c8
    clear c8
    by_cases c9 : 0 ≤ x16_1
    ·rw [if_pos c9] at H
     have c9b0 : decide (0 ≤ x16_1) = true := decide_eq_true c9
     clear c9
     by_cases c10 : x16_1 < (t332.length : Int)
     ·rw [if_pos c10] at H
      have c10b0 : decide (x16_1 < (t332.length : Int)) = true := decide_eq_true c10
      clear c10
      by_cases c11 : x16_1 ≥ a2
      ·rw [if_pos c11] at H
       have c11b0 : decide (a2 ≤ x16_1) = true := decide_eq_true c11
       clear c11
       replace H := Option.bind_eq_some_iff.mp H
       obtain ⟨t336, A120, H⟩ := H
       replace H : (if t336 = true then (some (x16_1, true)) else (impl_first_on_isLevel.l0 k1 a2 t332 (t332.length : Int) (wrap64 (x16_1 + 1)))) = some (r1, r2) := H
       have A12 := Aside0.mk A120
       clear A120
       by_cases c13 : t336 = true
       ·subst c13
        have H1 : (some (x16_1, true)) = some (r1, r2) := by rw [if_pos rfl] at H; exact H
        clear H
        have H := H1
        clear H1
        simp only [Option.some.injEq, Prod.mk.injEq] at H
        obtain ⟨rfl, rfl⟩ := H
        have p335 : 0 ≤ (x16_1 : Int) := of_decide_eq_true z3
        have q335 : x16_1 < (t332.length : Int) := of_decide_eq_true z3
        obtain ⟨ad335, e335, hx335_0⟩ := Kd.at_int (Kd.R_reads' HO_14.out).2.2 x16_1 p335 q335
        cases e335
        replace p335 := eq_true p335
        replace q335 := eq_true q335
        go_wp2_with (first | (go_at_call 76; (with_reducible refine (impl_isLevel.calls (rd t332 x16_1) true _ A12.out).mono ?_); rintro e w' ⟨rfl, ⟨nd, rfl⟩⟩))
        go_ret2
        exact ⟨z2, zB HB⟩
       ·replace c13 := Bool.eq_false_iff.mpr c13
        subst c13
        have H1 : (impl_first_on_isLevel.l0 k1 a2 t332 (t332.length : Int) (wrap64 (x16_1 + 1))) = some (r1, r2) := by rw [if_neg (show ¬ (false = true) by decide)] at H; exact H
        clear H
        have H := H1
        clear H1
        have H' := Aside0.mk H
        clear H
        have p335 : 0 ≤ (x16_1 : Int) := of_decide_eq_true z3
        have q335 : x16_1 < (t332.length : Int) := of_decide_eq_true z3
        obtain ⟨ad335, e335, hx335_0⟩ := Kd.at_int (Kd.R_reads' HO_14.out).2.2 x16_1 p335 q335
        cases e335
        replace p335 := eq_true p335
        replace q335 := eq_true q335
        go_wp2_with (first | (go_at_call 76; (with_reducible refine (impl_isLevel.calls (rd t332 x16_1) false _ A12.out).mono ?_); rintro e w' ⟨rfl, ⟨nd, rfl⟩⟩))
        go_roundg k1
        case measure => have := HK1.out; omega
        case rel => exact ⟨(wrap64 (x16_1 + 1)), (z1), H', ⟨by have := HK1.out; omega⟩, ⟨zR HO_14⟩, ⟨zB HB⟩⟩
      ·rw [if_neg c11] at H
       have c11b0 : decide (a2 ≤ x16_1) = false := decide_eq_false c11
       clear c11
       have H' := Aside0.mk H
       clear H
       have p335 : 0 ≤ (x16_1 : Int) := of_decide_eq_true z3
       have q335 : x16_1 < (t332.length : Int) := of_decide_eq_true z3
       obtain ⟨ad335, e335, hx335_0⟩ := Kd.at_int (Kd.R_reads' HO_14.out).2.2 x16_1 p335 q335
       cases e335
       replace p335 := eq_true p335
       replace q335 := eq_true q335
       go_wp2
       go_roundg k1
       case measure => have := HK1.out; omega
       case rel => exact ⟨(wrap64 (x16_1 + 1)), (z1), H', ⟨by have := HK1.out; omega⟩, ⟨zR HO_14⟩, ⟨zB HB⟩⟩
     ·rw [if_neg c10] at H
      exact absurd H (by simp)
    ·rw [if_neg c9] at H
     exact absurd H (by simp)
   ·rw [if_neg c8] at H
    have c8b0 : decide (x16_1 < (t332.length : Int)) = false := decide_eq_false c8
    clear c8
    simp only [Option.some.injEq, Prod.mk.injEq] at H
    obtain ⟨rfl, rfl⟩ := H
    go_wp2
    go_ret2
    exact ⟨z2, zB HB⟩

end Go.Proofs.YtaacmpmjogpodaaDoor.PFnRotationsGood
