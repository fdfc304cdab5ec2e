-- Written by xprint.py (this session's own program, over the kit's print).
import Derived.Test.YtaacmpmjogpodaaDoorPFnRotationsGoodx0
import Derived.Test.YtaacmpmjogpodaaDoorPFnRotationsGoodx1
import Derived.Test.YtaacmpmjogpodaaDoorPFnRotationsGoodx2
import Derived.Test.YtaacmpmjogpodaaDoorPFnRotationsGoodx18
namespace Go.Proofs.YtaacmpmjogpodaaDoor.PFnRotationsGood
open Go.RowKit Go.Proofs.YtaacmpmjogpodaaDoorW.PrintWords Go.Proofs.YtaacmpmjogpodaaDoorW.PrintLast Go.Proofs.YtaacmpmjogpodaaDoorW.PrintMore
attribute [local go_sem] max2_int min2_int max_two min_two max_three min_three max_four min_four   -- for this text's walks alone
set_option linter.unusedVariables false
set_option linter.unusedSimpArgs false
attribute [-simp] List.length_take ByteArray.size_extract

/-! ### spec_l1Cur_goodPath: function 103 -/
def spec_l1Cur_goodPath.l0 : Nat → ByteArray → Int → Int → List Int → Int → Int → Option (ByteArray × Int × Int)
 | 0, _, _, _, _, _, _ => none
 | k + 1, x5, x6, x8, x1000, x1001, x1002 => if x8 > 0 then (if x6 = x8 then (if x5.size + 1 ≤ 9223372036854775807 then (spec_l1Cur_goodPath.l0 k (x5 ++ (⟨#[68]⟩ : ByteArray)) (wrap64 (x6 - 1)) (wrap64 (x8 - 1)) x1000 x1001 x1002) else (none)) else (if x6 > 0 then ((spec_l1Cur_one.f x1000 x1001 x1002 2).bind fun bt278 => (if bt278.1 = true then (if x5.size + 1 ≤ 9223372036854775807 then (spec_l1Cur_goodPath.l0 k (x5 ++ (⟨#[68]⟩ : ByteArray)) (wrap64 (x6 - 1)) (wrap64 (x8 - 1)) x1000 bt278.2.1 bt278.2.2) else (none)) else (if x5.size + 1 ≤ 9223372036854775807 then (spec_l1Cur_goodPath.l0 k (x5 ++ (⟨#[85]⟩ : ByteArray)) (wrap64 (x6 + 1)) (wrap64 (x8 - 1)) x1000 bt278.2.1 bt278.2.2) else (none)))) else (if x5.size + 1 ≤ 9223372036854775807 then (spec_l1Cur_goodPath.l0 k (x5 ++ (⟨#[85]⟩ : ByteArray)) (wrap64 (x6 + 1)) (wrap64 (x8 - 1)) x1000 x1001 x1002) else (none)))) else (some (x5, x1001, x1002))
def spec_l1Cur_goodPath.f (k : Nat) (s0_0 : List Int) (s0_1 : Int) (s0_2 : Int) (a1 : Int) : Option (ByteArray × Int × Int) := (spec_l1Cur_pick.f s0_0 s0_1 s0_2 (wrap64 (a1 + 1))).bind fun bt275 => (spec_l1Cur_goodPath.l0 k (⟨#[]⟩ : ByteArray) 0 (wrap64 (2 * bt275.1)) s0_0 bt275.2.1 bt275.2.2)
theorem spec_l1Cur_goodPath.mono_l : ∀ k, (∀ y0 y1 y2 y3 y4 y5, LeO (spec_l1Cur_goodPath.l0 k y0 y1 y2 y3 y4 y5) (spec_l1Cur_goodPath.l0 (k + 1) y0 y1 y2 y3 y4 y5))
 | 0 => fun _ _ _ _ _ _ r h => by simp [spec_l1Cur_goodPath.l0] at h
 | k + 1 => by
  have ih0 := spec_l1Cur_goodPath.mono_l k
  ·intro y0 y1 y2 y3 y4 y5
   unfold spec_l1Cur_goodPath.l0
   repeat' first
   | (with_reducible exact ih0 _ _ _ _ _ _)
   | (with_reducible exact LeO.refl _)
   | (with_reducible exact LeO.none _)
   | (with_reducible refine LeO.ite ?_ ?_)
   | (with_reducible refine LeO.bind ?_ (fun _ => ?_))
   | exact ih0 _ _ _ _ _ _
   | exact LeO.none _
   | refine LeO.ite ?_ ?_
   | refine LeO.bind ?_ (fun _ => ?_)
theorem spec_l1Cur_goodPath.mono : ∀ a0 a1 a2 a3 k, LeO (spec_l1Cur_goodPath.f k a0 a1 a2 a3) (spec_l1Cur_goodPath.f (k + 1) a0 a1 a2 a3) := by
 intro a0 a1 a2 a3 k
 have ih0 := spec_l1Cur_goodPath.mono_l k
 unfold spec_l1Cur_goodPath.f
 repeat' first
   | (with_reducible exact ih0 _ _ _ _ _ _)
   | (with_reducible exact LeO.refl _)
   | (with_reducible exact LeO.none _)
   | (with_reducible refine LeO.ite ?_ ?_)
   | (with_reducible refine LeO.bind ?_ (fun _ => ?_))
   | exact ih0 _ _ _ _ _ _
   | exact LeO.none _
   | refine LeO.ite ?_ ?_
   | refine LeO.bind ?_ (fun _ => ?_)
set_option maxHeartbeats 8000000 in
set_option maxRecDepth 100000 in
theorem spec_l1Cur_goodPath.calls (k : Nat) (g : Nat) (s0_0 : List Int) (s0_1 : Int) (s0_2 : Int) (a1 : Int) (r1 : ByteArray) (r2 : Int) (r3 : Int) (w0 w : World) (hI : IsS91 w0 w g s0_0 s0_1 s0_2) (hB : Below w0.heap.size w0 w) (h : spec_l1Cur_goodPath.f k s0_0 s0_1 s0_2 a1 = some (r1, r2, r3)) :
  Calls Tryd.prog 103 #[.pointer (some ⟨g, 0, none⟩), .int .i64 a1] w fun e w' => e = .returned (.string r1) ∧ IsS91 w0 w' g s0_0 r2 r3 ∧ Below w0.heap.size w0 w' ∧ KeepBut w w' g none := by
 have HI0 := Aside0.mk hI
 have HK := Aside0.mk (KeepBut.refl w g none)
 have HL := Aside0.mk hB.size
 clear hI
 have HW0 := Aside0.mk hB.size
 have HB := Aside0.mk hB
 clear hB
 have H : ((spec_l1Cur_pick.f s0_0 s0_1 s0_2 (wrap64 (a1 + 1))).bind fun bt275 => (spec_l1Cur_goodPath.l0 k (⟨#[]⟩ : ByteArray) 0 (wrap64 (2 * bt275.1)) s0_0 bt275.2.1 bt275.2.2)) = some (r1, r2, r3) := h
 clear h
 replace H := Option.bind_eq_some_iff.mp H
 obtain ⟨⟨t275, t276, t277⟩, A30, H⟩ := H
 replace H : (spec_l1Cur_goodPath.l0 k (⟨#[]⟩ : ByteArray) 0 (wrap64 (2 * t275)) s0_0 t276 t277) = some (r1, r2, r3) := H
 have A3 := Aside0.mk A30
 clear A30
 have H' := Aside0.mk H
 clear H
 go_enter Tryd.func103, Tryd.ntmps103
 go_wp2_with (first | ((with_reducible refine gate_callee (f := 79) rfl ?_); refine goesL_ (some 12) rfl rfl Tryd.func79 (by kernel_rfl) rfl #[.pointer (some ⟨g, 0, none⟩), .int .i64 (wrap64 (a1 + 1))] rfl z4 ?_; (with_reducible refine (spec_l1Cur_pick.calls g s0_0 s0_1 s0_2 (wrap64 (a1 + 1)) t275 t276 t277 w0 _ ?side1 ?side2 A3.out).mono ?_); (case side1 => repeat (first | (with_reducible first | exact HI0.out | apply IsS91.alloc | apply IsS91.drewN | apply IsS91.drew | apply IsS91.set_1 | apply IsS91.set_2) | exact HI0.out)); (case side2 => exact zB1 HB (IsS91.ge HI0.out)); rintro e w4 ⟨rfl, hi, hb, hk⟩; refine ⟨_, rfl, ?_⟩; have n0_ := Aside0.mk (KeepBut.trans (zH HK) hk (.inl rfl)); have n1_ := Aside0.mk (hb); have n2_ := Aside0.mk (hi); clear HK; clear HB; clear HI0; have HK := n0_; have HB := n1_; have HI0 := n2_; clear n0_ n1_ n2_; (try clear hb); (try clear hb2); (try clear hk); (try clear hi)))
 go_loopg [5, 6, 8] k (fun kq v5 v6 v8 w' => ∃ (x5_1 : ByteArray) (x6_1 : Int) (x8_1 : Int) (x1001_1 : Int) (x1002_1 : Int), v5 = .string x5_1 ∧ v6 = .int .i64 x6_1 ∧ v8 = .int .i64 x8_1 ∧ Aside0 (spec_l1Cur_goodPath.l0 kq x5_1 x6_1 x8_1 s0_0 x1001_1 x1002_1 = some (r1, r2, r3)) ∧ Aside0 (kq ≤ k) ∧ Aside0 (IsS91 w0 w' g s0_0 x1001_1 x1002_1) ∧ Aside0 (KeepBut w w' g none) ∧ Aside0 (Below w0.heap.size w0 w'))
 case atStart => exact ⟨((⟨#[]⟩ : ByteArray)), (0), (wrap64 (2 * t275)), (t276), (t277), (z1), (z1), (z1), H', ⟨Nat.le_refl _⟩, ⟨by (try simp only [Int.add_zero]); repeat (first | (with_reducible first | exact HI0.out | apply IsS91.alloc | apply IsS91.drewN | apply IsS91.drew | apply IsS91.set_1 | apply IsS91.set_2) | exact HI0.out)⟩, ⟨zH HK⟩, ⟨zB1 HB (IsS91.ge HI0.out)⟩⟩
 case round =>
  clear H'
  try clear c1
  try clear p2
  obtain ⟨x5_1, x6_1, x8_1, x1001_1, x1002_1, rfl, rfl, rfl, HA, HK1, HI0, HK, HB⟩ := hrel
  cases gk with
  | zero => exact absurd HA.out (by simp [spec_l1Cur_goodPath.l0])
  | succ k1 =>
   have H := HA.out
   clear HA
   simp only [spec_l1Cur_goodPath.l0] at H
   by_cases c5 : x8_1 > 0
   ·rw [if_pos c5] at H
    have c5b0 : decide (0 < x8_1) = true := decide_eq_true c5
    clear c5
    by_cases c6 : x6_1 = x8_1
    ·rw [if_pos c6] at H
     have c6b0 : (x6_1 == x8_1) = true := beq_iff_eq.mpr c6
     have c6b1 : (x6_1 != x8_1) = false := bne_eq_false_iff_eq.mpr c6
     clear c6
     by_cases c7 : x5_1.size + 1 ≤ 9223372036854775807
     ·rw [if_pos c7] at H
      have c7b0 := eq_true c7
      have c7b1 : decide (x5_1.size + 1 ≤ 9223372036854775807) = true := decide_eq_true c7
      try have c7b2 : (9223372036854775807 < x5_1.size + 1) = False := eq_false (Nat.not_lt.2 c7)
      have H' := Aside0.mk H
      clear H
      go_wp2
      go_roundg k1
      case measure => have := HK1.out; omega
      case rel => exact ⟨(x5_1 ++ (⟨#[68]⟩ : ByteArray)), (wrap64 (x6_1 - 1)), (wrap64 (x8_1 - 1)), (x1001_1), (x1002_1), (z1), (z1), (z1), H', ⟨by have := HK1.out; omega⟩, ⟨by (try simp only [Int.add_zero]); repeat (first | (with_reducible first | exact HI0.out | apply IsS91.alloc | apply IsS91.drewN | apply IsS91.drew | apply IsS91.set_1 | apply IsS91.set_2) | exact HI0.out)⟩, ⟨zH HK⟩, ⟨zB1 HB (IsS91.ge HI0.out)⟩⟩
     ·rw [if_neg c7] at H
      exact absurd H (by simp)
    ·rw [if_neg c6] at H
     have c6b0 : (x6_1 == x8_1) = false := beq_eq_false_iff_ne.mpr c6
     have c6b1 : (x6_1 != x8_1) = true := bne_iff_ne.mpr c6
     by_cases c8 : x6_1 > 0
     ·rw [if_pos c8] at H
      have c8b0 : decide (0 < x6_1) = true := decide_eq_true c8
      clear c8
      replace H := Option.bind_eq_some_iff.mp H
      obtain ⟨⟨t278, t279, t280⟩, A90, H⟩ := H
      replace H : (if t278 = true then (if x5_1.size + 1 ≤ 9223372036854775807 then (spec_l1Cur_goodPath.l0 k1 (x5_1 ++ (⟨#[68]⟩ : ByteArray)) (wrap64 (x6_1 - 1)) (wrap64 (x8_1 - 1)) s0_0 t279 t280) else (none)) else (if x5_1.size + 1 ≤ 9223372036854775807 then (spec_l1Cur_goodPath.l0 k1 (x5_1 ++ (⟨#[85]⟩ : ByteArray)) (wrap64 (x6_1 + 1)) (wrap64 (x8_1 - 1)) s0_0 t279 t280) else (none))) = some (r1, r2, r3) := H
      have A9 := Aside0.mk A90
      clear A90
      by_cases c10 : t278 = true
      ·subst c10
       have H1 : (if x5_1.size + 1 ≤ 9223372036854775807 then (spec_l1Cur_goodPath.l0 k1 (x5_1 ++ (⟨#[68]⟩ : ByteArray)) (wrap64 (x6_1 - 1)) (wrap64 (x8_1 - 1)) s0_0 t279 t280) else (none)) = some (r1, r2, r3) := by rw [if_pos rfl] at H; exact H
       clear H
       have H := H1
       clear H1
       by_cases c11 : x5_1.size + 1 ≤ 9223372036854775807
       ·rw [if_pos c11] at H
        have c11b0 := eq_true c11
        have c11b1 : decide (x5_1.size + 1 ≤ 9223372036854775807) = true := decide_eq_true c11
        try have c11b2 : (9223372036854775807 < x5_1.size + 1) = False := eq_false (Nat.not_lt.2 c11)
        have H' := Aside0.mk H
        clear H
        go_wp2_with (first | (go_at_call 115; (with_reducible refine (spec_l1Cur_one.calls g s0_0 x1001_1 x1002_1 2 true t279 t280 w0 _ ?side1 ?side2 A9.out).mono ?_); (case side1 => repeat (first | (with_reducible first | exact HI0.out | apply IsS91.alloc | apply IsS91.drewN | apply IsS91.drew | apply IsS91.set_1 | apply IsS91.set_2) | exact HI0.out)); (case side2 => exact zB1 HB (IsS91.ge HI0.out)); rintro e w12 ⟨rfl, hi, hb, hk⟩; have n0_ := Aside0.mk (KeepBut.trans (zH HK) hk (.inl rfl)); have n1_ := Aside0.mk (hb); have n2_ := Aside0.mk (hi); clear HK; clear HB; clear HI0; have HK := n0_; have HB := n1_; have HI0 := n2_; clear n0_ n1_ n2_; (try clear hb); (try clear hb2); (try clear hk); (try clear hi)))
        go_roundg k1
        case measure => have := HK1.out; omega
        case rel => exact ⟨(x5_1 ++ (⟨#[68]⟩ : ByteArray)), (wrap64 (x6_1 - 1)), (wrap64 (x8_1 - 1)), (t279), (t280), (z1), (z1), (z1), H', ⟨by have := HK1.out; omega⟩, ⟨by (try simp only [Int.add_zero]); repeat (first | (with_reducible first | exact HI0.out | apply IsS91.alloc | apply IsS91.drewN | apply IsS91.drew | apply IsS91.set_1 | apply IsS91.set_2) | exact HI0.out)⟩, ⟨zH HK⟩, ⟨zB1 HB (IsS91.ge HI0.out)⟩⟩
       ·rw [if_neg c11] at H
        exact absurd H (by simp)
      ·replace c10 := Bool.eq_false_iff.mpr c10
       subst c10
       have H1 : (if x5_1.size + 1 ≤ 9223372036854775807 then (spec_l1Cur_goodPath.l0 k1 (x5_1 ++ (⟨#[85]⟩ : ByteArray)) (wrap64 (x6_1 + 1)) (wrap64 (x8_1 - 1)) s0_0 t279 t280) else (none)) = some (r1, r2, r3) := by rw [if_neg (show ¬ (false = true) by decide)] at H; exact H
       clear H
       have H := H1
       clear H1
       by_cases c13 : x5_1.size + 1 ≤ 9223372036854775807
       ·rw [if_pos c13] at H
        have c13b0 := eq_true c13
        have c13b1 : decide (x5_1.size + 1 ≤ 9223372036854775807) = true := decide_eq_true c13
        try have c13b2 : (9223372036854775807 < x5_1.size + 1) = False := eq_false (Nat.not_lt.2 c13)
        have H' := Aside0.mk H
        clear H
        go_wp2_with (first | (go_at_call 115; (with_reducible refine (spec_l1Cur_one.calls g s0_0 x1001_1 x1002_1 2 false t279 t280 w0 _ ?side1 ?side2 A9.out).mono ?_); (case side1 => repeat (first | (with_reducible first | exact HI0.out | apply IsS91.alloc | apply IsS91.drewN | apply IsS91.drew | apply IsS91.set_1 | apply IsS91.set_2) | exact HI0.out)); (case side2 => exact zB1 HB (IsS91.ge HI0.out)); rintro e w14 ⟨rfl, hi, hb, hk⟩; have n0_ := Aside0.mk (KeepBut.trans (zH HK) hk (.inl rfl)); have n1_ := Aside0.mk (hb); have n2_ := Aside0.mk (hi); clear HK; clear HB; clear HI0; have HK := n0_; have HB := n1_; have HI0 := n2_; clear n0_ n1_ n2_; (try clear hb); (try clear hb2); (try clear hk); (try clear hi)))
        go_roundg k1
        case measure => have := HK1.out; omega
        case rel => exact ⟨(x5_1 ++ (⟨#[85]⟩ : ByteArray)), (wrap64 (x6_1 + 1)), (wrap64 (x8_1 - 1)), (t279), (t280), (z1), (z1), (z1), H', ⟨by have := HK1.out; omega⟩, ⟨by (try simp only [Int.add_zero]); repeat (first | (with_reducible first | exact HI0.out | apply IsS91.alloc | apply IsS91.drewN | apply IsS91.drew | apply IsS91.set_1 | apply IsS91.set_2) | exact HI0.out)⟩, ⟨zH HK⟩, ⟨zB1 HB (IsS91.ge HI0.out)⟩⟩
       ·rw [if_neg c13] at H
        exact absurd H (by simp)
     ·rw [if_neg c8] at H
      have c8b0 : decide (0 < x6_1) = false := decide_eq_false c8
      clear c8
      by_cases c15 : x5_1.size + 1 ≤ 9223372036854775807
      ·rw [if_pos c15] at H
       have c15b0 := eq_true c15
       have c15b1 : decide (x5_1.size + 1 ≤ 9223372036854775807) = true := decide_eq_true c15
       try have c15b2 : (9223372036854775807 < x5_1.size + 1) = False := eq_false (Nat.not_lt.2 c15)
       have H' := Aside0.mk H
       clear H
       go_wp2
       go_roundg k1
       case measure => have := HK1.out; omega
       case rel => exact ⟨(x5_1 ++ (⟨#[85]⟩ : ByteArray)), (wrap64 (x6_1 + 1)), (wrap64 (x8_1 - 1)), (x1001_1), (x1002_1), (z1), (z1), (z1), H', ⟨by have := HK1.out; omega⟩, ⟨by (try simp only [Int.add_zero]); repeat (first | (with_reducible first | exact HI0.out | apply IsS91.alloc | apply IsS91.drewN | apply IsS91.drew | apply IsS91.set_1 | apply IsS91.set_2) | exact HI0.out)⟩, ⟨zH HK⟩, ⟨zB1 HB (IsS91.ge HI0.out)⟩⟩
      ·rw [if_neg c15] at H
       exact absurd H (by simp)
   ·rw [if_neg c5] at H
    have c5b0 : decide (0 < x8_1) = false := decide_eq_false c5
    clear c5
    simp only [Option.some.injEq, Prod.mk.injEq] at H
    obtain ⟨rfl, rfl, rfl⟩ := H
    go_wp2
    go_ret
    exact ⟨z2, by (try simp only [Int.add_zero]); repeat (first | (with_reducible first | exact HI0.out | apply IsS91.alloc | apply IsS91.drewN | apply IsS91.drew | apply IsS91.set_1 | apply IsS91.set_2) | exact HI0.out), zB1 HB (IsS91.ge HI0.out), zH HK⟩

end Go.Proofs.YtaacmpmjogpodaaDoor.PFnRotationsGood
