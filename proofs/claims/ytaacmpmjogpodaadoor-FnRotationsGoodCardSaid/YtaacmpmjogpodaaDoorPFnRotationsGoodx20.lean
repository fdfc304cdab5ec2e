-- Written by xprint.py (this session's own program, over the kit's print).
import Derived.Test.YtaacmpmjogpodaaDoorPFnRotationsGoodx0
import Derived.Test.YtaacmpmjogpodaaDoorPFnRotationsGoodx1
import Derived.Test.YtaacmpmjogpodaaDoorPFnRotationsGoodx2
import Derived.Test.YtaacmpmjogpodaaDoorPFnRotationsGoodx17
import Derived.Test.YtaacmpmjogpodaaDoorPFnRotationsGoodx18
import Derived.Test.YtaacmpmjogpodaaDoorPFnRotationsGoodx19
namespace Go.Proofs.YtaacmpmjogpodaaDoor.PFnRotationsGood
open Go.RowKit Go.Proofs.YtaacmpmjogpodaaDoorW.PrintWords Go.Proofs.YtaacmpmjogpodaaDoorW.PrintLast Go.Proofs.YtaacmpmjogpodaaDoorW.PrintMore
attribute [local go_sem] max2_int min2_int max_two min_two max_three min_three max_four min_four   -- for this text's walks alone
set_option linter.unusedVariables false
set_option linter.unusedSimpArgs false
attribute [-simp] List.length_take ByteArray.size_extract

/-! ### spec_l1Cur_anyPath: function 72 -/
mutual
def spec_l1Cur_anyPath.l0 : Nat → ByteArray → List Int → Int → Int → Option (ByteArray × Int × Int)
 | 0, _, _, _, _ => none
 | k + 1, x5, x1000, x1001, x1002 => (spec_l1Cur_pick.f x1000 x1001 x1002 2).bind fun bt290 => (if (x5.size : Int) < (wrap64 (40 + bt290.1)) then ((spec_l1Cur_of.f x1000 bt290.2.1 bt290.2.2 (([(⟨#[85, 68]⟩ : ByteArray), (⟨#[68, 85]⟩ : ByteArray), (⟨#[85, 85]⟩ : ByteArray)] : List ByteArray))).bind fun bt296 => (if x5.size + bt296.1.size ≤ 9223372036854775807 then (spec_l1Cur_anyPath.l0 k (x5 ++ bt296.1) x1000 bt296.2.1 bt296.2.2) else (none))) else (some (x5, bt290.2.1, bt290.2.2)))
def spec_l1Cur_anyPath.j1 : Nat → Int → Bool → List Int → Int → Int → Option (ByteArray × Int × Int)
 | 0, _, _, _, _, _ => none
 | k + 1, x1, x29, x1000, x1001, x1002 => if x29 = true then ((spec_l1Cur_goodPath.f k x1000 x1001 x1002 (wrap64 (Int.tdiv x1 2))).bind fun bt299 => (some (bt299.1, bt299.2.1, bt299.2.2))) else ((spec_l1Cur_path.f k x1000 x1001 x1002 x1).bind fun bt302 => (some (bt302.1, bt302.2.1, bt302.2.2)))
end
def spec_l1Cur_anyPath.f (k : Nat) (s0_0 : List Int) (s0_1 : Int) (s0_2 : Int) (a1 : Int) : Option (ByteArray × Int × Int) := (spec_l1Cur_pick.f s0_0 s0_1 s0_2 16).bind fun bt281 => (if bt281.1 = 0 then ((spec_l1Cur_path.f k s0_0 bt281.2.1 bt281.2.2 a1).bind fun bt284 => ((spec_l1Cur_spoilt.f k s0_0 bt284.2.1 bt284.2.2 bt284.1 (⟨#[85, 68, 88, 32, 117]⟩ : ByteArray)).bind fun bt287 => (some (bt287.1, bt287.2.1, bt287.2.2)))) else (if bt281.1 = 1 then (spec_l1Cur_anyPath.l0 k (⟨#[]⟩ : ByteArray) s0_0 bt281.2.1 bt281.2.2) else (if bt281.1 = 2 then (spec_l1Cur_anyPath.j1 k a1 (bt281.1 == 2) s0_0 bt281.2.1 bt281.2.2) else (if bt281.1 = 3 then (spec_l1Cur_anyPath.j1 k a1 (bt281.1 == 3) s0_0 bt281.2.1 bt281.2.2) else (if bt281.1 = 4 then (spec_l1Cur_anyPath.j1 k a1 (bt281.1 == 4) s0_0 bt281.2.1 bt281.2.2) else (if bt281.1 = 5 then (spec_l1Cur_anyPath.j1 k a1 (bt281.1 == 5) s0_0 bt281.2.1 bt281.2.2) else (spec_l1Cur_anyPath.j1 k a1 (bt281.1 == 6) s0_0 bt281.2.1 bt281.2.2)))))))
theorem spec_l1Cur_anyPath.mono_l : ∀ k, (∀ y0 y1 y2 y3, LeO (spec_l1Cur_anyPath.l0 k y0 y1 y2 y3) (spec_l1Cur_anyPath.l0 (k + 1) y0 y1 y2 y3)) ∧ (∀ y0 y1 y2 y3 y4, LeO (spec_l1Cur_anyPath.j1 k y0 y1 y2 y3 y4) (spec_l1Cur_anyPath.j1 (k + 1) y0 y1 y2 y3 y4))
 | 0 => ⟨fun _ _ _ _ r h => by simp [spec_l1Cur_anyPath.l0] at h, fun _ _ _ _ _ r h => by simp [spec_l1Cur_anyPath.j1] at h⟩
 | k + 1 => by
  obtain ⟨ih0, ih1⟩ := spec_l1Cur_anyPath.mono_l k
  refine ⟨?_, ?_⟩
  ·intro y0 y1 y2 y3
   unfold spec_l1Cur_anyPath.l0
   repeat' first
   | (with_reducible exact ih0 _ _ _ _)
   | (with_reducible exact ih1 _ _ _ _ _)
   | (with_reducible exact spec_l1Cur_goodPath.mono _ _ _ _ _)
   | (with_reducible exact spec_l1Cur_path.mono _ _ _ _ _)
   | (with_reducible exact spec_l1Cur_spoilt.mono _ _ _ _ _ _)
   | (with_reducible exact LeO.refl _)
   | (with_reducible exact LeO.none _)
   | (with_reducible refine LeO.ite ?_ ?_)
   | (with_reducible refine LeO.bind ?_ (fun _ => ?_))
   | exact ih0 _ _ _ _
   | exact ih1 _ _ _ _ _
   | exact spec_l1Cur_goodPath.mono _ _ _ _ _
   | exact spec_l1Cur_path.mono _ _ _ _ _
   | exact spec_l1Cur_spoilt.mono _ _ _ _ _ _
   | exact LeO.none _
   | refine LeO.ite ?_ ?_
   | refine LeO.bind ?_ (fun _ => ?_)
  ·intro y0 y1 y2 y3 y4
   unfold spec_l1Cur_anyPath.j1
   repeat' first
   | (with_reducible exact ih0 _ _ _ _)
   | (with_reducible exact ih1 _ _ _ _ _)
   | (with_reducible exact spec_l1Cur_goodPath.mono _ _ _ _ _)
   | (with_reducible exact spec_l1Cur_path.mono _ _ _ _ _)
   | (with_reducible exact spec_l1Cur_spoilt.mono _ _ _ _ _ _)
   | (with_reducible exact LeO.refl _)
   | (with_reducible exact LeO.none _)
   | (with_reducible refine LeO.ite ?_ ?_)
   | (with_reducible refine LeO.bind ?_ (fun _ => ?_))
   | exact ih0 _ _ _ _
   | exact ih1 _ _ _ _ _
   | exact spec_l1Cur_goodPath.mono _ _ _ _ _
   | exact spec_l1Cur_path.mono _ _ _ _ _
   | exact spec_l1Cur_spoilt.mono _ _ _ _ _ _
   | exact LeO.none _
   | refine LeO.ite ?_ ?_
   | refine LeO.bind ?_ (fun _ => ?_)
theorem spec_l1Cur_anyPath.mono : ∀ a0 a1 a2 a3 k, LeO (spec_l1Cur_anyPath.f k a0 a1 a2 a3) (spec_l1Cur_anyPath.f (k + 1) a0 a1 a2 a3) := by
 intro a0 a1 a2 a3 k
 obtain ⟨ih0, ih1⟩ := spec_l1Cur_anyPath.mono_l k
 unfold spec_l1Cur_anyPath.f
 repeat' first
   | (with_reducible exact ih0 _ _ _ _)
   | (with_reducible exact ih1 _ _ _ _ _)
   | (with_reducible exact spec_l1Cur_goodPath.mono _ _ _ _ _)
   | (with_reducible exact spec_l1Cur_path.mono _ _ _ _ _)
   | (with_reducible exact spec_l1Cur_spoilt.mono _ _ _ _ _ _)
   | (with_reducible exact LeO.refl _)
   | (with_reducible exact LeO.none _)
   | (with_reducible refine LeO.ite ?_ ?_)
   | (with_reducible refine LeO.bind ?_ (fun _ => ?_))
   | exact ih0 _ _ _ _
   | exact ih1 _ _ _ _ _
   | exact spec_l1Cur_goodPath.mono _ _ _ _ _
   | exact spec_l1Cur_path.mono _ _ _ _ _
   | exact spec_l1Cur_spoilt.mono _ _ _ _ _ _
   | exact LeO.none _
   | refine LeO.ite ?_ ?_
   | refine LeO.bind ?_ (fun _ => ?_)
set_option maxHeartbeats 8000000 in
set_option maxRecDepth 100000 in
theorem spec_l1Cur_anyPath.calls (k : Nat) (g : Nat) (s0_0 : List Int) (s0_1 : Int) (s0_2 : Int) (a1 : Int) (r1 : ByteArray) (r2 : Int) (r3 : Int) (w0 w : World) (hI : IsS91 w0 w g s0_0 s0_1 s0_2) (hB : Below w0.heap.size w0 w) (h : spec_l1Cur_anyPath.f k s0_0 s0_1 s0_2 a1 = some (r1, r2, r3)) :
  Calls Tryd.prog 72 #[.pointer (some ⟨g, 0, none⟩), .int .i64 a1] w fun e w' => e = .returned (.string r1) ∧ IsS91 w0 w' g s0_0 r2 r3 ∧ Below w0.heap.size w0 w' ∧ KeepBut w w' g none := by
 have HI0 := Aside0.mk hI
 have HK := Aside0.mk (KeepBut.refl w g none)
 have HL := Aside0.mk hB.size
 clear hI
 have HW0 := Aside0.mk hB.size
 have HB := Aside0.mk hB
 clear hB
 have H : ((spec_l1Cur_pick.f s0_0 s0_1 s0_2 16).bind fun bt281 => (if bt281.1 = 0 then ((spec_l1Cur_path.f k s0_0 bt281.2.1 bt281.2.2 a1).bind fun bt284 => ((spec_l1Cur_spoilt.f k s0_0 bt284.2.1 bt284.2.2 bt284.1 (⟨#[85, 68, 88, 32, 117]⟩ : ByteArray)).bind fun bt287 => (some (bt287.1, bt287.2.1, bt287.2.2)))) else (if bt281.1 = 1 then (spec_l1Cur_anyPath.l0 k (⟨#[]⟩ : ByteArray) s0_0 bt281.2.1 bt281.2.2) else (if bt281.1 = 2 then (spec_l1Cur_anyPath.j1 k a1 (bt281.1 == 2) s0_0 bt281.2.1 bt281.2.2) else (if bt281.1 = 3 then (spec_l1Cur_anyPath.j1 k a1 (bt281.1 == 3) s0_0 bt281.2.1 bt281.2.2) else (if bt281.1 = 4 then (spec_l1Cur_anyPath.j1 k a1 (bt281.1 == 4) s0_0 bt281.2.1 bt281.2.2) else (if bt281.1 = 5 then (spec_l1Cur_anyPath.j1 k a1 (bt281.1 == 5) s0_0 bt281.2.1 bt281.2.2) else (spec_l1Cur_anyPath.j1 k a1 (bt281.1 == 6) s0_0 bt281.2.1 bt281.2.2)))))))) = some (r1, r2, r3) := h
 clear h
 replace H := Option.bind_eq_some_iff.mp H
 obtain ⟨⟨t281, t282, t283⟩, A30, H⟩ := H
 replace H : (if t281 = 0 then ((spec_l1Cur_path.f k s0_0 t282 t283 a1).bind fun bt284 => ((spec_l1Cur_spoilt.f k s0_0 bt284.2.1 bt284.2.2 bt284.1 (⟨#[85, 68, 88, 32, 117]⟩ : ByteArray)).bind fun bt287 => (some (bt287.1, bt287.2.1, bt287.2.2)))) else (if t281 = 1 then (spec_l1Cur_anyPath.l0 k (⟨#[]⟩ : ByteArray) s0_0 t282 t283) else (if t281 = 2 then (spec_l1Cur_anyPath.j1 k a1 (t281 == 2) s0_0 t282 t283) else (if t281 = 3 then (spec_l1Cur_anyPath.j1 k a1 (t281 == 3) s0_0 t282 t283) else (if t281 = 4 then (spec_l1Cur_anyPath.j1 k a1 (t281 == 4) s0_0 t282 t283) else (if t281 = 5 then (spec_l1Cur_anyPath.j1 k a1 (t281 == 5) s0_0 t282 t283) else (spec_l1Cur_anyPath.j1 k a1 (t281 == 6) s0_0 t282 t283))))))) = some (r1, r2, r3) := H
 have A3 := Aside0.mk A30
 clear A30
 by_cases c4 : t281 = 0
 ·rw [if_pos c4] at H
  have c4b0 : (t281 == 0) = true := beq_iff_eq.mpr c4
  have c4b1 : (t281 != 0) = false := bne_eq_false_iff_eq.mpr c4
  clear c4
  replace H := Option.bind_eq_some_iff.mp H
  obtain ⟨⟨t284, t285, t286⟩, A50, H⟩ := H
  replace H : ((spec_l1Cur_spoilt.f k s0_0 t285 t286 t284 (⟨#[85, 68, 88, 32, 117]⟩ : ByteArray)).bind fun bt287 => (some (bt287.1, bt287.2.1, bt287.2.2))) = some (r1, r2, r3) := H
  have A5 := Aside0.mk A50
  clear A50
  replace H := Option.bind_eq_some_iff.mp H
  obtain ⟨⟨t287, t288, t289⟩, A60, H⟩ := H
  replace H : (some (t287, t288, t289)) = some (r1, r2, r3) := H
  have A6 := Aside0.mk A60
  clear A60
  simp only [Option.some.injEq, Prod.mk.injEq] at H
  obtain ⟨rfl, rfl, rfl⟩ := H
  go_enter Tryd.func72, Tryd.ntmps72
  go_wp2_with (first | ((with_reducible refine gate_callee (f := 79) rfl ?_); refine goesL_ (some 7) rfl rfl Tryd.func79 (by kernel_rfl) rfl #[.pointer (some ⟨g, 0, none⟩), .int .i64 16] rfl z4 ?_; (with_reducible refine (spec_l1Cur_pick.calls g s0_0 s0_1 s0_2 16 t281 t282 t283 w0 _ ?side1 ?side2 A3.out).mono ?_); (case side1 => repeat (first | (with_reducible first | exact HI0.out | apply IsS91.alloc | apply IsS91.drewN | apply IsS91.drew | apply IsS91.set_1 | apply IsS91.set_2) | exact HI0.out)); (case side2 => exact zB1 HB (IsS91.ge HI0.out)); rintro e w7 ⟨rfl, hi, hb, hk⟩; refine ⟨_, rfl, ?_⟩; have n0_ := Aside0.mk (KeepBut.trans (zH HK) hk (.inl rfl)); have n1_ := Aside0.mk (hb); have n2_ := Aside0.mk (hi); clear HK; clear HB; clear HI0; have HK := n0_; have HB := n1_; have HI0 := n2_; clear n0_ n1_ n2_; (try clear hb); (try clear hb2); (try clear hk); (try clear hi)) | ((with_reducible refine gate_callee (f := 101) rfl ?_); refine goesL_ (some 13) rfl rfl Tryd.func101 (by kernel_rfl) rfl #[.pointer (some ⟨g, 0, none⟩), .int .i64 a1] rfl z4 ?_; (with_reducible refine (spec_l1Cur_path.calls k g s0_0 t282 t283 a1 t284 t285 t286 w0 _ ?side1 ?side2 A5.out).mono ?_); (case side1 => repeat (first | (with_reducible first | exact HI0.out | apply IsS91.alloc | apply IsS91.drewN | apply IsS91.drew | apply IsS91.set_1 | apply IsS91.set_2) | exact HI0.out)); (case side2 => exact zB1 HB (IsS91.ge HI0.out)); rintro e w8 ⟨rfl, hi, hb, hk⟩; refine ⟨_, rfl, ?_⟩; have n0_ := Aside0.mk (KeepBut.trans (zH HK) hk (.inl rfl)); have n1_ := Aside0.mk (hb); have n2_ := Aside0.mk (hi); clear HK; clear HB; clear HI0; have HK := n0_; have HB := n1_; have HI0 := n2_; clear n0_ n1_ n2_; (try clear hb); (try clear hb2); (try clear hk); (try clear hi)) | ((with_reducible refine gate_callee (f := 100) rfl ?_); refine goesL_ (some 14) rfl rfl Tryd.func100 (by kernel_rfl) rfl #[.pointer (some ⟨g, 0, none⟩), .string t284, .string (⟨#[85, 68, 88, 32, 117]⟩ : ByteArray)] rfl z4 ?_; (with_reducible refine (spec_l1Cur_spoilt.calls k g s0_0 t285 t286 t284 (⟨#[85, 68, 88, 32, 117]⟩ : ByteArray) t287 t288 t289 w0 _ ?side1 ?side2 A6.out).mono ?_); (case side1 => repeat (first | (with_reducible first | exact HI0.out | apply IsS91.alloc | apply IsS91.drewN | apply IsS91.drew | apply IsS91.set_1 | apply IsS91.set_2) | exact HI0.out)); (case side2 => exact zB1 HB (IsS91.ge HI0.out)); rintro e w9 ⟨rfl, hi, hb, hk⟩; refine ⟨_, rfl, ?_⟩; have n0_ := Aside0.mk (KeepBut.trans (zH HK) hk (.inl rfl)); have n1_ := Aside0.mk (hb); have n2_ := Aside0.mk (hi); clear HK; clear HB; clear HI0; have HK := n0_; have HB := n1_; have HI0 := n2_; clear n0_ n1_ n2_; (try clear hb); (try clear hb2); (try clear hk); (try clear hi)))
  go_ret
  exact ⟨z2, by (try simp only [Int.add_zero]); repeat (first | (with_reducible first | exact HI0.out | apply IsS91.alloc | apply IsS91.drewN | apply IsS91.drew | apply IsS91.set_1 | apply IsS91.set_2) | exact HI0.out), zB1 HB (IsS91.ge HI0.out), zH HK⟩
 ·rw [if_neg c4] at H
  have c4b0 : (t281 == 0) = false := beq_eq_false_iff_ne.mpr c4
  have c4b1 : (t281 != 0) = true := bne_iff_ne.mpr c4
  by_cases c10 : t281 = 1
  ·rw [if_pos c10] at H
   have c10b0 : (t281 == 1) = true := beq_iff_eq.mpr c10
   have c10b1 : (t281 != 1) = false := bne_eq_false_iff_eq.mpr c10
   clear c10
   have H' := Aside0.mk H
   clear H
   go_enter Tryd.func72, Tryd.ntmps72
   go_wp2_with (first | ((with_reducible refine gate_callee (f := 79) rfl ?_); refine goesL_ (some 7) rfl rfl Tryd.func79 (by kernel_rfl) rfl #[.pointer (some ⟨g, 0, none⟩), .int .i64 16] rfl z4 ?_; (with_reducible refine (spec_l1Cur_pick.calls g s0_0 s0_1 s0_2 16 t281 t282 t283 w0 _ ?side1 ?side2 A3.out).mono ?_); (case side1 => repeat (first | (with_reducible first | exact HI0.out | apply IsS91.alloc | apply IsS91.drewN | apply IsS91.drew | apply IsS91.set_1 | apply IsS91.set_2) | exact HI0.out)); (case side2 => exact zB1 HB (IsS91.ge HI0.out)); rintro e w11 ⟨rfl, hi, hb, hk⟩; refine ⟨_, rfl, ?_⟩; have n0_ := Aside0.mk (KeepBut.trans (zH HK) hk (.inl rfl)); have n1_ := Aside0.mk (hb); have n2_ := Aside0.mk (hi); clear HK; clear HB; clear HI0; have HK := n0_; have HB := n1_; have HI0 := n2_; clear n0_ n1_ n2_; (try clear hb); (try clear hb2); (try clear hk); (try clear hi)))
   go_loopg [5] k (fun kq v5 w' => ∃ (x5_1 : ByteArray) (x1001_1 : Int) (x1002_1 : Int), v5 = .string x5_1 ∧ Aside0 (spec_l1Cur_anyPath.l0 kq x5_1 s0_0 x1001_1 x1002_1 = some (r1, r2, r3)) ∧ Aside0 (kq ≤ k) ∧ Aside0 (IsS91 w0 w' g s0_0 x1001_1 x1002_1) ∧ Aside0 (KeepBut w w' g none) ∧ Aside0 (Below w0.heap.size w0 w'))
   case atStart => exact ⟨((⟨#[]⟩ : ByteArray)), (t282), (t283), (z1), H', ⟨Nat.le_refl _⟩, ⟨by (try simp only [Int.add_zero]); repeat (first | (with_reducible first | exact HI0.out | apply IsS91.alloc | apply IsS91.drewN | apply IsS91.drew | apply IsS91.set_1 | apply IsS91.set_2) | exact HI0.out)⟩, ⟨zH HK⟩, ⟨zB1 HB (IsS91.ge HI0.out)⟩⟩
   case round =>
    clear H'
    try clear c1
    try clear p2
    try clear c4
    try clear c4b0
    try clear c4b1
    try clear c7
    try clear c10
    try clear c10b0
    try clear c10b1
    obtain ⟨x5_1, x1001_1, x1002_1, rfl, HA, HK1, HI0, HK, HB⟩ := hrel
    cases gk with
    | zero => exact absurd HA.out (by simp [spec_l1Cur_anyPath.l0])
    | succ k1 =>
     have H := HA.out
     clear HA
     simp only [spec_l1Cur_anyPath.l0] at H
     replace H := Option.bind_eq_some_iff.mp H
     obtain ⟨⟨t290, t291, t292⟩, A120, H⟩ := H
     replace H : (if (x5_1.size : Int) < (wrap64 (40 + t290)) then ((spec_l1Cur_of.f s0_0 t291 t292 (([(⟨#[85, 68]⟩ : ByteArray), (⟨#[68, 85]⟩ : ByteArray), (⟨#[85, 85]⟩ : ByteArray)] : List ByteArray))).bind fun bt296 => (if x5_1.size + bt296.1.size ≤ 9223372036854775807 then (spec_l1Cur_anyPath.l0 k1 (x5_1 ++ bt296.1) s0_0 bt296.2.1 bt296.2.2) else (none))) else (some (x5_1, t291, t292))) = some (r1, r2, r3) := H
     have A12 := Aside0.mk A120
     clear A120
     by_cases c13 : (x5_1.size : Int) < (wrap64 (40 + t290))
     ·rw [if_pos c13] at H
      have c13b0 : decide ((x5_1.size : Int) < (wrap64 (40 + t290))) = true := decide_eq_true c13
      clear c13
      obtain ⟨y293, hy293⟩ : ∃ y_ : List ByteArray, y_ = (([(⟨#[85, 68]⟩ : ByteArray), (⟨#[68, 85]⟩ : ByteArray), (⟨#[85, 85]⟩ : ByteArray)] : List ByteArray)) := ⟨_, rfl⟩
      replace H : ((spec_l1Cur_of.f s0_0 t291 t292 y293).bind fun bt296 => (if x5_1.size + bt296.1.size ≤ 9223372036854775807 then (spec_l1Cur_anyPath.l0 k1 (x5_1 ++ bt296.1) s0_0 bt296.2.1 bt296.2.2) else (none))) = some (r1, r2, r3) := by first | (rw [hy293]; with_reducible exact H) | (have H2_ := (Option.bind_some _ _).symm.trans H; rw [hy293]; with_reducible exact H2_) | (have H2_ := (Option.bind_some _ _).symm.trans H; with_reducible exact H2_) | with_reducible exact H | (rw [hy293]; exact H) | exact H
      have Ny293 := Aside0.mk hy293
      clear hy293
      replace H := Option.bind_eq_some_iff.mp H
      obtain ⟨⟨t296, t297, t298⟩, A140, H⟩ := H
      replace H : (if x5_1.size + t296.size ≤ 9223372036854775807 then (spec_l1Cur_anyPath.l0 k1 (x5_1 ++ t296) s0_0 t297 t298) else (none)) = some (r1, r2, r3) := H
      have A14 := Aside0.mk A140
      clear A140
      by_cases c15 : x5_1.size + t296.size ≤ 9223372036854775807
      ·rw [if_pos c15] at H
       have c15b0 := eq_true c15
       have c15b1 : decide (x5_1.size + t296.size ≤ 9223372036854775807) = true := decide_eq_true c15
       try have c15b2 : (9223372036854775807 < x5_1.size + t296.size) = False := eq_false (Nat.not_lt.2 c15)
       have H' := Aside0.mk H
       clear H
       go_wp2_with (first | ((with_reducible refine gate_callee (f := 79) rfl ?_); refine goesL_ (some 20) rfl rfl Tryd.func79 (by kernel_rfl) rfl #[.pointer (some ⟨g, 0, none⟩), .int .i64 2] rfl z4 ?_; (with_reducible refine (spec_l1Cur_pick.calls g s0_0 x1001_1 x1002_1 2 t290 t291 t292 w0 _ ?side1 ?side2 A12.out).mono ?_); (case side1 => repeat (first | (with_reducible first | exact HI0.out | apply IsS91.alloc | apply IsS91.drewN | apply IsS91.drew | apply IsS91.set_1 | apply IsS91.set_2) | exact HI0.out)); (case side2 => exact zB1 HB (IsS91.ge HI0.out)); rintro e w16 ⟨rfl, hi, hb, hk⟩; refine ⟨_, rfl, ?_⟩; have n0_ := Aside0.mk (KeepBut.trans (zH HK) hk (.inl rfl)); have n1_ := Aside0.mk (hb); have n2_ := Aside0.mk (hi); clear HK; clear HB; clear HI0; have HK := n0_; have HB := n1_; have HI0 := n2_; clear n0_ n1_ n2_; (try clear hb); (try clear hb2); (try clear hk); (try clear hi)) | ((with_reducible refine gate_dst (N := 25) rfl ?_); refine Kd.R_lit Kd.string _ 9 ?hg (N := 25) ?hd (xs := ([(⟨#[85, 68]⟩ : ByteArray), (⟨#[68, 85]⟩ : ByteArray), (⟨#[85, 85]⟩ : ByteArray)] : List ByteArray)) (inner := [.string (⟨#[85, 68]⟩ : ByteArray), .string (⟨#[68, 85]⟩ : ByteArray), .string (⟨#[85, 85]⟩ : ByteArray)]) (ok := fun _ => True) (okp := fun _ => True) ?hr ?hp (fun _ hk => hk) trivial (Below.refl _ _) (Nat.le_refl _) (by simp) ?_; (case hd => rfl); (case hg => rfl); (case hr => first | (go_simp; done) | (go_simp; rfl)); (case hp => exact (Reps.one (show Kd.M Kd.string _ _ _ (⟨#[85, 68]⟩ : ByteArray) [.string (⟨#[85, 68]⟩ : ByteArray)] from rfl) (Reps.one (show Kd.M Kd.string _ _ _ (⟨#[68, 85]⟩ : ByteArray) [.string (⟨#[68, 85]⟩ : ByteArray)] from rfl) (Reps.one (show Kd.M Kd.string _ _ _ (⟨#[85, 85]⟩ : ByteArray) [.string (⟨#[85, 85]⟩ : ByteArray)] from rfl) (Reps.none _ _))))); intro v294 w17 ho18 hb hg_ hnew_; clear hg_ hnew_; (first | rw [← Ny293.out] at ho18 | (simp only [Int.reduceToNat] at ho18; rw [← Ny293.out] at ho18)); have n0_ := Aside0.mk (Kd.R_lower ho18 (keep_size (w := w) (g := g) (row := none) (zH HK))); have n1_ := Aside0.mk (IsS91.below (by (try simp only [Int.add_zero]); repeat (first | (with_reducible first | exact HI0.out | apply IsS91.alloc | apply IsS91.drewN | apply IsS91.drew | apply IsS91.set_1 | apply IsS91.set_2) | exact HI0.out)) hb); have n2_ := Aside0.mk (KeepBut.trans (zH HK) (KeepBut.of_below hb g none) (.inl rfl)); have n3_ := Aside0.mk (below_step (zB1 HB (IsS91.ge HI0.out)) hb); clear HI0; clear HK; clear HB; have HO295 := n0_; have HI0 := n1_; have HK := n2_; have HB := n3_; clear n0_ n1_ n2_ n3_; clear hb ho18; obtain ⟨Ao19, co19, eo19⟩ := Kd.R_slice HO295.out; subst eo19) | ((with_reducible refine gate_callee (f := 102) rfl ?_); refine goesL_ (some 26) rfl rfl Tryd.func102 (by kernel_rfl) rfl #[.pointer (some ⟨g, 0, none⟩), .slice Ao19 y293.length co19] rfl z4 ?_; (with_reducible refine (spec_l1Cur_of.calls g s0_0 t291 t292 _ _ y293 t296 t297 t298 w0 _ ?side1 ?side2 ?side3 ?side4 ?side5 A14.out).mono ?_); (case side1 => repeat (first | (with_reducible first | exact HI0.out | apply IsS91.alloc | apply IsS91.drewN | apply IsS91.drew | apply IsS91.set_1 | apply IsS91.set_2) | exact HI0.out)); (case side2 => exact zB1 HB (IsS91.ge HI0.out)); (case side3 => repeat (first | exact (Kd.R_reads' HO295.out).2.2 | (with_reducible refine Kd.C_alloc ?_ _) | (with_reducible refine Kd.C_drewN ?_ _) | (with_reducible refine Kd.C_drew ?_))); (case side4 => exact (Kd.R_reads' HO295.out).2.1); (case side5 => exact far_slice (IsS91.own_ne HI0.out HO295.out (by decide))); rintro e w20 ⟨rfl, hi, hb, hk⟩; refine ⟨_, rfl, ?_⟩; have n0_ := Aside0.mk (Kd.R_mono (Kd.R_keep (IsS91.apart (show IsS91 w0 _ g s0_0 t291 t292 from by (try simp only [Int.add_zero]); repeat (first | (with_reducible first | exact HI0.out | apply IsS91.alloc | apply IsS91.drewN | apply IsS91.drew | apply IsS91.set_1 | apply IsS91.set_2) | exact HI0.out)) (zR HO295) (by decide)) hk (fun _ h => h.2)) (fun _ h => h.1)); have n1_ := Aside0.mk (KeepBut.trans (zH HK) hk (.inl rfl)); have n2_ := Aside0.mk (hb); have n3_ := Aside0.mk (hi); clear HO295; clear HK; clear HB; clear HI0; have HO295 := n0_; have HK := n1_; have HB := n2_; have HI0 := n3_; clear n0_ n1_ n2_ n3_; (try clear hb); (try clear hb2); (try clear hk); (try clear hi)))
       go_roundg k1
       case measure => have := HK1.out; omega
       case rel => exact ⟨(x5_1 ++ t296), (t297), (t298), (z1), H', ⟨by have := HK1.out; omega⟩, ⟨by (try simp only [Int.add_zero]); repeat (first | (with_reducible first | exact HI0.out | apply IsS91.alloc | apply IsS91.drewN | apply IsS91.drew | apply IsS91.set_1 | apply IsS91.set_2) | exact HI0.out)⟩, ⟨zH HK⟩, ⟨zB1 HB (IsS91.ge HI0.out)⟩⟩
      ·rw [if_neg c15] at H
       exact absurd H (by simp)
     ·rw [if_neg c13] at H
      have c13b0 : decide ((x5_1.size : Int) < (wrap64 (40 + t290))) = false := decide_eq_false c13
      clear c13
      simp only [Option.some.injEq, Prod.mk.injEq] at H
      obtain ⟨rfl, rfl, rfl⟩ := H
      go_wp2_with (first | ((with_reducible refine gate_callee (f := 79) rfl ?_); refine goesL_ (some 20) rfl rfl Tryd.func79 (by kernel_rfl) rfl #[.pointer (some ⟨g, 0, none⟩), .int .i64 2] rfl z4 ?_; (with_reducible refine (spec_l1Cur_pick.calls g s0_0 x1001_1 x1002_1 2 t290 t291 t292 w0 _ ?side1 ?side2 A12.out).mono ?_); (case side1 => repeat (first | (with_reducible first | exact HI0.out | apply IsS91.alloc | apply IsS91.drewN | apply IsS91.drew | apply IsS91.set_1 | apply IsS91.set_2) | exact HI0.out)); (case side2 => exact zB1 HB (IsS91.ge HI0.out)); rintro e w21 ⟨rfl, hi, hb, hk⟩; refine ⟨_, rfl, ?_⟩; have n0_ := Aside0.mk (KeepBut.trans (zH HK) hk (.inl rfl)); have n1_ := Aside0.mk (hb); have n2_ := Aside0.mk (hi); clear HK; clear HB; clear HI0; have HK := n0_; have HB := n1_; have HI0 := n2_; clear n0_ n1_ n2_; (try clear hb); (try clear hb2); (try clear hk); (try clear hi)))
      go_ret
      exact ⟨z2, by (try simp only [Int.add_zero]); repeat (first | (with_reducible first | exact HI0.out | apply IsS91.alloc | apply IsS91.drewN | apply IsS91.drew | apply IsS91.set_1 | apply IsS91.set_2) | exact HI0.out), zB1 HB (IsS91.ge HI0.out), zH HK⟩
  ·rw [if_neg c10] at H
   have c10b0 : (t281 == 1) = false := beq_eq_false_iff_ne.mpr c10
   have c10b1 : (t281 != 1) = true := bne_iff_ne.mpr c10
   have HC22 := Aside0.mk H
   clear H
   go_enter Tryd.func72, Tryd.ntmps72
   go_upto_if 29 with (first | ((with_reducible refine gate_callee (f := 79) rfl ?_); refine goesL_ (some 7) rfl rfl Tryd.func79 (by kernel_rfl) rfl #[.pointer (some ⟨g, 0, none⟩), .int .i64 16] rfl z4 ?_; (with_reducible refine (spec_l1Cur_pick.calls g s0_0 s0_1 s0_2 16 t281 t282 t283 w0 _ ?side1 ?side2 A3.out).mono ?_); (case side1 => repeat (first | (with_reducible first | exact HI0.out | apply IsS91.alloc | apply IsS91.drewN | apply IsS91.drew | apply IsS91.set_1 | apply IsS91.set_2) | exact HI0.out)); (case side2 => exact zB1 HB (IsS91.ge HI0.out)); rintro e w23 ⟨rfl, hi, hb, hk⟩; refine ⟨_, rfl, ?_⟩; have n0_ := Aside0.mk (KeepBut.trans (zH HK) hk (.inl rfl)); have n1_ := Aside0.mk (hb); have n2_ := Aside0.mk (hi); clear HK; clear HB; clear HI0; have HK := n0_; have HB := n1_; have HI0 := n2_; clear n0_ n1_ n2_; (try clear hb); (try clear hb2); (try clear hk); (try clear hi)))
   (try simp only [Act.put, List.setIfInBounds_toArray, List.set_cons_zero, List.set_cons_succ])
   go_cut [29] (fun v29 wc => ∃ (kq : Nat) (x29_21 : Bool), v29 = .bool x29_21 ∧ Aside0 (spec_l1Cur_anyPath.j1 kq a1 x29_21 s0_0 t282 t283 = some (r1, r2, r3)) ∧ Aside0 (kq ≤ k) ∧ Aside0 (IsS91 w0 wc g s0_0 t282 t283) ∧ Aside0 (KeepBut w wc g none) ∧ Aside0 (Below w0.heap.size w0 wc))
   case first =>
    have H := HC22.out
    clear HC22
    by_cases c24 : t281 = 2
    ·rw [if_pos c24] at H
     have c24b0 : (t281 == 2) = true := beq_iff_eq.mpr c24
     have c24b1 : (t281 != 2) = false := bne_eq_false_iff_eq.mpr c24
     clear c24
     (first | rw [c24b0] | (simp only [i64_w, i32_w]; rw [c24b0]) | skip)
     have H' := Aside0.mk H
     clear H
     go_wp2
     go_meet
     case rel => exact ⟨_, ((t281 == 2)), (z1), H', ⟨by first | omega | exact Nat.le_refl _⟩, ⟨by (try simp only [Int.add_zero]); repeat (first | (with_reducible first | exact HI0.out | apply IsS91.alloc | apply IsS91.drewN | apply IsS91.drew | apply IsS91.set_1 | apply IsS91.set_2) | exact HI0.out)⟩, ⟨zH HK⟩, ⟨zB1 HB (IsS91.ge HI0.out)⟩⟩
    ·rw [if_neg c24] at H
     have c24b0 : (t281 == 2) = false := beq_eq_false_iff_ne.mpr c24
     have c24b1 : (t281 != 2) = true := bne_iff_ne.mpr c24
     (first | rw [c24b0] | (simp only [i64_w, i32_w]; rw [c24b0]) | skip)
     by_cases c25 : t281 = 3
     ·rw [if_pos c25] at H
      have c25b0 : (t281 == 3) = true := beq_iff_eq.mpr c25
      have c25b1 : (t281 != 3) = false := bne_eq_false_iff_eq.mpr c25
      clear c25
      have H' := Aside0.mk H
      clear H
      go_wp2
      go_meet
      case rel => exact ⟨_, ((t281 == 3)), (z1), H', ⟨by first | omega | exact Nat.le_refl _⟩, ⟨by (try simp only [Int.add_zero]); repeat (first | (with_reducible first | exact HI0.out | apply IsS91.alloc | apply IsS91.drewN | apply IsS91.drew | apply IsS91.set_1 | apply IsS91.set_2) | exact HI0.out)⟩, ⟨zH HK⟩, ⟨zB1 HB (IsS91.ge HI0.out)⟩⟩
     ·rw [if_neg c25] at H
      have c25b0 : (t281 == 3) = false := beq_eq_false_iff_ne.mpr c25
      have c25b1 : (t281 != 3) = true := bne_iff_ne.mpr c25
      by_cases c26 : t281 = 4
      ·rw [if_pos c26] at H
       have c26b0 : (t281 == 4) = true := beq_iff_eq.mpr c26
       have c26b1 : (t281 != 4) = false := bne_eq_false_iff_eq.mpr c26
       clear c26
       have H' := Aside0.mk H
       clear H
       go_wp2
       go_meet
       case rel => exact ⟨_, ((t281 == 4)), (z1), H', ⟨by first | omega | exact Nat.le_refl _⟩, ⟨by (try simp only [Int.add_zero]); repeat (first | (with_reducible first | exact HI0.out | apply IsS91.alloc | apply IsS91.drewN | apply IsS91.drew | apply IsS91.set_1 | apply IsS91.set_2) | exact HI0.out)⟩, ⟨zH HK⟩, ⟨zB1 HB (IsS91.ge HI0.out)⟩⟩
      ·rw [if_neg c26] at H
       have c26b0 : (t281 == 4) = false := beq_eq_false_iff_ne.mpr c26
       have c26b1 : (t281 != 4) = true := bne_iff_ne.mpr c26
       by_cases c27 : t281 = 5
       ·rw [if_pos c27] at H
        have c27b0 : (t281 == 5) = true := beq_iff_eq.mpr c27
        have c27b1 : (t281 != 5) = false := bne_eq_false_iff_eq.mpr c27
        clear c27
        have H' := Aside0.mk H
        clear H
        go_wp2
        go_meet
        case rel => exact ⟨_, ((t281 == 5)), (z1), H', ⟨by first | omega | exact Nat.le_refl _⟩, ⟨by (try simp only [Int.add_zero]); repeat (first | (with_reducible first | exact HI0.out | apply IsS91.alloc | apply IsS91.drewN | apply IsS91.drew | apply IsS91.set_1 | apply IsS91.set_2) | exact HI0.out)⟩, ⟨zH HK⟩, ⟨zB1 HB (IsS91.ge HI0.out)⟩⟩
       ·rw [if_neg c27] at H
        have c27b0 : (t281 == 5) = false := beq_eq_false_iff_ne.mpr c27
        have c27b1 : (t281 != 5) = true := bne_iff_ne.mpr c27
        have H' := Aside0.mk H
        clear H
        go_wp2
        go_meet
        case rel => exact ⟨_, ((t281 == 6)), (z1), H', ⟨by first | omega | exact Nat.le_refl _⟩, ⟨by (try simp only [Int.add_zero]); repeat (first | (with_reducible first | exact HI0.out | apply IsS91.alloc | apply IsS91.drewN | apply IsS91.drew | apply IsS91.set_1 | apply IsS91.set_2) | exact HI0.out)⟩, ⟨zH HK⟩, ⟨zB1 HB (IsS91.ge HI0.out)⟩⟩
   case rest =>
    clear HC22
    try clear c1
    try clear c2
    try clear p2
    try clear c4
    try clear c4b0
    try clear c4b1
    try clear p6
    try clear c7
    try clear c10
    try clear c10b0
    try clear c10b1
    try clear c13
    try clear c13b0
    try clear c15
    try clear c15b0
    try clear c15b1
    try clear c15b2
    try clear c24
    try clear c24b0
    try clear c24b1
    try clear c25
    try clear c25b0
    try clear c25b1
    try clear c26
    try clear c26b0
    try clear c26b1
    try clear c27
    try clear c27b0
    try clear c27b1
    try clear p2
    obtain ⟨kq, x29_21, rfl, HA, HJ21, HI0, HK, HB⟩ := hcut
    cases kq with
    | zero => exact absurd HA.out (by simp [spec_l1Cur_anyPath.j1])
    | succ kj21 =>
     have H := HA.out
     clear HA
     simp only [spec_l1Cur_anyPath.j1] at H
     by_cases c28 : x29_21 = true
     ·subst c28
      have H1 : ((spec_l1Cur_goodPath.f kj21 s0_0 t282 t283 (wrap64 (Int.tdiv a1 2))).bind fun bt299 => (some (bt299.1, bt299.2.1, bt299.2.2))) = some (r1, r2, r3) := by rw [if_pos rfl] at H; exact H
      clear H
      have H := H1
      clear H1
      replace H := Option.bind_eq_some_iff.mp H
      obtain ⟨⟨t299, t300, t301⟩, A290, H⟩ := H
      replace H : (some (t299, t300, t301)) = some (r1, r2, r3) := H
      have A29 := Aside0.mk A290
      clear A290
      simp only [Option.some.injEq, Prod.mk.injEq] at H
      obtain ⟨rfl, rfl, rfl⟩ := H
      go_wp2_with (first | ((with_reducible refine gate_callee (f := 103) rfl ?_); refine goesL_ (some 38) rfl rfl Tryd.func103 (by kernel_rfl) rfl #[.pointer (some ⟨g, 0, none⟩), .int .i64 (wrap64 (Int.tdiv a1 2))] rfl z4 ?_; (with_reducible refine (spec_l1Cur_goodPath.calls kj21 g s0_0 t282 t283 (wrap64 (Int.tdiv a1 2)) t299 t300 t301 w0 _ ?side1 ?side2 A29.out).mono ?_); (case side1 => repeat (first | (with_reducible first | exact HI0.out | apply IsS91.alloc | apply IsS91.drewN | apply IsS91.drew | apply IsS91.set_1 | apply IsS91.set_2) | exact HI0.out)); (case side2 => exact zB1 HB (IsS91.ge HI0.out)); rintro e w30 ⟨rfl, hi, hb, hk⟩; refine ⟨_, rfl, ?_⟩; have n0_ := Aside0.mk (KeepBut.trans (zH HK) hk (.inl rfl)); have n1_ := Aside0.mk (hb); have n2_ := Aside0.mk (hi); clear HK; clear HB; clear HI0; have HK := n0_; have HB := n1_; have HI0 := n2_; clear n0_ n1_ n2_; (try clear hb); (try clear hb2); (try clear hk); (try clear hi)))
      go_ret
      exact ⟨z2, by (try simp only [Int.add_zero]); repeat (first | (with_reducible first | exact HI0.out | apply IsS91.alloc | apply IsS91.drewN | apply IsS91.drew | apply IsS91.set_1 | apply IsS91.set_2) | exact HI0.out), zB1 HB (IsS91.ge HI0.out), zH HK⟩
     ·replace c28 := Bool.eq_false_iff.mpr c28
      subst c28
      have H1 : ((spec_l1Cur_path.f kj21 s0_0 t282 t283 a1).bind fun bt302 => (some (bt302.1, bt302.2.1, bt302.2.2))) = some (r1, r2, r3) := by rw [if_neg (show ¬ (false = true) by decide)] at H; exact H
      clear H
      have H := H1
      clear H1
      replace H := Option.bind_eq_some_iff.mp H
      obtain ⟨⟨t302, t303, t304⟩, A310, H⟩ := H
      replace H : (some (t302, t303, t304)) = some (r1, r2, r3) := H
      have A31 := Aside0.mk A310
      clear A310
      simp only [Option.some.injEq, Prod.mk.injEq] at H
      obtain ⟨rfl, rfl, rfl⟩ := H
      go_wp2_with (first | ((with_reducible refine gate_callee (f := 101) rfl ?_); refine goesL_ (some 41) rfl rfl Tryd.func101 (by kernel_rfl) rfl #[.pointer (some ⟨g, 0, none⟩), .int .i64 a1] rfl z4 ?_; (with_reducible refine (spec_l1Cur_path.calls kj21 g s0_0 t282 t283 a1 t302 t303 t304 w0 _ ?side1 ?side2 A31.out).mono ?_); (case side1 => repeat (first | (with_reducible first | exact HI0.out | apply IsS91.alloc | apply IsS91.drewN | apply IsS91.drew | apply IsS91.set_1 | apply IsS91.set_2) | exact HI0.out)); (case side2 => exact zB1 HB (IsS91.ge HI0.out)); rintro e w32 ⟨rfl, hi, hb, hk⟩; refine ⟨_, rfl, ?_⟩; have n0_ := Aside0.mk (KeepBut.trans (zH HK) hk (.inl rfl)); have n1_ := Aside0.mk (hb); have n2_ := Aside0.mk (hi); clear HK; clear HB; clear HI0; have HK := n0_; have HB := n1_; have HI0 := n2_; clear n0_ n1_ n2_; (try clear hb); (try clear hb2); (try clear hk); (try clear hi)))
      go_ret
      exact ⟨z2, by (try simp only [Int.add_zero]); repeat (first | (with_reducible first | exact HI0.out | apply IsS91.alloc | apply IsS91.drewN | apply IsS91.drew | apply IsS91.set_1 | apply IsS91.set_2) | exact HI0.out), zB1 HB (IsS91.ge HI0.out), zH HK⟩

end Go.Proofs.YtaacmpmjogpodaaDoor.PFnRotationsGood
