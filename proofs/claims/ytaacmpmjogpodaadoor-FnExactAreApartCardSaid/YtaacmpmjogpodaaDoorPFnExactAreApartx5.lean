-- Written by xprint.py (this session's own program, over the kit's print).
import Derived.Test.YtaacmpmjogpodaaDoorPFnExactAreApartx0
import Derived.Test.YtaacmpmjogpodaaDoorPFnExactAreApartx1
import Derived.Test.YtaacmpmjogpodaaDoorPFnExactAreApartx3
namespace Go.Proofs.YtaacmpmjogpodaaDoor.PFnExactAreApart
open Go.RowKit Go.Proofs.YtaacmpmjogpodaaDoorW.PrintWords Go.Proofs.YtaacmpmjogpodaaDoorW.PrintLast Go.Proofs.YtaacmpmjogpodaaDoorW.PrintMore
attribute [local go_sem] max2_int min2_int max_two min_two max_three min_three max_four min_four   -- for this text's walks alone
set_option linter.unusedVariables false
set_option linter.unusedSimpArgs false

attribute [local go_sem high] eqA51
/-! ### spec_ncMeet: function 81 -/
mutual
def spec_ncMeet.l0 : Nat → List (S51) → List (S51) → Int → Int → Option (Int × Int × Bool)
 | 0, _, _, _, _ => none
 | k + 1, x9, x25, x26, x27 => if x27 < x26 then (if 0 ≤ x27 then (if x27 < (x25.length : Int) then (spec_ncMeet.l1 k x9 x27 x25 x26 x27 x9 (x9.length : Int) 0 ((rd_T51 x25 x27).f0) ((rd_T51 x25 x27).f1)) else (none)) else (none)) else (some (0, 0, false))
def spec_ncMeet.l1 : Nat → List (S51) → Int → List (S51) → Int → Int → List (S51) → Int → Int → Int → Int → Option (Int × Int × Bool)
 | 0, _, _, _, _, _, _, _, _, _, _ => none
 | k + 1, x9, x11, x25, x26, x27, x32, x33, x34, x138000, x138001 => if x34 < x33 then (if 0 ≤ x34 then (if x34 < (x32.length : Int) then (if (x138000 == ((rd_T51 x32 x34).f0) && (x138001 == ((rd_T51 x32 x34).f1))) = true then (some (x11, x34, true)) else (spec_ncMeet.l1 k x9 x11 x25 x26 x27 x32 x33 (wrap64 (x34 + 1)) x138000 x138001)) else (none)) else (none)) else (spec_ncMeet.l0 k x9 x25 x26 (wrap64 (x27 + 1)))
end
def spec_ncMeet.f (k : Nat) (a0_0 : Int) (a0_1 : Int) (a0_2 : ByteArray) (a1_0 : Int) (a1_1 : Int) (a1_2 : ByteArray) : Option (Int × Int × Bool) := (spec_ncCells.f k a0_0 a0_1 a0_2).bind fun bt128 => ((spec_ncCells.f k a1_0 a1_1 a1_2).bind fun bt132 => (spec_ncMeet.l0 k bt132.1 bt128.1 (bt128.1.length : Int) 0))
theorem spec_ncMeet.mono_l : ∀ k, (∀ y0 y1 y2 y3, LeO (spec_ncMeet.l0 k y0 y1 y2 y3) (spec_ncMeet.l0 (k + 1) y0 y1 y2 y3)) ∧ (∀ y0 y1 y2 y3 y4 y5 y6 y7 y8 y9, LeO (spec_ncMeet.l1 k y0 y1 y2 y3 y4 y5 y6 y7 y8 y9) (spec_ncMeet.l1 (k + 1) y0 y1 y2 y3 y4 y5 y6 y7 y8 y9))
 | 0 => ⟨fun _ _ _ _ r h => by simp [spec_ncMeet.l0] at h, fun _ _ _ _ _ _ _ _ _ _ r h => by simp [spec_ncMeet.l1] at h⟩
 | k + 1 => by
  obtain ⟨ih0, ih1⟩ := spec_ncMeet.mono_l k
  refine ⟨?_, ?_⟩
  ·intro y0 y1 y2 y3
   unfold spec_ncMeet.l0
   repeat' first
   | (with_reducible exact ih0 _ _ _ _)
   | (with_reducible exact ih1 _ _ _ _ _ _ _ _ _ _)
   | (with_reducible exact spec_ncCells.mono _ _ _ _)
   | (with_reducible exact LeO.refl _)
   | (with_reducible exact LeO.none _)
   | (with_reducible refine LeO.ite ?_ ?_)
   | (with_reducible refine LeO.bind ?_ (fun _ => ?_))
   | exact ih0 _ _ _ _
   | exact ih1 _ _ _ _ _ _ _ _ _ _
   | exact spec_ncCells.mono _ _ _ _
   | exact LeO.none _
   | refine LeO.ite ?_ ?_
   | refine LeO.bind ?_ (fun _ => ?_)
  ·intro y0 y1 y2 y3 y4 y5 y6 y7 y8 y9
   unfold spec_ncMeet.l1
   repeat' first
   | (with_reducible exact ih0 _ _ _ _)
   | (with_reducible exact ih1 _ _ _ _ _ _ _ _ _ _)
   | (with_reducible exact spec_ncCells.mono _ _ _ _)
   | (with_reducible exact LeO.refl _)
   | (with_reducible exact LeO.none _)
   | (with_reducible refine LeO.ite ?_ ?_)
   | (with_reducible refine LeO.bind ?_ (fun _ => ?_))
   | exact ih0 _ _ _ _
   | exact ih1 _ _ _ _ _ _ _ _ _ _
   | exact spec_ncCells.mono _ _ _ _
   | exact LeO.none _
   | refine LeO.ite ?_ ?_
   | refine LeO.bind ?_ (fun _ => ?_)
theorem spec_ncMeet.mono : ∀ a0 a1 a2 a3 a4 a5 k, LeO (spec_ncMeet.f k a0 a1 a2 a3 a4 a5) (spec_ncMeet.f (k + 1) a0 a1 a2 a3 a4 a5) := by
 intro a0 a1 a2 a3 a4 a5 k
 obtain ⟨ih0, ih1⟩ := spec_ncMeet.mono_l k
 unfold spec_ncMeet.f
 repeat' first
   | (with_reducible exact ih0 _ _ _ _)
   | (with_reducible exact ih1 _ _ _ _ _ _ _ _ _ _)
   | (with_reducible exact spec_ncCells.mono _ _ _ _)
   | (with_reducible exact LeO.refl _)
   | (with_reducible exact LeO.none _)
   | (with_reducible refine LeO.ite ?_ ?_)
   | (with_reducible refine LeO.bind ?_ (fun _ => ?_))
   | exact ih0 _ _ _ _
   | exact ih1 _ _ _ _ _ _ _ _ _ _
   | exact spec_ncCells.mono _ _ _ _
   | exact LeO.none _
   | refine LeO.ite ?_ ?_
   | refine LeO.bind ?_ (fun _ => ?_)
set_option maxHeartbeats 8000000 in
set_option maxRecDepth 100000 in
theorem spec_ncMeet.calls (k : Nat) (a0_0 : Int) (a0_1 : Int) (a0_2 : ByteArray) (a1_0 : Int) (a1_1 : Int) (a1_2 : ByteArray) (r1 : Int) (r2 : Int) (r3 : Bool) (w : World) (h : spec_ncMeet.f k a0_0 a0_1 a0_2 a1_0 a1_1 a1_2 = some (r1, r2, r3)) :
  Calls Tryd.prog 81 #[.agg #[.int .i64 a0_0, .int .i64 a0_1, .string a0_2], .agg #[.int .i64 a1_0, .int .i64 a1_1, .string a1_2]] w fun e w' => e = .returned (.tuple #[.int .i64 r1, .int .i64 r2, .bool r3]) ∧ Below w.heap.size w w' := by
 have hu53 := Tryd.underlying53
 have hu51 := Tryd.underlying51
 have HB := Aside0.mk (Below.refl w.heap.size w)
 have H : ((spec_ncCells.f k a0_0 a0_1 a0_2).bind fun bt128 => ((spec_ncCells.f k a1_0 a1_1 a1_2).bind fun bt132 => (spec_ncMeet.l0 k bt132.1 bt128.1 (bt128.1.length : Int) 0))) = some (r1, r2, r3) := h
 clear h
 replace H := Option.bind_eq_some_iff.mp H
 obtain ⟨⟨t128, t131⟩, A30, H⟩ := H
 replace H : ((spec_ncCells.f k a1_0 a1_1 a1_2).bind fun bt132 => (spec_ncMeet.l0 k bt132.1 t128 (t128.length : Int) 0)) = some (r1, r2, r3) := H
 have A3 := Aside0.mk A30
 clear A30
 replace H := Option.bind_eq_some_iff.mp H
 obtain ⟨⟨t132, t135⟩, A40, H⟩ := H
 replace H : (spec_ncMeet.l0 k t132 t128 (t128.length : Int) 0) = some (r1, r2, r3) := H
 have A4 := Aside0.mk A40
 clear A40
 have H' := Aside0.mk H
 clear H
 go_enter Tryd.func81, Tryd.ntmps81
 go_wp2_with (first | ((with_reducible refine gate_dst (N := 2) rfl ?_); refine zbox 2 #[.int .i64 a0_0, .int .i64 a0_1, .string a0_2] 53 (h := ?_); intro gb126 hg w5 hbox hb; have n0_ := Aside0.mk (below_step (zB HB) hb); have n1_ := Aside0.mk (hbox); have n2_ := Aside0.mk ((by rw [hg]; exact (below_size (zB HB)) : w.heap.size ≤ gb126)); have n3_ := Aside0.mk ((by rw [hg]; exact (below_size (zB HB)) : w.heap.size ≤ gb126)); clear HB; have HB := n0_; have BK126 := n1_; have GW126 := n2_; have GE126 := n3_; clear n0_ n1_ n2_ n3_; clear hb hbox hg) | ((with_reducible refine gate_dst (N := 3) rfl ?_); refine zbox 3 #[.int .i64 a1_0, .int .i64 a1_1, .string a1_2] 53 (h := ?_); intro gb127 hg w6 hbox hb; have n0_ := Aside0.mk (blk_below (g := gb126) (o := .cells #[.int .i64 a0_0, .int .i64 a0_1, .string a0_2] 53 (0, 0)) (zK BK126) hb); have n1_ := Aside0.mk (below_step (zB1 HB GE126.out) hb); have n2_ := Aside0.mk (hbox); have n3_ := Aside0.mk ((by rw [hg]; exact (below_size (zB1 HB GE126.out)) : w.heap.size ≤ gb127)); have n4_ := Aside0.mk ((by rw [hg]; exact (below_size (zB1 HB GE126.out)) : w.heap.size ≤ gb127)); have n5_ := Aside0.mk ((by rw [hg]; exact Nat.ne_of_lt (blk_lt (g := gb126) (o := .cells #[.int .i64 a0_0, .int .i64 a0_1, .string a0_2] 53 (0, 0)) (zK BK126)) : gb126 ≠ gb127)); have n6_ := Aside0.mk ((by rw [hg]; exact Nat.ne_of_gt (blk_lt (g := gb126) (o := .cells #[.int .i64 a0_0, .int .i64 a0_1, .string a0_2] 53 (0, 0)) (zK BK126)) : gb127 ≠ gb126)); clear BK126; clear HB; have BK126 := n0_; have HB := n1_; have BK127 := n2_; have GW127 := n3_; have GE127 := n4_; have NB126_127 := n5_; have NB127_126 := n6_; clear n0_ n1_ n2_ n3_ n4_ n5_ n6_; clear hb hbox hg; have hnb7 := NB126_127.out; have hnc7 := NB127_126.out; have hcz8_0 : w6.cell? ⟨gb126, 0, none⟩ = some (.int .i64 a0_0) := (blk_cell BK126.out 0).trans rfl; have hcz8_1 : w6.cell? ⟨gb126, 1, none⟩ = some (.int .i64 a0_1) := (blk_cell BK126.out 1).trans rfl; have hcz8_2 : w6.cell? ⟨gb126, 2, none⟩ = some (.string a0_2) := (blk_cell BK126.out 2).trans rfl; have hfz8_0 := blk_frozen BK126.out 0; have hfz8_1 := blk_frozen BK126.out 1; have hfz8_2 := blk_frozen BK126.out 2) | ((with_reducible refine gate_callee (f := 83) rfl ?_); refine goesL_ (some 17) rfl rfl Tryd.func83 (by kernel_rfl) rfl #[.agg #[.int .i64 a0_0, .int .i64 a0_1, .string a0_2]] rfl z4 ?_; (with_reducible refine (spec_ncCells.calls k a0_0 a0_1 a0_2 t128 t131 _ A3.out).mono ?_); rintro e w9 ⟨v129, rfl, ho0, hb⟩; refine ⟨_, rfl, ?_⟩; have n0_ := Aside0.mk (Kd.R_lower ho0 (below_size (zB2 HB GE126.out GE127.out))); have n1_ := Aside0.mk (blk_below (g := gb126) (o := .cells #[.int .i64 a0_0, .int .i64 a0_1, .string a0_2] 53 (0, 0)) (zK BK126) hb); have n2_ := Aside0.mk (blk_below (g := gb127) (o := .cells #[.int .i64 a1_0, .int .i64 a1_1, .string a1_2] 53 (0, 0)) (zK BK127) hb); have n3_ := Aside0.mk (below_step (zB2 HB GE126.out GE127.out) hb); clear BK126; clear BK127; clear HB; have HO130 := n0_; have BK126 := n1_; have BK127 := n2_; have HB := n3_; clear n0_ n1_ n2_ n3_; (try clear hb); (try clear hb2); (try clear hk); (try clear hi); (try clear ho0); have hcz10_0 : w9.cell? ⟨gb127, 0, none⟩ = some (.int .i64 a1_0) := (blk_cell BK127.out 0).trans rfl; have hcz10_1 : w9.cell? ⟨gb127, 1, none⟩ = some (.int .i64 a1_1) := (blk_cell BK127.out 1).trans rfl; have hcz10_2 : w9.cell? ⟨gb127, 2, none⟩ = some (.string a1_2) := (blk_cell BK127.out 2).trans rfl; have hfz10_0 := blk_frozen BK127.out 0; have hfz10_1 := blk_frozen BK127.out 1; have hfz10_2 := blk_frozen BK127.out 2) | ((with_reducible refine gate_callee (f := 83) rfl ?_); refine goesL_ (some 22) rfl rfl Tryd.func83 (by kernel_rfl) rfl #[.agg #[.int .i64 a1_0, .int .i64 a1_1, .string a1_2]] rfl z4 ?_; (with_reducible refine (spec_ncCells.calls k a1_0 a1_1 a1_2 t132 t135 _ A4.out).mono ?_); rintro e w11 ⟨v133, rfl, ho0, hb⟩; refine ⟨_, rfl, ?_⟩; have n0_ := Aside0.mk (Kd.R_elder' (zR HO130) (Kd.R_base ho0) hb); have n1_ := Aside0.mk (Kd.R_lower (Kd.R_new' ho0 (Kd.R_lt (zR HO130))) (below_size (zB2 HB GE126.out GE127.out))); have n2_ := Aside0.mk (blk_below (g := gb126) (o := .cells #[.int .i64 a0_0, .int .i64 a0_1, .string a0_2] 53 (0, 0)) (zK BK126) hb); have n3_ := Aside0.mk (blk_below (g := gb127) (o := .cells #[.int .i64 a1_0, .int .i64 a1_1, .string a1_2] 53 (0, 0)) (zK BK127) hb); have n4_ := Aside0.mk (below_step (zB2 HB GE126.out GE127.out) hb); clear HO130; clear BK126; clear BK127; clear HB; have HO130 := n0_; have HO134 := n1_; have BK126 := n2_; have BK127 := n3_; have HB := n4_; clear n0_ n1_ n2_ n3_ n4_; (try clear hb); (try clear hb2); (try clear hk); (try clear hi); (try clear ho0); obtain ⟨Ao12, co12, eo12⟩ := Kd.R_slice HO130.out; subst eo12))
 go_loopg [27] k (fun kq v27 w' => ∃ (x27_1 : Int), v27 = .int .i64 x27_1 ∧ Aside0 (spec_ncMeet.l0 kq t132 t128 (t128.length : Int) x27_1 = some (r1, r2, r3)) ∧ Aside0 (kq ≤ k) ∧ Aside0 (Kd.R k51 51 w' w.heap.size (fun k_ => some k_ ≠ ((.slice Ao12 t128.length co12) : Value).ownBlock) v133 t132) ∧ Aside0 (Kd.R k51 51 w' w.heap.size (fun k_ => some k_ ≠ (v133 : Value).ownBlock) (.slice Ao12 t128.length co12) t128) ∧ Aside0 (w'.heap[gb126]? = some (.cells #[.int .i64 a0_0, .int .i64 a0_1, .string a0_2] 53 (0, 0))) ∧ Aside0 (w'.heap[gb127]? = some (.cells #[.int .i64 a1_0, .int .i64 a1_1, .string a1_2] 53 (0, 0))) ∧ Aside0 (Below w.heap.size w w'))
 case atStart => exact ⟨(0), (z1), H', ⟨Nat.le_refl _⟩, ⟨by (with_reducible repeat (first | apply Kd.R_alloc | apply Kd.R_drewN | apply Kd.R_drew)); exact Kd.R_mono HO134.out (fun _ hk => hk.2)⟩, ⟨by (with_reducible repeat (first | apply Kd.R_alloc | apply Kd.R_drewN | apply Kd.R_drew)); exact Kd.R_mono HO130.out (fun _ hk => hk.2)⟩, ⟨zK BK126⟩, ⟨zK BK127⟩, ⟨zB2 HB GE126.out GE127.out⟩⟩
 case round =>
  clear H'
  try clear p2
  try clear c7
  try clear c8
  try clear hcz10_0
  try clear hcz10_1
  try clear hcz10_2
  try clear hcz8_0
  try clear hcz8_1
  try clear hcz8_2
  try clear hfz10_0
  try clear hfz10_1
  try clear hfz10_2
  try clear hfz8_0
  try clear hfz8_1
  try clear hfz8_2
  obtain ⟨x27_1, rfl, HA, HK1, HO_9, HO_25, BK126, BK127, HB⟩ := hrel
  cases gk with
  | zero => exact absurd HA.out (by simp [spec_ncMeet.l0])
  | succ k1 =>
   have H := HA.out
   clear HA
   simp only [spec_ncMeet.l0] at H
   by_cases c13 : x27_1 < (t128.length : Int)
   ·rw [if_pos c13] at H
    have c13b0 : decide (x27_1 < (t128.length : Int)) = true := decide_eq_true c13
    clear c13
    by_cases c14 : 0 ≤ x27_1
    ·rw [if_pos c14] at H
     have c14b0 : decide (0 ≤ x27_1) = true := decide_eq_true c14
     clear c14
     by_cases c15 : x27_1 < (t128.length : Int)
     ·rw [if_pos c15] at H
      have c15b0 : decide (x27_1 < (t128.length : Int)) = true := decide_eq_true c15
      clear c15
      have H' := Aside0.mk H
      clear H
      have p136 : 0 ≤ (x27_1 : Int) := of_decide_eq_true z3
      have q136 : x27_1 < (t128.length : Int) := of_decide_eq_true z3
      obtain ⟨ad136, e136, hx136_0, hx136_1⟩ := at_T51 (Kd.R_reads' HO_25.out).2.2 x27_1 p136 q136
      cases e136
      replace p136 := eq_true p136
      replace q136 := eq_true q136
      go_wp2_with (first | ((with_reducible refine gate_dst (N := 12) rfl ?_); refine zbox 12 #[.int .i64 0, .int .i64 0] 51 (h := ?_); intro gb137 hg w16 hbox hb; have n0_ := Aside0.mk (Kd.R_below (Kd.R_elderB (zR HO_9) gb137 (Nat.le_of_eq hg.symm)) hb); have n1_ := Aside0.mk (Kd.R_below (Kd.R_elderB (zR HO_25) gb137 (Nat.le_of_eq hg.symm)) hb); have n2_ := Aside0.mk (blk_below (g := gb126) (o := .cells #[.int .i64 a0_0, .int .i64 a0_1, .string a0_2] 53 (0, 0)) (zK BK126) hb); have n3_ := Aside0.mk (blk_below (g := gb127) (o := .cells #[.int .i64 a1_0, .int .i64 a1_1, .string a1_2] 53 (0, 0)) (zK BK127) hb); have n4_ := Aside0.mk (below_step (zB2 HB GE126.out GE127.out) hb); have n5_ := Aside0.mk (hbox); have n6_ := Aside0.mk ((by rw [hg]; exact (below_size (zB2 HB GE126.out GE127.out)) : w.heap.size ≤ gb137)); have n7_ := Aside0.mk ((by rw [hg]; exact (below_size (zB2 HB GE126.out GE127.out)) : w.heap.size ≤ gb137)); have n8_ := Aside0.mk ((by rw [hg]; exact Nat.ne_of_lt (blk_lt (g := gb126) (o := .cells #[.int .i64 a0_0, .int .i64 a0_1, .string a0_2] 53 (0, 0)) (zK BK126)) : gb126 ≠ gb137)); have n9_ := Aside0.mk ((by rw [hg]; exact Nat.ne_of_gt (blk_lt (g := gb126) (o := .cells #[.int .i64 a0_0, .int .i64 a0_1, .string a0_2] 53 (0, 0)) (zK BK126)) : gb137 ≠ gb126)); have n10_ := Aside0.mk ((by rw [hg]; exact Nat.ne_of_lt (blk_lt (g := gb127) (o := .cells #[.int .i64 a1_0, .int .i64 a1_1, .string a1_2] 53 (0, 0)) (zK BK127)) : gb127 ≠ gb137)); have n11_ := Aside0.mk ((by rw [hg]; exact Nat.ne_of_gt (blk_lt (g := gb127) (o := .cells #[.int .i64 a1_0, .int .i64 a1_1, .string a1_2] 53 (0, 0)) (zK BK127)) : gb137 ≠ gb127)); clear HO_9; clear HO_25; clear BK126; clear BK127; clear HB; have HO_9 := n0_; have HO_25 := n1_; have BK126 := n2_; have BK127 := n3_; have HB := n4_; have BK137 := n5_; have GW137 := n6_; have GE137 := n7_; have NB126_137 := n8_; have NB137_126 := n9_; have NB127_137 := n10_; have NB137_127 := n11_; clear n0_ n1_ n2_ n3_ n4_ n5_ n6_ n7_ n8_ n9_ n10_ n11_; clear hb hbox hg; have hnb17 := NB137_126.out; have hnc17 := NB126_137.out; have hnb18 := NB137_127.out; have hnc18 := NB127_137.out; have hcz19_0 : w16.cell? ⟨gb137, 0, none⟩ = some (.int .i64 0) := (blk_cell BK137.out 0).trans rfl; have hcz19_1 : w16.cell? ⟨gb137, 1, none⟩ = some (.int .i64 0) := (blk_cell BK137.out 1).trans rfl; have hfz19_0 := blk_frozen BK137.out 0; have hfz19_1 := blk_frozen BK137.out 1; obtain ⟨Ao20, co20, eo20⟩ := Kd.R_slice HO_9.out; subst eo20))
      go_loopg [34] k1 (fun kq v34 w' => ∃ (x34_2 : Int), v34 = .int .i64 x34_2 ∧ Aside0 (spec_ncMeet.l1 kq t132 x27_1 t128 (t128.length : Int) x27_1 t132 (t132.length : Int) x34_2 ((rd_T51 t128 x27_1).f0) ((rd_T51 t128 x27_1).f1) = some (r1, r2, r3)) ∧ Aside0 (kq ≤ k1) ∧ Aside0 (Kd.R k51 51 w' w.heap.size (fun k_ => some k_ ≠ ((.slice (some ad136) t128.length co12) : Value).ownBlock ∧ k_ ≠ gb137) (.slice Ao20 t132.length co20) t132) ∧ Aside0 (Kd.R k51 51 w' w.heap.size (fun k_ => some k_ ≠ ((.slice Ao20 t132.length co20) : Value).ownBlock ∧ some k_ ≠ ((.slice Ao20 t132.length co20) : Value).ownBlock ∧ k_ ≠ gb137) (.slice (some ad136) t128.length co12) t128) ∧ Aside0 (Kd.R k51 51 w' w.heap.size (fun k_ => some k_ ≠ ((.slice (some ad136) t128.length co12) : Value).ownBlock ∧ k_ ≠ gb137) (.slice Ao20 t132.length co20) t132) ∧ Aside0 (w'.heap[gb126]? = some (.cells #[.int .i64 a0_0, .int .i64 a0_1, .string a0_2] 53 (0, 0))) ∧ Aside0 (w'.heap[gb127]? = some (.cells #[.int .i64 a1_0, .int .i64 a1_1, .string a1_2] 53 (0, 0))) ∧ Aside0 (w'.heap[gb137]? = some (.cells #[.int .i64 ((rd_T51 t128 x27_1).f0), .int .i64 ((rd_T51 t128 x27_1).f1)] 51 (0, 0))) ∧ Aside0 (Below w.heap.size w w'))
      case atStart => exact ⟨(0), (z1), H', ⟨Nat.le_refl _⟩, ⟨by (with_reducible repeat (first | apply Kd.R_alloc | apply Kd.R_drewN | apply Kd.R_drew)); exact Kd.R_mono (Kd.R_far (p := ⟨gb137, 1, none⟩) (Kd.R_far (p := ⟨gb137, 0, none⟩) (Kd.R_mono HO_9.out (fun k_ hk => (⟨hk, hk.2⟩ : _ ∧ k_ ≠ gb137))) (fun _ hk => hk.2) (.int .i64 ((rd_T51 t128 x27_1).f0))) (fun _ hk => hk.2) (.int .i64 ((rd_T51 t128 x27_1).f1))) (fun _ hk => ⟨hk.1.1, hk.1.2⟩)⟩, ⟨by (with_reducible repeat (first | apply Kd.R_alloc | apply Kd.R_drewN | apply Kd.R_drew)); exact Kd.R_mono (Kd.R_far (p := ⟨gb137, 1, none⟩) (Kd.R_far (p := ⟨gb137, 0, none⟩) (Kd.R_mono HO_25.out (fun k_ hk => (⟨hk, hk.2⟩ : _ ∧ k_ ≠ gb137))) (fun _ hk => hk.2) (.int .i64 ((rd_T51 t128 x27_1).f0))) (fun _ hk => hk.2) (.int .i64 ((rd_T51 t128 x27_1).f1))) (fun _ hk => ⟨hk.1.1, ⟨hk.1.1, hk.1.2⟩⟩)⟩, ⟨by (with_reducible repeat (first | apply Kd.R_alloc | apply Kd.R_drewN | apply Kd.R_drew)); exact Kd.R_mono (Kd.R_far (p := ⟨gb137, 1, none⟩) (Kd.R_far (p := ⟨gb137, 0, none⟩) (Kd.R_mono HO_9.out (fun k_ hk => (⟨hk, hk.2⟩ : _ ∧ k_ ≠ gb137))) (fun _ hk => hk.2) (.int .i64 ((rd_T51 t128 x27_1).f0))) (fun _ hk => hk.2) (.int .i64 ((rd_T51 t128 x27_1).f1))) (fun _ hk => ⟨hk.1.1, hk.1.2⟩)⟩, ⟨by (with_reducible repeat (first | refine blk_drewN ?_ _ | refine blk_drew ?_ | refine blk_alloc ?_ _)); refine blk_far ?_ NB126_137.out _; (with_reducible repeat (first | refine blk_drewN ?_ _ | refine blk_drew ?_ | refine blk_alloc ?_ _)); refine blk_far ?_ NB126_137.out _; (with_reducible repeat (first | refine blk_drewN ?_ _ | refine blk_drew ?_ | refine blk_alloc ?_ _)); exact BK126.out⟩, ⟨by (with_reducible repeat (first | refine blk_drewN ?_ _ | refine blk_drew ?_ | refine blk_alloc ?_ _)); refine blk_far ?_ NB127_137.out _; (with_reducible repeat (first | refine blk_drewN ?_ _ | refine blk_drew ?_ | refine blk_alloc ?_ _)); refine blk_far ?_ NB127_137.out _; (with_reducible repeat (first | refine blk_drewN ?_ _ | refine blk_drew ?_ | refine blk_alloc ?_ _)); exact BK127.out⟩, ⟨by (with_reducible repeat (first | refine blk_drewN ?_ _ | refine blk_drew ?_ | refine blk_alloc ?_ _)); refine blk_put (cs := #[.int .i64 ((rd_T51 t128 x27_1).f0), .int .i64 0]) ?_ 1 _ rfl; (with_reducible repeat (first | refine blk_drewN ?_ _ | refine blk_drew ?_ | refine blk_alloc ?_ _)); refine blk_put (cs := #[.int .i64 0, .int .i64 0]) ?_ 0 _ rfl; (with_reducible repeat (first | refine blk_drewN ?_ _ | refine blk_drew ?_ | refine blk_alloc ?_ _)); exact BK137.out⟩, ⟨zB3 HB GE126.out GE127.out GE137.out⟩⟩
      case round =>
       clear H'
       try clear c1
       try clear p1
       try clear q1
       try clear hx1
       try clear p2
       try clear c7
       try clear c8
       try clear c13
       try clear c13b0
       try clear p13
       try clear q13
       try clear hx13
       try clear c14
       try clear c14b0
       try clear c15
       try clear c15b0
       try clear c17
       try clear c18
       try clear hcz10_0
       try clear hcz10_1
       try clear hcz10_2
       try clear hcz19_0
       try clear hcz19_1
       try clear hcz8_0
       try clear hcz8_1
       try clear hcz8_2
       try clear hfz10_0
       try clear hfz10_1
       try clear hfz10_2
       try clear hfz19_0
       try clear hfz19_1
       try clear hfz8_0
       try clear hfz8_1
       try clear hfz8_2
       try clear hx136_0
       try clear hx136_1
       try clear p136
       try clear p2
       try clear q136
       obtain ⟨x34_2, rfl, HA, HK2, HO_9, HO_25, HO_32, BK126, BK127, BK137, HB⟩ := hrel
       cases gk with
       | zero => exact absurd HA.out (by simp [spec_ncMeet.l1])
       | succ k2 =>
        have H := HA.out
        clear HA
        simp only [spec_ncMeet.l1] at H
        by_cases c21 : x34_2 < (t132.length : Int)
        ·rw [if_pos c21] at H
         have c21b0 : decide (x34_2 < (t132.length : Int)) = true := decide_eq_true c21
         clear c21
         by_cases c22 : 0 ≤ x34_2
         ·rw [if_pos c22] at H
          have c22b0 : decide (0 ≤ x34_2) = true := decide_eq_true c22
          clear c22
          by_cases c23 : x34_2 < (t132.length : Int)
          ·rw [if_pos c23] at H
           have c23b0 : decide (x34_2 < (t132.length : Int)) = true := decide_eq_true c23
           clear c23
           by_cases c24 : (((rd_T51 t128 x27_1).f0) == ((rd_T51 t132 x34_2).f0) && (((rd_T51 t128 x27_1).f1) == ((rd_T51 t132 x34_2).f1))) = true
           ·rw [if_pos c24] at H
            have c24b0 : (((rd_T51 t128 x27_1).f0) == ((rd_T51 t132 x34_2).f0) && (((rd_T51 t128 x27_1).f1) == ((rd_T51 t132 x34_2).f1))) = true := c24
            (try (have c24b1 : decide (((rd_T51 t128 x27_1).f0) = ((rd_T51 t132 x34_2).f0) && (((rd_T51 t128 x27_1).f1) == ((rd_T51 t132 x34_2).f1))) = true := by simpa using c24))
            (try (have c24b2 : (((rd_T51 t128 x27_1).f0) == ((rd_T51 t132 x34_2).f0) && (((rd_T51 t128 x27_1).f1) == ((rd_T51 t132 x34_2).f1))) = true := by simpa using c24))
            clear c24
            simp only [Option.some.injEq, Prod.mk.injEq] at H
            obtain ⟨rfl, rfl, rfl⟩ := H
            have p138 : 0 ≤ (x34_2 : Int) := of_decide_eq_true z3
            have q138 : x34_2 < (t132.length : Int) := of_decide_eq_true z3
            obtain ⟨ad138, e138, hx138_0, hx138_1⟩ := at_T51 (Kd.R_reads' HO_32.out).2.2 x34_2 p138 q138
            cases e138
            replace p138 := eq_true p138
            replace q138 := eq_true q138
            go_wp2_with (first | ((with_reducible refine gate_dst (N := 14) rfl ?_); refine zbox 14 #[.int .i64 0, .int .i64 0] 51 (h := ?_); intro gb139 hg w25 hbox hb; have n0_ := Aside0.mk (Kd.R_below (Kd.R_elderB (zR HO_9) gb139 (Nat.le_of_eq hg.symm)) hb); have n1_ := Aside0.mk (Kd.R_below (Kd.R_elderB (zR HO_25) gb139 (Nat.le_of_eq hg.symm)) hb); have n2_ := Aside0.mk (Kd.R_below (Kd.R_elderB (zR HO_32) gb139 (Nat.le_of_eq hg.symm)) hb); have n3_ := Aside0.mk (blk_below (g := gb126) (o := .cells #[.int .i64 a0_0, .int .i64 a0_1, .string a0_2] 53 (0, 0)) (zK BK126) hb); have n4_ := Aside0.mk (blk_below (g := gb127) (o := .cells #[.int .i64 a1_0, .int .i64 a1_1, .string a1_2] 53 (0, 0)) (zK BK127) hb); have n5_ := Aside0.mk (blk_below (g := gb137) (o := .cells #[.int .i64 ((rd_T51 t128 x27_1).f0), .int .i64 ((rd_T51 t128 x27_1).f1)] 51 (0, 0)) (zK BK137) hb); have n6_ := Aside0.mk (below_step (zB3 HB GE126.out GE127.out GE137.out) hb); have n7_ := Aside0.mk (hbox); have n8_ := Aside0.mk ((by rw [hg]; exact (below_size (zB3 HB GE126.out GE127.out GE137.out)) : w.heap.size ≤ gb139)); have n9_ := Aside0.mk ((by rw [hg]; exact (below_size (zB3 HB GE126.out GE127.out GE137.out)) : w.heap.size ≤ gb139)); have n10_ := Aside0.mk ((by rw [hg]; exact Nat.ne_of_lt (blk_lt (g := gb126) (o := .cells #[.int .i64 a0_0, .int .i64 a0_1, .string a0_2] 53 (0, 0)) (zK BK126)) : gb126 ≠ gb139)); have n11_ := Aside0.mk ((by rw [hg]; exact Nat.ne_of_gt (blk_lt (g := gb126) (o := .cells #[.int .i64 a0_0, .int .i64 a0_1, .string a0_2] 53 (0, 0)) (zK BK126)) : gb139 ≠ gb126)); have n12_ := Aside0.mk ((by rw [hg]; exact Nat.ne_of_lt (blk_lt (g := gb127) (o := .cells #[.int .i64 a1_0, .int .i64 a1_1, .string a1_2] 53 (0, 0)) (zK BK127)) : gb127 ≠ gb139)); have n13_ := Aside0.mk ((by rw [hg]; exact Nat.ne_of_gt (blk_lt (g := gb127) (o := .cells #[.int .i64 a1_0, .int .i64 a1_1, .string a1_2] 53 (0, 0)) (zK BK127)) : gb139 ≠ gb127)); have n14_ := Aside0.mk ((by rw [hg]; exact Nat.ne_of_lt (blk_lt (g := gb137) (o := .cells #[.int .i64 ((rd_T51 t128 x27_1).f0), .int .i64 ((rd_T51 t128 x27_1).f1)] 51 (0, 0)) (zK BK137)) : gb137 ≠ gb139)); have n15_ := Aside0.mk ((by rw [hg]; exact Nat.ne_of_gt (blk_lt (g := gb137) (o := .cells #[.int .i64 ((rd_T51 t128 x27_1).f0), .int .i64 ((rd_T51 t128 x27_1).f1)] 51 (0, 0)) (zK BK137)) : gb139 ≠ gb137)); clear HO_9; clear HO_25; clear HO_32; clear BK126; clear BK127; clear BK137; clear HB; have HO_9 := n0_; have HO_25 := n1_; have HO_32 := n2_; have BK126 := n3_; have BK127 := n4_; have BK137 := n5_; have HB := n6_; have BK139 := n7_; have GW139 := n8_; have GE139 := n9_; have NB126_139 := n10_; have NB139_126 := n11_; have NB127_139 := n12_; have NB139_127 := n13_; have NB137_139 := n14_; have NB139_137 := n15_; clear n0_ n1_ n2_ n3_ n4_ n5_ n6_ n7_ n8_ n9_ n10_ n11_ n12_ n13_ n14_ n15_; clear hb hbox hg; have hnb26 := NB139_126.out; have hnc26 := NB126_139.out; have hnb27 := NB139_127.out; have hnc27 := NB127_139.out; have hnb28 := NB139_137.out; have hnc28 := NB137_139.out; have hcz29_0 : w25.cell? ⟨gb139, 0, none⟩ = some (.int .i64 0) := (blk_cell BK139.out 0).trans rfl; have hcz29_1 : w25.cell? ⟨gb139, 1, none⟩ = some (.int .i64 0) := (blk_cell BK139.out 1).trans rfl; have hfz29_0 := blk_frozen BK139.out 0; have hfz29_1 := blk_frozen BK139.out 1; have hnb30 := NB137_126.out; have hnc30 := NB126_137.out; have hnb31 := NB137_127.out; have hnc31 := NB127_137.out; have hcz32_0 : w25.cell? ⟨gb137, 0, none⟩ = some (.int .i64 ((rd_T51 t128 x27_1).f0)) := (blk_cell BK137.out 0).trans rfl; have hcz32_1 : w25.cell? ⟨gb137, 1, none⟩ = some (.int .i64 ((rd_T51 t128 x27_1).f1)) := (blk_cell BK137.out 1).trans rfl; have hfz32_0 := blk_frozen BK137.out 0; have hfz32_1 := blk_frozen BK137.out 1))
            go_ret3
            exact ⟨z2, zB4 HB GE126.out GE127.out GE137.out GE139.out⟩
           ·rw [if_neg c24] at H
            have c24b0 : (((rd_T51 t128 x27_1).f0) == ((rd_T51 t132 x34_2).f0) && (((rd_T51 t128 x27_1).f1) == ((rd_T51 t132 x34_2).f1))) = false := by simpa using c24
            (try (have c24b1 : decide (((rd_T51 t128 x27_1).f0) = ((rd_T51 t132 x34_2).f0) && (((rd_T51 t128 x27_1).f1) == ((rd_T51 t132 x34_2).f1))) = false := by simpa using c24))
            (try (have c24b2 : (((rd_T51 t128 x27_1).f0) == ((rd_T51 t132 x34_2).f0) && (((rd_T51 t128 x27_1).f1) == ((rd_T51 t132 x34_2).f1))) = false := by simpa using c24))
            (try (have c24b3 : ¬ (((rd_T51 t128 x27_1).f0) = ((rd_T51 t132 x34_2).f0) && (((rd_T51 t128 x27_1).f1) == ((rd_T51 t132 x34_2).f1))) := by simpa using c24))
            clear c24
            have H' := Aside0.mk H
            clear H
            have p138 : 0 ≤ (x34_2 : Int) := of_decide_eq_true z3
            have q138 : x34_2 < (t132.length : Int) := of_decide_eq_true z3
            obtain ⟨ad138, e138, hx138_0, hx138_1⟩ := at_T51 (Kd.R_reads' HO_32.out).2.2 x34_2 p138 q138
            cases e138
            replace p138 := eq_true p138
            replace q138 := eq_true q138
            go_wp2_with (first | ((with_reducible refine gate_dst (N := 14) rfl ?_); refine zbox 14 #[.int .i64 0, .int .i64 0] 51 (h := ?_); intro gb139 hg w33 hbox hb; have n0_ := Aside0.mk (Kd.R_below (Kd.R_elderB (zR HO_9) gb139 (Nat.le_of_eq hg.symm)) hb); have n1_ := Aside0.mk (Kd.R_below (Kd.R_elderB (zR HO_25) gb139 (Nat.le_of_eq hg.symm)) hb); have n2_ := Aside0.mk (Kd.R_below (Kd.R_elderB (zR HO_32) gb139 (Nat.le_of_eq hg.symm)) hb); have n3_ := Aside0.mk (blk_below (g := gb126) (o := .cells #[.int .i64 a0_0, .int .i64 a0_1, .string a0_2] 53 (0, 0)) (zK BK126) hb); have n4_ := Aside0.mk (blk_below (g := gb127) (o := .cells #[.int .i64 a1_0, .int .i64 a1_1, .string a1_2] 53 (0, 0)) (zK BK127) hb); have n5_ := Aside0.mk (blk_below (g := gb137) (o := .cells #[.int .i64 ((rd_T51 t128 x27_1).f0), .int .i64 ((rd_T51 t128 x27_1).f1)] 51 (0, 0)) (zK BK137) hb); have n6_ := Aside0.mk (below_step (zB3 HB GE126.out GE127.out GE137.out) hb); have n7_ := Aside0.mk (hbox); have n8_ := Aside0.mk ((by rw [hg]; exact (below_size (zB3 HB GE126.out GE127.out GE137.out)) : w.heap.size ≤ gb139)); have n9_ := Aside0.mk ((by rw [hg]; exact (below_size (zB3 HB GE126.out GE127.out GE137.out)) : w.heap.size ≤ gb139)); have n10_ := Aside0.mk ((by rw [hg]; exact Nat.ne_of_lt (blk_lt (g := gb126) (o := .cells #[.int .i64 a0_0, .int .i64 a0_1, .string a0_2] 53 (0, 0)) (zK BK126)) : gb126 ≠ gb139)); have n11_ := Aside0.mk ((by rw [hg]; exact Nat.ne_of_gt (blk_lt (g := gb126) (o := .cells #[.int .i64 a0_0, .int .i64 a0_1, .string a0_2] 53 (0, 0)) (zK BK126)) : gb139 ≠ gb126)); have n12_ := Aside0.mk ((by rw [hg]; exact Nat.ne_of_lt (blk_lt (g := gb127) (o := .cells #[.int .i64 a1_0, .int .i64 a1_1, .string a1_2] 53 (0, 0)) (zK BK127)) : gb127 ≠ gb139)); have n13_ := Aside0.mk ((by rw [hg]; exact Nat.ne_of_gt (blk_lt (g := gb127) (o := .cells #[.int .i64 a1_0, .int .i64 a1_1, .string a1_2] 53 (0, 0)) (zK BK127)) : gb139 ≠ gb127)); have n14_ := Aside0.mk ((by rw [hg]; exact Nat.ne_of_lt (blk_lt (g := gb137) (o := .cells #[.int .i64 ((rd_T51 t128 x27_1).f0), .int .i64 ((rd_T51 t128 x27_1).f1)] 51 (0, 0)) (zK BK137)) : gb137 ≠ gb139)); have n15_ := Aside0.mk ((by rw [hg]; exact Nat.ne_of_gt (blk_lt (g := gb137) (o := .cells #[.int .i64 ((rd_T51 t128 x27_1).f0), .int .i64 ((rd_T51 t128 x27_1).f1)] 51 (0, 0)) (zK BK137)) : gb139 ≠ gb137)); clear HO_9; clear HO_25; clear HO_32; clear BK126; clear BK127; clear BK137; clear HB; have HO_9 := n0_; have HO_25 := n1_; have HO_32 := n2_; have BK126 := n3_; have BK127 := n4_; have BK137 := n5_; have HB := n6_; have BK139 := n7_; have GW139 := n8_; have GE139 := n9_; have NB126_139 := n10_; have NB139_126 := n11_; have NB127_139 := n12_; have NB139_127 := n13_; have NB137_139 := n14_; have NB139_137 := n15_; clear n0_ n1_ n2_ n3_ n4_ n5_ n6_ n7_ n8_ n9_ n10_ n11_ n12_ n13_ n14_ n15_; clear hb hbox hg; have hnb34 := NB139_126.out; have hnc34 := NB126_139.out; have hnb35 := NB139_127.out; have hnc35 := NB127_139.out; have hnb36 := NB139_137.out; have hnc36 := NB137_139.out; have hcz37_0 : w33.cell? ⟨gb139, 0, none⟩ = some (.int .i64 0) := (blk_cell BK139.out 0).trans rfl; have hcz37_1 : w33.cell? ⟨gb139, 1, none⟩ = some (.int .i64 0) := (blk_cell BK139.out 1).trans rfl; have hfz37_0 := blk_frozen BK139.out 0; have hfz37_1 := blk_frozen BK139.out 1; have hnb38 := NB137_126.out; have hnc38 := NB126_137.out; have hnb39 := NB137_127.out; have hnc39 := NB127_137.out; have hcz40_0 : w33.cell? ⟨gb137, 0, none⟩ = some (.int .i64 ((rd_T51 t128 x27_1).f0)) := (blk_cell BK137.out 0).trans rfl; have hcz40_1 : w33.cell? ⟨gb137, 1, none⟩ = some (.int .i64 ((rd_T51 t128 x27_1).f1)) := (blk_cell BK137.out 1).trans rfl; have hfz40_0 := blk_frozen BK137.out 0; have hfz40_1 := blk_frozen BK137.out 1))
            go_roundg k2
            case measure => have := HK1.out; have := HK2.out; omega
            case rel => exact ⟨(wrap64 (x34_2 + 1)), (z1), H', ⟨by have := HK1.out; have := HK2.out; omega⟩, ⟨by (with_reducible repeat (first | apply Kd.R_alloc | apply Kd.R_drewN | apply Kd.R_drew)); exact Kd.R_mono (Kd.R_far (p := ⟨gb139, 1, none⟩) (Kd.R_far (p := ⟨gb139, 0, none⟩) (Kd.R_mono HO_9.out (fun k_ hk => (⟨hk, hk.2⟩ : _ ∧ k_ ≠ gb139))) (fun _ hk => hk.2) (.int .i64 ((rd_T51 t132 x34_2).f0))) (fun _ hk => hk.2) (.int .i64 ((rd_T51 t132 x34_2).f1))) (fun _ hk => ⟨hk.1.1.1, hk.1.1.2⟩)⟩, ⟨by (with_reducible repeat (first | apply Kd.R_alloc | apply Kd.R_drewN | apply Kd.R_drew)); exact Kd.R_mono (Kd.R_far (p := ⟨gb139, 1, none⟩) (Kd.R_far (p := ⟨gb139, 0, none⟩) (Kd.R_mono HO_25.out (fun k_ hk => (⟨hk, hk.2⟩ : _ ∧ k_ ≠ gb139))) (fun _ hk => hk.2) (.int .i64 ((rd_T51 t132 x34_2).f0))) (fun _ hk => hk.2) (.int .i64 ((rd_T51 t132 x34_2).f1))) (fun _ hk => ⟨hk.1.1.1, ⟨hk.1.1.2.1, hk.1.1.2.2⟩⟩)⟩, ⟨by (with_reducible repeat (first | apply Kd.R_alloc | apply Kd.R_drewN | apply Kd.R_drew)); exact Kd.R_mono (Kd.R_far (p := ⟨gb139, 1, none⟩) (Kd.R_far (p := ⟨gb139, 0, none⟩) (Kd.R_mono HO_32.out (fun k_ hk => (⟨hk, hk.2⟩ : _ ∧ k_ ≠ gb139))) (fun _ hk => hk.2) (.int .i64 ((rd_T51 t132 x34_2).f0))) (fun _ hk => hk.2) (.int .i64 ((rd_T51 t132 x34_2).f1))) (fun _ hk => ⟨hk.1.1.1, hk.1.1.2⟩)⟩, ⟨by (with_reducible repeat (first | refine blk_drewN ?_ _ | refine blk_drew ?_ | refine blk_alloc ?_ _)); refine blk_far ?_ NB126_139.out _; (with_reducible repeat (first | refine blk_drewN ?_ _ | refine blk_drew ?_ | refine blk_alloc ?_ _)); refine blk_far ?_ NB126_139.out _; (with_reducible repeat (first | refine blk_drewN ?_ _ | refine blk_drew ?_ | refine blk_alloc ?_ _)); exact BK126.out⟩, ⟨by (with_reducible repeat (first | refine blk_drewN ?_ _ | refine blk_drew ?_ | refine blk_alloc ?_ _)); refine blk_far ?_ NB127_139.out _; (with_reducible repeat (first | refine blk_drewN ?_ _ | refine blk_drew ?_ | refine blk_alloc ?_ _)); refine blk_far ?_ NB127_139.out _; (with_reducible repeat (first | refine blk_drewN ?_ _ | refine blk_drew ?_ | refine blk_alloc ?_ _)); exact BK127.out⟩, ⟨by (with_reducible repeat (first | refine blk_drewN ?_ _ | refine blk_drew ?_ | refine blk_alloc ?_ _)); refine blk_far ?_ NB137_139.out _; (with_reducible repeat (first | refine blk_drewN ?_ _ | refine blk_drew ?_ | refine blk_alloc ?_ _)); refine blk_far ?_ NB137_139.out _; (with_reducible repeat (first | refine blk_drewN ?_ _ | refine blk_drew ?_ | refine blk_alloc ?_ _)); exact BK137.out⟩, ⟨zB4 HB GE126.out GE127.out GE137.out GE139.out⟩⟩
          ·rw [if_neg c23] at H
           exact absurd H (by simp)
         ·rw [if_neg c22] at H
          exact absurd H (by simp)
        ·rw [if_neg c21] at H
         have c21b0 : decide (x34_2 < (t132.length : Int)) = false := decide_eq_false c21
         clear c21
         have H' := Aside0.mk H
         clear H
         go_wp2
         go_roundg k2
         case measure => have := HK1.out; have := HK2.out; omega
         case rel => exact ⟨(wrap64 (x27_1 + 1)), (z1), H', ⟨by have := HK1.out; have := HK2.out; omega⟩, ⟨by (with_reducible repeat (first | apply Kd.R_alloc | apply Kd.R_drewN | apply Kd.R_drew)); exact Kd.R_mono HO_9.out (fun _ hk => hk.1)⟩, ⟨by (with_reducible repeat (first | apply Kd.R_alloc | apply Kd.R_drewN | apply Kd.R_drew)); exact Kd.R_mono HO_25.out (fun _ hk => hk.1)⟩, ⟨zK BK126⟩, ⟨zK BK127⟩, ⟨zB3 HB GE126.out GE127.out GE137.out⟩⟩
     ·rw [if_neg c15] at H
      exact absurd H (by simp)
    ·rw [if_neg c14] at H
     exact absurd H (by simp)
   ·rw [if_neg c13] at H
    have c13b0 : decide (x27_1 < (t128.length : Int)) = false := decide_eq_false c13
    clear c13
    simp only [Option.some.injEq, Prod.mk.injEq] at H
    obtain ⟨rfl, rfl, rfl⟩ := H
    go_wp2
    go_ret3
    exact ⟨z2, zB2 HB GE126.out GE127.out⟩

end Go.Proofs.YtaacmpmjogpodaaDoor.PFnExactAreApart
