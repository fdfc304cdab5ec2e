-- Written by xprint.py (this session's own program, over the kit's print).
import Derived.Test.YtaacmpmjogpodaaDoorPFnExactAreApartx0
import Derived.Test.YtaacmpmjogpodaaDoorPFnExactAreApartx5
namespace Go.Proofs.YtaacmpmjogpodaaDoor.PFnExactAreApart
open Go.RowKit Go.Proofs.YtaacmpmjogpodaaDoorW.PrintWords Go.Proofs.YtaacmpmjogpodaaDoorW.PrintLast Go.Proofs.YtaacmpmjogpodaaDoorW.PrintMore
attribute [local go_sem] max2_int min2_int max_two min_two max_three min_three max_four min_four   -- for this text's walks alone
set_option linter.unusedVariables false
set_option linter.unusedSimpArgs false

/-! ### spec_ncApart: function 55 -/
mutual
def spec_ncApart.l0 : Nat → List (S53) → List (S53) → Int → Int → Option (Bool)
 | 0, _, _, _, _ => none
 | k + 1, x0, x10, x11, x12 => if x12 < x11 then (if 0 ≤ x12 then (if x12 < (x10.length : Int) then (if x12 ≤ (x0.length : Int) then ((some (x0.take (x12 : Int).toNat : List (S53))).bind fun y142 => (spec_ncApart.l1 k x0 x10 x11 x12 y142 (y142.length : Int) 0 ((rd_T53 x10 x12).f0.f0) ((rd_T53 x10 x12).f0.f1) ((rd_T53 x10 x12).f1))) else (none)) else (none)) else (none)) else (some true)
def spec_ncApart.l1 : Nat → List (S53) → List (S53) → Int → Int → List (S53) → Int → Int → Int → Int → ByteArray → Option (Bool)
 | 0, _, _, _, _, _, _, _, _, _, _ => none
 | k + 1, x0, x10, x11, x12, x19, x20, x21, x142000, x142001, x142002 => if x21 < x20 then (if 0 ≤ x21 then (if x21 < (x19.length : Int) then ((spec_ncMeet.f k x142000 x142001 x142002 ((rd_T53 x19 x21).f0.f0) ((rd_T53 x19 x21).f0.f1) ((rd_T53 x19 x21).f1)).bind fun bt148 => (if bt148.2.2 = true then (some false) else (spec_ncApart.l1 k x0 x10 x11 x12 x19 x20 (wrap64 (x21 + 1)) x142000 x142001 x142002))) else (none)) else (none)) else (spec_ncApart.l0 k x0 x10 x11 (wrap64 (x12 + 1)))
end
def spec_ncApart.f (k : Nat) (l0 : List (S53)) : Option (Bool) := spec_ncApart.l0 k l0 l0 (l0.length : Int) 0
theorem spec_ncApart.mono_l : ∀ k, (∀ y0 y1 y2 y3, LeO (spec_ncApart.l0 k y0 y1 y2 y3) (spec_ncApart.l0 (k + 1) y0 y1 y2 y3)) ∧ (∀ y0 y1 y2 y3 y4 y5 y6 y7 y8 y9, LeO (spec_ncApart.l1 k y0 y1 y2 y3 y4 y5 y6 y7 y8 y9) (spec_ncApart.l1 (k + 1) y0 y1 y2 y3 y4 y5 y6 y7 y8 y9))
 | 0 => ⟨fun _ _ _ _ r h => by simp [spec_ncApart.l0] at h, fun _ _ _ _ _ _ _ _ _ _ r h => by simp [spec_ncApart.l1] at h⟩
 | k + 1 => by
  obtain ⟨ih0, ih1⟩ := spec_ncApart.mono_l k
  refine ⟨?_, ?_⟩
  ·intro y0 y1 y2 y3
   unfold spec_ncApart.l0
   repeat' first
   | (with_reducible exact ih0 _ _ _ _)
   | (with_reducible exact ih1 _ _ _ _ _ _ _ _ _ _)
   | (with_reducible exact spec_ncMeet.mono _ _ _ _ _ _ _)
   | (with_reducible exact LeO.refl _)
   | (with_reducible exact LeO.none _)
   | (with_reducible refine LeO.ite ?_ ?_)
   | (with_reducible refine LeO.bind ?_ (fun _ => ?_))
   | exact ih0 _ _ _ _
   | exact ih1 _ _ _ _ _ _ _ _ _ _
   | exact spec_ncMeet.mono _ _ _ _ _ _ _
   | exact LeO.none _
   | refine LeO.ite ?_ ?_
   | refine LeO.bind ?_ (fun _ => ?_)
  ·intro y0 y1 y2 y3 y4 y5 y6 y7 y8 y9
   unfold spec_ncApart.l1
   repeat' first
   | (with_reducible exact ih0 _ _ _ _)
   | (with_reducible exact ih1 _ _ _ _ _ _ _ _ _ _)
   | (with_reducible exact spec_ncMeet.mono _ _ _ _ _ _ _)
   | (with_reducible exact LeO.refl _)
   | (with_reducible exact LeO.none _)
   | (with_reducible refine LeO.ite ?_ ?_)
   | (with_reducible refine LeO.bind ?_ (fun _ => ?_))
   | exact ih0 _ _ _ _
   | exact ih1 _ _ _ _ _ _ _ _ _ _
   | exact spec_ncMeet.mono _ _ _ _ _ _ _
   | exact LeO.none _
   | refine LeO.ite ?_ ?_
   | refine LeO.bind ?_ (fun _ => ?_)
theorem spec_ncApart.mono : ∀ a0 k, LeO (spec_ncApart.f k a0) (spec_ncApart.f (k + 1) a0) := by
 intro a0 k
 obtain ⟨ih0, ih1⟩ := spec_ncApart.mono_l k
 unfold spec_ncApart.f
 repeat' first
   | (with_reducible exact ih0 _ _ _ _)
   | (with_reducible exact ih1 _ _ _ _ _ _ _ _ _ _)
   | (with_reducible exact spec_ncMeet.mono _ _ _ _ _ _ _)
   | (with_reducible exact LeO.refl _)
   | (with_reducible exact LeO.none _)
   | (with_reducible refine LeO.ite ?_ ?_)
   | (with_reducible refine LeO.bind ?_ (fun _ => ?_))
   | exact ih0 _ _ _ _
   | exact ih1 _ _ _ _ _ _ _ _ _ _
   | exact spec_ncMeet.mono _ _ _ _ _ _ _
   | exact LeO.none _
   | refine LeO.ite ?_ ?_
   | refine LeO.bind ?_ (fun _ => ?_)
set_option maxHeartbeats 8000000 in
set_option maxRecDepth 100000 in
theorem spec_ncApart.calls (k : Nat) (A0 : Option Addr) (c0 : Nat) (l0 : List (S53)) (r : Bool) (w : World) (hr0 : Kd.C k53 w A0 l0.length l0) (hc0 : l0.length ≤ c0) (h : spec_ncApart.f k l0 = some r) :
  Calls Tryd.prog 55 #[.slice A0 l0.length c0] w fun e w' => e = .returned (.bool r) ∧ Below w.heap.size w w' := by
 have hu53 := Tryd.underlying53
 have HR0 := Aside0.mk hr0
 have HC0 := Aside0.mk hc0
 clear hr0 hc0
 have HB := Aside0.mk (Below.refl w.heap.size w)
 have H : (spec_ncApart.l0 k l0 l0 (l0.length : Int) 0) = some r := h
 clear h
 have H' := Aside0.mk H
 clear H
 go_enter Tryd.func55, Tryd.ntmps55
 go_wp2
 go_loopg [12] k (fun kq v12 w' => ∃ (x12_1 : Int), v12 = .int .i64 x12_1 ∧ Aside0 (spec_ncApart.l0 kq l0 l0 (l0.length : Int) x12_1 = some r) ∧ Aside0 (kq ≤ k) ∧ Aside0 (Below w.heap.size w w'))
 case atStart => exact ⟨(0), (z1), H', ⟨Nat.le_refl _⟩, ⟨zB HB⟩⟩
 case round =>
  clear H'
  obtain ⟨x12_1, rfl, HA, HK1, HB⟩ := hrel
  cases gk with
  | zero => exact absurd HA.out (by simp [spec_ncApart.l0])
  | succ k1 =>
   have H := HA.out
   clear HA
   simp only [spec_ncApart.l0] at H
   by_cases c2 : x12_1 < (l0.length : Int)
   ·rw [if_pos c2] at H
    have c2b0 : decide (x12_1 < (l0.length : Int)) = true := decide_eq_true c2
    clear c2
    by_cases c3 : 0 ≤ x12_1
    ·rw [if_pos c3] at H
     have c3b0 : decide (0 ≤ x12_1) = true := decide_eq_true c3
     clear c3
     by_cases c4 : x12_1 < (l0.length : Int)
     ·rw [if_pos c4] at H
      have c4b0 : decide (x12_1 < (l0.length : Int)) = true := decide_eq_true c4
      clear c4
      have c5b0 := eq_true (of_decide_eq_true z3 : 0 ≤ x12_1)
      by_cases c6 : x12_1 ≤ (l0.length : Int)
      ·rw [if_pos c6] at H
       have c6b0 := eq_true c6
       have c6b1 : decide (x12_1 ≤ (l0.length : Int)) = true := decide_eq_true c6
       clear c6
       obtain ⟨y142, hy142⟩ : ∃ y_ : List (S53), y_ = (l0.take (x12_1 : Int).toNat) := ⟨_, rfl⟩
       replace H : (spec_ncApart.l1 k1 l0 l0 (l0.length : Int) x12_1 y142 (y142.length : Int) 0 ((rd_T53 l0 x12_1).f0.f0) ((rd_T53 l0 x12_1).f0.f1) ((rd_T53 l0 x12_1).f1)) = some r := by first | (rw [hy142]; with_reducible exact H) | (have H2_ := (Option.bind_some _ _).symm.trans H; rw [hy142]; with_reducible exact H2_) | (have H2_ := (Option.bind_some _ _).symm.trans H; with_reducible exact H2_) | with_reducible exact H | (rw [hy142]; exact H) | exact H
       have Ny142 := Aside0.mk hy142
       clear hy142
       have H' := Aside0.mk H
       clear H
       have p140 : 0 ≤ (x12_1 : Int) := of_decide_eq_true z3
       have q140 : x12_1 < (l0.length : Int) := of_decide_eq_true z3
       obtain ⟨ad140, e140, hx140_0, hx140_1, hx140_2⟩ := at_T53 HR0.out x12_1 p140 q140
       cases e140
       replace hx140_0 := (HB.out.cell (World.block_lt_of_cell? w _ hx140_0)).trans hx140_0
       replace hx140_1 := (HB.out.cell (World.block_lt_of_cell? w _ hx140_1)).trans hx140_1
       replace hx140_2 := (HB.out.cell (World.block_lt_of_cell? w _ hx140_2)).trans hx140_2
       replace p140 := eq_true p140
       replace q140 := eq_true q140
       go_wp2_with (first | ((with_reducible refine gate_dst (N := 4) rfl ?_); refine box_event ?hg (N := 4) ?hd (cs := #[.int .i64 0, .int .i64 0, .string (⟨#[]⟩ : ByteArray)]) (t := 53) ?hr ?_; (case hd => rfl); (case hg => rfl); (case hr => first | (go_simp; done) | (go_simp; rfl)); intro gb141 hg w7 hbox hb; have n0_ := Aside0.mk (below_step (zB HB) hb); have n1_ := Aside0.mk (hbox); have n2_ := Aside0.mk ((by rw [hg]; exact (below_size (zB HB)) : w.heap.size ≤ gb141)); have n3_ := Aside0.mk ((by rw [hg]; exact (below_size (zB HB)) : w.heap.size ≤ gb141)); clear HB; have HB := n0_; have BK141 := n1_; have GW141 := n2_; have GE141 := n3_; clear n0_ n1_ n2_ n3_; clear hb hbox hg; have hcz8_0 : w7.cell? ⟨gb141, 0, none⟩ = some (.int .i64 0) := (blk_cell BK141.out 0).trans rfl; have hcz8_1 : w7.cell? ⟨gb141, 1, none⟩ = some (.int .i64 0) := (blk_cell BK141.out 1).trans rfl; have hcz8_2 : w7.cell? ⟨gb141, 2, none⟩ = some (.string (⟨#[]⟩ : ByteArray)) := (blk_cell BK141.out 2).trans rfl; have hfz8_0 := blk_frozen BK141.out 0; have hfz8_1 := blk_frozen BK141.out 1; have hfz8_2 := blk_frozen BK141.out 2) | ((with_reducible refine gate_store (t := 53) (p := 4) rfl ?_); refine store_event (t := 53) (p := 4) (v := ?vo_w9) (w1 := (((w7.setCell ⟨gb141, 0, none⟩ (.int .i64 ((rd_T53 l0 x12_1).f0.f0))).setCell ⟨gb141, 1, none⟩ (.int .i64 ((rd_T53 l0 x12_1).f0.f1))).setCell ⟨gb141, 2, none⟩ (.string ((rd_T53 l0 x12_1).f1)))) ?hg ?ho ?hn ?hr ?_; (case ho => rfl); (case hg => rfl); (case hn => rfl); (case hr => first | (go_simp; done) | (go_simp; rfl)); intro w9 hw; have n0_ : Aside0 (w9.heap[gb141]? = some (.cells #[.int .i64 ((rd_T53 l0 x12_1).f0.f0), .int .i64 ((rd_T53 l0 x12_1).f0.f1), .string ((rd_T53 l0 x12_1).f1)] 53 (0, 0))) := ⟨(by rw [hw]; exact (by (with_reducible repeat (first | refine blk_drewN ?_ _ | refine blk_drew ?_ | refine blk_alloc ?_ _)); refine blk_put (cs := #[.int .i64 ((rd_T53 l0 x12_1).f0.f0), .int .i64 ((rd_T53 l0 x12_1).f0.f1), .string (⟨#[]⟩ : ByteArray)]) ?_ 2 _ rfl; (with_reducible repeat (first | refine blk_drewN ?_ _ | refine blk_drew ?_ | refine blk_alloc ?_ _)); refine blk_put (cs := #[.int .i64 ((rd_T53 l0 x12_1).f0.f0), .int .i64 0, .string (⟨#[]⟩ : ByteArray)]) ?_ 1 _ rfl; (with_reducible repeat (first | refine blk_drewN ?_ _ | refine blk_drew ?_ | refine blk_alloc ?_ _)); refine blk_put (cs := #[.int .i64 0, .int .i64 0, .string (⟨#[]⟩ : ByteArray)]) ?_ 0 _ rfl; (with_reducible repeat (first | refine blk_drewN ?_ _ | refine blk_drew ?_ | refine blk_alloc ?_ _)); exact BK141.out))⟩; have n1_ : Aside0 (Below w.heap.size w w9) := ⟨(by rw [hw]; exact (zB1 HB GE141.out))⟩; clear hw; clear BK141; clear HB; have BK141 := n0_; have HB := n1_; clear n0_ n1_; have q10 : (x12_1 : Int) ≤ ((l0.length : Int) : Int) := of_decide_eq_true z3; obtain ⟨i010, hi010, _, hsz10, _⟩ := info_parts info53; have hroom10 : l0.length ≤ c0 := HC0.out; have hC10 : Kd.C k53 _ (some ad140) l0.length l0 := HR0.out; have hcut10 := cut_to (P := Tryd.prog) 26 53 .i64 Tryd.underlying26 hi010 (some ad140) l0.length c0 x12_1 (of_decide_eq_true z3) q10 hroom10; have hr10 := Kd.C_take (m := (x12_1 : Int).toNat) hC10 (by omega); have hy10 : y142.length = (x12_1 : Int).toNat := (by rw [Ny142.out, List.length_take]; omega); rw [← Ny142.out] at hr10; rw [← hy10] at hcut10; have HR145 := Aside0.mk hr10; have HC145 := Aside0.mk (show y142.length ≤ c0 from by omega); clear hr10 hC10 hroom10 hi010 hsz10; have KY10 := Aside0.mk hy10; clear hy10; replace q10 := eq_true q10))
       go_loopg [21] k1 (fun kq v21 w' => ∃ (x21_2 : Int), v21 = .int .i64 x21_2 ∧ Aside0 (spec_ncApart.l1 kq l0 l0 (l0.length : Int) x12_1 y142 (y142.length : Int) x21_2 ((rd_T53 l0 x12_1).f0.f0) ((rd_T53 l0 x12_1).f0.f1) ((rd_T53 l0 x12_1).f1) = some r) ∧ Aside0 (kq ≤ k1) ∧ Aside0 (w'.heap[gb141]? = some (.cells #[.int .i64 ((rd_T53 l0 x12_1).f0.f0), .int .i64 ((rd_T53 l0 x12_1).f0.f1), .string ((rd_T53 l0 x12_1).f1)] 53 (0, 0))) ∧ Aside0 (Below w.heap.size w w'))
       case atStart => exact ⟨(0), (z1), H', ⟨Nat.le_refl _⟩, ⟨zK BK141⟩, ⟨zB1 HB GE141.out⟩⟩
       case round =>
        clear H'
        try clear p1
        try clear q1
        try clear hx1
        try clear c2
        try clear c2b0
        try clear p2
        try clear c3
        try clear c3b0
        try clear c4
        try clear c4b0
        try clear c5
        try clear c5b0
        try clear c6
        try clear c6b0
        try clear c6b1
        try clear q10
        try clear hcz8_0
        try clear hcz8_1
        try clear hcz8_2
        try clear hfz8_0
        try clear hfz8_1
        try clear hfz8_2
        try clear hx140_0
        try clear hx140_1
        try clear hx140_2
        try clear p140
        try clear q10
        try clear q140
        obtain ⟨x21_2, rfl, HA, HK2, BK141, HB⟩ := hrel
        cases gk with
        | zero => exact absurd HA.out (by simp [spec_ncApart.l1])
        | succ k2 =>
         have H := HA.out
         clear HA
         simp only [spec_ncApart.l1] at H
         by_cases c11 : x21_2 < (y142.length : Int)
         ·rw [if_pos c11] at H
          have c11b0 : decide (x21_2 < (y142.length : Int)) = true := decide_eq_true c11
          clear c11
          by_cases c12 : 0 ≤ x21_2
          ·rw [if_pos c12] at H
           have c12b0 : decide (0 ≤ x21_2) = true := decide_eq_true c12
           clear c12
           by_cases c13 : x21_2 < (y142.length : Int)
           ·rw [if_pos c13] at H
            have c13b0 : decide (x21_2 < (y142.length : Int)) = true := decide_eq_true c13
            clear c13
            replace H := Option.bind_eq_some_iff.mp H
            obtain ⟨⟨t148, t149, t150⟩, A140, H⟩ := H
            replace H : (if t150 = true then (some false) else (spec_ncApart.l1 k2 l0 l0 (l0.length : Int) x12_1 y142 (y142.length : Int) (wrap64 (x21_2 + 1)) ((rd_T53 l0 x12_1).f0.f0) ((rd_T53 l0 x12_1).f0.f1) ((rd_T53 l0 x12_1).f1))) = some r := H
            have A14 := Aside0.mk A140
            clear A140
            by_cases c15 : t150 = true
            ·subst c15
             have H1 : (some false) = some r := by rw [if_pos rfl] at H; exact H
             clear H
             have H := H1
             clear H1
             obtain rfl := Option.some.inj H
             have p146 : 0 ≤ (x21_2 : Int) := of_decide_eq_true z3
             have q146 : x21_2 < (y142.length : Int) := of_decide_eq_true z3
             obtain ⟨ad146, e146, hx146_0, hx146_1, hx146_2⟩ := at_T53 HR145.out x21_2 p146 q146
             obtain rfl : ad140 = ad146 := (by injection e146)
             replace hx146_0 := (HB.out.cell (World.block_lt_of_cell? w _ hx146_0)).trans hx146_0
             replace hx146_1 := (HB.out.cell (World.block_lt_of_cell? w _ hx146_1)).trans hx146_1
             replace hx146_2 := (HB.out.cell (World.block_lt_of_cell? w _ hx146_2)).trans hx146_2
             replace p146 := eq_true p146
             replace q146 := eq_true q146
             go_wp2_with (first | ((with_reducible refine gate_dst (N := 6) rfl ?_); refine box_event ?hg (N := 6) ?hd (cs := #[.int .i64 0, .int .i64 0, .string (⟨#[]⟩ : ByteArray)]) (t := 53) ?hr ?_; (case hd => rfl); (case hg => rfl); (case hr => first | (go_simp; done) | (go_simp; rfl)); intro gb147 hg w16 hbox hb; have n0_ := Aside0.mk (blk_below (g := gb141) (o := .cells #[.int .i64 ((rd_T53 l0 x12_1).f0.f0), .int .i64 ((rd_T53 l0 x12_1).f0.f1), .string ((rd_T53 l0 x12_1).f1)] 53 (0, 0)) (zK BK141) hb); have n1_ := Aside0.mk (below_step (zB1 HB GE141.out) hb); have n2_ := Aside0.mk (hbox); have n3_ := Aside0.mk ((by rw [hg]; exact (below_size (zB1 HB GE141.out)) : w.heap.size ≤ gb147)); have n4_ := Aside0.mk ((by rw [hg]; exact (below_size (zB1 HB GE141.out)) : w.heap.size ≤ gb147)); have n5_ := Aside0.mk ((by rw [hg]; exact Nat.ne_of_lt (blk_lt (g := gb141) (o := .cells #[.int .i64 ((rd_T53 l0 x12_1).f0.f0), .int .i64 ((rd_T53 l0 x12_1).f0.f1), .string ((rd_T53 l0 x12_1).f1)] 53 (0, 0)) (zK BK141)) : gb141 ≠ gb147)); have n6_ := Aside0.mk ((by rw [hg]; exact Nat.ne_of_gt (blk_lt (g := gb141) (o := .cells #[.int .i64 ((rd_T53 l0 x12_1).f0.f0), .int .i64 ((rd_T53 l0 x12_1).f0.f1), .string ((rd_T53 l0 x12_1).f1)] 53 (0, 0)) (zK BK141)) : gb147 ≠ gb141)); clear BK141; clear HB; have BK141 := n0_; have HB := n1_; have BK147 := n2_; have GW147 := n3_; have GE147 := n4_; have NB141_147 := n5_; have NB147_141 := n6_; clear n0_ n1_ n2_ n3_ n4_ n5_ n6_; clear hb hbox hg; have hnb17 := NB147_141.out; have hnc17 := NB141_147.out; have hcz18_0 : w16.cell? ⟨gb147, 0, none⟩ = some (.int .i64 0) := (blk_cell BK147.out 0).trans rfl; have hcz18_1 : w16.cell? ⟨gb147, 1, none⟩ = some (.int .i64 0) := (blk_cell BK147.out 1).trans rfl; have hcz18_2 : w16.cell? ⟨gb147, 2, none⟩ = some (.string (⟨#[]⟩ : ByteArray)) := (blk_cell BK147.out 2).trans rfl; have hfz18_0 := blk_frozen BK147.out 0; have hfz18_1 := blk_frozen BK147.out 1; have hfz18_2 := blk_frozen BK147.out 2; have hcz19_0 : w16.cell? ⟨gb141, 0, none⟩ = some (.int .i64 ((rd_T53 l0 x12_1).f0.f0)) := (blk_cell BK141.out 0).trans rfl; have hcz19_1 : w16.cell? ⟨gb141, 1, none⟩ = some (.int .i64 ((rd_T53 l0 x12_1).f0.f1)) := (blk_cell BK141.out 1).trans rfl; have hcz19_2 : w16.cell? ⟨gb141, 2, none⟩ = some (.string ((rd_T53 l0 x12_1).f1)) := (blk_cell BK141.out 2).trans rfl; have hfz19_0 := blk_frozen BK141.out 0; have hfz19_1 := blk_frozen BK141.out 1; have hfz19_2 := blk_frozen BK141.out 2) | ((with_reducible refine gate_callee (f := 81) rfl ?_); refine goesL_ (some 28) rfl rfl Tryd.func81 (by kernel_rfl) rfl #[.agg #[.int .i64 ((rd_T53 l0 x12_1).f0.f0), .int .i64 ((rd_T53 l0 x12_1).f0.f1), .string ((rd_T53 l0 x12_1).f1)], .agg #[.int .i64 ((rd_T53 y142 x21_2).f0.f0), .int .i64 ((rd_T53 y142 x21_2).f0.f1), .string ((rd_T53 y142 x21_2).f1)]] rfl z4 ?_; (with_reducible refine (spec_ncMeet.calls k2 ((rd_T53 l0 x12_1).f0.f0) ((rd_T53 l0 x12_1).f0.f1) ((rd_T53 l0 x12_1).f1) ((rd_T53 y142 x21_2).f0.f0) ((rd_T53 y142 x21_2).f0.f1) ((rd_T53 y142 x21_2).f1) t148 t149 true _ A14.out).mono ?_); rintro e w20 ⟨rfl, hb⟩; refine ⟨_, rfl, ?_⟩; have n0_ := Aside0.mk (blk_below (g := gb141) (o := .cells #[.int .i64 ((rd_T53 l0 x12_1).f0.f0), .int .i64 ((rd_T53 l0 x12_1).f0.f1), .string ((rd_T53 l0 x12_1).f1)] 53 (0, 0)) (by (with_reducible repeat (first | refine blk_drewN ?_ _ | refine blk_drew ?_ | refine blk_alloc ?_ _)); refine blk_far ?_ NB141_147.out _; (with_reducible repeat (first | refine blk_drewN ?_ _ | refine blk_drew ?_ | refine blk_alloc ?_ _)); refine blk_far ?_ NB141_147.out _; (with_reducible repeat (first | refine blk_drewN ?_ _ | refine blk_drew ?_ | refine blk_alloc ?_ _)); refine blk_far ?_ NB141_147.out _; (with_reducible repeat (first | refine blk_drewN ?_ _ | refine blk_drew ?_ | refine blk_alloc ?_ _)); exact BK141.out) hb); have n1_ := Aside0.mk (blk_below (g := gb147) (o := .cells #[.int .i64 ((rd_T53 y142 x21_2).f0.f0), .int .i64 ((rd_T53 y142 x21_2).f0.f1), .string ((rd_T53 y142 x21_2).f1)] 53 (0, 0)) (by (with_reducible repeat (first | refine blk_drewN ?_ _ | refine blk_drew ?_ | refine blk_alloc ?_ _)); refine blk_put (cs := #[.int .i64 ((rd_T53 y142 x21_2).f0.f0), .int .i64 ((rd_T53 y142 x21_2).f0.f1), .string (⟨#[]⟩ : ByteArray)]) ?_ 2 _ rfl; (with_reducible repeat (first | refine blk_drewN ?_ _ | refine blk_drew ?_ | refine blk_alloc ?_ _)); refine blk_put (cs := #[.int .i64 ((rd_T53 y142 x21_2).f0.f0), .int .i64 0, .string (⟨#[]⟩ : ByteArray)]) ?_ 1 _ rfl; (with_reducible repeat (first | refine blk_drewN ?_ _ | refine blk_drew ?_ | refine blk_alloc ?_ _)); refine blk_put (cs := #[.int .i64 0, .int .i64 0, .string (⟨#[]⟩ : ByteArray)]) ?_ 0 _ rfl; (with_reducible repeat (first | refine blk_drewN ?_ _ | refine blk_drew ?_ | refine blk_alloc ?_ _)); exact BK147.out) hb); have n2_ := Aside0.mk (below_step (zB2 HB GE141.out GE147.out) hb); clear BK141; clear BK147; clear HB; have BK141 := n0_; have BK147 := n1_; have HB := n2_; clear n0_ n1_ n2_; (try clear hb); (try clear hb2); (try clear hk); (try clear hi)))
             go_ret
             exact ⟨z2, zB2 HB GE141.out GE147.out⟩
            ·replace c15 := Bool.eq_false_iff.mpr c15
             subst c15
             have H1 : (spec_ncApart.l1 k2 l0 l0 (l0.length : Int) x12_1 y142 (y142.length : Int) (wrap64 (x21_2 + 1)) ((rd_T53 l0 x12_1).f0.f0) ((rd_T53 l0 x12_1).f0.f1) ((rd_T53 l0 x12_1).f1)) = some r := by rw [if_neg (show ¬ (false = true) by decide)] at H; exact H
             clear H
             have H := H1
             clear H1
             have H' := Aside0.mk H
             clear H
             have p146 : 0 ≤ (x21_2 : Int) := of_decide_eq_true z3
             have q146 : x21_2 < (y142.length : Int) := of_decide_eq_true z3
             obtain ⟨ad146, e146, hx146_0, hx146_1, hx146_2⟩ := at_T53 HR145.out x21_2 p146 q146
             obtain rfl : ad140 = ad146 := (by injection e146)
             replace hx146_0 := (HB.out.cell (World.block_lt_of_cell? w _ hx146_0)).trans hx146_0
             replace hx146_1 := (HB.out.cell (World.block_lt_of_cell? w _ hx146_1)).trans hx146_1
             replace hx146_2 := (HB.out.cell (World.block_lt_of_cell? w _ hx146_2)).trans hx146_2
             replace p146 := eq_true p146
             replace q146 := eq_true q146
             go_wp2_with (first | ((with_reducible refine gate_dst (N := 6) rfl ?_); refine box_event ?hg (N := 6) ?hd (cs := #[.int .i64 0, .int .i64 0, .string (⟨#[]⟩ : ByteArray)]) (t := 53) ?hr ?_; (case hd => rfl); (case hg => rfl); (case hr => first | (go_simp; done) | (go_simp; rfl)); intro gb147 hg w21 hbox hb; have n0_ := Aside0.mk (blk_below (g := gb141) (o := .cells #[.int .i64 ((rd_T53 l0 x12_1).f0.f0), .int .i64 ((rd_T53 l0 x12_1).f0.f1), .string ((rd_T53 l0 x12_1).f1)] 53 (0, 0)) (zK BK141) hb); have n1_ := Aside0.mk (below_step (zB1 HB GE141.out) hb); have n2_ := Aside0.mk (hbox); have n3_ := Aside0.mk ((by rw [hg]; exact (below_size (zB1 HB GE141.out)) : w.heap.size ≤ gb147)); have n4_ := Aside0.mk ((by rw [hg]; exact (below_size (zB1 HB GE141.out)) : w.heap.size ≤ gb147)); have n5_ := Aside0.mk ((by rw [hg]; exact Nat.ne_of_lt (blk_lt (g := gb141) (o := .cells #[.int .i64 ((rd_T53 l0 x12_1).f0.f0), .int .i64 ((rd_T53 l0 x12_1).f0.f1), .string ((rd_T53 l0 x12_1).f1)] 53 (0, 0)) (zK BK141)) : gb141 ≠ gb147)); have n6_ := Aside0.mk ((by rw [hg]; exact Nat.ne_of_gt (blk_lt (g := gb141) (o := .cells #[.int .i64 ((rd_T53 l0 x12_1).f0.f0), .int .i64 ((rd_T53 l0 x12_1).f0.f1), .string ((rd_T53 l0 x12_1).f1)] 53 (0, 0)) (zK BK141)) : gb147 ≠ gb141)); clear BK141; clear HB; have BK141 := n0_; have HB := n1_; have BK147 := n2_; have GW147 := n3_; have GE147 := n4_; have NB141_147 := n5_; have NB147_141 := n6_; clear n0_ n1_ n2_ n3_ n4_ n5_ n6_; clear hb hbox hg; have hnb22 := NB147_141.out; have hnc22 := NB141_147.out; have hcz23_0 : w21.cell? ⟨gb147, 0, none⟩ = some (.int .i64 0) := (blk_cell BK147.out 0).trans rfl; have hcz23_1 : w21.cell? ⟨gb147, 1, none⟩ = some (.int .i64 0) := (blk_cell BK147.out 1).trans rfl; have hcz23_2 : w21.cell? ⟨gb147, 2, none⟩ = some (.string (⟨#[]⟩ : ByteArray)) := (blk_cell BK147.out 2).trans rfl; have hfz23_0 := blk_frozen BK147.out 0; have hfz23_1 := blk_frozen BK147.out 1; have hfz23_2 := blk_frozen BK147.out 2; have hcz24_0 : w21.cell? ⟨gb141, 0, none⟩ = some (.int .i64 ((rd_T53 l0 x12_1).f0.f0)) := (blk_cell BK141.out 0).trans rfl; have hcz24_1 : w21.cell? ⟨gb141, 1, none⟩ = some (.int .i64 ((rd_T53 l0 x12_1).f0.f1)) := (blk_cell BK141.out 1).trans rfl; have hcz24_2 : w21.cell? ⟨gb141, 2, none⟩ = some (.string ((rd_T53 l0 x12_1).f1)) := (blk_cell BK141.out 2).trans rfl; have hfz24_0 := blk_frozen BK141.out 0; have hfz24_1 := blk_frozen BK141.out 1; have hfz24_2 := blk_frozen BK141.out 2) | ((with_reducible refine gate_callee (f := 81) rfl ?_); refine goesL_ (some 28) rfl rfl Tryd.func81 (by kernel_rfl) rfl #[.agg #[.int .i64 ((rd_T53 l0 x12_1).f0.f0), .int .i64 ((rd_T53 l0 x12_1).f0.f1), .string ((rd_T53 l0 x12_1).f1)], .agg #[.int .i64 ((rd_T53 y142 x21_2).f0.f0), .int .i64 ((rd_T53 y142 x21_2).f0.f1), .string ((rd_T53 y142 x21_2).f1)]] rfl z4 ?_; (with_reducible refine (spec_ncMeet.calls k2 ((rd_T53 l0 x12_1).f0.f0) ((rd_T53 l0 x12_1).f0.f1) ((rd_T53 l0 x12_1).f1) ((rd_T53 y142 x21_2).f0.f0) ((rd_T53 y142 x21_2).f0.f1) ((rd_T53 y142 x21_2).f1) t148 t149 false _ A14.out).mono ?_); rintro e w25 ⟨rfl, hb⟩; refine ⟨_, rfl, ?_⟩; have n0_ := Aside0.mk (blk_below (g := gb141) (o := .cells #[.int .i64 ((rd_T53 l0 x12_1).f0.f0), .int .i64 ((rd_T53 l0 x12_1).f0.f1), .string ((rd_T53 l0 x12_1).f1)] 53 (0, 0)) (by (with_reducible repeat (first | refine blk_drewN ?_ _ | refine blk_drew ?_ | refine blk_alloc ?_ _)); refine blk_far ?_ NB141_147.out _; (with_reducible repeat (first | refine blk_drewN ?_ _ | refine blk_drew ?_ | refine blk_alloc ?_ _)); refine blk_far ?_ NB141_147.out _; (with_reducible repeat (first | refine blk_drewN ?_ _ | refine blk_drew ?_ | refine blk_alloc ?_ _)); refine blk_far ?_ NB141_147.out _; (with_reducible repeat (first | refine blk_drewN ?_ _ | refine blk_drew ?_ | refine blk_alloc ?_ _)); exact BK141.out) hb); have n1_ := Aside0.mk (blk_below (g := gb147) (o := .cells #[.int .i64 ((rd_T53 y142 x21_2).f0.f0), .int .i64 ((rd_T53 y142 x21_2).f0.f1), .string ((rd_T53 y142 x21_2).f1)] 53 (0, 0)) (by (with_reducible repeat (first | refine blk_drewN ?_ _ | refine blk_drew ?_ | refine blk_alloc ?_ _)); refine blk_put (cs := #[.int .i64 ((rd_T53 y142 x21_2).f0.f0), .int .i64 ((rd_T53 y142 x21_2).f0.f1), .string (⟨#[]⟩ : ByteArray)]) ?_ 2 _ rfl; (with_reducible repeat (first | refine blk_drewN ?_ _ | refine blk_drew ?_ | refine blk_alloc ?_ _)); refine blk_put (cs := #[.int .i64 ((rd_T53 y142 x21_2).f0.f0), .int .i64 0, .string (⟨#[]⟩ : ByteArray)]) ?_ 1 _ rfl; (with_reducible repeat (first | refine blk_drewN ?_ _ | refine blk_drew ?_ | refine blk_alloc ?_ _)); refine blk_put (cs := #[.int .i64 0, .int .i64 0, .string (⟨#[]⟩ : ByteArray)]) ?_ 0 _ rfl; (with_reducible repeat (first | refine blk_drewN ?_ _ | refine blk_drew ?_ | refine blk_alloc ?_ _)); exact BK147.out) hb); have n2_ := Aside0.mk (below_step (zB2 HB GE141.out GE147.out) hb); clear BK141; clear BK147; clear HB; have BK141 := n0_; have BK147 := n1_; have HB := n2_; clear n0_ n1_ n2_; (try clear hb); (try clear hb2); (try clear hk); (try clear hi)))
             go_roundg k2
             case measure => have := HK1.out; have := HK2.out; omega
             case rel => exact ⟨(wrap64 (x21_2 + 1)), (z1), H', ⟨by have := HK1.out; have := HK2.out; omega⟩, ⟨zK BK141⟩, ⟨zB2 HB GE141.out GE147.out⟩⟩
           ·rw [if_neg c13] at H
            exact absurd H (by simp)
          ·rw [if_neg c12] at H
           exact absurd H (by simp)
         ·rw [if_neg c11] at H
          have c11b0 : decide (x21_2 < (y142.length : Int)) = false := decide_eq_false c11
          clear c11
          have H' := Aside0.mk H
          clear H
          go_wp2
          go_roundg k2
          case measure => have := HK1.out; have := HK2.out; omega
          case rel => exact ⟨(wrap64 (x12_1 + 1)), (z1), H', ⟨by have := HK1.out; have := HK2.out; omega⟩, ⟨zB1 HB GE141.out⟩⟩
      ·rw [if_neg c6] at H
       exact absurd H (by simp)
     ·rw [if_neg c4] at H
      exact absurd H (by simp)
    ·rw [if_neg c3] at H
     exact absurd H (by simp)
   ·rw [if_neg c2] at H
    have c2b0 : decide (x12_1 < (l0.length : Int)) = false := decide_eq_false c2
    clear c2
    obtain rfl := Option.some.inj H
    go_wp2
    go_ret
    exact ⟨z2, zB HB⟩

end Go.Proofs.YtaacmpmjogpodaaDoor.PFnExactAreApart
