-- Written by xprint.py (this session's own program, over the kit's print).
import Derived.Test.YtaacmpmjogpodaaDoorPFnExactAreApartx0
import Derived.Test.YtaacmpmjogpodaaDoorPFnExactAreApartx8
import Derived.Test.YtaacmpmjogpodaaDoorPFnExactAreApartx11
import Derived.Test.YtaacmpmjogpodaaDoorPFnExactAreApartx13
namespace Go.Proofs.YtaacmpmjogpodaaDoor.PFnExactAreApart
open Go.RowKit Go.Proofs.YtaacmpmjogpodaaDoorW.PrintWords Go.Proofs.YtaacmpmjogpodaaDoorW.PrintLast Go.Proofs.YtaacmpmjogpodaaDoorW.PrintMore
attribute [local go_sem] max2_int min2_int max_two min_two max_three min_three max_four min_four   -- for this text's walks alone
set_option linter.unusedVariables false
set_option linter.unusedSimpArgs false

/-! ### impl_AreApart: function 9 -/
mutual
def impl_AreApart.j0 : Nat → List (S53) → Bool → Option (Bool × Bool)
 | 0, _, _ => none
 | k + 1, x0, x17 => if x17 = true then (some (false, false)) else (impl_AreApart.l0 k x0 x0 (x0.length : Int) 0)
def impl_AreApart.l0 : Nat → List (S53) → List (S53) → Int → Int → Option (Bool × Bool)
 | 0, _, _, _, _ => none
 | k + 1, x0, x18, x19, x20 => if x20 < x19 then (if 0 ≤ x20 then (if x20 < (x18.length : Int) then (if x20 ≤ (x0.length : Int) then ((some (x0.take (x20 : Int).toNat : List (S53))).bind fun y218 => (impl_AreApart.l1 k x0 x18 x19 x20 y218 (y218.length : Int) 0 ((rd_T53 x18 x20).f0.f0) ((rd_T53 x18 x20).f0.f1) ((rd_T53 x18 x20).f1))) else (none)) else (none)) else (none)) else (some (true, true))
def impl_AreApart.l1 : Nat → List (S53) → List (S53) → Int → Int → List (S53) → Int → Int → Int → Int → ByteArray → Option (Bool × Bool)
 | 0, _, _, _, _, _, _, _, _, _, _ => none
 | k + 1, x0, x18, x19, x20, x27, x28, x29, x218000, x218001, x218002 => if x29 < x28 then (if 0 ≤ x29 then (if x29 < (x27.length : Int) then ((impl_meeting.f k x218000 x218001 x218002 ((rd_T53 x27 x29).f0.f0) ((rd_T53 x27 x29).f0.f1) ((rd_T53 x27 x29).f1)).bind fun bt224 => (if bt224.1 ≥ 0 then (some (false, true)) else (impl_AreApart.l1 k x0 x18 x19 x20 x27 x28 (wrap64 (x29 + 1)) x218000 x218001 x218002))) else (none)) else (none)) else (impl_AreApart.l0 k x0 x18 x19 (wrap64 (x20 + 1)))
end
def impl_AreApart.f (k : Nat) (l0 : List (S53)) : Option (Bool × Bool) := (impl_in.f (l0.length : Int) 1 4).bind fun t197 => (if t197 = true then ((impl_Way_58_on_AreApart_1.f k l0).bind fun t215 => (impl_AreApart.j0 k l0 t215)) else (impl_AreApart.j0 k l0 true))
theorem impl_AreApart.mono_l : ∀ k, (∀ y0 y1, LeO (impl_AreApart.j0 k y0 y1) (impl_AreApart.j0 (k + 1) y0 y1)) ∧ (∀ y0 y1 y2 y3, LeO (impl_AreApart.l0 k y0 y1 y2 y3) (impl_AreApart.l0 (k + 1) y0 y1 y2 y3)) ∧ (∀ y0 y1 y2 y3 y4 y5 y6 y7 y8 y9, LeO (impl_AreApart.l1 k y0 y1 y2 y3 y4 y5 y6 y7 y8 y9) (impl_AreApart.l1 (k + 1) y0 y1 y2 y3 y4 y5 y6 y7 y8 y9))
 | 0 => ⟨fun _ _ r h => by simp [impl_AreApart.j0] at h, fun _ _ _ _ r h => by simp [impl_AreApart.l0] at h, fun _ _ _ _ _ _ _ _ _ _ r h => by simp [impl_AreApart.l1] at h⟩
 | k + 1 => by
  obtain ⟨ih0, ih1, ih2⟩ := impl_AreApart.mono_l k
  refine ⟨?_, ?_, ?_⟩
  ·intro y0 y1
   unfold impl_AreApart.j0
   repeat' first
   | (with_reducible exact ih0 _ _)
   | (with_reducible exact ih1 _ _ _ _)
   | (with_reducible exact ih2 _ _ _ _ _ _ _ _ _ _)
   | (with_reducible exact impl_Way_58_on_AreApart_1.mono _ _)
   | (with_reducible exact impl_meeting.mono _ _ _ _ _ _ _)
   | (with_reducible exact LeO.refl _)
   | (with_reducible exact LeO.none _)
   | (with_reducible refine LeO.ite ?_ ?_)
   | (with_reducible refine LeO.bind ?_ (fun _ => ?_))
   | exact ih0 _ _
   | exact ih1 _ _ _ _
   | exact ih2 _ _ _ _ _ _ _ _ _ _
   | exact impl_Way_58_on_AreApart_1.mono _ _
   | exact impl_meeting.mono _ _ _ _ _ _ _
   | exact LeO.none _
   | refine LeO.ite ?_ ?_
   | refine LeO.bind ?_ (fun _ => ?_)
  ·intro y0 y1 y2 y3
   unfold impl_AreApart.l0
   repeat' first
   | (with_reducible exact ih0 _ _)
   | (with_reducible exact ih1 _ _ _ _)
   | (with_reducible exact ih2 _ _ _ _ _ _ _ _ _ _)
   | (with_reducible exact impl_Way_58_on_AreApart_1.mono _ _)
   | (with_reducible exact impl_meeting.mono _ _ _ _ _ _ _)
   | (with_reducible exact LeO.refl _)
   | (with_reducible exact LeO.none _)
   | (with_reducible refine LeO.ite ?_ ?_)
   | (with_reducible refine LeO.bind ?_ (fun _ => ?_))
   | exact ih0 _ _
   | exact ih1 _ _ _ _
   | exact ih2 _ _ _ _ _ _ _ _ _ _
   | exact impl_Way_58_on_AreApart_1.mono _ _
   | exact impl_meeting.mono _ _ _ _ _ _ _
   | exact LeO.none _
   | refine LeO.ite ?_ ?_
   | refine LeO.bind ?_ (fun _ => ?_)
  ·intro y0 y1 y2 y3 y4 y5 y6 y7 y8 y9
   unfold impl_AreApart.l1
   repeat' first
   | (with_reducible exact ih0 _ _)
   | (with_reducible exact ih1 _ _ _ _)
   | (with_reducible exact ih2 _ _ _ _ _ _ _ _ _ _)
   | (with_reducible exact impl_Way_58_on_AreApart_1.mono _ _)
   | (with_reducible exact impl_meeting.mono _ _ _ _ _ _ _)
   | (with_reducible exact LeO.refl _)
   | (with_reducible exact LeO.none _)
   | (with_reducible refine LeO.ite ?_ ?_)
   | (with_reducible refine LeO.bind ?_ (fun _ => ?_))
   | exact ih0 _ _
   | exact ih1 _ _ _ _
   | exact ih2 _ _ _ _ _ _ _ _ _ _
   | exact impl_Way_58_on_AreApart_1.mono _ _
   | exact impl_meeting.mono _ _ _ _ _ _ _
   | exact LeO.none _
   | refine LeO.ite ?_ ?_
   | refine LeO.bind ?_ (fun _ => ?_)
theorem impl_AreApart.mono : ∀ a0 k, LeO (impl_AreApart.f k a0) (impl_AreApart.f (k + 1) a0) := by
 intro a0 k
 obtain ⟨ih0, ih1, ih2⟩ := impl_AreApart.mono_l k
 unfold impl_AreApart.f
 repeat' first
   | (with_reducible exact ih0 _ _)
   | (with_reducible exact ih1 _ _ _ _)
   | (with_reducible exact ih2 _ _ _ _ _ _ _ _ _ _)
   | (with_reducible exact impl_Way_58_on_AreApart_1.mono _ _)
   | (with_reducible exact impl_meeting.mono _ _ _ _ _ _ _)
   | (with_reducible exact LeO.refl _)
   | (with_reducible exact LeO.none _)
   | (with_reducible refine LeO.ite ?_ ?_)
   | (with_reducible refine LeO.bind ?_ (fun _ => ?_))
   | exact ih0 _ _
   | exact ih1 _ _ _ _
   | exact ih2 _ _ _ _ _ _ _ _ _ _
   | exact impl_Way_58_on_AreApart_1.mono _ _
   | exact impl_meeting.mono _ _ _ _ _ _ _
   | exact LeO.none _
   | refine LeO.ite ?_ ?_
   | refine LeO.bind ?_ (fun _ => ?_)
set_option maxHeartbeats 8000000 in
set_option maxRecDepth 100000 in
theorem impl_AreApart.calls (k : Nat) (A0 : Option Addr) (c0 : Nat) (l0 : List (S53)) (r1 : Bool) (r2 : Bool) (w : World) (hr0 : Kd.C k53 w A0 l0.length l0) (hc0 : l0.length ≤ c0) (h : impl_AreApart.f k l0 = some (r1, r2)) :
  Calls Tryd.prog 9 #[.slice A0 l0.length c0] w fun e w' => e = .returned (.tuple #[.bool r1, .bool r2]) ∧ Below w.heap.size w w' := by
 have hu53 := Tryd.underlying53
 have HR0 := Aside0.mk hr0
 have HC0 := Aside0.mk hc0
 clear hr0 hc0
 have HB := Aside0.mk (Below.refl w.heap.size w)
 have H : ((impl_in.f (l0.length : Int) 1 4).bind fun t197 => (if t197 = true then ((impl_Way_58_on_AreApart_1.f k l0).bind fun t215 => (impl_AreApart.j0 k l0 t215)) else (impl_AreApart.j0 k l0 true))) = some (r1, r2) := h
 clear h
 have HC2 := Aside0.mk H
 clear H
 go_enter Tryd.func9, Tryd.ntmps9
 go_upto_region 1 with (fail)
 go_cut [17] (fun v17 wc => ∃ (kq : Nat) (x17_1 : Bool), v17 = .bool x17_1 ∧ Aside0 (impl_AreApart.j0 kq l0 x17_1 = some (r1, r2)) ∧ Aside0 (kq ≤ k) ∧ Aside0 (Below w.heap.size w wc))
 case first =>
  have H := HC2.out
  clear HC2
  replace H := Option.bind_eq_some_iff.mp H
  obtain ⟨t197, A30, H⟩ := H
  replace H : (if t197 = true then ((impl_Way_58_on_AreApart_1.f k l0).bind fun t215 => (impl_AreApart.j0 k l0 t215)) else (impl_AreApart.j0 k l0 true)) = some (r1, r2) := H
  have A3 := Aside0.mk A30
  clear A30
  by_cases c4 : t197 = true
  ·subst c4
   have H1 : ((impl_Way_58_on_AreApart_1.f k l0).bind fun t215 => (impl_AreApart.j0 k l0 t215)) = some (r1, r2) := by rw [if_pos rfl] at H; exact H
   clear H
   have H := H1
   clear H1
   replace H := Option.bind_eq_some_iff.mp H
   obtain ⟨t215, A50, H⟩ := H
   replace H : (impl_AreApart.j0 k l0 t215) = some (r1, r2) := H
   have A5 := Aside0.mk A50
   clear A50
   have H' := Aside0.mk H
   clear H
   go_wp2_with (first | ((with_reducible refine gate_callee (f := 57) rfl ?_); refine goesL_ (some 12) rfl rfl Tryd.func57 (by kernel_rfl) rfl #[.int .i64 (l0.length : Int), .int .i64 1, .int .i64 4] rfl z4 ?_; (with_reducible refine (impl_in.calls (l0.length : Int) 1 4 true _ A3.out).mono ?_); rintro e w' ⟨rfl, ⟨nd, rfl⟩⟩; refine ⟨_, rfl, ?_⟩) | (go_at_call 58; (with_reducible refine (impl_Way_58_on_AreApart_1.calls k _ _ l0  t215 _ ?side1 ?side2 A5.out).mono ?_); (case side1 => repeat (first | exact (Kd.C_below HR0.out (zB HB)) | (with_reducible refine Kd.C_alloc ?_ _) | (with_reducible refine Kd.C_drewN ?_ _) | (with_reducible refine Kd.C_drew ?_))); (case side2 => exact HC0.out); rintro e w6 ⟨rfl, hb⟩; have n0_ := Aside0.mk (below_step (zB HB) hb); clear HB; have HB := n0_; clear n0_; (try clear hb); (try clear hb2); (try clear hk); (try clear hi)))
   go_meet
   case rel => exact ⟨_, (t215), (z1), H', ⟨by first | omega | exact Nat.le_refl _⟩, ⟨zB HB⟩⟩
  ·replace c4 := Bool.eq_false_iff.mpr c4
   subst c4
   have H1 : (impl_AreApart.j0 k l0 true) = some (r1, r2) := by rw [if_neg (show ¬ (false = true) by decide)] at H; exact H
   clear H
   have H := H1
   clear H1
   have H' := Aside0.mk H
   clear H
   go_wp2_with (first | ((with_reducible refine gate_callee (f := 57) rfl ?_); refine goesL_ (some 12) rfl rfl Tryd.func57 (by kernel_rfl) rfl #[.int .i64 (l0.length : Int), .int .i64 1, .int .i64 4] rfl z4 ?_; (with_reducible refine (impl_in.calls (l0.length : Int) 1 4 false _ A3.out).mono ?_); rintro e w' ⟨rfl, ⟨nd, rfl⟩⟩; refine ⟨_, rfl, ?_⟩))
   go_meet
   case rel => exact ⟨_, (true), (z1), H', ⟨by first | omega | exact Nat.le_refl _⟩, ⟨zB HB⟩⟩
 case rest =>
  clear HC2
  try clear p2
  try clear c4
  try clear c5
  obtain ⟨kq, x17_1, rfl, HA, HJ1, HB⟩ := hcut
  cases kq with
  | zero => exact absurd HA.out (by simp [impl_AreApart.j0])
  | succ kj1 =>
   have H := HA.out
   clear HA
   simp only [impl_AreApart.j0] at H
   by_cases c7 : x17_1 = true
   ·subst c7
    have H1 : (some (false, false)) = some (r1, r2) := by rw [if_pos rfl] at H; exact H
    clear H
    have H := H1
    clear H1
    simp only [Option.some.injEq, Prod.mk.injEq] at H
    obtain ⟨rfl, rfl⟩ := H
    go_wp2
    go_ret2
    exact ⟨z2, zB HB⟩
   ·replace c7 := Bool.eq_false_iff.mpr c7
    subst c7
    have H1 : (impl_AreApart.l0 kj1 l0 l0 (l0.length : Int) 0) = some (r1, r2) := by rw [if_neg (show ¬ (false = true) by decide)] at H; exact H
    clear H
    have H := H1
    clear H1
    have H' := Aside0.mk H
    clear H
    go_wp2
    go_loopg [20] kj1 (fun kq v20 w' => ∃ (x20_2 : Int), v20 = .int .i64 x20_2 ∧ Aside0 (impl_AreApart.l0 kq l0 l0 (l0.length : Int) x20_2 = some (r1, r2)) ∧ Aside0 (kq ≤ kj1) ∧ Aside0 (Below w.heap.size w w'))
    case atStart => exact ⟨(0), (z1), H', ⟨Nat.le_refl _⟩, ⟨zB HB⟩⟩
    case round =>
     clear H'
     try clear p2
     try clear c4
     try clear c5
     try clear c7
     try clear p2
     obtain ⟨x20_2, rfl, HA, HK2, HB⟩ := hrel
     cases gk with
     | zero => exact absurd HA.out (by simp [impl_AreApart.l0])
     | succ k2 =>
      have H := HA.out
      clear HA
      simp only [impl_AreApart.l0] at H
      by_cases c8 : x20_2 < (l0.length : Int)
      ·rw [if_pos c8] at H
       have c8b0 : decide (x20_2 < (l0.length : Int)) = true := decide_eq_true c8
       clear c8
       by_cases c9 : 0 ≤ x20_2
       ·rw [if_pos c9] at H
        have c9b0 : decide (0 ≤ x20_2) = true := decide_eq_true c9
        clear c9
        by_cases c10 : x20_2 < (l0.length : Int)
        ·rw [if_pos c10] at H
         have c10b0 : decide (x20_2 < (l0.length : Int)) = true := decide_eq_true c10
         clear c10
         have c11b0 := eq_true (of_decide_eq_true z3 : 0 ≤ x20_2)
         by_cases c12 : x20_2 ≤ (l0.length : Int)
         ·rw [if_pos c12] at H
          have c12b0 := eq_true c12
          have c12b1 : decide (x20_2 ≤ (l0.length : Int)) = true := decide_eq_true c12
          clear c12
          obtain ⟨y218, hy218⟩ : ∃ y_ : List (S53), y_ = (l0.take (x20_2 : Int).toNat) := ⟨_, rfl⟩
          replace H : (impl_AreApart.l1 k2 l0 l0 (l0.length : Int) x20_2 y218 (y218.length : Int) 0 ((rd_T53 l0 x20_2).f0.f0) ((rd_T53 l0 x20_2).f0.f1) ((rd_T53 l0 x20_2).f1)) = some (r1, r2) := by first | (rw [hy218]; with_reducible exact H) | (have H2_ := (Option.bind_some _ _).symm.trans H; rw [hy218]; with_reducible exact H2_) | (have H2_ := (Option.bind_some _ _).symm.trans H; with_reducible exact H2_) | with_reducible exact H | (rw [hy218]; exact H) | exact H
          have Ny218 := Aside0.mk hy218
          clear hy218
          have H' := Aside0.mk H
          clear H
          have p216 : 0 ≤ (x20_2 : Int) := of_decide_eq_true z3
          have q216 : x20_2 < (l0.length : Int) := of_decide_eq_true z3
          obtain ⟨ad216, e216, hx216_0, hx216_1, hx216_2⟩ := at_T53 HR0.out x20_2 p216 q216
          cases e216
          replace hx216_0 := (HB.out.cell (World.block_lt_of_cell? w _ hx216_0)).trans hx216_0
          replace hx216_1 := (HB.out.cell (World.block_lt_of_cell? w _ hx216_1)).trans hx216_1
          replace hx216_2 := (HB.out.cell (World.block_lt_of_cell? w _ hx216_2)).trans hx216_2
          replace p216 := eq_true p216
          replace q216 := eq_true q216
          go_wp2_with (first | ((with_reducible refine gate_dst (N := 5) rfl ?_); refine box_event ?hg (N := 5) ?hd (cs := #[.int .i64 0, .int .i64 0, .string (⟨#[]⟩ : ByteArray)]) (t := 53) ?hr ?_; (case hd => rfl); (case hg => rfl); (case hr => first | (go_simp; done) | (go_simp; rfl)); intro gb217 hg w13 hbox hb; have n0_ := Aside0.mk (below_step (zB HB) hb); have n1_ := Aside0.mk (hbox); have n2_ := Aside0.mk ((by rw [hg]; exact (below_size (zB HB)) : w.heap.size ≤ gb217)); have n3_ := Aside0.mk ((by rw [hg]; exact (below_size (zB HB)) : w.heap.size ≤ gb217)); clear HB; have HB := n0_; have BK217 := n1_; have GW217 := n2_; have GE217 := n3_; clear n0_ n1_ n2_ n3_; clear hb hbox hg; have hcz14_0 : w13.cell? ⟨gb217, 0, none⟩ = some (.int .i64 0) := (blk_cell BK217.out 0).trans rfl; have hcz14_1 : w13.cell? ⟨gb217, 1, none⟩ = some (.int .i64 0) := (blk_cell BK217.out 1).trans rfl; have hcz14_2 : w13.cell? ⟨gb217, 2, none⟩ = some (.string (⟨#[]⟩ : ByteArray)) := (blk_cell BK217.out 2).trans rfl; have hfz14_0 := blk_frozen BK217.out 0; have hfz14_1 := blk_frozen BK217.out 1; have hfz14_2 := blk_frozen BK217.out 2) | ((with_reducible refine gate_store (t := 53) (p := 5) rfl ?_); refine store_event (t := 53) (p := 5) (v := ?vo_w15) (w1 := (((w13.setCell ⟨gb217, 0, none⟩ (.int .i64 ((rd_T53 l0 x20_2).f0.f0))).setCell ⟨gb217, 1, none⟩ (.int .i64 ((rd_T53 l0 x20_2).f0.f1))).setCell ⟨gb217, 2, none⟩ (.string ((rd_T53 l0 x20_2).f1)))) ?hg ?ho ?hn ?hr ?_; (case ho => rfl); (case hg => rfl); (case hn => rfl); (case hr => first | (go_simp; done) | (go_simp; rfl)); intro w15 hw; have n0_ : Aside0 (w15.heap[gb217]? = some (.cells #[.int .i64 ((rd_T53 l0 x20_2).f0.f0), .int .i64 ((rd_T53 l0 x20_2).f0.f1), .string ((rd_T53 l0 x20_2).f1)] 53 (0, 0))) := ⟨(by rw [hw]; exact (by (with_reducible repeat (first | refine blk_drewN ?_ _ | refine blk_drew ?_ | refine blk_alloc ?_ _)); refine blk_put (cs := #[.int .i64 ((rd_T53 l0 x20_2).f0.f0), .int .i64 ((rd_T53 l0 x20_2).f0.f1), .string (⟨#[]⟩ : ByteArray)]) ?_ 2 _ rfl; (with_reducible repeat (first | refine blk_drewN ?_ _ | refine blk_drew ?_ | refine blk_alloc ?_ _)); refine blk_put (cs := #[.int .i64 ((rd_T53 l0 x20_2).f0.f0), .int .i64 0, .string (⟨#[]⟩ : ByteArray)]) ?_ 1 _ rfl; (with_reducible repeat (first | refine blk_drewN ?_ _ | refine blk_drew ?_ | refine blk_alloc ?_ _)); refine blk_put (cs := #[.int .i64 0, .int .i64 0, .string (⟨#[]⟩ : ByteArray)]) ?_ 0 _ rfl; (with_reducible repeat (first | refine blk_drewN ?_ _ | refine blk_drew ?_ | refine blk_alloc ?_ _)); exact BK217.out))⟩; have n1_ : Aside0 (Below w.heap.size w w15) := ⟨(by rw [hw]; exact (zB1 HB GE217.out))⟩; clear hw; clear BK217; clear HB; have BK217 := n0_; have HB := n1_; clear n0_ n1_; have q16 : (x20_2 : Int) ≤ ((l0.length : Int) : Int) := of_decide_eq_true z3; obtain ⟨i016, hi016, _, hsz16, _⟩ := info_parts info53; have hroom16 : l0.length ≤ c0 := HC0.out; have hC16 : Kd.C k53 _ (some ad216) l0.length l0 := HR0.out; have hcut16 := cut_to (P := Tryd.prog) 26 53 .i64 Tryd.underlying26 hi016 (some ad216) l0.length c0 x20_2 (of_decide_eq_true z3) q16 hroom16; have hr16 := Kd.C_take (m := (x20_2 : Int).toNat) hC16 (by omega); have hy16 : y218.length = (x20_2 : Int).toNat := (by rw [Ny218.out, List.length_take]; omega); rw [← Ny218.out] at hr16; rw [← hy16] at hcut16; have HR221 := Aside0.mk hr16; have HC221 := Aside0.mk (show y218.length ≤ c0 from by omega); clear hr16 hC16 hroom16 hi016 hsz16; have KY16 := Aside0.mk hy16; clear hy16; replace q16 := eq_true q16))
          go_loopg [29] k2 (fun kq v29 w' => ∃ (x29_3 : Int), v29 = .int .i64 x29_3 ∧ Aside0 (impl_AreApart.l1 kq l0 l0 (l0.length : Int) x20_2 y218 (y218.length : Int) x29_3 ((rd_T53 l0 x20_2).f0.f0) ((rd_T53 l0 x20_2).f0.f1) ((rd_T53 l0 x20_2).f1) = some (r1, r2)) ∧ Aside0 (kq ≤ k2) ∧ Aside0 (w'.heap[gb217]? = some (.cells #[.int .i64 ((rd_T53 l0 x20_2).f0.f0), .int .i64 ((rd_T53 l0 x20_2).f0.f1), .string ((rd_T53 l0 x20_2).f1)] 53 (0, 0))) ∧ Aside0 (Below w.heap.size w w'))
          case atStart => exact ⟨(0), (z1), H', ⟨Nat.le_refl _⟩, ⟨zK BK217⟩, ⟨zB1 HB GE217.out⟩⟩
          case round =>
           clear H'
           try clear c1
           try clear q1
           try clear p2
           try clear q2
           try clear hx2
           try clear c4
           try clear c5
           try clear c7
           try clear c8
           try clear c8b0
           try clear c9
           try clear c9b0
           try clear c10
           try clear c10b0
           try clear c11
           try clear c11b0
           try clear c12
           try clear c12b0
           try clear c12b1
           try clear q16
           try clear hcz14_0
           try clear hcz14_1
           try clear hcz14_2
           try clear hfz14_0
           try clear hfz14_1
           try clear hfz14_2
           try clear hx216_0
           try clear hx216_1
           try clear hx216_2
           try clear p2
           try clear p216
           try clear q16
           try clear q216
           obtain ⟨x29_3, rfl, HA, HK3, BK217, HB⟩ := hrel
           cases gk with
           | zero => exact absurd HA.out (by simp [impl_AreApart.l1])
           | succ k3 =>
            have H := HA.out
            clear HA
            simp only [impl_AreApart.l1] at H
            by_cases c17 : x29_3 < (y218.length : Int)
            ·rw [if_pos c17] at H
             have c17b0 : decide (x29_3 < (y218.length : Int)) = true := decide_eq_true c17
             clear c17
             by_cases c18 : 0 ≤ x29_3
             ·rw [if_pos c18] at H
              have c18b0 : decide (0 ≤ x29_3) = true := decide_eq_true c18
              clear c18
              by_cases c19 : x29_3 < (y218.length : Int)
              ·rw [if_pos c19] at H
               have c19b0 : decide (x29_3 < (y218.length : Int)) = true := decide_eq_true c19
               clear c19
               replace H := Option.bind_eq_some_iff.mp H
               obtain ⟨⟨t224, t225⟩, A200, H⟩ := H
               replace H : (if t224 ≥ 0 then (some (false, true)) else (impl_AreApart.l1 k3 l0 l0 (l0.length : Int) x20_2 y218 (y218.length : Int) (wrap64 (x29_3 + 1)) ((rd_T53 l0 x20_2).f0.f0) ((rd_T53 l0 x20_2).f0.f1) ((rd_T53 l0 x20_2).f1))) = some (r1, r2) := H
               have A20 := Aside0.mk A200
               clear A200
               by_cases c21 : t224 ≥ 0
               ·rw [if_pos c21] at H
                have c21b0 : decide (0 ≤ t224) = true := decide_eq_true c21
                clear c21
                simp only [Option.some.injEq, Prod.mk.injEq] at H
                obtain ⟨rfl, rfl⟩ := H
                have p222 : 0 ≤ (x29_3 : Int) := of_decide_eq_true z3
                have q222 : x29_3 < (y218.length : Int) := of_decide_eq_true z3
                obtain ⟨ad222, e222, hx222_0, hx222_1, hx222_2⟩ := at_T53 HR221.out x29_3 p222 q222
                obtain rfl : ad216 = ad222 := (by injection e222)
                replace hx222_0 := (HB.out.cell (World.block_lt_of_cell? w _ hx222_0)).trans hx222_0
                replace hx222_1 := (HB.out.cell (World.block_lt_of_cell? w _ hx222_1)).trans hx222_1
                replace hx222_2 := (HB.out.cell (World.block_lt_of_cell? w _ hx222_2)).trans hx222_2
                replace p222 := eq_true p222
                replace q222 := eq_true q222
                go_wp2_with (first | ((with_reducible refine gate_dst (N := 7) rfl ?_); refine box_event ?hg (N := 7) ?hd (cs := #[.int .i64 0, .int .i64 0, .string (⟨#[]⟩ : ByteArray)]) (t := 53) ?hr ?_; (case hd => rfl); (case hg => rfl); (case hr => first | (go_simp; done) | (go_simp; rfl)); intro gb223 hg w22 hbox hb; have n0_ := Aside0.mk (blk_below (g := gb217) (o := .cells #[.int .i64 ((rd_T53 l0 x20_2).f0.f0), .int .i64 ((rd_T53 l0 x20_2).f0.f1), .string ((rd_T53 l0 x20_2).f1)] 53 (0, 0)) (zK BK217) hb); have n1_ := Aside0.mk (below_step (zB1 HB GE217.out) hb); have n2_ := Aside0.mk (hbox); have n3_ := Aside0.mk ((by rw [hg]; exact (below_size (zB1 HB GE217.out)) : w.heap.size ≤ gb223)); have n4_ := Aside0.mk ((by rw [hg]; exact (below_size (zB1 HB GE217.out)) : w.heap.size ≤ gb223)); have n5_ := Aside0.mk ((by rw [hg]; exact Nat.ne_of_lt (blk_lt (g := gb217) (o := .cells #[.int .i64 ((rd_T53 l0 x20_2).f0.f0), .int .i64 ((rd_T53 l0 x20_2).f0.f1), .string ((rd_T53 l0 x20_2).f1)] 53 (0, 0)) (zK BK217)) : gb217 ≠ gb223)); have n6_ := Aside0.mk ((by rw [hg]; exact Nat.ne_of_gt (blk_lt (g := gb217) (o := .cells #[.int .i64 ((rd_T53 l0 x20_2).f0.f0), .int .i64 ((rd_T53 l0 x20_2).f0.f1), .string ((rd_T53 l0 x20_2).f1)] 53 (0, 0)) (zK BK217)) : gb223 ≠ gb217)); clear BK217; clear HB; have BK217 := n0_; have HB := n1_; have BK223 := n2_; have GW223 := n3_; have GE223 := n4_; have NB217_223 := n5_; have NB223_217 := n6_; clear n0_ n1_ n2_ n3_ n4_ n5_ n6_; clear hb hbox hg; have hnb23 := NB223_217.out; have hnc23 := NB217_223.out; have hcz24_0 : w22.cell? ⟨gb223, 0, none⟩ = some (.int .i64 0) := (blk_cell BK223.out 0).trans rfl; have hcz24_1 : w22.cell? ⟨gb223, 1, none⟩ = some (.int .i64 0) := (blk_cell BK223.out 1).trans rfl; have hcz24_2 : w22.cell? ⟨gb223, 2, none⟩ = some (.string (⟨#[]⟩ : ByteArray)) := (blk_cell BK223.out 2).trans rfl; have hfz24_0 := blk_frozen BK223.out 0; have hfz24_1 := blk_frozen BK223.out 1; have hfz24_2 := blk_frozen BK223.out 2; have hcz25_0 : w22.cell? ⟨gb217, 0, none⟩ = some (.int .i64 ((rd_T53 l0 x20_2).f0.f0)) := (blk_cell BK217.out 0).trans rfl; have hcz25_1 : w22.cell? ⟨gb217, 1, none⟩ = some (.int .i64 ((rd_T53 l0 x20_2).f0.f1)) := (blk_cell BK217.out 1).trans rfl; have hcz25_2 : w22.cell? ⟨gb217, 2, none⟩ = some (.string ((rd_T53 l0 x20_2).f1)) := (blk_cell BK217.out 2).trans rfl; have hfz25_0 := blk_frozen BK217.out 0; have hfz25_1 := blk_frozen BK217.out 1; have hfz25_2 := blk_frozen BK217.out 2) | ((with_reducible refine gate_callee (f := 60) rfl ?_); refine goesL_ (some 36) rfl rfl Tryd.func60 (by kernel_rfl) rfl #[.agg #[.int .i64 ((rd_T53 l0 x20_2).f0.f0), .int .i64 ((rd_T53 l0 x20_2).f0.f1), .string ((rd_T53 l0 x20_2).f1)], .agg #[.int .i64 ((rd_T53 y218 x29_3).f0.f0), .int .i64 ((rd_T53 y218 x29_3).f0.f1), .string ((rd_T53 y218 x29_3).f1)]] rfl z4 ?_; (with_reducible refine (impl_meeting.calls k3 ((rd_T53 l0 x20_2).f0.f0) ((rd_T53 l0 x20_2).f0.f1) ((rd_T53 l0 x20_2).f1) ((rd_T53 y218 x29_3).f0.f0) ((rd_T53 y218 x29_3).f0.f1) ((rd_T53 y218 x29_3).f1) t224 t225 _ A20.out).mono ?_); rintro e w26 ⟨rfl, hb⟩; refine ⟨_, rfl, ?_⟩; have n0_ := Aside0.mk (blk_below (g := gb217) (o := .cells #[.int .i64 ((rd_T53 l0 x20_2).f0.f0), .int .i64 ((rd_T53 l0 x20_2).f0.f1), .string ((rd_T53 l0 x20_2).f1)] 53 (0, 0)) (by (with_reducible repeat (first | refine blk_drewN ?_ _ | refine blk_drew ?_ | refine blk_alloc ?_ _)); refine blk_far ?_ NB217_223.out _; (with_reducible repeat (first | refine blk_drewN ?_ _ | refine blk_drew ?_ | refine blk_alloc ?_ _)); refine blk_far ?_ NB217_223.out _; (with_reducible repeat (first | refine blk_drewN ?_ _ | refine blk_drew ?_ | refine blk_alloc ?_ _)); refine blk_far ?_ NB217_223.out _; (with_reducible repeat (first | refine blk_drewN ?_ _ | refine blk_drew ?_ | refine blk_alloc ?_ _)); exact BK217.out) hb); have n1_ := Aside0.mk (blk_below (g := gb223) (o := .cells #[.int .i64 ((rd_T53 y218 x29_3).f0.f0), .int .i64 ((rd_T53 y218 x29_3).f0.f1), .string ((rd_T53 y218 x29_3).f1)] 53 (0, 0)) (by (with_reducible repeat (first | refine blk_drewN ?_ _ | refine blk_drew ?_ | refine blk_alloc ?_ _)); refine blk_put (cs := #[.int .i64 ((rd_T53 y218 x29_3).f0.f0), .int .i64 ((rd_T53 y218 x29_3).f0.f1), .string (⟨#[]⟩ : ByteArray)]) ?_ 2 _ rfl; (with_reducible repeat (first | refine blk_drewN ?_ _ | refine blk_drew ?_ | refine blk_alloc ?_ _)); refine blk_put (cs := #[.int .i64 ((rd_T53 y218 x29_3).f0.f0), .int .i64 0, .string (⟨#[]⟩ : ByteArray)]) ?_ 1 _ rfl; (with_reducible repeat (first | refine blk_drewN ?_ _ | refine blk_drew ?_ | refine blk_alloc ?_ _)); refine blk_put (cs := #[.int .i64 0, .int .i64 0, .string (⟨#[]⟩ : ByteArray)]) ?_ 0 _ rfl; (with_reducible repeat (first | refine blk_drewN ?_ _ | refine blk_drew ?_ | refine blk_alloc ?_ _)); exact BK223.out) hb); have n2_ := Aside0.mk (below_step (zB2 HB GE217.out GE223.out) hb); clear BK217; clear BK223; clear HB; have BK217 := n0_; have BK223 := n1_; have HB := n2_; clear n0_ n1_ n2_; (try clear hb); (try clear hb2); (try clear hk); (try clear hi)))
                go_ret2
                exact ⟨z2, zB2 HB GE217.out GE223.out⟩
               ·rw [if_neg c21] at H
                have c21b0 : decide (0 ≤ t224) = false := decide_eq_false c21
                clear c21
                have H' := Aside0.mk H
                clear H
                have p222 : 0 ≤ (x29_3 : Int) := of_decide_eq_true z3
                have q222 : x29_3 < (y218.length : Int) := of_decide_eq_true z3
                obtain ⟨ad222, e222, hx222_0, hx222_1, hx222_2⟩ := at_T53 HR221.out x29_3 p222 q222
                obtain rfl : ad216 = ad222 := (by injection e222)
                replace hx222_0 := (HB.out.cell (World.block_lt_of_cell? w _ hx222_0)).trans hx222_0
                replace hx222_1 := (HB.out.cell (World.block_lt_of_cell? w _ hx222_1)).trans hx222_1
                replace hx222_2 := (HB.out.cell (World.block_lt_of_cell? w _ hx222_2)).trans hx222_2
                replace p222 := eq_true p222
                replace q222 := eq_true q222
                go_wp2_with (first | ((with_reducible refine gate_dst (N := 7) rfl ?_); refine box_event ?hg (N := 7) ?hd (cs := #[.int .i64 0, .int .i64 0, .string (⟨#[]⟩ : ByteArray)]) (t := 53) ?hr ?_; (case hd => rfl); (case hg => rfl); (case hr => first | (go_simp; done) | (go_simp; rfl)); intro gb223 hg w27 hbox hb; have n0_ := Aside0.mk (blk_below (g := gb217) (o := .cells #[.int .i64 ((rd_T53 l0 x20_2).f0.f0), .int .i64 ((rd_T53 l0 x20_2).f0.f1), .string ((rd_T53 l0 x20_2).f1)] 53 (0, 0)) (zK BK217) hb); have n1_ := Aside0.mk (below_step (zB1 HB GE217.out) hb); have n2_ := Aside0.mk (hbox); have n3_ := Aside0.mk ((by rw [hg]; exact (below_size (zB1 HB GE217.out)) : w.heap.size ≤ gb223)); have n4_ := Aside0.mk ((by rw [hg]; exact (below_size (zB1 HB GE217.out)) : w.heap.size ≤ gb223)); have n5_ := Aside0.mk ((by rw [hg]; exact Nat.ne_of_lt (blk_lt (g := gb217) (o := .cells #[.int .i64 ((rd_T53 l0 x20_2).f0.f0), .int .i64 ((rd_T53 l0 x20_2).f0.f1), .string ((rd_T53 l0 x20_2).f1)] 53 (0, 0)) (zK BK217)) : gb217 ≠ gb223)); have n6_ := Aside0.mk ((by rw [hg]; exact Nat.ne_of_gt (blk_lt (g := gb217) (o := .cells #[.int .i64 ((rd_T53 l0 x20_2).f0.f0), .int .i64 ((rd_T53 l0 x20_2).f0.f1), .string ((rd_T53 l0 x20_2).f1)] 53 (0, 0)) (zK BK217)) : gb223 ≠ gb217)); clear BK217; clear HB; have BK217 := n0_; have HB := n1_; have BK223 := n2_; have GW223 := n3_; have GE223 := n4_; have NB217_223 := n5_; have NB223_217 := n6_; clear n0_ n1_ n2_ n3_ n4_ n5_ n6_; clear hb hbox hg; have hnb28 := NB223_217.out; have hnc28 := NB217_223.out; have hcz29_0 : w27.cell? ⟨gb223, 0, none⟩ = some (.int .i64 0) := (blk_cell BK223.out 0).trans rfl; have hcz29_1 : w27.cell? ⟨gb223, 1, none⟩ = some (.int .i64 0) := (blk_cell BK223.out 1).trans rfl; have hcz29_2 : w27.cell? ⟨gb223, 2, none⟩ = some (.string (⟨#[]⟩ : ByteArray)) := (blk_cell BK223.out 2).trans rfl; have hfz29_0 := blk_frozen BK223.out 0; have hfz29_1 := blk_frozen BK223.out 1; have hfz29_2 := blk_frozen BK223.out 2; have hcz30_0 : w27.cell? ⟨gb217, 0, none⟩ = some (.int .i64 ((rd_T53 l0 x20_2).f0.f0)) := (blk_cell BK217.out 0).trans rfl; have hcz30_1 : w27.cell? ⟨gb217, 1, none⟩ = some (.int .i64 ((rd_T53 l0 x20_2).f0.f1)) := (blk_cell BK217.out 1).trans rfl; have hcz30_2 : w27.cell? ⟨gb217, 2, none⟩ = some (.string ((rd_T53 l0 x20_2).f1)) := (blk_cell BK217.out 2).trans rfl; have hfz30_0 := blk_frozen BK217.out 0; have hfz30_1 := blk_frozen BK217.out 1; have hfz30_2 := blk_frozen BK217.out 2) | ((with_reducible refine gate_callee (f := 60) rfl ?_); refine goesL_ (some 36) rfl rfl Tryd.func60 (by kernel_rfl) rfl #[.agg #[.int .i64 ((rd_T53 l0 x20_2).f0.f0), .int .i64 ((rd_T53 l0 x20_2).f0.f1), .string ((rd_T53 l0 x20_2).f1)], .agg #[.int .i64 ((rd_T53 y218 x29_3).f0.f0), .int .i64 ((rd_T53 y218 x29_3).f0.f1), .string ((rd_T53 y218 x29_3).f1)]] rfl z4 ?_; (with_reducible refine (impl_meeting.calls k3 ((rd_T53 l0 x20_2).f0.f0) ((rd_T53 l0 x20_2).f0.f1) ((rd_T53 l0 x20_2).f1) ((rd_T53 y218 x29_3).f0.f0) ((rd_T53 y218 x29_3).f0.f1) ((rd_T53 y218 x29_3).f1) t224 t225 _ A20.out).mono ?_); rintro e w31 ⟨rfl, hb⟩; refine ⟨_, rfl, ?_⟩; have n0_ := Aside0.mk (blk_below (g := gb217) (o := .cells #[.int .i64 ((rd_T53 l0 x20_2).f0.f0), .int .i64 ((rd_T53 l0 x20_2).f0.f1), .string ((rd_T53 l0 x20_2).f1)] 53 (0, 0)) (by (with_reducible repeat (first | refine blk_drewN ?_ _ | refine blk_drew ?_ | refine blk_alloc ?_ _)); refine blk_far ?_ NB217_223.out _; (with_reducible repeat (first | refine blk_drewN ?_ _ | refine blk_drew ?_ | refine blk_alloc ?_ _)); refine blk_far ?_ NB217_223.out _; (with_reducible repeat (first | refine blk_drewN ?_ _ | refine blk_drew ?_ | refine blk_alloc ?_ _)); refine blk_far ?_ NB217_223.out _; (with_reducible repeat (first | refine blk_drewN ?_ _ | refine blk_drew ?_ | refine blk_alloc ?_ _)); exact BK217.out) hb); have n1_ := Aside0.mk (blk_below (g := gb223) (o := .cells #[.int .i64 ((rd_T53 y218 x29_3).f0.f0), .int .i64 ((rd_T53 y218 x29_3).f0.f1), .string ((rd_T53 y218 x29_3).f1)] 53 (0, 0)) (by (with_reducible repeat (first | refine blk_drewN ?_ _ | refine blk_drew ?_ | refine blk_alloc ?_ _)); refine blk_put (cs := #[.int .i64 ((rd_T53 y218 x29_3).f0.f0), .int .i64 ((rd_T53 y218 x29_3).f0.f1), .string (⟨#[]⟩ : ByteArray)]) ?_ 2 _ rfl; (with_reducible repeat (first | refine blk_drewN ?_ _ | refine blk_drew ?_ | refine blk_alloc ?_ _)); refine blk_put (cs := #[.int .i64 ((rd_T53 y218 x29_3).f0.f0), .int .i64 0, .string (⟨#[]⟩ : ByteArray)]) ?_ 1 _ rfl; (with_reducible repeat (first | refine blk_drewN ?_ _ | refine blk_drew ?_ | refine blk_alloc ?_ _)); refine blk_put (cs := #[.int .i64 0, .int .i64 0, .string (⟨#[]⟩ : ByteArray)]) ?_ 0 _ rfl; (with_reducible repeat (first | refine blk_drewN ?_ _ | refine blk_drew ?_ | refine blk_alloc ?_ _)); exact BK223.out) hb); have n2_ := Aside0.mk (below_step (zB2 HB GE217.out GE223.out) hb); clear BK217; clear BK223; clear HB; have BK217 := n0_; have BK223 := n1_; have HB := n2_; clear n0_ n1_ n2_; (try clear hb); (try clear hb2); (try clear hk); (try clear hi)))
                go_roundg k3
                case measure => have := HJ1.out; have := HK2.out; have := HK3.out; omega
                case rel => exact ⟨(wrap64 (x29_3 + 1)), (z1), H', ⟨by have := HJ1.out; have := HK2.out; have := HK3.out; omega⟩, ⟨zK BK217⟩, ⟨zB2 HB GE217.out GE223.out⟩⟩
              ·rw [if_neg c19] at H
               exact absurd H (by simp)
             ·rw [if_neg c18] at H
              exact absurd H (by simp)
            ·rw [if_neg c17] at H
             have c17b0 : decide (x29_3 < (y218.length : Int)) = false := decide_eq_false c17
             clear c17
             have H' := Aside0.mk H
             clear H
             go_wp2
             go_roundg k3
             case measure => have := HJ1.out; have := HK2.out; have := HK3.out; omega
             case rel => exact ⟨(wrap64 (x20_2 + 1)), (z1), H', ⟨by have := HJ1.out; have := HK2.out; have := HK3.out; omega⟩, ⟨zB1 HB GE217.out⟩⟩
         ·rw [if_neg c12] at H
          exact absurd H (by simp)
        ·rw [if_neg c10] at H
         exact absurd H (by simp)
       ·rw [if_neg c9] at H
        exact absurd H (by simp)
      ·rw [if_neg c8] at H
       have c8b0 : decide (x20_2 < (l0.length : Int)) = false := decide_eq_false c8
       clear c8
       simp only [Option.some.injEq, Prod.mk.injEq] at H
       obtain ⟨rfl, rfl⟩ := H
       go_wp2
       go_ret2
       exact ⟨z2, zB HB⟩

end Go.Proofs.YtaacmpmjogpodaaDoor.PFnExactAreApart
