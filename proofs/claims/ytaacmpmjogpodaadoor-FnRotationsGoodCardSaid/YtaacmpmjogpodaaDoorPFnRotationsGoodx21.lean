-- Written by xprint.py (this session's own program, over the kit's print).
import Derived.Test.YtaacmpmjogpodaaDoorPFnRotationsGoodx0
import Derived.Test.YtaacmpmjogpodaaDoorPFnRotationsGoodx1
import Derived.Test.YtaacmpmjogpodaaDoorPFnRotationsGoodx2
import Derived.Test.YtaacmpmjogpodaaDoorPFnRotationsGoodx20
namespace Go.Proofs.YtaacmpmjogpodaaDoor.PFnRotationsGood
open Go.RowKit Go.Proofs.YtaacmpmjogpodaaDoorW.PrintWords Go.Proofs.YtaacmpmjogpodaaDoorW.PrintLast Go.Proofs.YtaacmpmjogpodaaDoorW.PrintMore
attribute [local go_sem] max2_int min2_int max_two min_two max_three min_three max_four min_four   -- for this text's walks alone
set_option linter.unusedVariables false
set_option linter.unusedSimpArgs false
attribute [-simp] List.length_take ByteArray.size_extract

/-! ### spec_DrawRatioRotations: function 24 -/
def spec_DrawRatioRotations.f (k : Nat) (l0 : List Int) : Option (ByteArray × Int) := (spec_l1Cur_anyPath.f k l0 0 0 14).bind fun bt306 => ((spec_l1Cur_among.f l0 bt306.2.1 bt306.2.2 (([0, 1, 1, 2, 3, 40, 41, (-1)] : List Int))).bind fun bt312 => (some (bt306.1, bt312.1)))
theorem spec_DrawRatioRotations.mono : ∀ a0 k, LeO (spec_DrawRatioRotations.f k a0) (spec_DrawRatioRotations.f (k + 1) a0) := by
 intro a0 k
 unfold spec_DrawRatioRotations.f
 repeat' first
   | (with_reducible exact spec_l1Cur_anyPath.mono _ _ _ _ _)
   | (with_reducible exact LeO.refl _)
   | (with_reducible exact LeO.none _)
   | (with_reducible refine LeO.ite ?_ ?_)
   | (with_reducible refine LeO.bind ?_ (fun _ => ?_))
   | exact spec_l1Cur_anyPath.mono _ _ _ _ _
   | exact LeO.none _
   | refine LeO.ite ?_ ?_
   | refine LeO.bind ?_ (fun _ => ?_)
set_option maxHeartbeats 8000000 in
set_option maxRecDepth 100000 in
theorem spec_DrawRatioRotations.calls (k : Nat) (A0 : Option Addr) (c0 : Nat) (l0 : List Int) (r1 : ByteArray) (r2 : Int) (w : World) (hr0 : Kd.C (Kd.int .u8) w A0 l0.length l0) (hc0 : l0.length ≤ c0) (h : spec_DrawRatioRotations.f k l0 = some (r1, r2)) :
  Calls Tryd.prog 24 #[.slice A0 l0.length c0] w fun e w' => e = .returned (.tuple #[.string r1, .int .i64 r2]) ∧ Below w.heap.size w w' := by
 have hu91 := Tryd.underlying91
 have HR0 := Aside0.mk hr0
 have HC0 := Aside0.mk hc0
 clear hr0 hc0
 have HB := Aside0.mk (Below.refl w.heap.size w)
 have H : ((spec_l1Cur_anyPath.f k l0 0 0 14).bind fun bt306 => ((spec_l1Cur_among.f l0 bt306.2.1 bt306.2.2 (([0, 1, 1, 2, 3, 40, 41, (-1)] : List Int))).bind fun bt312 => (some (bt306.1, bt312.1)))) = some (r1, r2) := h
 clear h
 replace H := Option.bind_eq_some_iff.mp H
 obtain ⟨⟨t306, t307, t308⟩, A20, H⟩ := H
 replace H : ((spec_l1Cur_among.f l0 t307 t308 (([0, 1, 1, 2, 3, 40, 41, (-1)] : List Int))).bind fun bt312 => (some (t306, bt312.1))) = some (r1, r2) := H
 have A2 := Aside0.mk A20
 clear A20
 obtain ⟨y309, hy309⟩ : ∃ y_ : List Int, y_ = (([0, 1, 1, 2, 3, 40, 41, (-1)] : List Int)) := ⟨_, rfl⟩
 replace H : ((spec_l1Cur_among.f l0 t307 t308 y309).bind fun bt312 => (some (t306, bt312.1))) = some (r1, r2) := by first | (rw [hy309]; with_reducible exact H) | (have H2_ := (Option.bind_some _ _).symm.trans H; rw [hy309]; with_reducible exact H2_) | (have H2_ := (Option.bind_some _ _).symm.trans H; with_reducible exact H2_) | with_reducible exact H | (rw [hy309]; exact H) | exact H
 have Ny309 := Aside0.mk hy309
 clear hy309
 replace H := Option.bind_eq_some_iff.mp H
 obtain ⟨⟨t312, t313, t314⟩, A30, H⟩ := H
 replace H : (some (t306, t312)) = some (r1, r2) := H
 have A3 := Aside0.mk A30
 clear A30
 simp only [Option.some.injEq, Prod.mk.injEq] at H
 obtain ⟨rfl, rfl⟩ := H
 go_enter Tryd.func24, Tryd.ntmps24
 go_wp2_with (first | ((with_reducible refine gate_dst (N := 7) rfl ?_); refine zbox 7 #[.slice A0 l0.length c0, .int .i64 0, .int .u64 0] 91 (h := ?_); intro gb305 hg w4 hbox hb; have n0_ := Aside0.mk (below_step (zB HB) hb); have n1_ := Aside0.mk ((⟨_, _, hbox, (by rw [hg]; exact (below_size (zB HB)) : w.heap.size ≤ gb305), HR0.out⟩ : IsS91 w w4 gb305 l0 0 0)); clear HB; have HB := n0_; have HI305 := n1_; clear n0_ n1_; clear hb hbox hg) | ((with_reducible refine gate_callee (f := 72) rfl ?_); refine goesL_ (some 9) rfl rfl Tryd.func72 (by kernel_rfl) rfl #[.pointer (some ⟨gb305, 0, none⟩), .int .i64 14] rfl z4 ?_; (with_reducible refine (spec_l1Cur_anyPath.calls k gb305 l0 0 0 14 t306 t307 t308 w _ ?side1 ?side2 A2.out).mono ?_); (case side1 => repeat (first | (with_reducible first | exact HI305.out | apply IsS91.alloc | apply IsS91.drewN | apply IsS91.drew | apply IsS91.set_1 | apply IsS91.set_2) | exact HI305.out)); (case side2 => exact zB1 HB (IsS91.ge HI305.out)); rintro e w5 ⟨rfl, hi, hb, hk⟩; refine ⟨_, rfl, ?_⟩; have n0_ := Aside0.mk (hb); have n1_ := Aside0.mk (hi); clear HB; clear HI305; have HB := n0_; have HI305 := n1_; clear n0_ n1_; (try clear hb); (try clear hb2); (try clear hk); (try clear hi)) | ((with_reducible refine gate_dst (N := 11) rfl ?_); refine Kd.R_lit (Kd.int .i64) _ 3 ?hg (N := 11) ?hd (xs := ([0, 1, 1, 2, 3, 40, 41, (-1)] : List Int)) (inner := [.int .i64 0, .int .i64 1, .int .i64 1, .int .i64 2, .int .i64 3, .int .i64 40, .int .i64 41, .int .i64 (-1)]) (ok := fun _ => True) (okp := fun _ => True) ?hr ?hp (fun _ hk => hk) trivial (Below.refl _ _) (Nat.le_refl _) (by simp) ?_; (case hd => rfl); (case hg => rfl); (case hr => first | (go_simp; done) | (go_simp; rfl)); (case hp => exact (Reps.one (show Kd.M (Kd.int .i64) _ _ _ 0 [.int .i64 0] from rfl) (Reps.one (show Kd.M (Kd.int .i64) _ _ _ 1 [.int .i64 1] from rfl) (Reps.one (show Kd.M (Kd.int .i64) _ _ _ 1 [.int .i64 1] from rfl) (Reps.one (show Kd.M (Kd.int .i64) _ _ _ 2 [.int .i64 2] from rfl) (Reps.one (show Kd.M (Kd.int .i64) _ _ _ 3 [.int .i64 3] from rfl) (Reps.one (show Kd.M (Kd.int .i64) _ _ _ 40 [.int .i64 40] from rfl) (Reps.one (show Kd.M (Kd.int .i64) _ _ _ 41 [.int .i64 41] from rfl) (Reps.one (show Kd.M (Kd.int .i64) _ _ _ (-1) [.int .i64 (-1)] from rfl) (Reps.none _ _)))))))))); intro v310 w6 ho7 hb hg_ hnew_; clear hg_ hnew_; (first | rw [← Ny309.out] at ho7 | (simp only [Int.reduceToNat] at ho7; rw [← Ny309.out] at ho7)); have n0_ := Aside0.mk (Kd.R_lower ho7 (below_size (zB1 HB (IsS91.ge HI305.out)))); have n1_ := Aside0.mk (IsS91.below (by (try simp only [Int.add_zero]); repeat (first | (with_reducible first | exact HI305.out | apply IsS91.alloc | apply IsS91.drewN | apply IsS91.drew | apply IsS91.set_1 | apply IsS91.set_2) | exact HI305.out)) hb); have n2_ := Aside0.mk (below_step (zB1 HB (IsS91.ge HI305.out)) hb); clear HI305; clear HB; have HO311 := n0_; have HI305 := n1_; have HB := n2_; clear n0_ n1_ n2_; clear hb ho7; obtain ⟨Ao8, co8, eo8⟩ := Kd.R_slice HO311.out; subst eo8) | ((with_reducible refine gate_callee (f := 73) rfl ?_); refine goesL_ (some 12) rfl rfl Tryd.func73 (by kernel_rfl) rfl #[.pointer (some ⟨gb305, 0, none⟩), .slice Ao8 y309.length co8] rfl z4 ?_; (with_reducible refine (spec_l1Cur_among.calls gb305 l0 t307 t308 _ _ y309 t312 t313 t314 w _ ?side1 ?side2 ?side3 ?side4 ?side5 A3.out).mono ?_); (case side1 => repeat (first | (with_reducible first | exact HI305.out | apply IsS91.alloc | apply IsS91.drewN | apply IsS91.drew | apply IsS91.set_1 | apply IsS91.set_2) | exact HI305.out)); (case side2 => exact zB1 HB (IsS91.ge HI305.out)); (case side3 => repeat (first | exact (Kd.R_reads' HO311.out).2.2 | (with_reducible refine Kd.C_alloc ?_ _) | (with_reducible refine Kd.C_drewN ?_ _) | (with_reducible refine Kd.C_drew ?_))); (case side4 => exact (Kd.R_reads' HO311.out).2.1); (case side5 => exact far_slice (IsS91.own_ne HI305.out HO311.out (by decide))); rintro e w9 ⟨rfl, hi, hb, hk⟩; refine ⟨_, rfl, ?_⟩; have n0_ := Aside0.mk (Kd.R_mono (Kd.R_keep (IsS91.apart (show IsS91 w _ gb305 l0 t307 t308 from by (try simp only [Int.add_zero]); repeat (first | (with_reducible first | exact HI305.out | apply IsS91.alloc | apply IsS91.drewN | apply IsS91.drew | apply IsS91.set_1 | apply IsS91.set_2) | exact HI305.out)) (zR HO311) (by decide)) hk (fun _ h => h.2)) (fun _ h => h.1)); have n1_ := Aside0.mk (hb); have n2_ := Aside0.mk (hi); clear HO311; clear HB; clear HI305; have HO311 := n0_; have HB := n1_; have HI305 := n2_; clear n0_ n1_ n2_; (try clear hb); (try clear hb2); (try clear hk); (try clear hi)))
 go_ret2
 exact ⟨z2, zB1 HB (IsS91.ge HI305.out)⟩

/-! ### strings_Trim: function 104 -/
def lays160_ren : Go.Shelf.Ren := ⟨fun | 160 => 104 | 232 => 117 | 231 => 116 | 227 => 118 | 234 => 120 | 233 => 119 | 236 => 122 | 235 => 121 | 228 => 124 | 271 => 127 | 151 => 126 | 197 => 125 | 120 => 130 | 152 => 129 | 260 => 128 | 137 => 131 | 119 => 132 | 224 => 133 | 225 => 134 | 217 => 135 | 266 => 136 | n => n, fun | 9 => 9 | 4 => 4 | 3 => 3 | 5 => 5 | 117 => 125 | 116 => 124 | 0 => 0 | 124 => 128 | 21 => 21 | 105 => 131 | 46 => 129 | 119 => 135 | 139 => 138 | 138 => 137 | n => n, fun | 3 => 0 | 4 => 1 | n => n⟩
theorem lays160 : Go.Proofs.Lays.n160 Tryd.prog lays160_ren := {
 mixed := by kernel_rfl
 f119 := Tryd.func132.trans (congrArg some (by kernel_rfl))
 f120 := Tryd.func130.trans (congrArg some (by kernel_rfl))
 f137 := Tryd.func131.trans (congrArg some (by kernel_rfl))
 f151 := Tryd.func126.trans (congrArg some (by kernel_rfl))
 f152 := Tryd.func129.trans (congrArg some (by kernel_rfl))
 f160 := Tryd.func104.trans (congrArg some (by kernel_rfl))
 f197 := Tryd.func125.trans (congrArg some (by kernel_rfl))
 f217 := Tryd.func135.trans (congrArg some (by kernel_rfl))
 f224 := Tryd.func133.trans (congrArg some (by kernel_rfl))
 f225 := Tryd.func134.trans (congrArg some (by kernel_rfl))
 f227 := Tryd.func118.trans (congrArg some (by kernel_rfl))
 f228 := Tryd.func124.trans (congrArg some (by kernel_rfl))
 f231 := Tryd.func116.trans (congrArg some (by kernel_rfl))
 f232 := Tryd.func117.trans (congrArg some (by kernel_rfl))
 f233 := Tryd.func119.trans (congrArg some (by kernel_rfl))
 f234 := Tryd.func120.trans (congrArg some (by kernel_rfl))
 f235 := Tryd.func121.trans (congrArg some (by kernel_rfl))
 f236 := Tryd.func122.trans (congrArg some (by kernel_rfl))
 f260 := Tryd.func128.trans (congrArg some (by kernel_rfl))
 f266 := Tryd.func136.trans (congrArg some (by kernel_rfl))
 f271 := Tryd.func127.trans (congrArg some (by kernel_rfl))
 t0 := Tryd.underlying0
 a0 := Tryd.isAgg0
 z0 := Tryd.sizeOf0
 v0 := Tryd.zeroValue0
 t3 := Tryd.underlying3
 a3 := Tryd.isAgg3
 z3 := Tryd.sizeOf3
 v3 := Tryd.zeroValue3
 t4 := Tryd.underlying4
 a4 := Tryd.isAgg4
 z4 := Tryd.sizeOf4
 v4 := Tryd.zeroValue4
 t5 := Tryd.underlying5
 a5 := Tryd.isAgg5
 z5 := Tryd.sizeOf5
 v5 := Tryd.zeroValue5
 t9 := Tryd.underlying9
 a9 := Tryd.isAgg9
 z9 := Tryd.sizeOf9
 v9 := Tryd.zeroValue9
 t21 := Tryd.underlying21
 a21 := Tryd.isAgg21
 z21 := Tryd.sizeOf21
 v21 := Tryd.zeroValue21
 t46 := Tryd.underlying129
 a46 := Tryd.isAgg129
 z46 := Tryd.sizeOf129
 v46 := Tryd.zeroValue129
 t105 := Tryd.underlying131
 a105 := Tryd.isAgg131
 z105 := Tryd.sizeOf131
 v105 := Tryd.zeroValue131
 t116 := Tryd.underlying124
 a116 := Tryd.isAgg124
 z116 := Tryd.sizeOf124
 t117 := Tryd.underlying125
 a117 := Tryd.isAgg125
 z117 := Tryd.sizeOf125
 v117 := Tryd.zeroValue125
 t119 := Tryd.underlying135
 a119 := Tryd.isAgg135
 z119 := Tryd.sizeOf135
 t124 := Tryd.underlying128
 a124 := Tryd.isAgg128
 z124 := Tryd.sizeOf128
 v124 := Tryd.zeroValue128
 t138 := Tryd.underlying137
 a138 := Tryd.isAgg137
 z138 := Tryd.sizeOf137
 v138 := Tryd.zeroValue137
 t139 := Tryd.underlying138
 a139 := Tryd.isAgg138
 z139 := Tryd.sizeOf138
 v139 := Tryd.zeroValue138
 g3 := by kernel_rfl
 g4 := by kernel_rfl }
def strings_Trim.f (a0 a1 : ByteArray) : Option ByteArray :=
 if (a1.size < 4294967281 ∧ (a1.data.toList.all fun b => Decidable.decide (b.toNat < 128)) = true) ∧ a0.size ≤ 9223372036854775807 then some ⟨(Lib.trimS a0.data.toList a1.data.toList).toArray⟩ else none
theorem strings_Trim.calls (a0 : ByteArray) (a1 : ByteArray) (r : ByteArray) (w : World) (h : strings_Trim.f a0 a1 = some r) :
  Calls Tryd.prog 104 #[.string a0, .string a1] w fun e w' => e = .returned (.string r) ∧ Below w.heap.size w w' := by
 unfold strings_Trim.f at h
 split at h
 ·rename_i hc
  obtain ⟨⟨h1, h2⟩, h3⟩ := hc
  obtain rfl := Option.some.inj h
  exact Go.Proofs.Any.strings_Trim_laid lays160 (by kernel_rfl) a0 a1 w h3 h1 (Go.Proofs.ascii_of_all h2)
 ·cases h

/-! ### impl_IsPath: function 74 -/
def impl_IsPath.f (a0 : ByteArray) : Option (Bool) := if (a0.size : Int) ≤ 40 then ((strings_Trim.f a0 (⟨#[85, 68]⟩ : ByteArray)).bind fun t315 => (some (t315.toList == ([] : List UInt8)))) else (some false)
set_option maxHeartbeats 8000000 in
set_option maxRecDepth 100000 in
theorem impl_IsPath.calls (a0 : ByteArray) (r : Bool) (w : World) (h : impl_IsPath.f a0 = some r) :
  Calls Tryd.prog 74 #[.string a0] w fun e w' => e = .returned (.bool r) ∧ Below w.heap.size w w' := by
 have HB := Aside0.mk (Below.refl w.heap.size w)
 have H : (if (a0.size : Int) ≤ 40 then ((strings_Trim.f a0 (⟨#[85, 68]⟩ : ByteArray)).bind fun t315 => (some (t315.toList == ([] : List UInt8)))) else (some false)) = some r := h
 clear h
 by_cases c2 : (a0.size : Int) ≤ 40
 ·rw [if_pos c2] at H
  have c2b0 : decide ((a0.size : Int) ≤ 40) = true := decide_eq_true c2
  have c2b1 : decide (a0.size ≤ 40) = true := decide_eq_true (by omega)
  clear c2
  replace H := Option.bind_eq_some_iff.mp H
  obtain ⟨t315, A30, H⟩ := H
  replace H : (some (t315.toList == ([] : List UInt8))) = some r := H
  have A3 := Aside0.mk A30
  clear A30
  obtain rfl := Option.some.inj H
  go_enter Tryd.func74, Tryd.ntmps74
  go_wp2_with (first | (go_at_call 104; (with_reducible refine (strings_Trim.calls a0 (⟨#[85, 68]⟩ : ByteArray) t315 _ A3.out).mono ?_); rintro e w4 ⟨rfl, hb⟩; have n0_ := Aside0.mk (below_step (zB HB) hb); clear HB; have HB := n0_; clear n0_; (try clear hb); (try clear hb2); (try clear hk); (try clear hi)))
  go_ret
  exact ⟨z2, zB HB⟩
 ·rw [if_neg c2] at H
  have c2b0 : decide ((a0.size : Int) ≤ 40) = false := decide_eq_false c2
  have c2b1 : decide (a0.size ≤ 40) = false := decide_eq_false (by omega)
  clear c2
  obtain rfl := Option.some.inj H
  go_enter Tryd.func74, Tryd.ntmps74
  go_wp2
  go_ret
  exact ⟨z2, zB HB⟩

end Go.Proofs.YtaacmpmjogpodaaDoor.PFnRotationsGood
