-- Written by xprint.py (this session's own program, over the kit's print).
import Derived.Test.YtaacmpmjogpodaaDoorPFnExactAreApartx0
import Derived.Test.YtaacmpmjogpodaaDoorPFnExactAreApartx9
import Derived.Test.YtaacmpmjogpodaaDoorPFnExactAreApartx11
namespace Go.Proofs.YtaacmpmjogpodaaDoor.PFnExactAreApart
open Go.RowKit Go.Proofs.YtaacmpmjogpodaaDoorW.PrintWords Go.Proofs.YtaacmpmjogpodaaDoorW.PrintLast Go.Proofs.YtaacmpmjogpodaaDoorW.PrintMore
attribute [local go_sem] max2_int min2_int max_two min_two max_three min_three max_four min_four   -- for this text's walks alone
set_option linter.unusedVariables false
set_option linter.unusedSimpArgs false

/-! ### strings_Trim: function 104 -/
def lays160_ren : Go.Shelf.Ren := ⟨fun | 160 => 104 | 232 => 117 | 231 => 116 | 227 => 118 | 234 => 120 | 233 => 119 | 236 => 122 | 235 => 121 | 228 => 124 | 271 => 127 | 151 => 126 | 197 => 125 | 120 => 130 | 152 => 129 | 260 => 128 | 137 => 131 | 119 => 132 | 224 => 133 | 225 => 134 | 217 => 135 | 266 => 136 | n => n, fun | 9 => 9 | 4 => 4 | 3 => 3 | 5 => 5 | 117 => 125 | 116 => 124 | 0 => 0 | 124 => 128 | 21 => 21 | 105 => 131 | 46 => 129 | 119 => 135 | 139 => 138 | 138 => 137 | n => n, fun | 3 => 0 | 4 => 1 | n => n⟩
theorem lays160 : Go.Proofs.Lays.n160 Tryd.prog lays160_ren := {
 mixed := by kernel_rfl
 f119 := Tryd.func132.trans (congrArg some (by kernel_rfl))
 f120 := Tryd.func130.trans (congrArg some (by kernel_rfl))
 f137 := Tryd.func131.trans (congrArg some (by kernel_rfl))
 f151 := Tryd.func126.trans (congrArg some (by kernel_rfl))
 f152 := Tryd.func129.trans (congrArg some (by kernel_rfl))
 f160 := Tryd.func104.trans (congrArg some (by kernel_rfl))
 f197 := Tryd.func125.trans (congrArg some (by kernel_rfl))
 f217 := Tryd.func135.trans (congrArg some (by kernel_rfl))
 f224 := Tryd.func133.trans (congrArg some (by kernel_rfl))
 f225 := Tryd.func134.trans (congrArg some (by kernel_rfl))
 f227 := Tryd.func118.trans (congrArg some (by kernel_rfl))
 f228 := Tryd.func124.trans (congrArg some (by kernel_rfl))
 f231 := Tryd.func116.trans (congrArg some (by kernel_rfl))
 f232 := Tryd.func117.trans (congrArg some (by kernel_rfl))
 f233 := Tryd.func119.trans (congrArg some (by kernel_rfl))
 f234 := Tryd.func120.trans (congrArg some (by kernel_rfl))
 f235 := Tryd.func121.trans (congrArg some (by kernel_rfl))
 f236 := Tryd.func122.trans (congrArg some (by kernel_rfl))
 f260 := Tryd.func128.trans (congrArg some (by kernel_rfl))
 f266 := Tryd.func136.trans (congrArg some (by kernel_rfl))
 f271 := Tryd.func127.trans (congrArg some (by kernel_rfl))
 t0 := Tryd.underlying0
 a0 := Tryd.isAgg0
 z0 := Tryd.sizeOf0
 v0 := Tryd.zeroValue0
 t3 := Tryd.underlying3
 a3 := Tryd.isAgg3
 z3 := Tryd.sizeOf3
 v3 := Tryd.zeroValue3
 t4 := Tryd.underlying4
 a4 := Tryd.isAgg4
 z4 := Tryd.sizeOf4
 v4 := Tryd.zeroValue4
 t5 := Tryd.underlying5
 a5 := Tryd.isAgg5
 z5 := Tryd.sizeOf5
 v5 := Tryd.zeroValue5
 t9 := Tryd.underlying9
 a9 := Tryd.isAgg9
 z9 := Tryd.sizeOf9
 v9 := Tryd.zeroValue9
 t21 := Tryd.underlying21
 a21 := Tryd.isAgg21
 z21 := Tryd.sizeOf21
 v21 := Tryd.zeroValue21
 t46 := Tryd.underlying129
 a46 := Tryd.isAgg129
 z46 := Tryd.sizeOf129
 v46 := Tryd.zeroValue129
 t105 := Tryd.underlying131
 a105 := Tryd.isAgg131
 z105 := Tryd.sizeOf131
 v105 := Tryd.zeroValue131
 t116 := Tryd.underlying124
 a116 := Tryd.isAgg124
 z116 := Tryd.sizeOf124
 t117 := Tryd.underlying125
 a117 := Tryd.isAgg125
 z117 := Tryd.sizeOf125
 v117 := Tryd.zeroValue125
 t119 := Tryd.underlying135
 a119 := Tryd.isAgg135
 z119 := Tryd.sizeOf135
 t124 := Tryd.underlying128
 a124 := Tryd.isAgg128
 z124 := Tryd.sizeOf128
 v124 := Tryd.zeroValue128
 t138 := Tryd.underlying137
 a138 := Tryd.isAgg137
 z138 := Tryd.sizeOf137
 v138 := Tryd.zeroValue137
 t139 := Tryd.underlying138
 a139 := Tryd.isAgg138
 z139 := Tryd.sizeOf138
 v139 := Tryd.zeroValue138
 g3 := by kernel_rfl
 g4 := by kernel_rfl }
def strings_Trim.f (a0 a1 : ByteArray) : Option ByteArray :=
 if (a1.size < 4294967281 ∧ (a1.data.toList.all fun b => Decidable.decide (b.toNat < 128)) = true) ∧ a0.size ≤ 9223372036854775807 then some ⟨(Lib.trimS a0.data.toList a1.data.toList).toArray⟩ else none
theorem strings_Trim.calls (a0 : ByteArray) (a1 : ByteArray) (r : ByteArray) (w : World) (h : strings_Trim.f a0 a1 = some r) :
  Calls Tryd.prog 104 #[.string a0, .string a1] w fun e w' => e = .returned (.string r) ∧ Below w.heap.size w w' := by
 unfold strings_Trim.f at h
 split at h
 ·rename_i hc
  obtain ⟨⟨h1, h2⟩, h3⟩ := hc
  obtain rfl := Option.some.inj h
  exact Go.Proofs.Any.strings_Trim_laid lays160 (by kernel_rfl) a0 a1 w h3 h1 (Go.Proofs.ascii_of_all h2)
 ·cases h

/-! ### impl_isMade: function 84 -/
def impl_isMade.f (a0 : ByteArray) (a1 : ByteArray) : Option (Bool) := (strings_Trim.f a0 a1).bind fun t202 => (some (t202.toList == ([] : List UInt8)))
set_option maxHeartbeats 8000000 in
set_option maxRecDepth 100000 in
theorem impl_isMade.calls (a0 : ByteArray) (a1 : ByteArray) (r : Bool) (w : World) (h : impl_isMade.f a0 a1 = some r) :
  Calls Tryd.prog 84 #[.string a0, .string a1] w fun e w' => e = .returned (.bool r) ∧ Below w.heap.size w w' := by
 have HB := Aside0.mk (Below.refl w.heap.size w)
 have H : ((strings_Trim.f a0 a1).bind fun t202 => (some (t202.toList == ([] : List UInt8)))) = some r := h
 clear h
 replace H := Option.bind_eq_some_iff.mp H
 obtain ⟨t202, A30, H⟩ := H
 replace H : (some (t202.toList == ([] : List UInt8))) = some r := H
 have A3 := Aside0.mk A30
 clear A30
 obtain rfl := Option.some.inj H
 go_enter Tryd.func84, Tryd.ntmps84
 go_wp2_with (first | ((with_reducible refine gate_callee (f := 104) rfl ?_); refine goesL_ (some 7) rfl rfl Tryd.func104 (by kernel_rfl) rfl #[.string a0, .string a1] rfl z4 ?_; (with_reducible refine (strings_Trim.calls a0 a1 t202 _ A3.out).mono ?_); rintro e w4 ⟨rfl, hb⟩; refine ⟨_, rfl, ?_⟩; have n0_ := Aside0.mk (below_step (zB HB) hb); clear HB; have HB := n0_; clear n0_; (try clear hb); (try clear hb2); (try clear hk); (try clear hi)))
 go_ret
 exact ⟨z2, zB HB⟩

/-! ### impl_IsWay: function 37 -/
def impl_IsWay.f (k : Nat) (a0_0 : Int) (a0_1 : Int) (a0_2 : ByteArray) : Option (Bool) := (impl_IsCell.f a0_0 a0_1).bind fun t204 => (if t204 = true then (if (a0_2.size : Int) ≤ 24 then ((impl_isMade.f a0_2 (⟨#[69, 78]⟩ : ByteArray)).bind fun t205 => (if t205 = true then ((impl_Way_cells.f k a0_0 a0_1 a0_2).bind fun t206 => (if 0 ≤ (a0_2.size : Int) then (if (a0_2.size : Int) < (t206.length : Int) then ((impl_IsCell.f ((rd_T51 t206 (a0_2.size : Int)).f0) ((rd_T51 t206 (a0_2.size : Int)).f1)).bind fun t210 => (some t210)) else (none)) else (none))) else (some false))) else (some false)) else (some false))
theorem impl_IsWay.mono : ∀ a0 a1 a2 k, LeO (impl_IsWay.f k a0 a1 a2) (impl_IsWay.f (k + 1) a0 a1 a2) := by
 intro a0 a1 a2 k
 unfold impl_IsWay.f
 repeat' first
   | (with_reducible exact impl_Way_cells.mono _ _ _ _)
   | (with_reducible exact LeO.refl _)
   | (with_reducible exact LeO.none _)
   | (with_reducible refine LeO.ite ?_ ?_)
   | (with_reducible refine LeO.bind ?_ (fun _ => ?_))
   | exact impl_Way_cells.mono _ _ _ _
   | exact LeO.none _
   | refine LeO.ite ?_ ?_
   | refine LeO.bind ?_ (fun _ => ?_)

set_option maxHeartbeats 8000000 in
set_option maxRecDepth 100000 in
theorem impl_IsWay.c1 (a0_0 : Int) (a0_1 : Int) (a0_2 : ByteArray) (w : World) (h1 : impl_IsCell.f a0_0 a0_1 = some false) :
  Calls Tryd.prog 37 #[.agg #[.int .i64 a0_0, .int .i64 a0_1, .string a0_2]] w fun e w' => e = .returned (.bool false) ∧ Below w.heap.size w w' := by
 have huA := Tryd.underlying53
 have huB := Tryd.underlying51
 have H1 := Aside0.mk h1; clear h1
 go_enter Tryd.func37, Tryd.ntmps37
 go_wp2
 first | go_region_with (first | (go_at_call 45; (with_reducible refine (impl_IsCell.calls a0_0 a0_1 false _ H1.out).mono ?_); rintro e w1 ⟨rfl, hb⟩; have hx := bx hb; clear hb; have hx2 : w1.cell? ⟨w.heap.size, 2, none⟩ = some (.string a0_2) := (blk_cell hx.1 2).trans rfl)) | fail
 all_goals
  go_wp2
  go_ret
  exact ⟨rfl, hx.2⟩
set_option maxHeartbeats 8000000 in
set_option maxRecDepth 100000 in
theorem impl_IsWay.c2 (a0_0 : Int) (a0_1 : Int) (a0_2 : ByteArray) (w : World) (h1 : impl_IsCell.f a0_0 a0_1 = some true) (h2 : ¬ (a0_2.size : Int) ≤ 24) :
  Calls Tryd.prog 37 #[.agg #[.int .i64 a0_0, .int .i64 a0_1, .string a0_2]] w fun e w' => e = .returned (.bool false) ∧ Below w.heap.size w w' := by
 have huA := Tryd.underlying53
 have huB := Tryd.underlying51
 have H1 := Aside0.mk h1; clear h1
 have h2b0 : decide ((a0_2.size : Int) ≤ 24) = false := decide_eq_false h2
 have h2b1 : decide (a0_2.size ≤ 24) = false := decide_eq_false (by omega)
 clear h2
 go_enter Tryd.func37, Tryd.ntmps37
 go_wp2
 first | go_region_with (first | (go_at_call 45; (with_reducible refine (impl_IsCell.calls a0_0 a0_1 true _ H1.out).mono ?_); rintro e w1 ⟨rfl, hb⟩; have hx := bx hb; clear hb; have hx2 : w1.cell? ⟨w.heap.size, 2, none⟩ = some (.string a0_2) := (blk_cell hx.1 2).trans rfl)) | fail
 all_goals
  go_wp2
  go_ret
  exact ⟨rfl, hx.2⟩
set_option maxHeartbeats 8000000 in
set_option maxRecDepth 100000 in
theorem impl_IsWay.c3 (a0_0 : Int) (a0_1 : Int) (a0_2 : ByteArray) (w : World) (h1 : impl_IsCell.f a0_0 a0_1 = some true) (h2 : (a0_2.size : Int) ≤ 24) (h3 : impl_isMade.f a0_2 (⟨#[69, 78]⟩ : ByteArray) = some false) :
  Calls Tryd.prog 37 #[.agg #[.int .i64 a0_0, .int .i64 a0_1, .string a0_2]] w fun e w' => e = .returned (.bool false) ∧ Below w.heap.size w w' := by
 have huA := Tryd.underlying53
 have huB := Tryd.underlying51
 have H1 := Aside0.mk h1; clear h1
 have H2 := Aside0.mk h3; clear h3
 have h2b0 : decide ((a0_2.size : Int) ≤ 24) = true := decide_eq_true h2
 have h2b1 : decide (a0_2.size ≤ 24) = true := decide_eq_true (by omega)
 clear h2
 go_enter Tryd.func37, Tryd.ntmps37
 go_wp2
 first | go_region_with (first | (go_at_call 45; (with_reducible refine (impl_IsCell.calls a0_0 a0_1 true _ H1.out).mono ?_); rintro e w1 ⟨rfl, hb⟩; have hx := bx hb; clear hb; have hx2 : w1.cell? ⟨w.heap.size, 2, none⟩ = some (.string a0_2) := (blk_cell hx.1 2).trans rfl) | (go_at_call 84; (with_reducible refine (impl_isMade.calls a0_2 ⟨#[69, 78]⟩ false _ H2.out).mono ?_); rintro e w2 ⟨rfl, hb⟩; have hy := bx2 hx hb; clear hb; have hy0 : w2.cell? ⟨w.heap.size, 0, none⟩ = some (.int .i64 a0_0) := (blk_cell hy.1 0).trans rfl; have hy1 : w2.cell? ⟨w.heap.size, 1, none⟩ = some (.int .i64 a0_1) := (blk_cell hy.1 1).trans rfl; have hy2 : w2.cell? ⟨w.heap.size, 2, none⟩ = some (.string a0_2) := (blk_cell hy.1 2).trans rfl)) | fail
 all_goals
  go_wp2
  go_ret
  exact ⟨rfl, hy.2⟩
set_option maxHeartbeats 8000000 in
set_option maxRecDepth 100000 in
theorem impl_IsWay.c4 (a0_0 : Int) (a0_1 : Int) (a0_2 : ByteArray) (w : World) (k : Nat) (cs : List S51) (b : Bool) (h1 : impl_IsCell.f a0_0 a0_1 = some true) (h2 : (a0_2.size : Int) ≤ 24) (h3 : impl_isMade.f a0_2 (⟨#[69, 78]⟩ : ByteArray) = some true) (h4 : impl_Way_cells.f k a0_0 a0_1 a0_2 = some cs) (h5 : (a0_2.size : Int) < (cs.length : Int)) (h6 : impl_IsCell.f ((rd_T51 cs (a0_2.size : Int)).f0) ((rd_T51 cs (a0_2.size : Int)).f1) = some b) :
  Calls Tryd.prog 37 #[.agg #[.int .i64 a0_0, .int .i64 a0_1, .string a0_2]] w fun e w' => e = .returned (.bool b) ∧ Below w.heap.size w w' := by
 have huA := Tryd.underlying53
 have huB := Tryd.underlying51
 have H1 := Aside0.mk h1; clear h1
 have H2 := Aside0.mk h3; clear h3
 have H3 := Aside0.mk h4; clear h4
 have H4 := Aside0.mk h6; clear h6
 have h5b0 : decide ((a0_2.size : Int) < (cs.length : Int)) = true := decide_eq_true h5
 have h5b1 : decide (a0_2.size < cs.length) = true := decide_eq_true (by omega)
 have h5c : a0_2.size < cs.length := by omega
 have Q := Aside0.mk h5b1
 clear h5
 have h2b0 : decide ((a0_2.size : Int) ≤ 24) = true := decide_eq_true h2
 have h2b1 : decide (a0_2.size ≤ 24) = true := decide_eq_true (by omega)
 clear h2
 go_enter Tryd.func37, Tryd.ntmps37
 go_wp2
 first | go_region_with (first | (go_at_call 45; (with_reducible refine (impl_IsCell.calls a0_0 a0_1 true _ H1.out).mono ?_); rintro e w1 ⟨rfl, hb⟩; have hx := bx hb; clear hb; have hx2 : w1.cell? ⟨w.heap.size, 2, none⟩ = some (.string a0_2) := (blk_cell hx.1 2).trans rfl) | (go_at_call 84; (with_reducible refine (impl_isMade.calls a0_2 ⟨#[69, 78]⟩ true _ H2.out).mono ?_); rintro e w2 ⟨rfl, hb⟩; have hy := bx2 hx hb; clear hb; have hy0 : w2.cell? ⟨w.heap.size, 0, none⟩ = some (.int .i64 a0_0) := (blk_cell hy.1 0).trans rfl; have hy1 : w2.cell? ⟨w.heap.size, 1, none⟩ = some (.int .i64 a0_1) := (blk_cell hy.1 1).trans rfl; have hy2 : w2.cell? ⟨w.heap.size, 2, none⟩ = some (.string a0_2) := (blk_cell hy.1 2).trans rfl) | (go_at_call 82; (with_reducible refine (impl_Way_cells.calls k a0_0 a0_1 a0_2 cs _ H3.out).mono ?_); rintro e w3 ⟨v, rfl, HO, hb⟩; have hz := bx2 hy hb; clear hb; obtain ⟨A, c, e3⟩ := Kd.R_slice HO; subst e3; obtain ⟨ad, ea, hd0, hd1⟩ := at_T51 (Kd.R_reads' HO).2.2 (a0_2.size : Int) (by omega) (Int.ofNat_lt.2 (of_decide_eq_true Q.out)); cases ea; simp only [Int.toNat_natCast] at hd0 hd1; have hz2 : w3.cell? ⟨w.heap.size, 2, none⟩ = some (.string a0_2) := (blk_cell hz.1 2).trans rfl) | (go_at_call 45; (with_reducible refine (impl_IsCell.calls _ _ b _ H4.out).mono ?_); rintro e w4 ⟨rfl, hb⟩; have hq := bx2 hz hb)) | fail
 all_goals
  go_wp2
  go_ret
  exact ⟨rfl, hq.2⟩
set_option maxHeartbeats 8000000 in
set_option maxRecDepth 100000 in
theorem impl_IsWay.calls (k : Nat) (a0_0 : Int) (a0_1 : Int) (a0_2 : ByteArray) (r : Bool) (w : World) (h : impl_IsWay.f k a0_0 a0_1 a0_2 = some r) :
  Calls Tryd.prog 37 #[.agg #[.int .i64 a0_0, .int .i64 a0_1, .string a0_2]] w fun e w' => e = .returned (.bool r) ∧ Below w.heap.size w w' := by
 unfold impl_IsWay.f at h
 obtain ⟨b1, h1, h⟩ := Option.bind_eq_some_iff.mp h
 cases b1 with
 | false =>
  have h : some false = some r := h
  obtain rfl := Option.some.inj h
  exact impl_IsWay.c1 _ _ _ w h1
 | true =>
  rw [if_pos rfl] at h
  by_cases h2 : (a0_2.size : Int) ≤ 24
  ·rw [if_pos h2] at h
   obtain ⟨b3, h3, h⟩ := Option.bind_eq_some_iff.mp h
   cases b3 with
   | false =>
    have h : some false = some r := h
    obtain rfl := Option.some.inj h
    exact impl_IsWay.c3 _ _ _ w h1 h2 h3
   | true =>
    rw [if_pos rfl] at h
    obtain ⟨cs, h4, h⟩ := Option.bind_eq_some_iff.mp h
    rw [if_pos (by omega)] at h
    by_cases h5 : (a0_2.size : Int) < (cs.length : Int)
    ·rw [if_pos h5] at h
     obtain ⟨b, h6, h⟩ := Option.bind_eq_some_iff.mp h
     obtain rfl := Option.some.inj h
     exact impl_IsWay.c4 _ _ _ w k cs b h1 h2 h3 h4 h5 h6
    ·rw [if_neg h5] at h
     cases h
  ·rw [if_neg h2] at h
   obtain rfl := Option.some.inj h
   exact impl_IsWay.c2 _ _ _ w h1 h2

end Go.Proofs.YtaacmpmjogpodaaDoor.PFnExactAreApart
