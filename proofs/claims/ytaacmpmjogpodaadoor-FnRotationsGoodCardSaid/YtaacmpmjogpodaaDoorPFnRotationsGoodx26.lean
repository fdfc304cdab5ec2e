-- Written by xprint.py (this session's own program, over the kit's print).
import Derived.Test.YtaacmpmjogpodaaDoorPFnRotationsGoodx0
import Derived.Test.YtaacmpmjogpodaaDoorPFnRotationsGoodx1
import Derived.Test.YtaacmpmjogpodaaDoorPFnRotationsGoodx2
import Derived.Test.YtaacmpmjogpodaaDoorPFnRotationsGoodx3
import Derived.Test.YtaacmpmjogpodaaDoorPFnRotationsGoodx9
import Derived.Test.YtaacmpmjogpodaaDoorPFnRotationsGoodx25
namespace Go.Proofs.YtaacmpmjogpodaaDoor.PFnRotationsGood
open Go.RowKit Go.Proofs.YtaacmpmjogpodaaDoorW.PrintWords Go.Proofs.YtaacmpmjogpodaaDoorW.PrintLast Go.Proofs.YtaacmpmjogpodaaDoorW.PrintMore
attribute [local go_sem] max2_int min2_int max_two min_two max_three min_three max_four min_four   -- for this text's walks alone
set_option linter.unusedVariables false
set_option linter.unusedSimpArgs false
attribute [-simp] List.length_take ByteArray.size_extract

/-! ### spec_RatioRotations: function 26 -/
def ratioGood (s : List UInt8) (k : Int) : Bool := (s.foldl (fun (p : Int × Bool) b => let t := if (b.toNat : Int) = 85 then wrap64 (p.1 + 1) else wrap64 (p.1 - k); (t, p.2 && Decidable.decide (0 < t))) (0, true)).2
def ratioList (s : List UInt8) (k : Int) : List Int := ((List.range s.length).filter fun i => ratioGood (s.drop i ++ s.take i) k).map (fun (i : Nat) => (i : Int))
def spec_RatioRotations.f (k : Nat) (a0 : ByteArray) (a1 : Int) : Option (List Int × Bool) :=
 (spec_paGood.f k a0).bind fun t => if t = true ∧ 0 ≤ a1 ∧ a1 ≤ 40 then (if a0.size ≤ 64 ∧ (a0.data.toList.all fun b => Decidable.decide (b.toNat < 128)) = true then some (ratioList a0.data.toList a1, true) else none) else some ([], false)
theorem spec_RatioRotations.mono : ∀ a0 a1 k, LeO (spec_RatioRotations.f k a0 a1) (spec_RatioRotations.f (k + 1) a0 a1) := fun a0 _ k => LeO.bind (spec_paGood.mono a0 k) (fun _ => LeO.refl _)
def ratioStep (k : Int) (p : Int × Bool) (b : UInt8) : Int × Bool := let t := if (b.toNat : Int) = 85 then wrap64 (p.1 + 1) else wrap64 (p.1 - k); (t, p.2 && Decidable.decide (0 < t))
def ratioUp (s : List UInt8) (k : Int) (n : Nat) : List Int := ((List.range n).filter fun i => ratioGood (s.drop i ++ s.take i) k).map (fun (i : Nat) => (i : Int))
theorem ratioUp_succ (s : List UInt8) (k : Int) (n : Nat) : ratioUp s k (n + 1) = if ratioGood (s.drop n ++ s.take n) k = true then ratioUp s k n ++ [(n : Int)] else ratioUp s k n := by
 unfold ratioUp
 rw [List.range_succ, List.filter_append, List.map_append]
 by_cases h : ratioGood (s.drop n ++ s.take n) k = true <;> simp [h]
theorem ratio_list (s : ByteArray) (n : Nat) : (s.extract n s.size ++ s.extract 0 n).data.toList = s.data.toList.drop n ++ s.data.toList.take n := by
 rw [ByteArray.data_append, ByteArray.data_extract, ByteArray.data_extract, Array.toList_append, Array.toList_extract, Array.toList_extract]
 simp only [List.extract, List.drop_zero, Nat.sub_zero]
 rw [List.take_of_length_le (show (s.data.toList.drop n).length ≤ s.size - n by rw [List.length_drop, ← Lib.size_eq]; exact Nat.le_refl _)]
theorem ratio_get (s : ByteArray) (p : Nat) (h : p < s.size) : s.data.toList[p]? = some (s[p]'h) := by
 rw [List.getElem?_eq_getElem (by simpa using h)]
 simp [ByteArray.getElem_eq_getElem_data]
set_option maxHeartbeats 8000000 in
set_option maxRecDepth 100000 in
theorem spec_RatioRotations.calls (k : Nat) (a0 : ByteArray) (a1 : Int) (r1 : List Int) (r2 : Bool) (w : World) (h : spec_RatioRotations.f k a0 a1 = some (r1, r2)) :
  Calls Tryd.prog 26 #[.string a0, .int .i64 a1] w fun e w' => ∃ v0_ : Value, e = .returned (.tuple #[v0_, .bool r2]) ∧ Kd.R (Kd.int .i64) 3 w' w.heap.size (fun _ => True) v0_ r1 ∧ Below w.heap.size w w' := by
 unfold spec_RatioRotations.f at h
 obtain ⟨t, hp, h⟩ := Option.bind_eq_some_iff.mp h
 obtain ⟨u, hu⟩ : ∃ u, spec_l1In.f a1 0 40 = some u := by unfold spec_l1In.f; split <;> exact ⟨_, rfl⟩
 have huv : u = true ↔ 0 ≤ a1 ∧ a1 ≤ 40 := by
  unfold spec_l1In.f at hu
  split at hu <;> cases hu <;> simp <;> omega
 split at h
 ·rename_i hc
  obtain ⟨rfl, h0, h40⟩ := hc
  obtain rfl := huv.2 ⟨h0, h40⟩
  split at h
  ·rename_i hs
   obtain ⟨hs, ha⟩ := hs
   obtain ⟨rfl, rfl⟩ : ratioList a0.data.toList a1 = r1 ∧ true = r2 := by simpa using h
   have Hp := Aside0.mk hp
   have Hu := Aside0.mk hu
   have Hs := Aside0.mk hs
   have Ha := Aside0.mk ha
   have H0 := Aside0.mk h0
   have H40 := Aside0.mk h40
   clear hp hu hs ha h0 h40 huv h
   go_enter Tryd.func26, Tryd.ntmps26
   go_wp2_with (first | (go_at_call 77; (with_reducible refine (spec_paGood.calls k a0 true _ Hp.out).mono ?_); rintro e w' ⟨rfl, ⟨nd, rfl⟩⟩) | (go_at_call 54; (with_reducible refine (spec_l1In.calls a1 0 40 true _ Hu.out).mono ?_); rintro e w' ⟨rfl, ⟨nd2, rfl⟩⟩))
   have hk0 : ((w.drewN (nd + nd2)).iter a0 0).heap[w.heap.size]? = some (.stringIter a0 0) := World.iter_heap (w.drewN (nd + nd2)) a0 0
   have hb0 : Below w.heap.size w ((w.drewN (nd + nd2)).iter a0 0) := Below.alloc (B := w.heap.size) (a := w) (w := w.drewN (nd + nd2)) ⟨rfl, rfl, rfl, Nat.le_refl _, fun _ _ => rfl⟩ (Nat.le_refl _) (.stringIter a0 0)
   go_loopw [6] (fun v6 wr => ∃ pos : Nat, pos ≤ a0.size ∧ wr.heap[w.heap.size]? = some (.stringIter a0 pos) ∧ Kd.R (Kd.int .i64) 3 wr w.heap.size (fun k => k ≠ w.heap.size) v6 (ratioUp a0.data.toList a1 pos) ∧ Below w.heap.size w wr)
    (fun _ wr => a0.size - wr.iterPos w.heap.size)
   case atStart => exact ⟨0, Nat.zero_le _, hk0, Kd.R_nil _ _ _ _ _, hb0⟩
   case round =>
    clear hk0 hb0
    obtain ⟨pos, hps, hk, hR, hB⟩ := hrel
    have hHk := Aside0.mk hk
    have hHR := Aside0.mk hR
    have hHB := Aside0.mk hB
    have hmu : wr.iterPos w.heap.size = pos := by simp [World.iterPos, hk]
    by_cases hpos : pos < a0.size
    ·have h128 : (a0[pos]'hpos).toNat < 128 := of_decide_eq_true (List.all_eq_true.1 Ha.out _ (by simp [ByteArray.getElem_eq_getElem_data]))
     have hnext : ∀ ty, (Instr.next (.pointer (some ⟨w.heap.size, 0, none⟩)) true ty).run Tryd.prog wr = _ := fun ty => Lib.run_next_ascii_at wr w.heap.size a0 pos ty hk hpos h128
     have hk1 := Lib.iterAt_heap wr w.heap.size a0 pos (pos + 1) hk
     have hB1 : Below w.heap.size w (wr.iterAt w.heap.size a0 (pos + 1)) := Lib.below_iterAt hB (Nat.le_refl _) a0 (pos + 1)
     have hR1 := Kd.R_step (w1 := wr.iterAt w.heap.size a0 (pos + 1)) hR (fun k hne _ => Lib.iterAt_other wr w.heap.size k a0 (pos + 1) hne)
     generalize wr.iterAt w.heap.size a0 (pos + 1) = W1 at hnext hk1 hB1 hR1
     have hlt1 : w.heap.size < W1.heap.size := (Array.getElem?_eq_some_iff.1 hk1).1
     clear hk hR hB
     have HK1 := Aside0.mk hk1
     have HR1 := Aside0.mk hR1
     have HB1 := Aside0.mk hB1
     have HLT := Aside0.mk hlt1
     clear hk1 hR1 hB1 hlt1
     have q1 : (0 ≤ (pos : Int)) = True := eq_true (by omega)
     have q2 : ((pos : Int) ≤ (a0.size : Int)) = True := eq_true (by omega)
     have q3 : (9223372036854775807 < (a0.extract pos a0.size).size + (a0.extract 0 pos).size) = False := eq_false (by have := Hs.out; rw [ByteArray.size_extract, ByteArray.size_extract]; omega)
     go_wp2
     go_region_with (fail)
     obtain ⟨s2, hs2⟩ : ∃ s2, s2 = a0.extract pos a0.size ++ a0.extract 0 pos := ⟨_, rfl⟩
     rw [← hs2]
     have HS2 := Aside0.mk hs2
     have hbb : Below W1.heap.size W1 (W1.drew.iter s2 0) := Below.alloc (B := W1.heap.size) (a := W1) (w := W1.drew) ⟨rfl, rfl, rfl, Nat.le_refl _, fun _ _ => rfl⟩ (Nat.le_refl _) (.stringIter s2 0)
     have hit0 : (W1.drew.iter s2 0).heap[W1.heap.size]? = some (.stringIter s2 0) := World.iter_heap W1.drew s2 0
     have HA2 : Aside0 (∀ p (h : p < s2.size), (s2[p]'h).toNat < 128) := ⟨fun p h => by
      have h1 : (s2[p]'h) ∈ s2.data.toList := List.mem_of_getElem? (ratio_get s2 p h)
      have h7 : s2.data.toList = a0.data.toList.drop pos ++ a0.data.toList.take pos := by rw [hs2, ratio_list]
      rw [h7] at h1
      have h2 : (s2[p]'h) ∈ a0.data.toList := by
       rcases List.mem_append.1 h1 with h3 | h3
       ·exact List.mem_of_mem_drop h3
       ·exact List.mem_of_mem_take h3
      exact of_decide_eq_true (List.all_eq_true.1 Ha.out _ h2)⟩
     clear hs2 q1 q2 q3
     go_wp2
     go_loopw [8, 9] (fun v8 v9 wi => ∃ (p : Nat) (x : Int) (y : Bool), p ≤ s2.size ∧ Aside0 ((x, y) = (s2.data.toList.take p).foldl (ratioStep a1) (0, true)) ∧ v8 = .int .i64 x ∧ v9 = .bool y ∧ wi.heap[W1.heap.size]? = some (.stringIter s2 p) ∧ Below W1.heap.size W1 wi)
      (fun _ _ wi => s2.size - wi.iterPos W1.heap.size)
     case atStart => exact ⟨0, 0, true, Nat.zero_le _, ⟨rfl⟩, rfl, rfl, hit0, hbb⟩
     case round =>
      clear hit0 hbb
      obtain ⟨p, x, y, hps2, hxy, rfl, rfl, hit, hbi⟩ := hrel
      have hmi : ∀ (wi : World) p, wi.heap[W1.heap.size]? = some (.stringIter s2 p) → wi.iterPos W1.heap.size = p := fun wi p h => by simp [World.iterPos, h]
      have HMI := Aside0.mk hmi
      have HMU := Aside0.mk (hmi _ _ hit)
      clear hmi
      by_cases hp2 : p < s2.size
      ·have h128 := HA2.out p hp2
       have hnext2 := fun ty => Lib.run_next_ascii_at (P := Tryd.prog) _ W1.heap.size s2 p ty hit hp2 h128
       have hit1 := Lib.iterAt_heap _ W1.heap.size s2 p (p + 1) hit
       have hbi1 := Lib.below_iterAt hbi (Nat.le_refl _) s2 (p + 1)
       have hst : Aside0 (ratioStep a1 (x, y) (s2[p]'hp2) = (s2.data.toList.take (p + 1)).foldl (ratioStep a1) (0, true)) := ⟨by
        rw [List.take_add_one, List.foldl_append, ← hxy.out]
        have : s2.data.toList[p]? = some (s2[p]'hp2) := ratio_get s2 p hp2
        rw [this]; rfl⟩
       generalize s2[p]'hp2 = b at hnext2 hst h128
       have HIT := Aside0.mk hit1
       have HBI := Aside0.mk hbi1
       clear hit hbi hit1 hbi1 hxy
       by_cases h85 : (b.toNat : Int) = 85
       ·cases y with
        | true =>
         go_wp2
         go_roundw
         case rel => exact ⟨p + 1, wrap64 (x + 1), decide (0 < wrap64 (x + 1)), by omega, ⟨by have h5 := hst.out; rw [show ratioStep a1 (x, true) b = (wrap64 (x + 1), decide (0 < wrap64 (x + 1))) by simp [ratioStep, h85]] at h5; exact h5⟩, rfl, rfl, HIT.out, HBI.out⟩
         case measure => rw [HMU.out, HMI.out _ _ HIT.out]; omega
        | false =>
         go_wp2
         go_roundw
         case rel => exact ⟨p + 1, wrap64 (x + 1), false, by omega, ⟨by have h5 := hst.out; rw [show ratioStep a1 (x, false) b = (wrap64 (x + 1), false) by simp [ratioStep, h85]] at h5; exact h5⟩, rfl, rfl, HIT.out, HBI.out⟩
         case measure => rw [HMU.out, HMI.out _ _ HIT.out]; omega
       ·cases y with
        | true =>
         go_wp2
         go_roundw
         case rel => exact ⟨p + 1, wrap64 (x - a1), decide (0 < wrap64 (x - a1)), by omega, ⟨by have h5 := hst.out; rw [show ratioStep a1 (x, true) b = (wrap64 (x - a1), decide (0 < wrap64 (x - a1))) by simp [ratioStep, h85]] at h5; exact h5⟩, rfl, rfl, HIT.out, HBI.out⟩
         case measure => rw [HMU.out, HMI.out _ _ HIT.out]; omega
        | false =>
         go_wp2
         go_roundw
         case rel => exact ⟨p + 1, wrap64 (x - a1), false, by omega, ⟨by have h5 := hst.out; rw [show ratioStep a1 (x, false) b = (wrap64 (x - a1), false) by simp [ratioStep, h85]] at h5; exact h5⟩, rfl, rfl, HIT.out, HBI.out⟩
         case measure => rw [HMU.out, HMI.out _ _ HIT.out]; omega
      ·have hnext2 := fun ty => Lib.run_next_end_at (P := Tryd.prog) _ W1.heap.size s2 p ty hit hp2
       obtain rfl : p = s2.size := by omega
       have HIT := Aside0.mk hit
       have HBI := Aside0.mk hbi
       clear hit hbi
       have HG : Aside0 (y = ratioGood (a0.data.toList.drop pos ++ a0.data.toList.take pos) a1) := ⟨by
        have h6 := hxy.out
        rw [List.take_of_length_le (Nat.le_of_eq (Lib.size_eq s2).symm), HS2.out, ratio_list] at h6
        exact congrArg Prod.snd h6⟩
       clear hxy
       have HK2 := Aside0.mk ((HBI.out.block _ HLT.out).trans HK1.out)
       have HO2 := Aside0.mk (Kd.R_below HR1.out HBI.out)
       have HB2 := Aside0.mk (HB1.out.trans (HBI.out.mono (Nat.le_of_lt HLT.out)))
       have HSZ := Aside0.mk HBI.out.size
       have HLE : Aside0 ((ratioUp a0.data.toList a1 pos).length ≤ pos) := ⟨by unfold ratioUp; rw [List.length_map]; exact Nat.le_trans (List.length_filter_le _ _) (by simp)⟩
       have HMO := Aside0.mk hmu
       have HPA := Aside0.mk hpos
       clear hmu
       cases y with
       | false =>
        go_wp2
        go_roundw
        case rel => exact ⟨pos + 1, by have := HPA.out; omega, HK2.out, by rw [ratioUp_succ, if_neg (by rw [← HG.out]; simp)]; exact HO2.out, HB2.out⟩
        case measure => rw [HMO.out, show World.iterPos _ w.heap.size = pos + 1 by simp [World.iterPos, HK2.out]]; have := HPA.out; omega
       | true =>
        go_wp2_with ((with_reducible refine gate_builtin (b := .append) (xs := #[.tmp 49, .tmp 51]) rfl ?_); at_builtin; refine Kd.R_append (Kd.int .i64) (w0 := w) w.heap.size rfl (.tmp 49) (.tmp 51) 32 3 (.int .i64 0) 8 rfl Tryd.underlying32 info3 rfl (by decide) (by omega) _ (ratioUp a0.data.toList a1 pos) (pos : Int) [.int .i64 (pos : Int)] (fun k => k ≠ w.heap.size) (fun _ => False) rfl rfl ?aP (fun _ hk => hk.elim) ?aF ?aO ?aB ?aS ?aL ?_; (case aP => exact rfl); (case aB => exact HB2.out); (case aF => exact (fun k_ hk => by have := HSZ.out; have := HLT.out; omega)); (case aO => exact HO2.out); (case aS => have := HSZ.out; have := HLT.out; omega); (case aL => have := HLE.out; have := HPA.out; have := Hs.out; omega); intro v209 w11 ho hb hg hat; have HO3 := Aside0.mk ho; have HB3 := Aside0.mk hb; have HK3 := Aside0.mk ((hg.block w.heap.size (by have := HSZ.out; have := HLT.out; omega) (fun e => HO2.out.1 _ e.symm rfl)).trans HK2.out); clear ho hb hg hat)
        go_roundw
        case rel => exact ⟨pos + 1, by have := HPA.out; omega, HK3.out, by rw [ratioUp_succ, if_pos HG.out.symm]; exact HO3.out, HB3.out⟩
        case measure => rw [HMO.out, show World.iterPos _ w.heap.size = pos + 1 by simp [World.iterPos, HK3.out]]; have := HPA.out; omega
    ·have hnext : ∀ ty, (Instr.next (.pointer (some ⟨w.heap.size, 0, none⟩)) true ty).run Tryd.prog wr = _ := fun ty => Lib.run_next_end_at wr w.heap.size a0 pos ty hk hpos
     obtain rfl : pos = a0.size := by omega
     clear hk hR hB
     go_wp2
     go_ret2
     exact ⟨_, rfl, Kd.R_mono hHR.out (fun _ _ => trivial), hHB.out⟩
  ·cases h
 ·rename_i hc
  cases h
  cases t with
  | false =>
   go_enter Tryd.func26, Tryd.ntmps26
   go_wp2_with (go_at_call 77; (with_reducible refine (spec_paGood.calls k a0 false _ hp).mono ?_); rintro e w' ⟨rfl, ⟨nd, rfl⟩⟩)
   go_ret2
   exact ⟨_, rfl, Kd.R_nil _ _ _ _ _, ⟨rfl, rfl, rfl, Nat.le_refl _, fun _ _ => rfl⟩⟩
  | true =>
   have : u = false := by
    cases u with
    | false => rfl
    | true => exact absurd ⟨rfl, huv.1 rfl⟩ hc
   subst this
   go_enter Tryd.func26, Tryd.ntmps26
   go_wp2_with (first | (go_at_call 77; (with_reducible refine (spec_paGood.calls k a0 true _ hp).mono ?_); rintro e w' ⟨rfl, ⟨nd, rfl⟩⟩) | (go_at_call 54; (with_reducible refine (spec_l1In.calls a1 0 40 false _ hu).mono ?_); rintro e w' ⟨rfl, ⟨nd2, rfl⟩⟩))
   go_ret2
   exact ⟨_, rfl, Kd.R_nil _ _ _ _ _, ⟨rfl, rfl, rfl, Nat.le_refl _, fun _ _ => rfl⟩⟩

/-! ### spec_DrawRotateList: function 27 -/
def spec_DrawRotateList.f (k : Nat) (l0 : List Int) : Option (List Int × Int) := (spec_l1Cur_degrees.f k l0 0 0 8).bind fun bt343 => ((spec_l1Cur_pick.f l0 bt343.2.1 bt343.2.2 (wrap64 ((bt343.1.length : Int) + 2))).bind fun bt348 => ((spec_l1Cur_pick.f l0 bt348.2.1 bt348.2.2 2).bind fun bt351 => (some (bt343.1, wrap64 (bt348.1 - bt351.1)))))
theorem spec_DrawRotateList.mono : ∀ a0 k, LeO (spec_DrawRotateList.f k a0) (spec_DrawRotateList.f (k + 1) a0) := by
 intro a0 k
 unfold spec_DrawRotateList.f
 repeat' first
   | (with_reducible exact spec_l1Cur_degrees.mono _ _ _ _ _)
   | (with_reducible exact LeO.refl _)
   | (with_reducible exact LeO.none _)
   | (with_reducible refine LeO.ite ?_ ?_)
   | (with_reducible refine LeO.bind ?_ (fun _ => ?_))
   | exact spec_l1Cur_degrees.mono _ _ _ _ _
   | exact LeO.none _
   | refine LeO.ite ?_ ?_
   | refine LeO.bind ?_ (fun _ => ?_)
set_option maxHeartbeats 8000000 in
set_option maxRecDepth 100000 in
theorem spec_DrawRotateList.calls (k : Nat) (A0 : Option Addr) (c0 : Nat) (l0 : List Int) (r1 : List Int) (r2 : Int) (w : World) (hr0 : Kd.C (Kd.int .u8) w A0 l0.length l0) (hc0 : l0.length ≤ c0) (h : spec_DrawRotateList.f k l0 = some (r1, r2)) :
  Calls Tryd.prog 27 #[.slice A0 l0.length c0] w fun e w' => ∃ v0_ : Value, e = .returned (.tuple #[v0_, .int .i64 r2]) ∧ Kd.R (Kd.int .i64) 3 w' w.heap.size (fun _ => True) v0_ r1 ∧ Below w.heap.size w w' := by
 have hu91 := Tryd.underlying91
 have HR0 := Aside0.mk hr0
 have HC0 := Aside0.mk hc0
 clear hr0 hc0
 have HB := Aside0.mk (Below.refl w.heap.size w)
 have H : ((spec_l1Cur_degrees.f k l0 0 0 8).bind fun bt343 => ((spec_l1Cur_pick.f l0 bt343.2.1 bt343.2.2 (wrap64 ((bt343.1.length : Int) + 2))).bind fun bt348 => ((spec_l1Cur_pick.f l0 bt348.2.1 bt348.2.2 2).bind fun bt351 => (some (bt343.1, wrap64 (bt348.1 - bt351.1)))))) = some (r1, r2) := h
 clear h
 replace H := Option.bind_eq_some_iff.mp H
 obtain ⟨⟨t343, t346, t347⟩, A20, H⟩ := H
 replace H : ((spec_l1Cur_pick.f l0 t346 t347 (wrap64 ((t343.length : Int) + 2))).bind fun bt348 => ((spec_l1Cur_pick.f l0 bt348.2.1 bt348.2.2 2).bind fun bt351 => (some (t343, wrap64 (bt348.1 - bt351.1))))) = some (r1, r2) := H
 have A2 := Aside0.mk A20
 clear A20
 replace H := Option.bind_eq_some_iff.mp H
 obtain ⟨⟨t348, t349, t350⟩, A30, H⟩ := H
 replace H : ((spec_l1Cur_pick.f l0 t349 t350 2).bind fun bt351 => (some (t343, wrap64 (t348 - bt351.1)))) = some (r1, r2) := H
 have A3 := Aside0.mk A30
 clear A30
 replace H := Option.bind_eq_some_iff.mp H
 obtain ⟨⟨t351, t352, t353⟩, A40, H⟩ := H
 replace H : (some (t343, wrap64 (t348 - t351))) = some (r1, r2) := H
 have A4 := Aside0.mk A40
 clear A40
 simp only [Option.some.injEq, Prod.mk.injEq] at H
 obtain ⟨rfl, rfl⟩ := H
 go_enter Tryd.func27, Tryd.ntmps27
 go_wp2_with (first | ((with_reducible refine gate_dst (N := 8) rfl ?_); refine zbox 8 #[.slice A0 l0.length c0, .int .i64 0, .int .u64 0] 91 (h := ?_); intro gb342 hg w5 hbox hb; have n0_ := Aside0.mk (below_step (zB HB) hb); have n1_ := Aside0.mk ((⟨_, _, hbox, (by rw [hg]; exact (below_size (zB HB)) : w.heap.size ≤ gb342), HR0.out⟩ : IsS91 w w5 gb342 l0 0 0)); clear HB; have HB := n0_; have HI342 := n1_; clear n0_ n1_; clear hb hbox hg) | ((with_reducible refine gate_callee (f := 78) rfl ?_); refine goesL_ (some 10) rfl rfl Tryd.func78 (by kernel_rfl) rfl #[.pointer (some ⟨gb342, 0, none⟩), .int .i64 8] rfl z4 ?_; (with_reducible refine (spec_l1Cur_degrees.calls k gb342 l0 0 0 8 t343 t346 t347 w _ ?side1 ?side2 A2.out).mono ?_); (case side1 => repeat (first | (with_reducible first | exact HI342.out | apply IsS91.alloc | apply IsS91.drewN | apply IsS91.drew | apply IsS91.set_1 | apply IsS91.set_2) | exact HI342.out)); (case side2 => exact zB1 HB (IsS91.ge HI342.out)); rintro e w6 ⟨v344, rfl, ho0, hi, hb, hk⟩; refine ⟨_, rfl, ?_⟩; have n0_ := Aside0.mk (Kd.R_lower ho0 (below_size (zB1 HB (IsS91.ge HI342.out)))); have n1_ := Aside0.mk (hb); have n2_ := Aside0.mk (hi); clear HB; clear HI342; have HO345 := n0_; have HB := n1_; have HI342 := n2_; clear n0_ n1_ n2_; (try clear hb); (try clear hb2); (try clear hk); (try clear hi); (try clear ho0); obtain ⟨Ao7, co7, eo7⟩ := Kd.R_slice HO345.out; subst eo7) | ((with_reducible refine gate_callee (f := 79) rfl ?_); refine goesL_ (some 16) rfl rfl Tryd.func79 (by kernel_rfl) rfl #[.pointer (some ⟨gb342, 0, none⟩), .int .i64 (wrap64 ((t343.length : Int) + 2))] rfl z4 ?_; (with_reducible refine (spec_l1Cur_pick.calls gb342 l0 t346 t347 (wrap64 ((t343.length : Int) + 2)) t348 t349 t350 w _ ?side1 ?side2 A3.out).mono ?_); (case side1 => repeat (first | (with_reducible first | exact HI342.out | apply IsS91.alloc | apply IsS91.drewN | apply IsS91.drew | apply IsS91.set_1 | apply IsS91.set_2) | exact HI342.out)); (case side2 => exact zB1 HB (IsS91.ge HI342.out)); rintro e w8 ⟨rfl, hi, hb, hk⟩; refine ⟨_, rfl, ?_⟩; have n0_ := Aside0.mk (Kd.R_mono (Kd.R_keep (IsS91.apart (show IsS91 w _ gb342 l0 t346 t347 from by (try simp only [Int.add_zero]); repeat (first | (with_reducible first | exact HI342.out | apply IsS91.alloc | apply IsS91.drewN | apply IsS91.drew | apply IsS91.set_1 | apply IsS91.set_2) | exact HI342.out)) (zR HO345) (by decide)) hk (fun _ h => h.2)) (fun _ h => h.1)); have n1_ := Aside0.mk (hb); have n2_ := Aside0.mk (hi); clear HO345; clear HB; clear HI342; have HO345 := n0_; have HB := n1_; have HI342 := n2_; clear n0_ n1_ n2_; (try clear hb); (try clear hb2); (try clear hk); (try clear hi)) | ((with_reducible refine gate_callee (f := 79) rfl ?_); refine goesL_ (some 18) rfl rfl Tryd.func79 (by kernel_rfl) rfl #[.pointer (some ⟨gb342, 0, none⟩), .int .i64 2] rfl z4 ?_; (with_reducible refine (spec_l1Cur_pick.calls gb342 l0 t349 t350 2 t351 t352 t353 w _ ?side1 ?side2 A4.out).mono ?_); (case side1 => repeat (first | (with_reducible first | exact HI342.out | apply IsS91.alloc | apply IsS91.drewN | apply IsS91.drew | apply IsS91.set_1 | apply IsS91.set_2) | exact HI342.out)); (case side2 => exact zB1 HB (IsS91.ge HI342.out)); rintro e w9 ⟨rfl, hi, hb, hk⟩; refine ⟨_, rfl, ?_⟩; have n0_ := Aside0.mk (Kd.R_mono (Kd.R_keep (IsS91.apart (show IsS91 w _ gb342 l0 t349 t350 from by (try simp only [Int.add_zero]); repeat (first | (with_reducible first | exact HI342.out | apply IsS91.alloc | apply IsS91.drewN | apply IsS91.drew | apply IsS91.set_1 | apply IsS91.set_2) | exact HI342.out)) (zR HO345) (by decide)) hk (fun _ h => h.2)) (fun _ h => h.1)); have n1_ := Aside0.mk (hb); have n2_ := Aside0.mk (hi); clear HO345; clear HB; clear HI342; have HO345 := n0_; have HB := n1_; have HI342 := n2_; clear n0_ n1_ n2_; (try clear hb); (try clear hb2); (try clear hk); (try clear hi)))
 go_ret2
 exact ⟨_, z2, zR HO345, zB1 HB (IsS91.ge HI342.out)⟩

end Go.Proofs.YtaacmpmjogpodaaDoor.PFnRotationsGood
