-- Written by xprint.py (this session's own program, over the kit's print).
import Derived.Test.YtaacmpmjogpodaaDoorProg
import Derived.Below
import Derived.Deep.Draws
import Derived.Deep.AppendLies
import Derived.Maps.AppendAt
import Derived.OwnWalk
import Derived.Laws.BytesArg
import Derived.Laws.MakeOwn
import Derived.Laws.OwnMore
import Derived.Deep.OwnRows
import Derived.Tactics
import Derived.Lib.ConvBytes
import Derived.Laws.Slices
import Derived.WalkKit
import Derived.KernelRfl
import Derived.RowKit3
import Derived.Deep.LoopGhost
import Derived.Deep.QuietTactic
import Derived.BigQuiet
import Derived.WideLaws
import Derived.Deep.DeepCutAuto
import Derived.Deep.CutBlock
import Derived.Deep.RegionHeld3
import Derived.Laws.Rows
import Derived.Lib.AppendStr
import Derived.ArgAppend
import Derived.Laws.IdiomCopy
import Derived.OrdersHeld
import Derived.Laws.BitsLemmas
import Derived.RowKit
import Derived.Deep.RegionWith
import Derived.Laws.RangeAny
import Derived.Laws.RangeString
import Derived.Lib.OthersKept
import Derived.Shelf.Spec.SlicesGrow
import Derived.Shelf.Strings.SlTrimAscii
import Derived.Test.YtaacmpmjogpodaaDoorWWords
import Derived.Test.YtaacmpmjogpodaaDoorWLast
import Derived.Test.YtaacmpmjogpodaaDoorWTab
import Derived.Test.YtaacmpmjogpodaaDoorWFour
import Derived.Test.YtaacmpmjogpodaaDoorWQPut
import Derived.Test.YtaacmpmjogpodaaDoorWApart
import Derived.Test.YtaacmpmjogpodaaDoorWArr
import Derived.Test.YtaacmpmjogpodaaDoorWZeros
import Derived.Test.YtaacmpmjogpodaaDoorWFoot
import Derived.Test.YtaacmpmjogpodaaDoorWKept
import Derived.Test.YtaacmpmjogpodaaDoorWShare
import Derived.Test.YtaacmpmjogpodaaDoorWN
import Derived.Test.YtaacmpmjogpodaaDoorWFootNe
import Derived.Test.YtaacmpmjogpodaaDoorWAt
import Derived.Test.YtaacmpmjogpodaaDoorWEqStruct
import Derived.Test.YtaacmpmjogpodaaDoorWRepsOne
import Derived.Test.YtaacmpmjogpodaaDoorWInv
import Derived.Test.YtaacmpmjogpodaaDoorWInvWords
import Derived.Test.YtaacmpmjogpodaaDoorWGuard
import Derived.Test.YtaacmpmjogpodaaDoorWNEv
import Derived.Test.YtaacmpmjogpodaaDoorWMore
namespace Go.Proofs.YtaacmpmjogpodaaDoor.PFnRotationsGood
open Go.RowKit Go.Proofs.YtaacmpmjogpodaaDoorW.PrintWords Go.Proofs.YtaacmpmjogpodaaDoorW.PrintLast Go.Proofs.YtaacmpmjogpodaaDoorW.PrintMore
attribute [local go_sem] max2_int min2_int max_two min_two max_three min_three max_four min_four   -- for this text's walks alone
set_option linter.unusedVariables false
set_option linter.unusedSimpArgs false
attribute [-simp] List.length_take ByteArray.size_extract



def errW : Option Int → Value
  | none => .nilIface
  | some c => .iface 0 (.int .i64 c)
theorem errW_none : errW none = .nilIface := rfl
theorem errW_some (c : Int) : errW (some c) = .iface 0 (.int .i64 c) := rfl

theorem info3 : (Tryd.prog.info? 3).map (fun i => (i.zero, i.size, i.bytes)) = some (some (.int .i64 0), 1, 8) := by kernel_rfl
theorem info5 : (Tryd.prog.info? 5).map (fun i => (i.zero, i.size, i.bytes)) = some (some (.int .u8 0), 1, 1) := by kernel_rfl
theorem info9 : (Tryd.prog.info? 9).map (fun i => (i.zero, i.size, i.bytes)) = some (some (.string ⟨#[]⟩), 1, 16) := by kernel_rfl
theorem info32 : (Tryd.prog.info? 32).map (fun i => (i.zero, i.size, i.bytes)) = some (some (.slice none 0 0), 1, 24) := by kernel_rfl
-- the values' own types
def rd_L2 (xs : List (List Int)) (i : Int) : (List Int) := xs.getD i.toNat ([] : List Int)
theorem at_L2 {w : World} {A : Option Addr} {n : Nat} {xs : List (List Int)} (h : Kd.C (Kd.slice 3 (Kd.int .i64)) w A n xs) (i : Int) (h0 : 0 ≤ i) (h1 : i < n) : ∃ ad A0 c0, A = some ad ∧ w.cell? (ad.add i.toNat) = some (.slice A0 (rd_L2 xs i).length c0) ∧ (rd_L2 xs i).length ≤ c0 ∧ (Kd.int .i64).C w A0 (rd_L2 xs i).length (rd_L2 xs i) := by
  obtain ⟨ad, c, e, _, hK, hc0⟩ := Kd.C_get h ([] : List Int) i h0 h1
  have hc : ∀ j u, c[j]? = some u → w.cell? (ad.add (i.toNat * 1 + j)) = some u := hc0
  obtain ⟨A0, c0, rfl, l0, g0⟩ := hK
  exact ⟨ad, A0, c0, e, by have hq := hc 0 _ rfl; rwa [Nat.mul_one, Nat.add_zero] at hq, l0, g0⟩

theorem zB {P Q : Prop} (b : Aside0 P) (h : P → Q := by intro b_; repeat (first | (with_reducible first | exact b_ | apply below_alloc | apply pw_below_drewN | apply below_drew1) | exact b_)) : Q := h b.out
theorem zB1 {P Q : Prop} {A0 : Prop} (b : Aside0 P) (a0 : A0) (h : P → A0 → Q := by intro b_ a0_; repeat (first | (with_reducible first | exact b_ | apply below_alloc | apply pw_below_drewN | apply below_drew1 | refine below_set ?_ a0_) | exact b_)) : Q := h b.out a0
theorem zB2 {P Q : Prop} {A0 : Prop} {A1 : Prop} (b : Aside0 P) (a0 : A0) (a1 : A1) (h : P → A0 → A1 → Q := by intro b_ a0_ a1_; repeat (first | (with_reducible first | exact b_ | apply below_alloc | apply pw_below_drewN | apply below_drew1 | refine below_set ?_ a0_ | refine below_set ?_ a1_) | exact b_)) : Q := h b.out a0 a1
theorem zB3 {P Q : Prop} {A0 : Prop} {A1 : Prop} {A2 : Prop} (b : Aside0 P) (a0 : A0) (a1 : A1) (a2 : A2) (h : P → A0 → A1 → A2 → Q := by intro b_ a0_ a1_ a2_; repeat (first | (with_reducible first | exact b_ | apply below_alloc | apply pw_below_drewN | apply below_drew1 | refine below_set ?_ a0_ | refine below_set ?_ a1_ | refine below_set ?_ a2_) | exact b_)) : Q := h b.out a0 a1 a2
theorem zB4 {P Q : Prop} {A0 : Prop} {A1 : Prop} {A2 : Prop} {A3 : Prop} (b : Aside0 P) (a0 : A0) (a1 : A1) (a2 : A2) (a3 : A3) (h : P → A0 → A1 → A2 → A3 → Q := by intro b_ a0_ a1_ a2_ a3_; repeat (first | (with_reducible first | exact b_ | apply below_alloc | apply pw_below_drewN | apply below_drew1 | refine below_set ?_ a0_ | refine below_set ?_ a1_ | refine below_set ?_ a2_ | refine below_set ?_ a3_) | exact b_)) : Q := h b.out a0 a1 a2 a3
theorem zB5 {P Q : Prop} {A0 : Prop} {A1 : Prop} {A2 : Prop} {A3 : Prop} {A4 : Prop} (b : Aside0 P) (a0 : A0) (a1 : A1) (a2 : A2) (a3 : A3) (a4 : A4) (h : P → A0 → A1 → A2 → A3 → A4 → Q := by intro b_ a0_ a1_ a2_ a3_ a4_; repeat (first | (with_reducible first | exact b_ | apply below_alloc | apply pw_below_drewN | apply below_drew1 | refine below_set ?_ a0_ | refine below_set ?_ a1_ | refine below_set ?_ a2_ | refine below_set ?_ a3_ | refine below_set ?_ a4_) | exact b_)) : Q := h b.out a0 a1 a2 a3 a4
theorem zB6 {P Q : Prop} {A0 : Prop} {A1 : Prop} {A2 : Prop} {A3 : Prop} {A4 : Prop} {A5 : Prop} (b : Aside0 P) (a0 : A0) (a1 : A1) (a2 : A2) (a3 : A3) (a4 : A4) (a5 : A5) (h : P → A0 → A1 → A2 → A3 → A4 → A5 → Q := by intro b_ a0_ a1_ a2_ a3_ a4_ a5_; repeat (first | (with_reducible first | exact b_ | apply below_alloc | apply pw_below_drewN | apply below_drew1 | refine below_set ?_ a0_ | refine below_set ?_ a1_ | refine below_set ?_ a2_ | refine below_set ?_ a3_ | refine below_set ?_ a4_ | refine below_set ?_ a5_) | exact b_)) : Q := h b.out a0 a1 a2 a3 a4 a5
theorem zB7 {P Q : Prop} {A0 : Prop} {A1 : Prop} {A2 : Prop} {A3 : Prop} {A4 : Prop} {A5 : Prop} {A6 : Prop} (b : Aside0 P) (a0 : A0) (a1 : A1) (a2 : A2) (a3 : A3) (a4 : A4) (a5 : A5) (a6 : A6) (h : P → A0 → A1 → A2 → A3 → A4 → A5 → A6 → Q := by intro b_ a0_ a1_ a2_ a3_ a4_ a5_ a6_; repeat (first | (with_reducible first | exact b_ | apply below_alloc | apply pw_below_drewN | apply below_drew1 | refine below_set ?_ a0_ | refine below_set ?_ a1_ | refine below_set ?_ a2_ | refine below_set ?_ a3_ | refine below_set ?_ a4_ | refine below_set ?_ a5_ | refine below_set ?_ a6_) | exact b_)) : Q := h b.out a0 a1 a2 a3 a4 a5 a6
theorem zB8 {P Q : Prop} {A0 : Prop} {A1 : Prop} {A2 : Prop} {A3 : Prop} {A4 : Prop} {A5 : Prop} {A6 : Prop} {A7 : Prop} (b : Aside0 P) (a0 : A0) (a1 : A1) (a2 : A2) (a3 : A3) (a4 : A4) (a5 : A5) (a6 : A6) (a7 : A7) (h : P → A0 → A1 → A2 → A3 → A4 → A5 → A6 → A7 → Q := by intro b_ a0_ a1_ a2_ a3_ a4_ a5_ a6_ a7_; repeat (first | (with_reducible first | exact b_ | apply below_alloc | apply pw_below_drewN | apply below_drew1 | refine below_set ?_ a0_ | refine below_set ?_ a1_ | refine below_set ?_ a2_ | refine below_set ?_ a3_ | refine below_set ?_ a4_ | refine below_set ?_ a5_ | refine below_set ?_ a6_ | refine below_set ?_ a7_) | exact b_)) : Q := h b.out a0 a1 a2 a3 a4 a5 a6 a7
theorem zB9 {P Q : Prop} {A0 : Prop} {A1 : Prop} {A2 : Prop} {A3 : Prop} {A4 : Prop} {A5 : Prop} {A6 : Prop} {A7 : Prop} {A8 : Prop} (b : Aside0 P) (a0 : A0) (a1 : A1) (a2 : A2) (a3 : A3) (a4 : A4) (a5 : A5) (a6 : A6) (a7 : A7) (a8 : A8) (h : P → A0 → A1 → A2 → A3 → A4 → A5 → A6 → A7 → A8 → Q := by intro b_ a0_ a1_ a2_ a3_ a4_ a5_ a6_ a7_ a8_; repeat (first | (with_reducible first | exact b_ | apply below_alloc | apply pw_below_drewN | apply below_drew1 | refine below_set ?_ a0_ | refine below_set ?_ a1_ | refine below_set ?_ a2_ | refine below_set ?_ a3_ | refine below_set ?_ a4_ | refine below_set ?_ a5_ | refine below_set ?_ a6_ | refine below_set ?_ a7_ | refine below_set ?_ a8_) | exact b_)) : Q := h b.out a0 a1 a2 a3 a4 a5 a6 a7 a8
theorem zK {P Q : Prop} (b : Aside0 P) (h : P → Q := by intro b_; (with_reducible repeat (first | refine blk_drewN ?_ _ | refine blk_drew ?_ | refine blk_alloc ?_ _)); exact b_) : Q := h b.out
theorem zR {P Q : Prop} (b : Aside0 P) (h : P → Q := by intro b_; (with_reducible repeat (first | apply Kd.R_alloc | apply Kd.R_drewN | apply Kd.R_drew)); exact b_) : Q := h b.out
theorem zS {P Q : Prop} (b : Aside0 P) (h : P → Q := by intro b_; (with_reducible repeat (first | apply Kd.S_alloc | apply Kd.S_drewN | apply Kd.S_drew)); exact b_) : Q := h b.out
theorem zH {P Q : Prop} (b : Aside0 P) (h : P → Q := by intro b_; repeat (first | (with_reducible first | exact b_ | apply KeepBut.set_ | apply keep_drewN | apply keep_drew | apply keep_alloc) | exact b_)) : Q := h b.out
theorem z1 {P : Prop} (h : P := by first | rfl | (simp; done) | (simp [*]; done)) : P := h
theorem z2 {P : Prop} (h : P := by first | rfl | (simp [errW_none, errW_some] <;> rfl) | (simp [*, errW_none, errW_some] <;> rfl)) : P := h
theorem z3 {P : Prop} (h : P := by first | (with_reducible assumption) | assumption) : P := h
theorem z4 {P : Prop} (h : P := by (try simp only [List.map_toArray, List.map_cons, List.map_nil]); first | done | rfl | (simp only [List.length_drop, List.length_take]; rfl)) : P := h
theorem z5 {w : World} {W : World} (h : Drawn0 w W := by repeat (first | exact Drawn0.refl _ | apply Drawn0.step)) : Drawn0 w W := h
theorem bx {w w1 : World} {cs : Array Value} {t : Nat} (hb : Below (w.alloc (.cells cs t)).drew.heap.size (w.alloc (.cells cs t)).drew w1) :
    w1.heap[w.heap.size]? = some (.cells cs t (0, 0)) ∧ Below w.heap.size w w1 := by
  have h0 : (w.alloc (.cells cs t)).drew.heap[w.heap.size]? = some (.cells cs t (0, 0)) := blk_drew (blk_new w _)
  have h1 : Below w.heap.size w ((w.alloc (.cells cs t)).drew) := by repeat (first | (with_reducible first | apply below_alloc | apply pw_below_drewN | apply below_drew1) | exact Below.refl _ _)
  exact ⟨blk_below h0 hb, below_step h1 hb⟩
theorem bx2 {w w1 w2 : World} {g : Nat} {cs : Array Value} {t : Nat} (h : w1.heap[g]? = some (.cells cs t (0, 0)) ∧ Below w.heap.size w w1) (hb : Below w1.heap.size w1 w2) :
    w2.heap[g]? = some (.cells cs t (0, 0)) ∧ Below w.heap.size w w2 := ⟨blk_below h.1 hb, below_step h.2 hb⟩
section
variable {P : Program} {ops : Array Oper} {rest : List Oper} {o : Oper} {a : Act} {Q : Exit → Act → World → Prop}
theorem zbox {W : World} (N : Tmp) (cs : Array Value) (t : TypeId) (hgd : o.guard = none := by rfl) (hd : o.dst = some N := by rfl)
    (h : ∀ g, g = W.heap.size → ∀ w1, w1.heap[g]? = some (.cells cs t (0, 0)) → Below W.heap.size W w1 → wpList P ops Q rest (a.put o.dst (.pointer (some ⟨g, 0, none⟩))) w1)
    (hrun : (execOp a.eval o).run P W = .ok (.value (.pointer (some ⟨W.heap.size, 0, none⟩))) (W.alloc (.cells cs t (0, 0))) := by first | (go_simp; done) | (go_simp; rfl)) : wpList P ops Q (o :: rest) a W := box_event hgd hd hrun h
end
end Go.Proofs.YtaacmpmjogpodaaDoor.PFnRotationsGood
