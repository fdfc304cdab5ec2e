/- The row and the tied card of the law FnExactAreApart, out of its pure statement and of the contracts of what it calls. Conditions: none beyond the row's own. -/
import Derived.Test.YtaacmpmjogpodaaDoorRows
import Derived.Test.YtaacmpmjogpodaaDoorPFnExactAreApartx17
import Derived.Test.YtaacmpmjogpodaaDoorPureFnExactAreApart
import Derived.WalkKit
import Derived.ProofKit
import Derived.OpenShut
import Derived.ShutString
import Derived.ChangeOld
import Derived.Below
import Derived.SizedLaws
import Derived.LaidMore
import Derived.Lib.LaidU8
import Derived.Stop.Joined
import Derived.SevenTiedAt
import Derived.Deep.Slices
import Derived.Test.YtaacmpmjogpodaaDoorCards
import Derived.Test.YtaacmpmjogpodaaDoorTie
namespace Go.Proofs.YtaacmpmjogpodaaDoor.fnExactAreApart
open Go.ChangeShapes Go.WideShapes Go.ChangeAt Go.RowKit
open Go.Deep (open_slice choose_lt)
open Go.Proofs.YtaacmpmjogpodaaDoor.PFnExactAreApart Go.Proofs.YtaacmpmjogpodaaDoorW.PrintWords
theorem own : ownKnob Tryd.prog.godebug = none := by kernel_rfl
theorem laidOut : laidOutB Tryd.prog = true := by kernel_rfl
noncomputable def laidWorld (os : Os) : World :=
  let w0 := World.holding Tryd.prog os ⟨#[], #[], []⟩
  let put (h : Array Obj) (g : Nat) (cs : Array Value) : Array Obj := h.modify g fun
    | .cells _ t frozen => .cells cs t frozen
    | o => o
  let h1 := put w0.heap 0 (Lib.firstTab.map fun z => Value.int .u8 z).toArray
  let h2 := put h1 1 ((List.range 16).flatMap fun i => [Value.int .u8 (Lib.accLo i), Value.int .u8 (Lib.accHi i)]).toArray
  { w0 with heap := h2 }
theorem door_met (os : Os) (args : Array Value) : laidMetH Tryd.prog Rows.fnExactAreApartRow.laid ((laidWorld os).forCall (fun _ _ => 0) ⟨#[], args, []⟩).memory :=
  laidMetH_of_parts (laidMet_of_run' 8 (by kernel_rfl) (by kernel_rfl)) (by kernel_rfl)
theorem cE : Tryd.prog.cellsOf 77 = 3 := by kernel_rfl
theorem cC : Tryd.prog.cellsOf 75 = 2 := by kernel_rfl
theorem c3 : Tryd.prog.cellsOf 3 = 1 := by kernel_rfl
theorem c9 : Tryd.prog.cellsOf 9 = 1 := by kernel_rfl
instance : Inhabited S77 := ⟨z77⟩
section
variable {H : Type} {enc : TypeId × Value → H} {w : World} {base : Nat} {spare : Nat → Bool} {held : Bool}
set_option maxRecDepth 100000 in
theorem open_way {fuel : Nat} {cs : List Value} {x : DataW H × List MemPlace} (h : DataW.trod enc Tryd.prog w base spare held fuel 77 cs = some x) :
    ∃ s : S77, cs = [.int .i64 s.f0.f0, .int .i64 s.f0.f1, .string s.f1] := by
  obtain ⟨y0, y1, n, _, hl, h0, h1⟩ := trod_struct2 Tryd.underlying77 h
  rw [cE] at hl
  obtain ⟨z0, z1, m, _, _, g0, g1⟩ := trod_struct2 Tryd.underlying75 h0
  obtain ⟨a, e0, _, _⟩ := DataW.trod_int Tryd.underlying3 g0
  obtain ⟨b, e1, _, _⟩ := DataW.trod_int Tryd.underlying3 g1
  obtain ⟨s, e2, _, _⟩ := DataW.trod_string Tryd.underlying9 h1
  rw [cC, c3] at e0 e1
  rw [c9] at e2
  match cs, hl with
  | [u0, u1, u2], _ =>
    obtain rfl : u0 = .int .i64 a := List.head_eq_of_cons_eq (show [u0] = [.int .i64 a] from e0)
    obtain rfl : u1 = .int .i64 b := List.head_eq_of_cons_eq (show [u1] = [.int .i64 b] from e1)
    obtain rfl : u2 = .string s := List.head_eq_of_cons_eq (show [u2] = [.string s] from e2)
    exact ⟨⟨⟨a, b⟩, s⟩, rfl⟩
set_option maxRecDepth 100000 in
theorem open_ways {fuel : Nat} {a : Option Addr} {len cap : Nat} {x : DataW H × List MemPlace} (h : DataW.trod enc Tryd.prog w base spare held fuel 22 [.slice a len cap] = some x) :
    ∃ l : List S77, len = l.length ∧ l.length ≤ cap ∧ Kd.C k77 w a l.length l := by
  rcases open_slice Tryd.underlying22 h with ⟨hcs, _⟩ | ⟨ad, ln, cp, m, n, D, Pl, hcs, _, hl, hm, hmm, _, hx⟩
  · simp at hcs
    obtain ⟨rfl, rfl, rfl⟩ := hcs
    exact ⟨[], rfl, Nat.le_refl _, rfl, by simp, fun h => by simp at h⟩
  · simp at hcs
    obtain ⟨rfl, rfl, rfl⟩ := hcs
    rw [cE] at hx
    have hlm : len ≤ m := by rw [hmm]; split <;> omega
    obtain ⟨V, hV⟩ := choose_lt (α := S77) (n := len) (p := fun i s => ∀ j u, ([.int .i64 s.f0.f0, .int .i64 s.f0.f1, .string s.f1] : List Value)[j]? = some u → w.cell? (ad.add (i * 3 + j)) = some u) (fun i hi => by
      obtain ⟨cs', h1, h2⟩ := hx i (by omega)
      obtain ⟨_, hlen, hc⟩ := World.cells?_some h1
      obtain ⟨s, rfl⟩ := open_way h2
      refine ⟨s, fun j u hu => ?_⟩
      have hj : j < 3 := by
        apply Classical.byContradiction
        intro hn
        rw [List.getElem?_eq_none (by simp; omega)] at hu
        cases hu
      rw [← Go.Deep.add_add, hc j hj]
      exact hu)
    refine ⟨(List.range len).map V, by simp, by simpa using hl, by simp, ?_, fun _ => ⟨ad, rfl, fun j p hj => ?_⟩⟩
    · have : maxLen = 9223372036854775807 := by decide
      simp; omega
    · have hjl : j < len := by
        apply Classical.byContradiction
        intro hn
        rw [List.getElem?_eq_none (by simp; omega)] at hj
        cases hj
      rw [List.getElem?_map, List.getElem?_range hjl] at hj
      simp at hj
      subst hj
      exact ⟨_, rfl, k77_mk w (V j), hV j hjl⟩
end
set_option maxRecDepth 100000 in
theorem lifted (os : Os) (started : os.Started) (H : Type) (enc : TypeId × Value → H) :
    ReturnsInHanded {} Tryd.checked os 3 .any (fun w args => (Rows.fnExactAreApartSpec.pre enc Tryd.prog Tryd.f3 [] false w args ∧ laidMetH Tryd.prog Rows.fnExactAreApartRow.laid w) ∧ sizedMet enc Tryd.prog Tryd.f3 (OpenSpec.ofChange Rows.fnExactAreApartSpec) false w args) (Rows.fnExactAreApartSpec.post enc Tryd.prog Tryd.f3 false true false false) := by
  refine returnsInHanded_of_change_and (C := Tryd.checked) (X := fun w _ => laidMetH Tryd.prog Rows.fnExactAreApartRow.laid w) (fun _ _ _ hh h => h.of_heap hh) own started (by kernel_rfl) Tryd.func3
    (ChangeSpec.witness_shaped (enc := enc) (C := Tryd.checked) (os := os) (X := fun w _ => laidMetH Tryd.prog Rows.fnExactAreApartRow.laid w) false (laidWorld os) #[.slice none 0 0] 8 rfl (World.shaped_of_RefB (by kernel_rfl) (by kernel_rfl)) (by kernel_rfl) (by kernel_rfl) (by kernel_rfl) (door_met os _)) ?_
  intro W base args ds gs before hval0 hW hcnd hsz0 _ _
  have hsz : (DataW.weightsEach Tryd.prog (Tryd.f3.params.toList ++ Rows.fnExactAreApartSpec.plain.varTypes Tryd.prog) (ds ++ gs)).all (· ≤ reachBytes) = true := hsz0
  have hval : ∀ (j : Nat) t v, Tryd.f3.params[j]? = some t → args[j]? = some v → Value.okWide Tryd.prog W .any base t v := hval0
  have hW' := hW
  obtain ⟨p, q, hA0, hV, rfl, hfz, hnd⟩ := hW
  have hA : DataW.TrodAll enc Tryd.prog W 0 (fun _ => true) true Tryd.f3.params.toList args.toList ds p := hA0
  rw [Tryd.params3] at hA hval hsz
  obtain ⟨v0, vs0, d0, ds0, p0, q0, hargs, rfl, rfl, h0, r0⟩ := trodAll_cons hA
  obtain ⟨rfl, rfl, rfl⟩ := trodAll_nil r0
  obtain rfl : args = #[v0] := by cases args; simp_all
  obtain ⟨rfl, rfl⟩ := trodVars_none hV
  obtain ⟨a0, len0, cap0, rfl⟩ := okWide_slice Tryd.underlying22 (hval 0 22 v0 rfl rfl)
  have k0 := h0
  have lt0 : ∀ x ∈ p0, x.block < W.heap.size := by obtain ⟨m, hm⟩ := k0; exact DataW.trod_lt m _ _ _ hm
  have y0 : len0 ≤ 8796093022208 := by
    obtain ⟨fuel, hf⟩ := h0
    rcases open_slice Tryd.underlying22 hf with ⟨hcs, _⟩ | ⟨ad, ln, cp, m, nn, D, Pl, hcs, _, hl, hm, hmm, hx, _⟩
    · simp [Value.cells] at hcs
      omega
    · simp [Value.cells] at hcs
      simp only [Prod.mk.injEq] at hx
      obtain ⟨rfl, _⟩ := hx
      have := sized_slice hsz (j := 0) (t := 22) rfl rfl Tryd.underlying22
      rw [show Tryd.prog.bytesOf 77 = 32 by kernel_rfl] at this
      have hr : reachBytes < 2 ^ 47 := reachBytes_lt
      simp only [List.length_map, List.length_range] at this
      omega
  obtain ⟨l, hlen, hle, hC⟩ : ∃ l : List S77, len0 = l.length ∧ l.length ≤ cap0 ∧ Kd.C k77 W a0 l.length l := by
    obtain ⟨fuel, hf⟩ := h0
    exact open_ways hf
  subst hlen
  clear hA0 hval0 hsz0 hsz
  obtain ⟨k, hk⟩ := Pure.FnExactAreApart l y0
  refine (PFnExactAreApart.laws_FnExactAreApart.calls k a0 cap0 l W hC hle hk).mono fun e W' ⟨he, bel⟩ => ?_
  subst he
  exact ⟨_, rfl, _, _, _, [], _, [], hW', trodAll_mk1 (shut_bool Tryd.underlying4 _), (trodAll_cons_mk (Below.trod laidOut (by kernel_rfl) (of_decide_eq_true (by kernel_rfl)) k0 bel lt0) trodAll_mk0), rfl, bel.frame _, fun h => by cases h⟩
theorem over : Rows.fnExactAreApartRow.holds Tryd.pinned (OpenSpec.ofChange Rows.fnExactAreApartSpec) :=
  OpenClaim.holds_of_wide 3 Tryd.f3 rfl rfl rfl rfl rfl rfl rfl ⟨rfl, rfl, rfl, rfl, rfl⟩ rfl rfl rfl rfl rfl (by kernel_rfl) Tryd.func3 (by kernel_rfl)
    (of_decide_eq_true (by kernel_rfl)) (by unfold Func.isWrapper; first | (rw [if_pos (by decide +kernel)]; kernel_rfl) | (rw [if_neg (by decide +kernel)]; exact ⟨rfl, rfl⟩))
    (fun os started H enc _ => lifted os started H enc)
theorem proved : Rows.FnExactAreApartSaid := over
theorem card : Rows.FnExactAreApartCardSaid :=
  Claim7.holds_tied_plain_at .later [] [.data, .pinned] true (true, "b7dcaf00ae4d966fdf72260f50a639ff6556beb4e05ca7d98b3f8ca4bac38d6a") false
    proved (fun _ h => by cases h) (by kernel_rfl) (fun _ h => by cases h) fnExactAreApart_row_tie rfl ⟨rfl, rfl⟩ (by kernel_rfl) rfl
    (fun f fn hf hfn => by
      obtain rfl : f = 3 := Option.some.inj ((show Tryd.prog.funcNamed "loop.example/g01218/laws.FnExactAreApart" = some 3 by kernel_rfl).symm.trans hf) |>.symm
      obtain rfl : fn = Tryd.f3 := (Option.some.inj (Tryd.func3.symm.trans hfn)).symm
      exact ⟨by kernel_rfl, fun j t ht => by
        rw [Tryd.params3] at ht
        have hm : t ∈ [22] := by simpa using Array.mem_of_getElem? ht
        have hall : ([22].all fun u => !Tryd.prog.wantsStandIn u) = true := by kernel_rfl
        exact (show Tryd.prog.wantsStandIn t = false by simpa using List.all_eq_true.1 hall t hm)⟩)
    (by kernel_rfl)
end Go.Proofs.YtaacmpmjogpodaaDoor.fnExactAreApart
namespace Go.Proofs.YtaacmpmjogpodaaDoor
/-- The card, under a short name, for the claim. -/
theorem fnExactAreApart_holds : Rows.FnExactAreApartCardSaid := fnExactAreApart.card
#print axioms fnExactAreApart_holds
end Go.Proofs.YtaacmpmjogpodaaDoor
