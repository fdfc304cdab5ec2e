/- Just so many rotations of degrees are forests as their excess tells, and of paths as many as their ratio leaves: the program and the reference answer alike on what is drawn.
   Conditions: none beyond the bounds of a process on the two lists of bytes. -/
import Derived.Test.YtaacmpmjogpodaaDoorPFnRotationsGoodx28
namespace Go.Proofs.YtaacmpmjogpodaaDoor.Pure
open Go.RowKit Go.Proofs.YtaacmpmjogpodaaDoor.PFnRotationsGood Go.Proofs.YtaacmpmjogpodaaDoorW.PrintWords Go.Proofs.YtaacmpmjogpodaaDoorW.PrintLast
theorem ev_pos {α : Type} {c : Prop} [Decidable c] (h : c) {g f : Nat → Option α} {r : α} (k : Ev g r) : Ev (fun n => if c then g n else f n) r := by
  obtain ⟨K, hK⟩ := k
  exact ⟨K, fun n hn => by simp only [if_pos h]; exact hK n hn⟩
theorem ev_neg {α : Type} {c : Prop} [Decidable c] (h : ¬ c) {g f : Nat → Option α} {r : α} (k : Ev f r) : Ev (fun n => if c then g n else f n) r := by
  obtain ⟨K, hK⟩ := k
  exact ⟨K, fun n hn => by simp only [if_neg h]; exact hK n hn⟩
theorem ev_on {α β : Type} {o : Option α} {a : α} (h : o = some a) {f : Nat → α → Option β} {r : β} (k : Ev (fun n => f n a) r) : Ev (fun n => o.bind (f n)) r := by
  obtain ⟨K, hK⟩ := k
  exact ⟨K, fun n hn => by rw [h]; exact hK n hn⟩
theorem ev_eq {α : Type} {g : Nat → Option α} {r r' : α} (h : Ev g r) (e : r = r') : Ev g r' := e ▸ h
theorem ev_uniq {α : Type} {g : Nat → Option α} {r r' : α} (h : Ev g r) (h' : Ev g r') : r = r' := by
  obtain ⟨K, hK⟩ := h
  obtain ⟨K', hK'⟩ := h'
  have a := hK (max K K') (Nat.le_max_left _ _)
  have b := hK' (max K K') (Nat.le_max_right _ _)
  exact Option.some.inj (a.symm.trans b)
theorem wr {n : Int} (h : -9223372036854775808 ≤ n) (h2 : n ≤ 9223372036854775807) : wrap64 n = n := by unfold wrap64; omega
theorem bt_get (s : ByteArray) (i : Nat) (h : i < s.data.toList.length) : bt s (i : Int) = ((s.data.toList[i]).toNat : Int) := by
  have h' : i < s.size := h
  unfold bt
  simp only [Int.toNat_natCast, dif_pos h']
  rfl
theorem size_len (s : ByteArray) : s.size = s.data.toList.length := rfl
theorem drop_cons {α : Type} {l : List α} {i : Nat} {x : α} {r : List α} (h : l.drop i = x :: r) : ∃ hi : i < l.length, l[i] = x ∧ l.drop (i + 1) = r := by
  have hi : i < l.length := by
    apply Classical.byContradiction
    intro hn
    rw [List.drop_eq_nil_of_le (by omega)] at h
    cases h
  rw [List.drop_eq_getElem_cons hi] at h
  injection h with a b
  exact ⟨hi, a, b⟩
theorem drop_nil {α : Type} {l : List α} {i : Nat} (h : l.drop i = []) : l.length ≤ i := by
  simpa using h

namespace Cyc
/-- The least value of P at k, .., k + m. -/
def mw (P : Nat → Int) (k : Nat) : Nat → Int
  | 0 => P k
  | m + 1 => min (mw P k m) (P (k + (m + 1)))
theorem mw_le (P : Nat → Int) (k : Nat) : ∀ m j, j ≤ m → mw P k m ≤ P (k + j)
  | 0, j, h => by
    obtain rfl : j = 0 := by omega
    exact Int.le_refl _
  | m + 1, j, h => by
    unfold mw
    by_cases hj : j ≤ m
    · exact Int.le_trans (Int.min_le_left _ _) (mw_le P k m j hj)
    · obtain rfl : j = m + 1 := by omega
      exact Int.min_le_right _ _
theorem le_mw (P : Nat → Int) (k : Nat) (c : Int) : ∀ m, (∀ j, j ≤ m → c ≤ P (k + j)) → c ≤ mw P k m
  | 0, h => h 0 (Nat.le_refl _)
  | m + 1, h => by
    unfold mw
    exact Int.le_min.2 ⟨le_mw P k c m fun j hj => h j (by omega), h (m + 1) (Nat.le_refl _)⟩
theorem mw_shift (P : Nat → Int) (k k' : Nat) (s : Int) : ∀ m, (∀ j, j ≤ m → P (k' + j) = P (k + j) + s) → mw P k' m = mw P k m + s
  | 0, h => h 0 (Nat.le_refl _)
  | m + 1, h => by
    unfold mw
    rw [mw_shift P k k' s m fun j hj => h j (by omega), h (m + 1) (Nat.le_refl _)]
    omega
theorem step_good (P : Nat → Int) (k m : Nat) (hg : ∀ j, 1 ≤ j → j ≤ m + 1 → P k < P (k + j)) (h1 : P (k + 1) ≤ P k + 1) : mw P (k + 1) m = mw P k m + 1 := by
  have a : mw P k m = P k := Int.le_antisymm (by simpa using mw_le P k m 0 (Nat.zero_le _)) (le_mw P k _ m fun j hj => by
    by_cases h0 : j = 0
    · subst h0; exact Int.le_refl _
    · exact Int.le_of_lt (hg j (by omega) (by omega)))
  have b : P k + 1 ≤ mw P (k + 1) m := le_mw P (k + 1) _ m fun j hj => by
    have := hg (1 + j) (by omega) (by omega)
    rw [show k + (1 + j) = k + 1 + j from by omega] at this
    omega
  have c : mw P (k + 1) m ≤ P (k + 1) := by simpa using mw_le P (k + 1) m 0 (Nat.zero_le _)
  omega
theorem step_bad (P : Nat → Int) (k m : Nat) (s : Int) (hs : 1 ≤ s) (hp : P (k + (m + 1)) = P k + s) (j : Nat) (hj1 : 1 ≤ j) (hj2 : j ≤ m + 1) (hb : P (k + j) ≤ P k) :
    mw P (k + 1) m = mw P k m := by
  have hjm : j ≤ m := by
    rcases Nat.lt_or_ge m j with h | h
    · obtain rfl : j = m + 1 := by omega
      omega
    · exact h
  apply Int.le_antisymm
  · refine le_mw P k _ m fun i hi => ?_
    by_cases h0 : i = 0
    · subst h0
      have := mw_le P (k + 1) m (j - 1) (by omega)
      rw [show k + 1 + (j - 1) = k + j from by omega] at this
      simp only [Nat.add_zero]
      omega
    · have := mw_le P (k + 1) m (i - 1) (by omega)
      rw [show k + 1 + (i - 1) = k + i from by omega] at this
      exact this
  · refine le_mw P (k + 1) _ m fun i hi => ?_
    by_cases h0 : i = m
    · subst h0
      have := mw_le P k i 0 (Nat.zero_le _)
      rw [show k + 1 + i = k + (i + 1) from by omega, hp]
      simp only [Nat.add_zero] at this
      omega
    · have := mw_le P k m (i + 1) (by omega)
      rw [show k + (i + 1) = k + 1 + i from by omega] at this
      exact this
/-- How many numbers below k have a property. -/
def cnt (p : Nat → Bool) : Nat → Nat
  | 0 => 0
  | k + 1 => cnt p k + if p k then 1 else 0
theorem cnt_mw (P : Nat → Int) (m : Nat) (s : Int) (hs : 1 ≤ s) (h1 : ∀ k, k ≤ m → P (k + 1) ≤ P k + 1) (hp : ∀ k, k ≤ m → P (k + (m + 1)) = P k + s) (p : Nat → Bool)
    (hpos : ∀ k, k ≤ m → (p k = true ↔ ∀ j, 1 ≤ j → j ≤ m + 1 → P k < P (k + j))) : ∀ k, k ≤ m + 1 → (cnt p k : Int) = mw P k m - mw P 0 m
  | 0, _ => by simp [cnt]
  | k + 1, h => by
    have ih := cnt_mw P m s hs h1 hp p hpos k (by omega)
    unfold cnt
    by_cases hk : p k = true
    · have := step_good P k m ((hpos k (by omega)).1 hk) (h1 k (by omega))
      rw [if_pos hk]
      omega
    · have hn : ∃ j, 1 ≤ j ∧ j ≤ m + 1 ∧ P (k + j) ≤ P k := by
        apply Classical.byContradiction
        intro hno
        apply hk
        rw [hpos k (by omega)]
        intro j a b
        apply Classical.byContradiction
        intro hlt
        exact hno ⟨j, a, b, by omega⟩
      obtain ⟨j, a, b, c⟩ := hn
      have := step_bad P k m s hs (hp k (by omega)) j a b c
      rw [if_neg hk]
      omega
/-- The cycle lemma: of a sequence whose steps are at most 1 and which rises by s in a period, just s places of a period lie below all that follow. -/
theorem cycle (P : Nat → Int) (m : Nat) (s : Int) (hs : 1 ≤ s) (h1 : ∀ k, k ≤ m → P (k + 1) ≤ P k + 1) (hp : ∀ k, k ≤ m → P (k + (m + 1)) = P k + s) (p : Nat → Bool)
    (hpos : ∀ k, k ≤ m → (p k = true ↔ ∀ j, 1 ≤ j → j ≤ m + 1 → P k < P (k + j))) : (cnt p (m + 1) : Int) = s := by
  have a := cnt_mw P m s hs h1 hp p hpos (m + 1) (Nat.le_refl _)
  have b := mw_shift P 0 (m + 1) s m fun j hj => by
    have := hp j hj
    rw [show m + 1 + j = j + (m + 1) from by omega, this, Nat.zero_add]
  omega
end Cyc

namespace Rot
open Cyc
def sm : List Int → Int
  | [] => 0
  | d :: r => d + sm r
theorem sm_app : ∀ a b : List Int, sm (a ++ b) = sm a + sm b
  | [], b => by simp [sm]
  | d :: r, b => by simp only [List.cons_append, sm, sm_app r b]; omega
def rot {α : Type} (a : List α) (k : Nat) : List α := a.drop k ++ a.take k
theorem rot_len {α : Type} (a : List α) (k : Nat) (h : k ≤ a.length) : (rot a k).length = a.length := by
  simp [rot]; omega
theorem mem_rot {α : Type} (a : List α) (k : Nat) (x : α) : x ∈ rot a k ↔ x ∈ a := by
  unfold rot
  rw [List.mem_append, or_comm, ← List.mem_append, List.take_append_drop]
theorem sm_rot (a : List Int) (k : Nat) : sm (rot a k) = sm a := by
  have := sm_app (a.take k) (a.drop k)
  rw [List.take_append_drop] at this
  unfold rot
  rw [sm_app]
  omega
theorem rot_map {α β : Type} (f : α → β) (a : List α) (k : Nat) : rot (a.map f) k = (rot a k).map f := by
  simp [rot, List.map_drop, List.map_take]
theorem rot_back {α : Type} (a : List α) (k : Nat) : rot (rot a k) (a.length - k) = a := by
  have e : (a.drop k).length = a.length - k := by simp
  unfold rot
  rw [← e, List.drop_left, List.take_left, List.take_append_drop]
def P (a : List Int) (k : Nat) : Int := sm ((a ++ a).take k)
theorem P_rot (a : List Int) (k j : Nat) (hk : k ≤ a.length) (hj : j ≤ a.length) : P a (k + j) = P a k + sm ((rot a k).take j) := by
  have h : a ++ a = a.take k ++ (rot a k ++ a.drop k) := by
    rw [rot, List.append_assoc, List.take_append_drop, ← List.append_assoc, List.take_append_drop]
  have hl : (a.take k).length = k := by simp; omega
  have hr := rot_len a k hk
  unfold P
  have e1 : (a ++ a).take (k + j) = a.take k ++ (rot a k).take j := by
    rw [h, List.take_append, hl, List.take_of_length_le (by omega), Nat.add_sub_cancel_left, List.take_append_of_le_length (by omega)]
  have e2 : (a ++ a).take k = a.take k := List.take_append_of_le_length hk
  rw [e1, e2, sm_app]
theorem P_period (a : List Int) (k : Nat) (hk : k ≤ a.length) : P a (k + a.length) = P a k + sm a := by
  rw [P_rot a k a.length hk (Nat.le_refl _), List.take_of_length_le (by rw [rot_len a k hk]; omega), sm_rot]
theorem P_step (a : List Int) (h : ∀ x ∈ a, x ≤ 1) (i : Nat) : P a (i + 1) ≤ P a i + 1 := by
  unfold P
  by_cases hi : i < (a ++ a).length
  · have hm : (a ++ a)[i] ∈ a := by
      have := List.getElem_mem hi
      rcases List.mem_append.1 this with h | h <;> exact h
    have := h _ hm
    rw [List.take_succ_eq_append_getElem hi, sm_app]
    simp only [sm]
    omega
  · rw [List.take_of_length_le (by omega), List.take_of_length_le (by omega)]
    omega
theorem cnt_zero (p : Nat → Bool) : ∀ n, (∀ i, i < n → p i = false) → cnt p n = 0
  | 0, _ => rfl
  | n + 1, h => by
    unfold cnt
    rw [cnt_zero p n fun i hi => h i (by omega), h n (by omega)]
    rfl
theorem cnt_range (p : Nat → Bool) : ∀ n, cnt p n = (List.range n).countP p
  | 0 => rfl
  | n + 1 => by
    unfold cnt
    rw [List.range_succ, List.countP_append, cnt_range p n]
    simp [List.countP_cons]
theorem cnt_rev (p : Nat → Bool) (n : Nat) : cnt (fun u => p (n - 1 - u)) n = cnt p n := by
  have e : (List.range n).reverse = (List.range n).map (fun u => n - 1 - u) := List.ext_getElem (by simp) (by intro i h1 h2; simp)
  have e2 : (List.range n).countP p = (List.range n).reverse.countP p := List.countP_reverse.symm
  rw [cnt_range, cnt_range, e2, e, List.countP_map]
  rfl
theorem ratio_count (a : List Int) (h : ∀ x ∈ a, x ≤ 1) (p : Nat → Bool) (hp : ∀ i, i < a.length → (p i = true ↔ ∀ j, 1 ≤ j → j ≤ a.length → 0 < sm ((rot a i).take j))) :
    (cnt p a.length : Int) = max 0 (sm a) := by
  by_cases hn : a.length = 0
  · have : a = [] := List.eq_nil_of_length_eq_zero hn
    subst this
    rfl
  · obtain ⟨m, hm⟩ : ∃ m, a.length = m + 1 := ⟨a.length - 1, by omega⟩
    by_cases hs : 1 ≤ sm a
    · have := cycle (P a) m (sm a) hs (fun k _ => P_step a h k) (fun k hk => by rw [← hm]; exact P_period a k (by omega)) p (fun k hk => by
        rw [hp k (by omega), ← hm]
        constructor
        · intro g j h1 h2
          have := g j h1 h2
          rw [P_rot a k j (by omega) h2]
          omega
        · intro g j h1 h2
          have := g j h1 h2
          rw [P_rot a k j (by omega) h2] at this
          omega)
      rw [hm, this]
      omega
    · rw [cnt_zero p _ fun i hi => by
        cases hpi : p i with
        | false => rfl
        | true =>
          have := (hp i hi).1 hpi a.length (by omega) (Nat.le_refl _)
          rw [List.take_of_length_le (by rw [rot_len a i (by omega)]; omega), sm_rot] at this
          omega]
      omega
theorem forest_count (a : List Int) (h : ∀ x ∈ a, x ≤ 1) (p : Nat → Bool) (hp : ∀ k, k < a.length → (p k = true ↔ 1 ≤ sm a ∧ ∀ j, 1 ≤ j → j < a.length → sm ((rot a k).take j) < sm a)) :
    (cnt p a.length : Int) = max 0 (sm a) := by
  by_cases hn : a.length = 0
  · have : a = [] := List.eq_nil_of_length_eq_zero hn
    subst this
    rfl
  · obtain ⟨m, hm⟩ : ∃ m, a.length = m + 1 := ⟨a.length - 1, by omega⟩
    by_cases hs : 1 ≤ sm a
    · have := cycle (fun i => - P a (2 * m + 1 - i)) m (sm a) hs (fun k hk => by
          have := P_step a h (2 * m + 1 - (k + 1))
          rw [show 2 * m + 1 - (k + 1) + 1 = 2 * m + 1 - k from by omega] at this
          omega) (fun k hk => by
          have := P_period a (2 * m + 1 - (k + (m + 1))) (by omega)
          rw [show 2 * m + 1 - (k + (m + 1)) + a.length = 2 * m + 1 - k from by omega] at this
          omega) (fun u => p (m + 1 - 1 - u)) (fun u hu => by
          have hk : m + 1 - 1 - u < a.length := by omega
          have hP := P_period a (m - u) (by omega)
          rw [show m - u + a.length = 2 * m + 1 - u from by omega] at hP
          rw [hp _ hk]
          constructor
          · rintro ⟨_, g⟩ j h1 h2
            rw [show 2 * m + 1 - (u + j) = (m - u) + (m + 1 - j) from by omega, P_rot a (m - u) (m + 1 - j) (by omega) (by omega)]
            by_cases hj : j = m + 1
            · subst hj
              simp only [Nat.sub_self, List.take_zero, sm]
              omega
            · have := g (m + 1 - j) (by omega) (by omega)
              rw [show m + 1 - 1 - u = m - u from by omega] at this
              omega
          · intro g
            refine ⟨hs, fun j h1 h2 => ?_⟩
            have := g (m + 1 - j) (by omega) (by omega)
            rw [show 2 * m + 1 - (u + (m + 1 - j)) = (m - u) + j from by omega, P_rot a (m - u) j (by omega) (by omega)] at this
            rw [show m + 1 - 1 - u = m - u from by omega]
            omega)
      rw [cnt_rev] at this
      rw [hm, this]
      omega
    · rw [cnt_zero p _ fun i hi => by
        cases hpi : p i with
        | false => rfl
        | true =>
          have := ((hp i hi).1 hpi).1
          omega]
      omega
end Rot

/- plain: the draws' cursor -/
def byteL (l : List Int) : Prop := ∀ x ∈ l, 0 ≤ x ∧ x ≤ 255
theorem byteL_of {l : List Int} (h : ∀ x ∈ l, (Go.Lit.int .u8 x).wf = true) : byteL l := fun x hx => by
  have := h x hx
  have e0 : Go.IntKind.u8.min = 0 := by decide
  have e1 : Go.IntKind.u8.max = 255 := by decide
  simp only [Go.Lit.wf, e0, e1] at this
  simpa using this
theorem rd_byte {l : List Int} (h : byteL l) (i : Int) : 0 ≤ rd l i ∧ rd l i ≤ 255 := by
  unfold rd
  rw [List.getD_eq_getElem?_getD]
  by_cases hi : i.toNat < l.length
  · rw [List.getElem?_eq_getElem hi]; exact h _ (List.getElem_mem hi)
  · rw [List.getElem?_eq_none (by omega)]; simp
theorem rdI (l : List Int) (i : Nat) (h : i < l.length) : rd l (i : Int) = l[i] := by
  unfold rd
  rw [List.getD_eq_getElem?_getD, Int.toNat_natCast, List.getElem?_eq_getElem h]; rfl
theorem and255 (x : Int) (h0 : 0 ≤ x) (h1 : x < 16777216) : 0 ≤ Go.bits .and .u64 x 255 ∧ Go.bits .and .u64 x 255 ≤ 255 := by
  have := Go.bits_mask .u64 24 (by decide) (fun n h1 h2 => by simp [Go.IntKind.wrap, Go.IntKind.bits, Go.IntKind.signed]; omega) 8 (by decide) x h0 (by omega)
  have e : ((2 : Int) ^ 8 - 1) = 255 := by decide
  rw [e] at this
  rw [this]
  omega
theorem u64_rng (x : Int) : 0 ≤ Go.IntKind.u64.wrap x ∧ Go.IntKind.u64.wrap x < 18446744073709551616 := by
  simp [Go.IntKind.wrap, Go.IntKind.bits, Go.IntKind.signed]; omega
section
variable {c : List Int} (hc : byteL c)
include hc
theorem cur_next {a : Int} (h0 : 0 ≤ a) (h1 : a ≤ 4611686018427387904) (s : Int) : ∃ b s', spec_l1Cur_next.f c a s = some (b, a + 1, s') ∧ 0 ≤ b ∧ b ≤ 255 := by
  unfold spec_l1Cur_next.f
  rw [wr (n := a + 1) (by omega) (by omega)]
  have hb := rd_byte hc a
  have hq : ∀ x, 0 ≤ wrap64 (Go.bits .and .u64 ((Go.IntKind.u64.wrap x) / 1099511627776) 255) ∧ wrap64 (Go.bits .and .u64 ((Go.IntKind.u64.wrap x) / 1099511627776) 255) ≤ 255 := fun x => by
    have h := u64_rng x
    have h2 := and255 ((Go.IntKind.u64.wrap x) / 1099511627776) (by omega) (by omega)
    rw [wr (by omega) (by omega)]
    exact h2
  rw [wr (n := rd c a) (by omega) (by omega)]
  by_cases hlt : a < (c.length : Int)
  · rw [if_pos hlt, if_pos h0]
    by_cases hle : a + 1 ≤ (c.length : Int)
    · rw [if_pos hle]
      exact ⟨_, _, rfl, hb.1, hb.2⟩
    · rw [if_neg hle]
      exact ⟨_, _, rfl, (hq _).1, (hq _).2⟩
  · rw [if_neg hlt]
    by_cases hle : a + 1 ≤ (c.length : Int)
    · rw [if_pos hle]
      exact ⟨_, _, rfl, by omega, by omega⟩
    · rw [if_neg hle]
      exact ⟨_, _, rfl, (hq _).1, (hq _).2⟩
omit hc in
theorem tmod_rng {x n : Int} (h0 : 0 ≤ x) (hn : 1 ≤ n) : 0 ≤ Int.tmod x n ∧ Int.tmod x n < n := by
  rw [Int.tmod_eq_emod_of_nonneg h0]
  exact ⟨Int.emod_nonneg _ (by omega), Int.emod_lt_of_pos _ (by omega)⟩
theorem cur_pick {a : Int} (h0 : 0 ≤ a) (h1 : a ≤ 4000000000000000000) (s n : Int) : ∃ r a' s', spec_l1Cur_pick.f c a s n = some (r, a', s') ∧ a ≤ a' ∧ a' ≤ a + 2 ∧ 0 ≤ r ∧ (1 ≤ n → r < n) := by
  unfold spec_l1Cur_pick.f
  by_cases hn : n ≤ 1
  · rw [if_pos hn]
    exact ⟨_, _, _, rfl, by omega, by omega, by omega, by omega⟩
  · rw [if_neg hn]
    obtain ⟨b, s1, e1, hb0, hb1⟩ := cur_next hc h0 (by omega) s
    rw [e1, Option.bind_some]
    dsimp only
    by_cases h2 : n > 200
    · rw [if_pos h2]
      obtain ⟨b2, s2, e2, hc0, hc1⟩ := cur_next hc (a := a + 1) (by omega) (by omega) s1
      rw [e2, Option.bind_some]
      dsimp only
      rw [if_neg (by omega), wr (n := b * 256) (by omega) (by omega), wr (n := b * 256 + b2) (by omega) (by omega)]
      have := tmod_rng (x := b * 256 + b2) (n := n) (by omega) (by omega)
      exact ⟨_, _, _, rfl, by omega, by omega, this.1, fun _ => this.2⟩
    · rw [if_neg h2, if_neg (by omega)]
      have := tmod_rng (x := b) (n := n) (by omega) (by omega)
      exact ⟨_, _, _, rfl, by omega, by omega, this.1, fun _ => this.2⟩
theorem cur_among {a : Int} (h0 : 0 ≤ a) (h1 : a ≤ 4000000000000000000) (s : Int) (l : List Int) (hl : 1 ≤ l.length) : ∃ r a' s', spec_l1Cur_among.f c a s l = some (r, a', s') ∧ a ≤ a' ∧ a' ≤ a + 2 ∧ r ∈ l := by
  unfold spec_l1Cur_among.f
  obtain ⟨r, a', s', e, ha, hb, hr0, hr1⟩ := cur_pick hc h0 h1 s (l.length : Int)
  have := hr1 (by omega)
  rw [e, Option.bind_some]
  dsimp only
  rw [if_pos hr0, if_pos this]
  refine ⟨_, _, _, rfl, ha, hb, ?_⟩
  obtain ⟨n, rfl⟩ := Int.eq_ofNat_of_zero_le hr0
  rw [rdI l n (by omega)]
  exact List.getElem_mem _
end

/- plain: drawn degrees -/
section
variable {c : List Int} (hc : byteL c)
include hc
theorem deg_l1 : ∀ (d : Nat) (x : List Int) (a s : Int), x.length + d = 17 → 0 ≤ a → a + 2 * d ≤ 1000000 → ∃ l a' s', Ev (fun k => spec_l1Cur_degrees.l1 k x c a s) (l, a', s') ∧ l.length ≤ 17 ∧ a ≤ a' ∧ a' ≤ a + 2 * (d + 1)
  | d, x, a, s, hd, h0, h1 => by
    obtain ⟨r, a1, s1, e, ha, hb, hr0, hr1⟩ := cur_pick hc h0 (by omega) s 2
    have := hr1 (by omega)
    by_cases hlt : (x.length : Int) < 16 + r
    · match d, hd, h1 with
      | 0, hd, h1 => omega
      | d + 1, hd, h1 =>
        obtain ⟨l, a', s', ih, hl, hx, hy⟩ := deg_l1 d (x ++ [0]) a1 s1 (by simp; omega) (by omega) (by omega)
        refine ⟨l, a', s', Ev.step (fun k => by simp only [spec_l1Cur_degrees.l1]; rfl) (ev_on e ?_), hl, by omega, by omega⟩
        dsimp only
        rw [wr (n := 16 + r) (by omega) (by omega)]
        exact ev_pos hlt (ev_pos (by omega) ih)
    · refine ⟨x, a1, s1, Ev.step (fun k => by simp only [spec_l1Cur_degrees.l1]; rfl) (ev_on e ?_), by omega, by omega, by omega⟩
      dsimp only
      rw [wr (n := 16 + r) (by omega) (by omega)]
      exact ev_neg hlt (Ev.now _)
theorem deg_l0 (n : Nat) (hn1 : 1 ≤ n) (hn : n ≤ 17) : ∀ (m : Nat) (x : List Int) (a s : Int), x.length = n → 0 ≤ a → a + 2 * m ≤ 900000 → ∃ l a' s', Ev (fun k => spec_l1Cur_degrees.l0 k (n : Int) x (m : Int) c a s) (l, a', s') ∧ l.length ≤ 17 ∧ a ≤ a' ∧ a' ≤ a + 2 * m + 60
  | 0, x, a, s, hx, h0, h1 => by
    obtain ⟨r, a1, s1, e, ha, hb, hr0, hr1⟩ := cur_pick hc h0 (by omega) s 16
    have key : ∀ {g : Nat → Option (List Int × Int × Int)} {z}, Ev g z → (∀ k, spec_l1Cur_degrees.l0 (k + 1) (n : Int) x ((0 : Nat) : Int) c a s = g k) → Ev (fun k => spec_l1Cur_degrees.l0 k (n : Int) x ((0 : Nat) : Int) c a s) z := fun h e => Ev.step e h
    have body : ∀ {z}, Ev (fun k => if r = 0 then ((spec_l1Cur_pick.f c a1 s1 (n : Int)).bind fun bt129 => ((spec_l1Cur_among.f c bt129.2.1 bt129.2.2 (([(-1), 16, 17, 4611686018427387904] : List Int))).bind fun bt135 => (if 0 ≤ bt129.1 then (if bt129.1 < (x.length : Int) then (some ((x.set (bt129.1 : Int).toNat bt135.1), bt135.2.1, bt135.2.2)) else (none)) else (none)))) else (if r = 1 then (spec_l1Cur_degrees.l1 k x c a1 s1) else (if r = 2 then (some (([] : List Int), a1, s1)) else (some (x, a1, s1))))) z →
        Ev (fun k => spec_l1Cur_degrees.l0 k (n : Int) x ((0 : Nat) : Int) c a s) z := fun h => by
      refine Ev.step (fun k => by simp only [spec_l1Cur_degrees.l0]; rfl) ?_
      refine ev_neg (by omega) ?_
      refine ev_on e ?_
      exact h
    by_cases q0 : r = 0
    · obtain ⟨i, a2, s2, e2, ha2, hb2, hi0, hi1⟩ := cur_pick hc (a := a1) (by omega) (by omega) s1 (n : Int)
      obtain ⟨v, a3, s3, e3, ha3, hb3, _⟩ := cur_among hc (a := a2) (by omega) (by omega) s2 [(-1), 16, 17, 4611686018427387904] (by simp)
      refine ⟨x.set i.toNat v, a3, s3, body ?_, by simp; omega, by omega, by omega⟩
      refine ev_pos q0 (ev_on e2 ?_)
      dsimp only
      refine ev_on e3 ?_
      dsimp only
      have := hi1 (by omega)
      exact ev_pos hi0 (ev_pos (by omega) (Ev.now _))
    · by_cases q1 : r = 1
      · obtain ⟨l, a', s', ih, hl, hx, hy⟩ := deg_l1 hc (17 - n) x a1 s1 (by omega) (by omega) (by omega)
        exact ⟨l, a', s', body (ev_neg q0 (ev_pos q1 ih)), hl, by omega, by omega⟩
      · by_cases q2 : r = 2
        · exact ⟨[], a1, s1, body (ev_neg q0 (ev_neg q1 (ev_pos q2 (Ev.now _)))), by simp, by omega, by omega⟩
        · exact ⟨x, a1, s1, body (ev_neg q0 (ev_neg q1 (ev_neg q2 (Ev.now _)))), by omega, by omega, by omega⟩
  | m + 1, x, a, s, hx, h0, h1 => by
    obtain ⟨r, a1, s1, e, ha, hb, hr0, hr1⟩ := cur_pick hc h0 (by omega) s (n : Int)
    have := hr1 (by omega)
    obtain ⟨l, a', s', ih, hl, hx', hy⟩ := deg_l0 n hn1 hn m (x.set r.toNat (wrap64 ((rd x r) + 1))) a1 s1 (by simpa using hx) (by omega) (by omega)
    refine ⟨l, a', s', Ev.step (fun k => by simp only [spec_l1Cur_degrees.l0]; rfl) ?_, hl, by omega, by omega⟩
    refine ev_pos (by omega) (ev_on e ?_)
    dsimp only
    refine ev_pos hr0 (ev_pos (by omega) ?_)
    rw [wr (n := ((m + 1 : Nat) : Int) - 1) (by omega) (by omega), show ((m + 1 : Nat) : Int) - 1 = (m : Int) from by omega]
    exact ih
theorem deg_draw (most : Nat) (h1 : 1 ≤ most) (h2 : most ≤ 17) {a : Int} (h0 : 0 ≤ a) (ha : a ≤ 800000) (s : Int) : ∃ l a' s', Ev (fun k => spec_l1Cur_degrees.f k c a s (most : Int)) (l, a', s') ∧ l.length ≤ 17 ∧ a ≤ a' ∧ a' ≤ a + 200 := by
  obtain ⟨r, a1, s1, e, ha1, hb1, hr0, hr1⟩ := cur_pick hc h0 (by omega) s (most : Int)
  have hr := hr1 (by omega)
  obtain ⟨r, rfl⟩ := Int.eq_ofNat_of_zero_le hr0
  obtain ⟨m, a2, s2, e2, ha2, hb2, hm0, hm1⟩ := cur_pick hc (a := a1) (by omega) (by omega) s1 ((1 + r : Nat) : Int)
  have hm := hm1 (by omega)
  obtain ⟨m, rfl⟩ := Int.eq_ofNat_of_zero_le hm0
  obtain ⟨l, a', s', ih, hl, hx', hy⟩ := deg_l0 hc (1 + r) (by omega) (by omega) m (List.replicate (1 + r) 0) a2 s2 (by simp) (by omega) (by omega)
  refine ⟨l, a', s', ?_, hl, by omega, by omega⟩
  unfold spec_l1Cur_degrees.f
  refine ev_on e ?_
  dsimp only
  rw [wr (n := 1 + (r : Int)) (by omega) (by omega), show (1 : Int) + (r : Int) = ((1 + r : Nat) : Int) from by omega]
  refine ev_pos (by omega) (ev_pos (by rw [Int.toNat_natCast]; omega) ?_)
  refine ev_on e2 ?_
  dsimp only
  rw [Int.toNat_natCast]
  exact ih
end

/- plain: drawn paths -/
section
variable {c : List Int} (hc : byteL c)
include hc
theorem cur_of {a : Int} (h0 : 0 ≤ a) (h1 : a ≤ 4000000000000000000) (s : Int) (l : List ByteArray) (hl : 1 ≤ l.length) : ∃ r a' s', spec_l1Cur_of.f c a s l = some (r, a', s') ∧ a ≤ a' ∧ a' ≤ a + 2 ∧ r ∈ l := by
  unfold spec_l1Cur_of.f
  obtain ⟨r, a', s', e, ha, hb, hr0, hr1⟩ := cur_pick hc h0 h1 s (l.length : Int)
  have := hr1 (by omega)
  rw [e, Option.bind_some]
  dsimp only
  rw [if_pos hr0, if_pos this]
  refine ⟨_, _, _, rfl, ha, hb, ?_⟩
  obtain ⟨n, rfl⟩ := Int.eq_ofNat_of_zero_le hr0
  unfold rdOf
  rw [Int.toNat_natCast, List.getD_eq_getElem?_getD, List.getElem?_eq_getElem (by omega)]
  exact List.getElem_mem _
theorem cur_one {a : Int} (h0 : 0 ≤ a) (h1 : a ≤ 4000000000000000000) (s n : Int) : ∃ r a' s', spec_l1Cur_one.f c a s n = some (r, a', s') ∧ a ≤ a' ∧ a' ≤ a + 2 := by
  unfold spec_l1Cur_one.f
  obtain ⟨r, a', s', e, ha, hb, hr0, hr1⟩ := cur_pick hc h0 h1 s n
  rw [e, Option.bind_some]
  exact ⟨_, _, _, rfl, ha, hb⟩
omit hc in
theorem size_app (a b : ByteArray) : (a ++ b).size = a.size + b.size := by simp
theorem path_l0 (m : Nat) : ∀ (x : ByteArray) (a s : Int), x.size + m ≤ 1000 → 0 ≤ a → a + 2 * m ≤ 900000 → ∃ t a' s', Ev (fun k => spec_l1Cur_path.l0 k x (m : Int) c a s) (t, a', s') ∧ t.size ≤ x.size + m ∧ a ≤ a' ∧ a' ≤ a + 2 * m := by
  induction m with
  | zero =>
    intro x a s hx h0 h1
    exact ⟨x, a, s, Ev.step (fun k => by simp only [spec_l1Cur_path.l0]; rfl) (ev_neg (by omega) (Ev.now _)), by omega, by omega, by omega⟩
  | succ m ih0 =>
    intro x a s hx h0 h1
    obtain ⟨r, a1, s1, e, ha, hb, hr⟩ := cur_of hc h0 (by omega) s [(⟨#[85]⟩ : ByteArray), (⟨#[68]⟩ : ByteArray)] (by simp)
    have hs : r.size = 1 := by
      simp at hr
      rcases hr with rfl | rfl <;> rfl
    obtain ⟨t, a', s', ih, hl, hx', hy⟩ := ih0 (x ++ r) a1 s1 (by rw [size_app]; omega) (by omega) (by omega)
    rw [size_app] at hl
    refine ⟨t, a', s', Ev.step (fun k => by simp only [spec_l1Cur_path.l0]; rfl) ?_, by omega, by omega, by omega⟩
    refine ev_pos (by omega) (ev_on e ?_)
    dsimp only
    refine ev_pos (by omega) ?_
    rw [wr (n := ((m + 1 : Nat) : Int) - 1) (by omega) (by omega), show ((m + 1 : Nat) : Int) - 1 = (m : Int) from by omega]
    exact ih
theorem path_draw (most : Nat) (h2 : most ≤ 100) {a : Int} (h0 : 0 ≤ a) (ha : a ≤ 800000) (s : Int) : ∃ t a' s', Ev (fun k => spec_l1Cur_path.f k c a s (most : Int)) (t, a', s') ∧ t.size ≤ 100 ∧ a ≤ a' ∧ a' ≤ a + 1000 := by
  obtain ⟨r, a1, s1, e, ha1, hb1, hr0, hr1⟩ := cur_pick hc h0 (by omega) s ((most : Int) + 1)
  have hr := hr1 (by omega)
  obtain ⟨r, rfl⟩ := Int.eq_ofNat_of_zero_le hr0
  obtain ⟨t, a', s', ih, hl, hx', hy⟩ := path_l0 hc r (⟨#[]⟩ : ByteArray) a1 s1 (by simp [ByteArray.size]; omega) (by omega) (by omega)
  have hz : (⟨#[]⟩ : ByteArray).size = 0 := rfl
  refine ⟨t, a', s', ?_, by omega, by omega, by omega⟩
  unfold spec_l1Cur_path.f
  rw [wr (n := (most : Int) + 1) (by omega) (by omega)]
  exact ev_on e ih
theorem good_l0 (m : Nat) : ∀ (x : ByteArray) (h : Int) (a s : Int), x.size + m ≤ 1000 → 0 ≤ h → h ≤ 1000 - m → 0 ≤ a → a + 2 * m ≤ 900000 → ∃ t a' s', Ev (fun k => spec_l1Cur_goodPath.l0 k x h (m : Int) c a s) (t, a', s') ∧ t.size ≤ x.size + m ∧ a ≤ a' ∧ a' ≤ a + 2 * m := by
  induction m with
  | zero =>
    intro x h a s hx hh hh1 h0 h1
    exact ⟨x, a, s, Ev.step (fun k => by simp only [spec_l1Cur_goodPath.l0]; rfl) (ev_neg (by omega) (Ev.now _)), by omega, by omega, by omega⟩
  | succ m ih0 =>
    intro x h a s hx hh hh1 h0 h1
    have e1 : (⟨#[68]⟩ : ByteArray).size = 1 := rfl
    have e2 : (⟨#[85]⟩ : ByteArray).size = 1 := rfl
    have hw : wrap64 (((m + 1 : Nat) : Int) - 1) = (m : Int) := by rw [wr (by omega) (by omega)]; omega
    by_cases q1 : h = ((m + 1 : Nat) : Int)
    · obtain ⟨t, a', s', ih, hl, hx', hy⟩ := ih0 (x ++ (⟨#[68]⟩ : ByteArray)) (h - 1) a s (by rw [size_app]; omega) (by omega) (by omega) h0 (by omega)
      rw [size_app] at hl
      refine ⟨t, a', s', Ev.step (fun k => by simp only [spec_l1Cur_goodPath.l0]; rfl) ?_, by omega, by omega, by omega⟩
      rw [hw, wr (n := h - 1) (by omega) (by omega)]
      exact ev_pos (by omega) (ev_pos q1 (ev_pos (by omega) ih))
    · by_cases q2 : h > 0
      · obtain ⟨r, a1, s1, e, ha, hb⟩ := cur_one hc h0 (by omega) s 2
        cases r with
        | true =>
          obtain ⟨t, a', s', ih, hl, hx', hy⟩ := ih0 (x ++ (⟨#[68]⟩ : ByteArray)) (h - 1) a1 s1 (by rw [size_app]; omega) (by omega) (by omega) (by omega) (by omega)
          rw [size_app] at hl
          refine ⟨t, a', s', Ev.step (fun k => by simp only [spec_l1Cur_goodPath.l0]; rfl) ?_, by omega, by omega, by omega⟩
          rw [hw, wr (n := h - 1) (by omega) (by omega)]
          refine ev_pos (by omega) (ev_neg q1 (ev_pos q2 (ev_on e ?_)))
          dsimp only
          exact ev_pos rfl (ev_pos (by omega) ih)
        | false =>
          obtain ⟨t, a', s', ih, hl, hx', hy⟩ := ih0 (x ++ (⟨#[85]⟩ : ByteArray)) (h + 1) a1 s1 (by rw [size_app]; omega) (by omega) (by omega) (by omega) (by omega)
          rw [size_app] at hl
          refine ⟨t, a', s', Ev.step (fun k => by simp only [spec_l1Cur_goodPath.l0]; rfl) ?_, by omega, by omega, by omega⟩
          rw [hw, wr (n := h + 1) (by omega) (by omega)]
          refine ev_pos (by omega) (ev_neg q1 (ev_pos q2 (ev_on e ?_)))
          dsimp only
          exact ev_neg (by decide) (ev_pos (by omega) ih)
      · obtain ⟨t, a', s', ih, hl, hx', hy⟩ := ih0 (x ++ (⟨#[85]⟩ : ByteArray)) (h + 1) a s (by rw [size_app]; omega) (by omega) (by omega) h0 (by omega)
        rw [size_app] at hl
        refine ⟨t, a', s', Ev.step (fun k => by simp only [spec_l1Cur_goodPath.l0]; rfl) ?_, by omega, by omega, by omega⟩
        rw [hw, wr (n := h + 1) (by omega) (by omega)]
        exact ev_pos (by omega) (ev_neg q1 (ev_neg q2 (ev_pos (by omega) ih)))
theorem good_draw (most : Nat) (h2 : most ≤ 50) {a : Int} (h0 : 0 ≤ a) (ha : a ≤ 800000) (s : Int) : ∃ t a' s', Ev (fun k => spec_l1Cur_goodPath.f k c a s (most : Int)) (t, a', s') ∧ t.size ≤ 100 ∧ a ≤ a' ∧ a' ≤ a + 1000 := by
  obtain ⟨r, a1, s1, e, ha1, hb1, hr0, hr1⟩ := cur_pick hc h0 (by omega) s ((most : Int) + 1)
  have hr := hr1 (by omega)
  obtain ⟨r, rfl⟩ := Int.eq_ofNat_of_zero_le hr0
  have hz : (⟨#[]⟩ : ByteArray).size = 0 := rfl
  obtain ⟨t, a', s', ih, hl, hx', hy⟩ := good_l0 hc (2 * r) (⟨#[]⟩ : ByteArray) 0 a1 s1 (by omega) (by omega) (by omega) (by omega) (by omega)
  refine ⟨t, a', s', ?_, by omega, by omega, by omega⟩
  unfold spec_l1Cur_goodPath.f
  rw [wr (n := (most : Int) + 1) (by omega) (by omega)]
  refine ev_on e ?_
  dsimp only
  rw [wr (n := 2 * (r : Int)) (by omega) (by omega), show 2 * (r : Int) = ((2 * r : Nat) : Int) from by omega]
  exact ih
omit hc in
theorem size_nums1 (x : Int) : (strOfNums [x]).size = 1 := by unfold strOfNums; rfl
omit hc in
theorem size_ext (x : ByteArray) (i j : Nat) : (x.extract i j).size = min j x.size - i := by rw [ByteArray.size_extract]
omit hc in
theorem sp_size0 (x y : ByteArray) (i : Nat) (h : i < x.size) (hy : y.size = 1) : ((x.extract 0 i ++ y) ++ x.extract i x.size).size = x.size + 1 := by
  rw [ByteArray.size_append, ByteArray.size_append, ByteArray.size_extract, ByteArray.size_extract, hy]
  omega
omit hc in
theorem sp_size1 (x y : ByteArray) (i : Nat) (h : i < x.size) (hy : y.size = 1) : ((x.extract 0 i ++ y) ++ x.extract (i + 1) x.size).size = x.size := by
  rw [ByteArray.size_append, ByteArray.size_append, ByteArray.size_extract, ByteArray.size_extract, hy]
  omega
omit hc in
theorem sp_size2 (x : ByteArray) (i : Nat) (h : i < x.size) : (x.extract 0 i ++ x.extract (i + 1) x.size).size + 1 = x.size := by
  rw [ByteArray.size_append, ByteArray.size_extract, ByteArray.size_extract]
  omega
omit hc in
theorem sp_a (x y : ByteArray) (i : Nat) (h : i < x.size) (hx : x.size ≤ 1000) (hy : y.size = 1) : (x.extract 0 i).size + y.size ≤ 9223372036854775807 := by
  rw [ByteArray.size_extract, hy]
  omega
omit hc in
theorem sp_b (x y : ByteArray) (i j : Nat) (h : i < x.size) (hx : x.size ≤ 1000) (hy : y.size = 1) : (x.extract 0 i ++ y).size + (x.extract j x.size).size ≤ 9223372036854775807 := by
  rw [ByteArray.size_append, ByteArray.size_extract, ByteArray.size_extract, hy]
  omega
omit hc in
theorem sp_c (x : ByteArray) (i j : Nat) (h : i < x.size) (hx : x.size ≤ 1000) : (x.extract 0 i).size + (x.extract j x.size).size ≤ 9223372036854775807 := by
  rw [ByteArray.size_extract, ByteArray.size_extract]
  omega
theorem spoilt_l0 (w : ByteArray) (hw : 1 ≤ w.size) (hw2 : w.size ≤ 100) (m : Nat) : ∀ (x : ByteArray) (a s : Int), x.size + m ≤ 1000 → 0 ≤ a → a + 6 * m ≤ 900000 → ∃ t a' s', Ev (fun k => spec_l1Cur_spoilt.l0 k x w (m : Int) c a s) (t, a', s') ∧ t.size ≤ x.size + m ∧ a ≤ a' ∧ a' ≤ a + 6 * m := by
  induction m with
  | zero =>
    intro x a s hx h0 h1
    refine ⟨x, a, s, Ev.step (fun k => by simp only [spec_l1Cur_spoilt.l0]; rfl) (ev_neg (by omega) ?_), by omega, by omega, by omega⟩
    exact Ev.step (fun k => by simp only [spec_l1Cur_spoilt.j1]; rfl) (ev_neg (by decide) (Ev.now _))
  | succ m ih0 =>
    intro x a s hx h0 h1
    have hm : wrap64 (((m + 1 : Nat) : Int) - 1) = (m : Int) := by rw [wr (by omega) (by omega)]; omega
    by_cases hz : x.size = 0
    · refine ⟨x, a, s, Ev.step (fun k => by simp only [spec_l1Cur_spoilt.l0]; rfl) (ev_pos (by omega) ?_), by omega, by omega, by omega⟩
      rw [decide_eq_false (by omega)]
      exact Ev.step (fun k => by simp only [spec_l1Cur_spoilt.j1]; rfl) (ev_neg (by decide) (Ev.now _))
    · have hpos : decide ((x.size : Int) > 0) = true := decide_eq_true (by omega)
      have hpos2 : ((m + 1 : Nat) : Int) > 0 := by omega
      obtain ⟨i, a1, s1, e1, ha1, hb1, hi0, hi1⟩ := cur_pick hc h0 (by omega) s (x.size : Int)
      have hi := hi1 (by omega)
      clear hi1
      obtain ⟨i, rfl⟩ := Int.eq_ofNat_of_zero_le hi0
      have hlt : i < x.size := by omega
      have hle : (i : Int) ≤ (x.size : Int) := by omega
      have hle1 : ((i + 1 : Nat) : Int) ≤ (x.size : Int) := by omega
      have hx1000 : x.size ≤ 1000 := by omega
      obtain ⟨q, a2, s2, e2, ha2, hb2, hq0, hq1⟩ := cur_pick hc (a := a1) (by omega) (by omega) s1 (w.size : Int)
      have hq := hq1 (by omega)
      clear hq1
      obtain ⟨z, a3, s3, e3, ha3, hb3, hz0, hz1⟩ := cur_pick hc (a := a2) (by omega) (by omega) s2 3
      have w1 : wrap64 ((i : Int) + 1) = ((i + 1 : Nat) : Int) := by rw [wr (by omega) (by omega)]; omega
      have go : ∀ (y : ByteArray), y.size ≤ x.size + 1 → ∃ t a' s', Ev (fun k => spec_l1Cur_spoilt.l0 k y w (m : Int) c a3 s3) (t, a', s') ∧ t.size ≤ x.size + (m + 1) ∧ a ≤ a' ∧ a' ≤ a + 6 * (m + 1 : Nat) := fun y hy => by
        obtain ⟨t, a', s', ih, hl, hx', hy'⟩ := ih0 y a3 s3 (by omega) (by omega) (by omega)
        exact ⟨t, a', s', ih, by omega, by omega, by omega⟩
      obtain ⟨y, hy⟩ : ∃ y, strOfNums [bt w q] = y := ⟨_, rfl⟩
      have n1 : y.size = 1 := by rw [← hy]; exact size_nums1 _
      have pre : ∀ {g : Nat → Option (ByteArray × Int × Int)} {r}, (∀ k, (if z = 0 then (if 0 ≤ (i : Int) then (if (i : Int) ≤ (x.size : Int) then (if (x.extract 0 ((i : Int)).toNat).size + y.size ≤ 9223372036854775807 then (if ((x.extract 0 ((i : Int)).toNat) ++ y).size + (x.extract ((i : Int)).toNat x.size).size ≤ 9223372036854775807 then (spec_l1Cur_spoilt.l0 k (((x.extract 0 ((i : Int)).toNat) ++ y) ++ (x.extract ((i : Int)).toNat x.size)) w (wrap64 (((m + 1 : Nat) : Int) - 1)) c a3 s3) else (none)) else (none)) else (none)) else (none)) else (if z = 1 then (if 0 ≤ (i : Int) then (if (i : Int) ≤ (x.size : Int) then (if (x.extract 0 ((i : Int)).toNat).size + y.size ≤ 9223372036854775807 then (if 0 ≤ (wrap64 ((i : Int) + 1)) then (if (wrap64 ((i : Int) + 1)) ≤ (x.size : Int) then (if ((x.extract 0 ((i : Int)).toNat) ++ y).size + (x.extract ((wrap64 ((i : Int) + 1)) : Int).toNat x.size).size ≤ 9223372036854775807 then (spec_l1Cur_spoilt.l0 k (((x.extract 0 ((i : Int)).toNat) ++ y) ++ (x.extract ((wrap64 ((i : Int) + 1)) : Int).toNat x.size)) w (wrap64 (((m + 1 : Nat) : Int) - 1)) c a3 s3) else (none)) else (none)) else (none)) else (none)) else (none)) else (none)) else (if 0 ≤ (i : Int) then (if (i : Int) ≤ (x.size : Int) then (if 0 ≤ (wrap64 ((i : Int) + 1)) then (if (wrap64 ((i : Int) + 1)) ≤ (x.size : Int) then (if (x.extract 0 ((i : Int)).toNat).size + (x.extract ((wrap64 ((i : Int) + 1)) : Int).toNat x.size).size ≤ 9223372036854775807 then (spec_l1Cur_spoilt.l0 k ((x.extract 0 ((i : Int)).toNat) ++ (x.extract ((wrap64 ((i : Int) + 1)) : Int).toNat x.size)) w (wrap64 (((m + 1 : Nat) : Int) - 1)) c a3 s3) else (none)) else (none)) else (none)) else (none)) else (none)))) = g k) → Ev g r → Ev (fun k => spec_l1Cur_spoilt.l0 k x w ((m + 1 : Nat) : Int) c a s) r := fun hg hr => by
        refine Ev.step (fun k => by simp only [spec_l1Cur_spoilt.l0]; rfl) (ev_pos hpos2 ?_)
        rw [hpos]
        refine Ev.step (fun k => by simp only [spec_l1Cur_spoilt.j1]; rfl) (ev_pos (c := true = true) rfl ?_)
        refine ev_on e1 ?_
        dsimp only
        refine ev_on e2 ?_
        dsimp only
        refine ev_pos hq0 (ev_pos hq ?_)
        refine ev_on (a := [bt w q]) rfl ?_
        refine ev_on e3 ?_
        dsimp only
        rw [hy]
        exact Ev.congr hg hr
      clear hy
      by_cases z0 : z = 0
      · obtain ⟨t, a', s', ih, h⟩ := go (((x.extract 0 i) ++ y) ++ (x.extract i x.size)) (Nat.le_of_eq (sp_size0 x y i hlt n1))
        refine ⟨t, a', s', pre (fun k => ?_) ih, h⟩
        rw [if_pos z0, if_pos hi0, if_pos hle, Int.toNat_natCast, if_pos (sp_a x y i hlt hx1000 n1), if_pos (sp_b x y i i hlt hx1000 n1), hm]
      · by_cases z1 : z = 1
        · obtain ⟨t, a', s', ih, h⟩ := go (((x.extract 0 i) ++ y) ++ (x.extract (i + 1) x.size)) (by rw [sp_size1 x y i hlt n1]; exact Nat.le_succ _)
          refine ⟨t, a', s', pre (fun k => ?_) ih, h⟩
          rw [if_neg z0, if_pos z1, if_pos hi0, if_pos hle, Int.toNat_natCast, if_pos (sp_a x y i hlt hx1000 n1), w1, if_pos (Int.natCast_nonneg _), if_pos hle1, Int.toNat_natCast, if_pos (sp_b x y i (i + 1) hlt hx1000 n1), hm]
        · obtain ⟨t, a', s', ih, h⟩ := go ((x.extract 0 i) ++ (x.extract (i + 1) x.size)) (by have := sp_size2 x i hlt; exact Nat.le_of_succ_le (Nat.le_succ_of_le (Nat.le_of_eq this)))
          refine ⟨t, a', s', pre (fun k => ?_) ih, h⟩
          rw [if_neg z0, if_neg z1, if_pos hi0, if_pos hle, w1, if_pos (Int.natCast_nonneg _), if_pos hle1, Int.toNat_natCast, Int.toNat_natCast, if_pos (sp_c x i (i + 1) hlt hx1000), hm]
theorem spoilt_draw (w : ByteArray) (hw : 1 ≤ w.size) (hw2 : w.size ≤ 100) (x : ByteArray) (hx : x.size ≤ 900) {a : Int} (h0 : 0 ≤ a) (ha : a ≤ 800000) (s : Int) : ∃ t a' s', Ev (fun k => spec_l1Cur_spoilt.f k c a s x w) (t, a', s') ∧ t.size ≤ x.size + 2 ∧ a ≤ a' ∧ a' ≤ a + 100 := by
  obtain ⟨r, a1, s1, e, ha1, hb1, hr0, hr1⟩ := cur_pick hc h0 (by omega) s 2
  have hr := hr1 (by omega)
  obtain ⟨r, rfl⟩ := Int.eq_ofNat_of_zero_le hr0
  obtain ⟨t, a', s', ih, hl, hx', hy⟩ := spoilt_l0 hc w hw hw2 (1 + r) x a1 s1 (by omega) (by omega) (by omega)
  refine ⟨t, a', s', ?_, by omega, by omega, by omega⟩
  unfold spec_l1Cur_spoilt.f
  refine ev_on e ?_
  dsimp only
  rw [wr (n := 1 + (r : Int)) (by omega) (by omega), show 1 + (r : Int) = ((1 + r : Nat) : Int) from by omega]
  exact ih
theorem any_l0 : ∀ (d : Nat) (x : ByteArray) (a s : Int), x.size + d = 43 → 0 ≤ a → a + 4 * d ≤ 1000000 → ∃ t a' s', Ev (fun k => spec_l1Cur_anyPath.l0 k x c a s) (t, a', s') ∧ t.size ≤ 43 ∧ a ≤ a' ∧ a' ≤ a + 4 * (d + 1)
  | d, x, a, s, hd, h0, h1 => by
    obtain ⟨r, a1, s1, e, ha, hb, hr0, hr1⟩ := cur_pick hc h0 (by omega) s 2
    have := hr1 (by omega)
    by_cases hlt : (x.size : Int) < 40 + r
    · obtain ⟨y, a2, s2, e2, ha2, hb2, hy⟩ := cur_of hc (a := a1) (by omega) (by omega) s1 [(⟨#[85, 68]⟩ : ByteArray), (⟨#[68, 85]⟩ : ByteArray), (⟨#[85, 85]⟩ : ByteArray)] (by simp)
      have hs : y.size = 2 := by
        simp at hy
        rcases hy with rfl | rfl | rfl <;> rfl
      match d, hd, h1 with
      | 0, hd, h1 => omega
      | 1, hd, h1 => omega
      | d + 2, hd, h1 =>
        obtain ⟨l, a', s', ih, hl, hx, hy⟩ := any_l0 d (x ++ y) a2 s2 (by rw [size_app]; omega) (by omega) (by omega)
        refine ⟨l, a', s', Ev.step (fun k => by simp only [spec_l1Cur_anyPath.l0]; rfl) (ev_on e ?_), hl, by omega, by omega⟩
        dsimp only
        rw [wr (n := 40 + r) (by omega) (by omega)]
        refine ev_pos hlt (ev_on e2 ?_)
        dsimp only
        exact ev_pos (by omega) ih
    · refine ⟨x, a1, s1, Ev.step (fun k => by simp only [spec_l1Cur_anyPath.l0]; rfl) (ev_on e ?_), by omega, by omega, by omega⟩
      dsimp only
      rw [wr (n := 40 + r) (by omega) (by omega)]
      exact ev_neg hlt (Ev.now _)
theorem any_draw (most : Nat) (h2 : most ≤ 100) {a : Int} (h0 : 0 ≤ a) (ha : a ≤ 700000) (s : Int) : ∃ t a' s', Ev (fun k => spec_l1Cur_anyPath.f k c a s (most : Int)) (t, a', s') ∧ t.size ≤ 200 ∧ a ≤ a' ∧ a' ≤ a + 5000 := by
  obtain ⟨r, a1, s1, e, ha1, hb1, hr0, hr1⟩ := cur_pick hc h0 (by omega) s 16
  obtain ⟨tp, ap, sp, ep, hlp, hxp, hyp⟩ := path_draw hc most h2 (a := a1) (by omega) (by omega) s1
  obtain ⟨tg, ag, sg, eg, hlg, hxg, hyg⟩ := good_draw hc (most / 2) (by omega) (a := a1) (by omega) (by omega) s1
  have ed : wrap64 (Int.tdiv (most : Int) 2) = ((most / 2 : Nat) : Int) := by
    rw [Int.tdiv_eq_ediv_of_nonneg (by omega), wr (by omega) (by omega)]; omega
  have j1 : ∀ b : Bool, ∃ t a' s', Ev (fun k => spec_l1Cur_anyPath.j1 k (most : Int) b c a1 s1) (t, a', s') ∧ t.size ≤ 200 ∧ a ≤ a' ∧ a' ≤ a + 5000 := fun b => by
    cases b with
    | true =>
      refine ⟨tg, ag, sg, Ev.step (fun k => by simp only [spec_l1Cur_anyPath.j1]; rfl) (ev_pos (c := true = true) rfl ?_), by omega, by omega, by omega⟩
      rw [ed]
      exact Ev.bind eg (Ev.now _)
    | false =>
      refine ⟨tp, ap, sp, Ev.step (fun k => by simp only [spec_l1Cur_anyPath.j1]; rfl) (ev_neg (by decide) ?_), by omega, by omega, by omega⟩
      exact Ev.bind ep (Ev.now _)
  unfold spec_l1Cur_anyPath.f
  have lift : ∀ {g : Nat → Option (ByteArray × Int × Int)}, (∃ t a' s', Ev g (t, a', s') ∧ t.size ≤ 200 ∧ a ≤ a' ∧ a' ≤ a + 5000) → ∀ {f : Nat → Option (ByteArray × Int × Int)}, (∀ z, Ev g z → Ev f z) → ∃ t a' s', Ev f (t, a', s') ∧ t.size ≤ 200 ∧ a ≤ a' ∧ a' ≤ a + 5000 := fun ⟨t, a', s', h, h2⟩ _ hf => ⟨t, a', s', hf _ h, h2⟩
  by_cases q0 : r = 0
  · obtain ⟨ts, as_, ss, es, hls, hxs, hys⟩ := spoilt_draw hc (⟨#[85, 68, 88, 32, 117]⟩ : ByteArray) (by decide) (by decide) tp (by omega) (a := ap) (by omega) (by omega) sp
    refine ⟨ts, as_, ss, ev_on e ?_, by omega, by omega, by omega⟩
    dsimp only
    exact ev_pos q0 (Ev.bind ep (Ev.bind es (Ev.now _)))
  · by_cases q1 : r = 1
    · obtain ⟨t, a', s', ih, hl, hx, hy⟩ := any_l0 hc 43 (⟨#[]⟩ : ByteArray) a1 s1 rfl (by omega) (by omega)
      refine ⟨t, a', s', ev_on e ?_, by omega, by omega, by omega⟩
      dsimp only
      exact ev_neg q0 (ev_pos q1 ih)
    · by_cases q2 : r = 2
      · refine lift (j1 (r == 2)) fun z h => ev_on e (ev_neg q0 (ev_neg q1 (ev_pos q2 h)))
      · by_cases q3 : r = 3
        · exact lift (j1 (r == 3)) fun z h => ev_on e (ev_neg q0 (ev_neg q1 (ev_neg q2 (ev_pos q3 h))))
        · by_cases q4 : r = 4
          · exact lift (j1 (r == 4)) fun z h => ev_on e (ev_neg q0 (ev_neg q1 (ev_neg q2 (ev_neg q3 (ev_pos q4 h)))))
          · by_cases q5 : r = 5
            · exact lift (j1 (r == 5)) fun z h => ev_on e (ev_neg q0 (ev_neg q1 (ev_neg q2 (ev_neg q3 (ev_neg q4 (ev_pos q5 h))))))
            · exact lift (j1 (r == 6)) fun z h => ev_on e (ev_neg q0 (ev_neg q1 (ev_neg q2 (ev_neg q3 (ev_neg q4 (ev_neg q5 h))))))
end

theorem dropWhile_nil (p : UInt8 → Bool) : ∀ l : List UInt8, l.dropWhile p = [] ↔ l.all p = true
  | [] => by simp
  | a :: r => by
    by_cases h : p a = true
    · simp [h, dropWhile_nil p r]
    · simp [h]
theorem trimS_nil (l cs : List UInt8) : Lib.trimS l cs = [] ↔ (l.all fun c => cs.contains c) = true := by
  unfold Lib.trimS Lib.trimLeftS Lib.trimRightS
  rw [dropWhile_nil, List.all_reverse]
  constructor
  · intro h
    have h1 : ∀ x ∈ l, cs.contains x = true := by
      intro x hx
      apply Classical.byContradiction
      intro hn
      have h2 := List.all_eq_true.1 h
      have : ∀ m : List UInt8, x ∈ m → x ∈ m.dropWhile (cs.contains ·) := by
        intro m
        induction m with
        | nil => intro h; exact h
        | cons a r ih =>
          intro hm
          by_cases ha : cs.contains a = true
          · rw [List.dropWhile_cons, if_pos ha]
            rcases List.mem_cons.1 hm with e | e
            · rw [e] at hn; exact absurd ha hn
            · exact ih e
          · rw [List.dropWhile_cons, if_neg ha]; exact hm
      exact hn (h2 x (this _ (List.mem_reverse.2 hx)))
    exact List.all_eq_true.2 h1
  · intro h
    have h1 := List.all_eq_true.1 h
    refine List.all_eq_true.2 fun x hx => h1 x ?_
    exact List.mem_reverse.1 ((List.dropWhile_sublist _).subset hx)

open Rot
/- degrees -/
def inR (x : Int) : Bool := decide (0 ≤ x ∧ x ≤ 16)
def deg (l : List Int) : Bool := decide (1 ≤ l.length ∧ l.length ≤ 16) && l.all inR
theorem deg_iff {l : List Int} : deg l = true ↔ 1 ≤ l.length ∧ l.length ≤ 16 ∧ ∀ x ∈ l, 0 ≤ x ∧ x ≤ 16 := by
  unfold deg inR
  simp only [Bool.and_eq_true, decide_eq_true_eq, List.all_eq_true]
  constructor
  · rintro ⟨⟨a, b⟩, c⟩; exact ⟨a, b, c⟩
  · rintro ⟨a, b, c⟩; exact ⟨⟨a, b⟩, c⟩
theorem in_s (x lo hi : Int) : spec_l1In.f x lo hi = some (decide (lo ≤ x ∧ x ≤ hi)) := by
  unfold spec_l1In.f
  by_cases h1 : lo ≤ x
  · rw [if_pos h1]; by_cases h2 : x ≤ hi <;> simp [h1, h2]
  · rw [if_neg h1]; simp [h1]
theorem in_i (x lo hi : Int) : impl_in.f x lo hi = some (decide (lo ≤ x ∧ x ≤ hi)) := by
  unfold impl_in.f
  by_cases h1 : lo ≤ x
  · rw [if_pos h1]; by_cases h2 : x ≤ hi <;> simp [h1, h2]
  · rw [if_neg h1]; simp [h1]
theorem nx (i : Nat) (h : i ≤ 1000000) : wrap64 ((i : Int) + 1) = ((i + 1 : Nat) : Int) := by rw [wr (by omega) (by omega)]; omega
theorem all_s (l : List Int) (hl : l.length ≤ 1000) : ∀ (r : List Int) (i : Nat), l.drop i = r → i ≤ l.length → Ev (fun k => spec_l1All.l0 k 0 16 l (l.length : Int) (i : Int)) (r.all inR)
  | [], i, h, hi => by
    have := drop_nil h
    exact Ev.step (fun k => by simp only [spec_l1All.l0]; rfl) (ev_neg (by omega) (Ev.now _))
  | x :: r, i, h, hi => by
    obtain ⟨hlt, hc, hr⟩ := drop_cons h
    refine Ev.step (fun k => by simp only [spec_l1All.l0]; rfl) ?_
    refine ev_pos (by omega) (ev_pos (by omega) (ev_pos (by omega) ?_))
    rw [rdI l i hlt, hc, nx i (by omega)]
    refine ev_on (in_s _ _ _) ?_
    cases hx : inR x with
    | true =>
      unfold inR at hx
      refine ev_pos hx ?_
      rw [List.all_cons, inR, hx, Bool.true_and]
      exact all_s l hl r (i + 1) hr (by omega)
    | false =>
      unfold inR at hx
      refine ev_neg (by rw [hx]; decide) ?_
      rw [List.all_cons, inR, hx, Bool.false_and]
      exact Ev.now _
theorem good_s (l : List Int) (hl : l.length ≤ 1000) : Ev (fun k => spec_cyGood.f k l) (deg l) := by
  unfold spec_cyGood.f spec_l1All.f deg
  refine ev_on (in_s _ _ _) ?_
  by_cases h : 1 ≤ l.length ∧ l.length ≤ 16
  · refine ev_pos (by simp; omega) ?_
    rw [decide_eq_true h, Bool.true_and]
    exact Ev.bind (all_s l hl l 0 rfl (by omega)) (Ev.now _)
  · refine ev_neg (by simp; omega) ?_
    rw [decide_eq_false h, Bool.false_and]
    exact Ev.now _
theorem idx_i (l : List Int) (hl : l.length ≤ 1000) : ∀ (r : List Int) (i : Nat), l.drop i = r → i ≤ l.length → ∃ q, Ev (fun k => slices_IndexFunc_int_int_on_IsDegrees_1.l0 k l (l.length : Int) (i : Int)) q ∧ decide (q ≥ 0) = !(r.all inR)
  | [], i, h, hi => by
    have := drop_nil h
    exact ⟨-1, Ev.step (fun k => by simp only [slices_IndexFunc_int_int_on_IsDegrees_1.l0]; rfl) (ev_neg (by omega) (Ev.now _)), rfl⟩
  | x :: r, i, h, hi => by
    obtain ⟨hlt, hc, hr⟩ := drop_cons h
    have e1 : impl_IsDegrees_1.f (rd l (i : Int)) = some (!(inR x)) := by
      unfold impl_IsDegrees_1.f
      rw [rdI l i hlt, hc, in_i]; rfl
    cases hx : inR x with
    | true =>
      obtain ⟨q, hq, hb⟩ := idx_i l hl r (i + 1) hr (by omega)
      refine ⟨q, Ev.step (fun k => by simp only [slices_IndexFunc_int_int_on_IsDegrees_1.l0]; rfl) ?_, by rw [List.all_cons, hx, Bool.true_and]; exact hb⟩
      refine ev_pos (by omega) (ev_pos (by omega) (ev_pos (by omega) (ev_on e1 ?_)))
      rw [hx, nx i (by omega)]
      exact ev_neg (by decide) hq
    | false =>
      refine ⟨(i : Int), Ev.step (fun k => by simp only [slices_IndexFunc_int_int_on_IsDegrees_1.l0]; rfl) ?_, by rw [List.all_cons, hx, Bool.false_and, decide_eq_true (by omega)]; rfl⟩
      refine ev_pos (by omega) (ev_pos (by omega) (ev_pos (by omega) (ev_on e1 ?_)))
      rw [hx]
      exact ev_pos rfl (Ev.now _)
theorem good_i (l : List Int) (hl : l.length ≤ 1000) : Ev (fun k => impl_IsDegrees.f k l) (deg l) := by
  unfold impl_IsDegrees.f slices_ContainsFunc_int_int_on_IsDegrees_1.f slices_IndexFunc_int_int_on_IsDegrees_1.f deg
  refine ev_on (in_i _ _ _) ?_
  by_cases h : 1 ≤ l.length ∧ l.length ≤ 16
  · refine ev_pos (by simp; omega) ?_
    rw [decide_eq_true h, Bool.true_and]
    obtain ⟨q, hq, hb⟩ := idx_i l hl l 0 rfl (by omega)
    refine Ev.bind (Ev.bind hq (Ev.now _)) ?_
    rw [hb, Bool.not_not]
    exact Ev.now _
  · refine ev_neg (by simp; omega) ?_
    rw [decide_eq_false h, Bool.false_and]
    exact Ev.now _
/- the excess -/
def ex (l : List Int) : Int := (l.length : Int) - sm l
theorem sm_bd : ∀ (l : List Int), (∀ x ∈ l, 0 ≤ x ∧ x ≤ 16) → 0 ≤ sm l ∧ sm l ≤ 16 * l.length
  | [], _ => by simp [sm]
  | d :: r, h => by
    have h1 := h d (by simp)
    have h2 := sm_bd r fun x hx => h x (by simp [hx])
    simp only [sm, List.length_cons]
    omega
theorem exc_s (l : List Int) (hd : deg l = true) : ∀ (r : List Int) (i : Nat) (acc : Int), l.drop i = r → i ≤ l.length → acc ≤ 16 → -16 * (i : Int) ≤ acc → Ev (fun k => spec_cyExcess.l0 k acc l (l.length : Int) (i : Int)) (acc - sm r)
  | [], i, acc, h, hi, _, _ => by
    have := drop_nil h
    refine ev_eq (Ev.step (fun k => by simp only [spec_cyExcess.l0]; rfl) (ev_neg (by omega) (Ev.now _))) (by simp [sm])
  | x :: r, i, acc, h, hi, h1, h2 => by
    obtain ⟨hlt, hc, hr⟩ := drop_cons h
    obtain ⟨d1, d2, d3⟩ := deg_iff.1 hd
    have hx := d3 x (by rw [← hc]; exact List.getElem_mem _)
    refine Ev.step (fun k => by simp only [spec_cyExcess.l0]; rfl) ?_
    refine ev_pos (by omega) (ev_pos (by omega) (ev_pos (by omega) ?_))
    rw [rdI l i hlt, hc, nx i (by omega), wr (n := acc - x) (by omega) (by omega)]
    exact ev_eq (exc_s l hd r (i + 1) (acc - x) hr (by omega) (by omega) (by omega)) (by simp only [sm]; omega)
theorem exc_i (l : List Int) (hd : deg l = true) : ∀ (r : List Int) (i : Nat) (acc : Int), l.drop i = r → i ≤ l.length → acc ≤ 16 → -16 * (i : Int) ≤ acc → Ev (fun k => impl_excess.l0 k acc l (l.length : Int) (i : Int)) (acc - sm r)
  | [], i, acc, h, hi, _, _ => by
    have := drop_nil h
    refine ev_eq (Ev.step (fun k => by simp only [impl_excess.l0]; rfl) (ev_neg (by omega) (Ev.now _))) (by simp [sm])
  | x :: r, i, acc, h, hi, h1, h2 => by
    obtain ⟨hlt, hc, hr⟩ := drop_cons h
    obtain ⟨d1, d2, d3⟩ := deg_iff.1 hd
    have hx := d3 x (by rw [← hc]; exact List.getElem_mem _)
    refine Ev.step (fun k => by simp only [impl_excess.l0]; rfl) ?_
    refine ev_pos (by omega) (ev_pos (by omega) (ev_pos (by omega) ?_))
    rw [rdI l i hlt, hc, nx i (by omega), wr (n := acc - x) (by omega) (by omega)]
    exact ev_eq (exc_i l hd r (i + 1) (acc - x) hr (by omega) (by omega) (by omega)) (by simp only [sm]; omega)
theorem excess_s (l : List Int) (hd : deg l = true) : Ev (fun k => spec_cyExcess.f k l) (ex l) := by
  have := deg_iff.1 hd
  exact exc_s l hd l 0 _ rfl (by omega) (by omega) (by omega)
theorem excess_i (l : List Int) (hd : deg l = true) : Ev (fun k => impl_excess.f k l) (ex l) := by
  have := deg_iff.1 hd
  exact exc_i l hd l 0 _ rfl (by omega) (by omega) (by omega)
theorem ex_bd (l : List Int) (hd : deg l = true) : -240 ≤ ex l ∧ ex l ≤ 16 := by
  obtain ⟨d1, d2, d3⟩ := deg_iff.1 hd
  have := sm_bd l d3
  unfold ex
  omega
/- forests -/
def fo (r : Int) : Int → List Int → Bool
  | _, [] => true
  | s, d :: t => if s + (d - 1) ≤ -r ∧ t ≠ [] then false else fo r (s + (d - 1)) t
def fo2 (r : Int) : Int → List Int → Bool
  | _, [] => true
  | s, d :: t => if s + (d - 1) ≤ -r then false else fo2 r (s + (d - 1)) t
theorem fo_fo2 (r : Int) : ∀ (l : List Int) (s : Int), fo r s l = fo2 r s (l.take (l.length - 1))
  | [], s => rfl
  | [d], s => by simp [fo, fo2]
  | d :: e :: t, s => by
    have ih := fo_fo2 r (e :: t) (s + (d - 1))
    simp only [List.length_cons, Nat.add_sub_cancel, List.take_succ_cons] at ih ⊢
    unfold fo fo2
    rw [ih]
    simp
def isF (l : List Int) : Bool := decide (1 ≤ ex l) && fo (ex l) 0 l
theorem fos (l : List Int) (hd : deg l = true) : ∀ (r : List Int) (i : Nat) (s : Int), l.drop i = r → i ≤ l.length → s ≤ 16 * (i : Int) → -(i : Int) ≤ s → Ev (fun k => spec_cyForest.l0 k l (ex l) s l (l.length : Int) (i : Int)) (fo (ex l) s r)
  | [], i, s, h, hi, _, _ => by
    have := drop_nil h
    exact Ev.step (fun k => by simp only [spec_cyForest.l0]; rfl) (ev_neg (by omega) (Ev.now _))
  | x :: r, i, s, h, hi, h1, h2 => by
    obtain ⟨hlt, hc, hr⟩ := drop_cons h
    obtain ⟨d1, d2, d3⟩ := deg_iff.1 hd
    have hx := d3 x (by rw [← hc]; exact List.getElem_mem _)
    have hb := ex_bd l hd
    refine Ev.step (fun k => by simp only [spec_cyForest.l0]; rfl) ?_
    refine ev_pos (by omega) (ev_pos (by omega) (ev_pos (by omega) ?_))
    rw [rdI l i hlt, hc, nx i (by omega), wr (n := x - 1) (by omega) (by omega), wr (n := s + (x - 1)) (by omega) (by omega), wr (n := - ex l) (by omega) (by omega)]
    have ih := fos l hd r (i + 1) (s + (x - 1)) hr (by omega) (by omega) (by omega)
    have hrl : r.length = l.length - (i + 1) := by rw [← hr]; simp
    have hr0 : r ≠ [] ↔ ((i + 1 : Nat) : Int) < (l.length : Int) := by
      rw [← List.length_pos_iff]; omega
    unfold fo
    by_cases q : s + (x - 1) ≤ -ex l
    · refine ev_pos q ?_
      by_cases q2 : ((i + 1 : Nat) : Int) < (l.length : Int)
      · rw [if_pos ⟨q, hr0.2 q2⟩]
        exact ev_pos q2 (Ev.now _)
      · rw [if_neg (fun hh => q2 (hr0.1 hh.2))]
        exact ev_neg q2 ih
    · rw [if_neg (fun hh => q hh.1)]
      exact ev_neg q ih
theorem forest_s (l : List Int) (hd : deg l = true) : Ev (fun k => spec_cyForest.f k l) (isF l) := by
  unfold spec_cyForest.f isF
  refine Ev.bind (excess_s l hd) ?_
  by_cases h : ex l < 1
  · rw [decide_eq_false (by omega), Bool.false_and]
    exact ev_pos h (Ev.now _)
  · rw [decide_eq_true (by omega), Bool.true_and]
    exact ev_neg h (fos l hd l 0 0 rfl (by omega) (by omega) (by omega))
theorem foi (l0 : List Int) (e : Int) (he : -240 ≤ e ∧ e ≤ 16) (l : List Int) (hl : l.length ≤ 16) (hm : ∀ x ∈ l, 0 ≤ x ∧ x ≤ 16) : ∀ (r : List Int) (i : Nat) (s : Int), l.drop i = r → i ≤ l.length → s ≤ 16 * (i : Int) → -(i : Int) ≤ s → Ev (fun k => impl_isForest.l0 k e s l (l.length : Int) (i : Int)) (fo2 e s r && decide (1 ≤ e))
  | [], i, s, h, hi, _, _ => by
    have := drop_nil h
    refine Ev.step (fun k => by simp only [impl_isForest.l0]; rfl) (ev_neg (by omega) ?_)
    exact Ev.now _
  | x :: r, i, s, h, hi, h1, h2 => by
    obtain ⟨hlt, hc, hr⟩ := drop_cons h
    have hx := hm x (by rw [← hc]; exact List.getElem_mem _)
    refine Ev.step (fun k => by simp only [impl_isForest.l0]; rfl) ?_
    refine ev_pos (by omega) (ev_pos (by omega) (ev_pos (by omega) ?_))
    rw [rdI l i hlt, hc, nx i (by omega), wr (n := x - 1) (by omega) (by omega), wr (n := s + (x - 1)) (by omega) (by omega), wr (n := - e) (by omega) (by omega)]
    have ih := foi l0 e he l hl hm r (i + 1) (s + (x - 1)) hr (by omega) (by omega) (by omega)
    unfold fo2
    by_cases q : s + (x - 1) ≤ -e
    · rw [if_pos q]
      exact ev_pos q (Ev.now _)
    · rw [if_neg q]
      exact ev_neg q ih
theorem forest_i (l : List Int) (hd : deg l = true) : Ev (fun k => impl_isForest.f k l) (isF l) := by
  obtain ⟨d1, d2, d3⟩ := deg_iff.1 hd
  unfold impl_isForest.f isF
  refine Ev.bind (excess_i l hd) ?_
  rw [wr (n := (l.length : Int) - 1) (by omega) (by omega), show (l.length : Int) - 1 = ((l.length - 1 : Nat) : Int) from by omega]
  refine ev_pos (by omega) (ev_pos (by omega) ?_)
  rw [Int.toNat_natCast, fo_fo2, Bool.and_comm]
  exact foi l (ex l) (ex_bd l hd) (l.take (l.length - 1)) (by simp; omega) (fun x hx => d3 x (List.mem_of_mem_take hx)) _ 0 0 rfl (by omega) (by omega) (by omega)
/- rotations -/
theorem rot_s (l : List Int) (hl : l.length ≤ 1000) (k : Nat) (hk : k ≤ l.length) : spec_cyRotate.f l (k : Int) = some (rot l k) := by
  unfold spec_cyRotate.f spec_l1Own.f
  rw [if_pos (by omega), if_pos (by omega), Option.bind_some, Int.toNat_natCast, if_pos (by simp; omega), Option.bind_some, if_pos (by simp; omega)]
  simp [rot]
theorem rd2 (a b : List Int) : rd_L2 [a, b] 0 = a ∧ rd_L2 [a, b] 1 = b := ⟨rfl, rfl⟩
theorem concat_i (a b : List Int) (ha : a.length ≤ 1000) (hb : b.length ≤ 1000) : Ev (fun k => slices_Concat_int_int.f k [a, b]) (a ++ b) := by
  have hw0 : wrap64 (0 + (a.length : Int)) = (a.length : Int) := by rw [wr (by omega) (by omega)]; omega
  have hw1 : wrap64 ((a.length : Int) + (b.length : Int)) = ((a.length + b.length : Nat) : Int) := by rw [wr (by omega) (by omega)]; omega
  unfold slices_Concat_int_int.f
  refine Ev.step (fun k => by simp only [slices_Concat_int_int.l0]; rfl) ?_
  refine ev_pos (by simp) (ev_pos (by simp) (ev_pos (by simp) ?_))
  rw [(rd2 a b).1, hw0]
  refine ev_neg (by omega) ?_
  refine Ev.step (fun k => by simp only [slices_Concat_int_int.l0]; rfl) ?_
  rw [show wrap64 (0 + 1) = 1 from by rw [wr (by omega) (by omega)]; rfl]
  refine ev_pos (by simp) (ev_pos (by simp) (ev_pos (by simp) ?_))
  rw [(rd2 a b).2, hw1]
  refine ev_neg (by omega) ?_
  refine Ev.step (fun k => by simp only [slices_Concat_int_int.l0]; rfl) ?_
  rw [show wrap64 (1 + 1) = 2 from by rw [wr (by omega) (by omega)]; rfl]
  refine ev_neg (by simp) ?_
  refine ev_on (a := []) (by unfold slices_Grow_int_int_on_nil.f; rw [if_pos (by omega), if_pos (by omega)]) ?_
  refine Ev.step (fun k => by simp only [slices_Concat_int_int.l1]; rfl) ?_
  refine ev_pos (by simp) (ev_pos (by simp) (ev_pos (by simp) ?_))
  rw [(rd2 a b).1]
  refine ev_pos (by simp; omega) ?_
  refine Ev.step (fun k => by simp only [slices_Concat_int_int.l1]; rfl) ?_
  rw [show wrap64 (0 + 1) = 1 from by rw [wr (by omega) (by omega)]; rfl]
  refine ev_pos (by simp) (ev_pos (by simp) (ev_pos (by simp) ?_))
  rw [(rd2 a b).2]
  refine ev_pos (by simp; omega) ?_
  refine Ev.step (fun k => by simp only [slices_Concat_int_int.l1]; rfl) ?_
  rw [show wrap64 (1 + 1) = 2 from by rw [wr (by omega) (by omega)]; rfl]
  refine ev_neg (by simp) ?_
  simp only [List.nil_append]
  exact Ev.now _
theorem rot_i (l : List Int) (hl : l.length ≤ 1000) (k : Nat) (hk : k ≤ l.length) : Ev (fun n => impl_rotated.f n l (k : Int)) (rot l k) := by
  unfold impl_rotated.f
  refine ev_pos (by omega) (ev_pos (by omega) ?_)
  rw [Int.toNat_natCast]
  exact Ev.bind (concat_i _ _ (by simp; omega) (by simp; omega)) (Ev.now _)
theorem deg_rot (l : List Int) (k : Nat) (hk : k ≤ l.length) : deg (rot l k) = deg l := by
  rw [Bool.eq_iff_iff, deg_iff, deg_iff, rot_len l k hk]
  simp only [mem_rot]
def goods (l : List Int) (n : Nat) : List Int := ((List.range n).filter fun k => isF (rot l k)).map fun (k : Nat) => (k : Int)
theorem goods_succ (l : List Int) (n : Nat) : goods l (n + 1) = if isF (rot l n) = true then goods l n ++ [(n : Int)] else goods l n := by
  unfold goods
  rw [List.range_succ, List.filter_append, List.map_append]
  by_cases h : isF (rot l n) = true <;> simp [h]
theorem goods_le (l : List Int) (n : Nat) : (goods l n).length ≤ n := by
  unfold goods
  rw [List.length_map]
  exact Nat.le_trans (List.length_filter_le _ _) (by simp)
theorem goods_cnt (l : List Int) : ∀ n, (goods l n).length = Cyc.cnt (fun k => isF (rot l k)) n
  | 0 => rfl
  | n + 1 => by
    have ih := goods_cnt l n
    rw [goods_succ]
    unfold Cyc.cnt
    by_cases h : isF (rot l n) = true
    · rw [if_pos h, if_pos h, List.length_append, ih]; rfl
    · rw [if_neg h, if_neg h, ih]; rfl
theorem grs (l : List Int) (hd : deg l = true) : ∀ (d i : Nat), i + d = l.length → Ev (fun k => spec_GoodRotations.l0 k l (goods l i) (l.length : Int) (i : Int)) (goods l l.length, true)
  | 0, i, h => by
    obtain rfl : i = l.length := by omega
    exact Ev.step (fun k => by simp only [spec_GoodRotations.l0]; rfl) (ev_neg (by omega) (Ev.now _))
  | d + 1, i, h => by
    obtain ⟨d1, d2, d3⟩ := deg_iff.1 hd
    have ih := grs l hd d (i + 1) (by omega)
    have hle := goods_le l i
    refine Ev.step (fun k => by simp only [spec_GoodRotations.l0]; rfl) (ev_pos (by omega) ?_)
    refine ev_on (rot_s l (by omega) i (by omega)) ?_
    refine Ev.bind (forest_s _ (by rw [deg_rot l i (by omega)]; exact hd)) ?_
    rw [nx i (by omega)]
    rw [goods_succ] at ih
    by_cases hf : isF (rot l i) = true
    · rw [if_pos hf] at ih
      exact ev_pos hf (ev_pos (by omega) ih)
    · rw [if_neg hf] at ih
      exact ev_neg hf ih
theorem gri (l : List Int) (hd : deg l = true) : ∀ (d i : Nat), i + d = l.length → Ev (fun k => impl_GoodRotations.l0 k l (goods l i) (l.length : Int) (i : Int)) (goods l l.length, true)
  | 0, i, h => by
    obtain rfl : i = l.length := by omega
    exact Ev.step (fun k => by simp only [impl_GoodRotations.l0]; rfl) (ev_neg (by omega) (Ev.now _))
  | d + 1, i, h => by
    obtain ⟨d1, d2, d3⟩ := deg_iff.1 hd
    have ih := gri l hd d (i + 1) (by omega)
    have hle := goods_le l i
    refine Ev.step (fun k => by simp only [impl_GoodRotations.l0]; rfl) (ev_pos (by omega) ?_)
    refine Ev.bind (rot_i l (by omega) i (by omega)) ?_
    refine Ev.bind (forest_i _ (by rw [deg_rot l i (by omega)]; exact hd)) ?_
    rw [nx i (by omega)]
    rw [goods_succ] at ih
    by_cases hf : isF (rot l i) = true
    · rw [if_pos hf] at ih
      exact ev_pos hf (ev_pos (by omega) ih)
    · rw [if_neg hf] at ih
      exact ev_neg hf ih
def goodsR (l : List Int) : List Int × Bool := if deg l = true then (goods l l.length, true) else ([], false)
theorem goodRot_s (l : List Int) (hl : l.length ≤ 1000) : Ev (fun k => spec_GoodRotations.f k l) (goodsR l) := by
  unfold spec_GoodRotations.f goodsR
  refine Ev.bind (good_s l hl) ?_
  by_cases h : deg l = true
  · rw [if_pos h]; exact ev_pos h (grs l h l.length 0 (by omega))
  · rw [if_neg h]; exact ev_neg h (Ev.now _)
theorem goodRot_i (l : List Int) (hl : l.length ≤ 1000) : Ev (fun k => impl_GoodRotations.f k l) (goodsR l) := by
  unfold impl_GoodRotations.f goodsR
  refine Ev.bind (good_i l hl) ?_
  by_cases h : deg l = true
  · rw [if_pos h]; exact ev_pos h (gri l h l.length 0 (by omega))
  · rw [if_neg h]; exact ev_neg h (Ev.now _)
def exR (l : List Int) : Int × Bool := if deg l = true then (ex l, true) else (0, false)
theorem exR_s (l : List Int) (hl : l.length ≤ 1000) : Ev (fun k => spec_ExcessOf.f k l) (exR l) := by
  unfold spec_ExcessOf.f exR
  refine Ev.bind (good_s l hl) ?_
  by_cases h : deg l = true
  · rw [if_pos h]; exact ev_pos h (Ev.bind (excess_s l h) (Ev.now _))
  · rw [if_neg h]; exact ev_neg h (Ev.now _)
theorem exR_i (l : List Int) (hl : l.length ≤ 1000) : Ev (fun k => impl_ExcessOf.f k l) (exR l) := by
  unfold impl_ExcessOf.f exR
  refine Ev.bind (good_i l hl) ?_
  by_cases h : deg l = true
  · rw [if_pos h]; exact ev_pos h (Ev.bind (excess_i l h) (Ev.now _))
  · rw [if_neg h]; exact ev_neg h (Ev.now _)
def rotR (l : List Int) (k : Int) : List Int × Bool := if deg l = true ∧ 0 ≤ k ∧ k < (l.length : Int) then (rot l k.toNat, true) else ([], false)
theorem rotR_s (l : List Int) (hl : l.length ≤ 1000) (k : Int) : Ev (fun n => spec_RotateList.f n l k) (rotR l k) := by
  unfold spec_RotateList.f
  refine Ev.bind (good_s l hl) ?_
  by_cases h : deg l = true
  · refine ev_pos h (ev_on (in_s _ _ _) ?_)
    have := (deg_iff.1 h).1
    rw [wr (n := (l.length : Int) - 1) (by omega) (by omega)]
    by_cases h2 : 0 ≤ k ∧ k < (l.length : Int)
    · rw [show rotR l k = _ from if_pos ⟨h, h2⟩]
      refine ev_pos (by simp; omega) ?_
      obtain ⟨m, rfl⟩ := Int.eq_ofNat_of_zero_le h2.1
      refine ev_on (rot_s l hl m (by omega)) ?_
      exact Ev.now _
    · rw [show rotR l k = _ from if_neg (fun hh => h2 hh.2)]
      exact ev_neg (by simp; omega) (Ev.now _)
  · rw [show rotR l k = _ from if_neg (fun hh => h hh.1)]; exact ev_neg h (Ev.now _)
theorem rotR_i (l : List Int) (hl : l.length ≤ 1000) (k : Int) : Ev (fun n => impl_RotateList.f n l k) (rotR l k) := by
  unfold impl_RotateList.f
  refine Ev.bind (good_i l hl) ?_
  by_cases h : deg l = true
  · refine ev_pos h (ev_on (in_i _ _ _) ?_)
    have := (deg_iff.1 h).1
    rw [wr (n := (l.length : Int) - 1) (by omega) (by omega)]
    by_cases h2 : 0 ≤ k ∧ k < (l.length : Int)
    · rw [show rotR l k = _ from if_pos ⟨h, h2⟩]
      refine ev_pos (by simp; omega) ?_
      obtain ⟨m, rfl⟩ := Int.eq_ofNat_of_zero_le h2.1
      exact Ev.bind (rot_i l hl m (by omega)) (Ev.now _)
    · rw [show rotR l k = _ from if_neg (fun hh => h2 hh.2)]
      exact ev_neg (by simp; omega) (Ev.now _)
  · rw [show rotR l k = _ from if_neg (fun hh => h hh.1)]; exact ev_neg h (Ev.now _)
theorem isForest_i (l : List Int) (hl : l.length ≤ 1000) (h : deg l = true) : Ev (fun k => impl_IsForest.f k l) (isF l, true) := by
  unfold impl_IsForest.f
  refine Ev.bind (good_i l hl) (ev_pos h (Ev.bind (forest_i l h) (Ev.now _)))
/- the count -/
theorem sm_map (l : List Int) : sm (l.map fun d => 1 - d) = (l.length : Int) - sm l := by
  induction l with
  | nil => rfl
  | cons d r ih => simp only [List.map_cons, sm, List.length_cons, ih]; omega
theorem fo_iff (r : Int) : ∀ (l : List Int) (s : Int), fo r s l = true ↔ ∀ j, 1 ≤ j → j < l.length → -r < s - sm ((l.map fun d => 1 - d).take j)
  | [], s => by simp [fo]
  | d :: t, s => by
    unfold fo
    have ih := fo_iff r t (s + (d - 1))
    by_cases h : s + (d - 1) ≤ -r ∧ t ≠ []
    · rw [if_pos h]
      constructor
      · intro hh; cases hh
      · intro g
        have ht := List.length_pos_iff.2 h.2
        have := g 1 (by omega) (by simp; omega)
        simp [sm] at this
        omega
    · rw [if_neg h, ih]
      constructor
      · intro g j h1 h2
        match j, h1 with
        | 1, _ =>
          have ht : t ≠ [] := by rw [← List.length_pos_iff]; simp at h2; omega
          have : ¬ s + (d - 1) ≤ -r := fun hh => h ⟨hh, ht⟩
          simp [sm]
          omega
        | j + 2, _ =>
          have := g (j + 1) (by omega) (by simp at h2; omega)
          rw [List.map_cons, List.take_succ_cons]
          simp only [sm]
          omega
      · intro g j h1 h2
        have := g (j + 1) (by omega) (by simp; omega)
        rw [List.map_cons, List.take_succ_cons] at this
        simp only [sm] at this
        omega
theorem goods_len (l : List Int) (hd : deg l = true) : ((goods l l.length).length : Int) = max 0 (ex l) := by
  obtain ⟨d1, d2, d3⟩ := deg_iff.1 hd
  rw [goods_cnt]
  have hs : sm (l.map fun d => 1 - d) = ex l := sm_map l
  have := forest_count (l.map fun d => 1 - d) (fun x hx => by
    obtain ⟨y, hy, rfl⟩ := List.mem_map.1 hx
    have := d3 y hy
    omega) (fun k => isF (rot l k)) (fun k hk => by
    rw [List.length_map] at hk ⊢
    have e : ex (rot l k) = ex l := by unfold ex; rw [rot_len l k (by omega), sm_rot]
    unfold isF
    rw [Bool.and_eq_true, decide_eq_true_eq, fo_iff, e, hs, rot_map, rot_len l k (by omega)]
    constructor
    · rintro ⟨a, b⟩
      refine ⟨a, fun j h1 h2 => ?_⟩
      have := b j h1 h2
      omega
    · rintro ⟨a, b⟩
      refine ⟨a, fun j h1 h2 => ?_⟩
      have := b j h1 h2
      omega)
  rw [List.length_map, hs] at this
  exact this
/- lists asked and summed -/
theorem same (a : List Int) (ha : a.length ≤ 1000) : ∀ (r : List Int) (i : Nat), a.drop i = r → i ≤ a.length → Ev (fun k => laws_xSame.l0 k a a (a.length : Int) (i : Int)) true
  | [], i, h, hi => by
    have := drop_nil h
    exact Ev.step (fun k => by simp only [laws_xSame.l0]; rfl) (ev_neg (by omega) (Ev.now _))
  | x :: r, i, h, hi => by
    obtain ⟨hlt, hc, hr⟩ := drop_cons h
    refine Ev.step (fun k => by simp only [laws_xSame.l0]; rfl) ?_
    refine ev_pos (by omega) (ev_pos (by omega) (ev_pos (by omega) (ev_pos (by omega) (ev_pos trivial ?_))))
    rw [nx i (by omega)]
    exact same a ha r (i + 1) hr (by omega)
theorem xsame (a : List Int) (ha : a.length ≤ 1000) : Ev (fun k => laws_xSame.f k a a) true := by
  unfold laws_xSame.f
  exact ev_pos rfl (same a ha a 0 rfl (by omega))
theorem xsum (l : List Int) (hd : deg l = true) : ∀ (r : List Int) (i : Nat) (acc : Int), l.drop i = r → i ≤ l.length → 0 ≤ acc → acc ≤ 16 * (i : Int) → Ev (fun k => laws_xSum.l0 k acc l (l.length : Int) (i : Int)) (acc + sm r)
  | [], i, acc, h, hi, _, _ => by
    have := drop_nil h
    refine ev_eq (Ev.step (fun k => by simp only [laws_xSum.l0]; rfl) (ev_neg (by omega) (Ev.now _))) (by simp [sm])
  | x :: r, i, acc, h, hi, h1, h2 => by
    obtain ⟨hlt, hc, hr⟩ := drop_cons h
    obtain ⟨d1, d2, d3⟩ := deg_iff.1 hd
    have hx := d3 x (by rw [← hc]; exact List.getElem_mem _)
    refine Ev.step (fun k => by simp only [laws_xSum.l0]; rfl) ?_
    refine ev_pos (by omega) (ev_pos (by omega) (ev_pos (by omega) ?_))
    rw [rdI l i hlt, hc, nx i (by omega), wr (n := acc + x) (by omega) (by omega)]
    exact ev_eq (xsum l hd r (i + 1) (acc + x) hr (by omega) (by omega) (by omega)) (by simp only [sm]; omega)
theorem xhas (l : List Int) (hl : l.length ≤ 1000) (n : Int) : ∀ (r : List Int) (i : Nat), l.drop i = r → i ≤ l.length → Ev (fun k => laws_xHas.l0 k n l (l.length : Int) (i : Int)) (decide (n ∈ r))
  | [], i, h, hi => by
    have := drop_nil h
    refine ev_eq (Ev.step (fun k => by simp only [laws_xHas.l0]; rfl) (ev_neg (by omega) (Ev.now _))) (by simp)
  | x :: r, i, h, hi => by
    obtain ⟨hlt, hc, hr⟩ := drop_cons h
    refine Ev.step (fun k => by simp only [laws_xHas.l0]; rfl) ?_
    refine ev_pos (by omega) (ev_pos (by omega) (ev_pos (by omega) ?_))
    rw [rdI l i hlt, hc, nx i (by omega)]
    by_cases e : x = n
    · rw [decide_eq_true (by rw [e]; simp)]
      exact ev_pos e (Ev.now _)
    · refine ev_eq (ev_neg e (xhas l hl n r (i + 1) hr (by omega))) ?_
      rw [Bool.eq_iff_iff, decide_eq_true_eq, decide_eq_true_eq, List.mem_cons]
      constructor
      · intro h; exact .inr h
      · rintro (h | h)
        · exact absurd h.symm e
        · exact h
theorem has_goods (l : List Int) (n : Nat) (hn : n < l.length) : decide ((n : Int) ∈ goods l l.length) = isF (rot l n) := by
  rw [Bool.eq_iff_iff, decide_eq_true_eq]
  unfold goods
  rw [List.mem_map]
  constructor
  · rintro ⟨m, hm, he⟩
    obtain rfl : m = n := by omega
    exact (List.mem_filter.1 hm).2
  · intro h
    exact ⟨n, List.mem_filter.2 ⟨List.mem_range.2 hn, h⟩, rfl⟩

/- paths and ratios -/
theorem byte_eq (c : UInt8) (n : Nat) (hn : n < 256) : ((c.toNat : Int) = (n : Int)) ↔ c = UInt8.ofNat n := by
  constructor
  · intro h
    have h' : c.toNat = n := by omega
    rw [← h']; simp
  · rintro rfl
    simp; omega
theorem b85 (c : UInt8) : ((c.toNat : Int) = 85) ↔ c = 85 := byte_eq c 85 (by omega)
theorem b68 (c : UInt8) : ((c.toNat : Int) = 68) ↔ c = 68 := byte_eq c 68 (by omega)
def pth (l : List UInt8) : Bool := l.all fun c => c == 85 || c == 68
theorem pth_iff {l : List UInt8} : pth l = true ↔ ∀ c ∈ l, c = 85 ∨ c = 68 := by unfold pth; simp
def pthB (s : ByteArray) : Bool := decide (s.size ≤ 40) && pth s.data.toList
theorem pg (s : ByteArray) (hs : s.size ≤ 1000) : ∀ (r : List UInt8) (i : Nat), s.data.toList.drop i = r → Ev (fun k => spec_paGood.l0 k s (i : Int)) (pth r)
  | [], i, h => by
    have := drop_nil h
    have hsl := size_len s
    exact Ev.step (fun k => by simp only [spec_paGood.l0]; rfl) (ev_neg (by omega) (Ev.now _))
  | c :: r, i, h => by
    obtain ⟨hlt, hc, hr⟩ := drop_cons h
    have hb := bt_get s i hlt
    rw [hc] at hb
    have hsl := size_len s
    refine Ev.step (fun k => by simp only [spec_paGood.l0]; rfl) ?_
    refine ev_pos (by omega) (ev_pos (by omega) ?_)
    rw [hb, nx i (by omega)]
    have ih := pg s hs r (i + 1) hr
    by_cases h1 : c = 85
    · refine ev_pos ((b85 c).2 h1) ?_
      rw [show pth (c :: r) = pth r by simp [pth, h1]]
      exact ih
    · refine ev_neg (fun hh => h1 ((b85 c).1 hh)) ?_
      by_cases h2 : c = 68
      · refine ev_pos ((b68 c).2 h2) ?_
        rw [show pth (c :: r) = pth r by simp [pth, h2]]
        exact ih
      · refine ev_neg (fun hh => h2 ((b68 c).1 hh)) ?_
        rw [show pth (c :: r) = false by simp [pth, h1, h2]]
        exact Ev.now _
theorem path_s (s : ByteArray) (hs : s.size ≤ 1000) : Ev (fun k => spec_paGood.f k s) (pthB s) := by
  unfold spec_paGood.f pthB
  by_cases h : s.size ≤ 40
  · rw [decide_eq_true h, Bool.true_and]
    exact ev_neg (by omega) (pg s hs _ 0 rfl)
  · rw [decide_eq_false h, Bool.false_and]
    exact ev_pos (by omega) (Ev.now _)
theorem path_i (s : ByteArray) : impl_IsPath.f s = some (pthB s) := by
  unfold impl_IsPath.f pthB
  by_cases h : s.size ≤ 40
  · rw [if_pos (by omega), decide_eq_true h, Bool.true_and]
    unfold strings_Trim.f
    rw [if_pos ⟨⟨by decide, by decide⟩, by omega⟩]
    simp only [Option.bind_some, Option.some.injEq]
    have e := trimS_nil s.data.toList [85, 68]
    have e2 : (s.data.toList.all fun c => ([85, 68] : List UInt8).contains c) = pth s.data.toList := by
      unfold pth
      congr 1
      funext c
      simp [List.contains, List.elem]
      cases h1 : c == 85 <;> cases h2 : c == 68 <;> simp
    rw [e2] at e
    have e3 : ∀ l : List UInt8, (⟨l.toArray⟩ : ByteArray).toList = l := fun l => by rw [ByteArray.toList_eq]
    cases hm : pth s.data.toList with
    | true => rw [e.2 hm, e3]; rfl
    | false =>
      rw [beq_eq_false_iff_ne]
      intro hh
      rw [e3] at hh
      rw [e.1 hh] at hm
      cases hm
  · rw [if_neg (by omega), decide_eq_false h, Bool.false_and]
def st (k : Int) (l : List UInt8) : List Int := l.map fun b => if b = 85 then 1 else -k
def pos : Int → List Int → Bool
  | _, [] => true
  | t, d :: r => decide (0 < t + d) && pos (t + d) r
theorem pos_iff : ∀ (a : List Int) (t : Int), pos t a = true ↔ ∀ j, 1 ≤ j → j ≤ a.length → 0 < t + sm (a.take j)
  | [], t => by simp [pos]; intro j h1 h2; omega
  | d :: r, t => by
    unfold pos
    rw [Bool.and_eq_true, decide_eq_true_eq, pos_iff r (t + d)]
    constructor
    · rintro ⟨h0, g⟩ j h1 h2
      match j, h1 with
      | 1, _ => simp [sm]; omega
      | j + 2, _ =>
        have := g (j + 1) (by omega) (by simp at h2; omega)
        rw [List.take_succ_cons]
        simp only [sm]
        omega
    · intro g
      constructor
      · have := g 1 (by omega) (by simp)
        simp [sm] at this
        omega
      · intro j h1 h2
        have := g (j + 1) (by omega) (by simp; omega)
        rw [List.take_succ_cons] at this
        simp only [sm] at this
        omega
theorem rg (k : Int) (hk0 : 0 ≤ k) (hk : k ≤ 40) : ∀ (l : List UInt8) (t : Int) (y : Bool), -40 * (100 - (l.length : Int)) ≤ t → t ≤ 100 - (l.length : Int) → l.length ≤ 100 →
    (l.foldl (ratioStep k) (t, y)).2 = (y && pos t (st k l))
  | [], t, y, _, _, _ => by simp [st, pos]
  | b :: r, t, y, h1, h2, h3 => by
    simp only [List.length_cons] at h1 h2 h3
    have e : ratioStep k (t, y) b = (t + (if b = 85 then 1 else -k), y && decide (0 < t + (if b = 85 then 1 else -k))) := by
      unfold ratioStep
      by_cases hb : b = 85
      · simp only [if_pos hb, if_pos ((b85 b).2 hb)]
        rw [wr (by omega) (by omega)]
      · simp only [if_neg hb, if_neg (fun hh => hb ((b85 b).1 hh))]
        rw [wr (by omega) (by omega), ← Int.sub_eq_add_neg]
    rw [List.foldl_cons, e, rg k hk0 hk r _ _ (by split <;> omega) (by split <;> omega) (by omega)]
    have e2 : pos t (st k (b :: r)) = (decide (0 < t + (if b = 85 then 1 else -k)) && pos (t + (if b = 85 then 1 else -k)) (st k r)) := rfl
    rw [e2, Bool.and_assoc]
theorem good_eq (k : Int) (hk0 : 0 ≤ k) (hk : k ≤ 40) (l : List UInt8) (hl : l.length ≤ 40) : ratioGood l k = pos 0 (st k l) := by
  have := rg k hk0 hk l 0 true (by omega) (by omega) (by omega)
  rw [Bool.true_and] at this
  exact this
def run : Int → List Int → List Int
  | _, [] => []
  | t, d :: r => (t + d) :: run (t + d) r
theorem run_len : ∀ (a : List Int) (t : Int), (run t a).length = a.length
  | [], _ => rfl
  | d :: r, t => by simp only [run, List.length_cons, run_len r]
theorem any_run : ∀ (a : List Int) (t : Int), ((run t a).any fun x => decide (x ≤ 0)) = !(pos t a)
  | [], _ => rfl
  | d :: r, t => by
    unfold run pos
    rw [List.any_cons, any_run r (t + d), Bool.not_and]
    congr 1
    rw [Bool.eq_iff_iff]
    simp
theorem ld (s : ByteArray) (k : Int) (hk0 : 0 ≤ k) (hk : k ≤ 40) (hs : s.size ≤ 40) (hp : pth s.data.toList = true) : ∀ (r : List UInt8) (i : Nat) (acc : List Int) (t : Int), s.data.toList.drop i = r → acc.length = i + 1 → (∀ h : i < acc.length, acc[i] = t) → -40 * (i : Int) ≤ t → t ≤ (i : Int) →
    Ev (fun n => impl_leads.l0 n s k acc (s.size : Int) (i : Int)) (acc ++ run t (st k r))
  | [], i, acc, t, h, ha, hl, _, _ => by
    have := drop_nil h
    have hsl := size_len s
    refine Ev.step (fun k => by simp only [impl_leads.l0]; rfl) (ev_neg (by omega) ?_)
    simp only [st, List.map_nil, run, List.append_nil]
    exact Ev.now _
  | c :: r, i, acc, t, h, ha, hl, h1, h2 => by
    obtain ⟨hlt, hc, hr⟩ := drop_cons h
    have hb := bt_get s i hlt
    rw [hc] at hb
    have hsl := size_len s
    have hle := hl (by omega)
    have hcc := pth_iff.1 hp c (by rw [← hc]; exact List.getElem_mem _)
    refine Ev.step (fun k => by simp only [impl_leads.l0]; rfl) ?_
    refine ev_pos (by omega) (ev_pos (by omega) (ev_pos (by omega) ?_))
    rw [rdI acc i (by omega), hle, hb, nx i (by omega), wr (n := -k) (by omega) (by omega), wr (n := t + -k) (by omega) (by omega), wr (n := t + 1) (by omega) (by omega)]
    have hset : st k (c :: r) = (if c = 85 then 1 else -k) :: st k r := rfl
    rw [hset]
    rcases hcc with h85 | h68
    · refine ev_neg (by rw [h85]; decide) (ev_pos (by omega) (ev_pos (by omega) ?_))
      have := ld s k hk0 hk hs hp r (i + 1) (acc ++ [t + 1]) (t + 1) hr (by simp; omega) (fun hh => by simp [List.getElem_append_right, ha]) (by omega) (by omega)
      rw [List.append_assoc] at this
      rw [if_pos h85]
      exact this
    · refine ev_pos (by rw [h68]; decide) (ev_pos (by omega) (ev_pos (by omega) ?_))
      have := ld s k hk0 hk hs hp r (i + 1) (acc ++ [t + -k]) (t + -k) hr (by simp; omega) (fun hh => by simp [List.getElem_append_right, ha]) (by omega) (by omega)
      rw [List.append_assoc] at this
      rw [if_neg (by rw [h68]; decide)]
      exact this
theorem fs (L : List Int) (hL : L.length ≤ 1000) : ∀ (r : List Int) (i : Nat), L.drop i = r → 1 ≤ i → ∃ q, Ev (fun n => impl_first_on_isLevel.l0 n 1 L (L.length : Int) (i : Int)) (q, r.any fun x => decide (x ≤ 0))
  | [], i, h, _ => by
    have := drop_nil h
    exact ⟨0, Ev.step (fun k => by simp only [impl_first_on_isLevel.l0]; rfl) (ev_neg (by omega) (Ev.now _))⟩
  | x :: r, i, h, h1 => by
    obtain ⟨hlt, hc, hr⟩ := drop_cons h
    obtain ⟨q, ih⟩ := fs L hL r (i + 1) hr (by omega)
    by_cases hx : x ≤ 0
    · refine ⟨(i : Int), Ev.step (fun k => by simp only [impl_first_on_isLevel.l0]; rfl) ?_⟩
      refine ev_pos (by omega) (ev_pos (by omega) (ev_pos (by omega) (ev_pos (by omega) ?_)))
      rw [rdI L i hlt, hc]
      refine ev_on (a := true) (by unfold impl_isLevel.f; rw [decide_eq_true hx]) (ev_pos (c := true = true) rfl ?_)
      rw [List.any_cons, decide_eq_true hx, Bool.true_or]
      exact Ev.now _
    · refine ⟨q, Ev.step (fun k => by simp only [impl_first_on_isLevel.l0]; rfl) ?_⟩
      refine ev_pos (by omega) (ev_pos (by omega) (ev_pos (by omega) (ev_pos (by omega) ?_)))
      rw [rdI L i hlt, hc, nx i (by omega)]
      refine ev_on (a := false) (by unfold impl_isLevel.f; rw [decide_eq_false hx]) (ev_neg (c := false = true) (by decide) ?_)
      rw [List.any_cons, decide_eq_false hx, Bool.false_or]
      exact ih
theorem first_i (s : ByteArray) (k : Int) (hk0 : 0 ≤ k) (hk : k ≤ 40) (hs : s.size ≤ 40) (hp : pth s.data.toList = true) : ∃ q, Ev (fun n => impl_first_on_isLevel.f n s k 1) (q, !(ratioGood s.data.toList k)) := by
  have hL : Ev (fun n => impl_leads.f n s k) ([0] ++ run 0 (st k s.data.toList)) := by
    unfold impl_leads.f
    exact ld s k hk0 hk hs hp _ 0 [0] 0 rfl rfl (fun _ => rfl) (by omega) (by omega)
  have hsl := size_len s
  have hlen : ([0] ++ run 0 (st k s.data.toList)).length = s.size + 1 := by simp [run_len, st]
  obtain ⟨q, hq⟩ := fs ([0] ++ run 0 (st k s.data.toList)) (by omega) (run 0 (st k s.data.toList)) 1 rfl (by omega)
  refine ⟨q, ?_⟩
  unfold impl_first_on_isLevel.f
  refine Ev.bind hL ?_
  refine Ev.step (fun k => by simp only [impl_first_on_isLevel.l0]; rfl) ?_
  refine ev_pos (by omega) (ev_pos (by omega) (ev_pos (by omega) (ev_neg (by omega) ?_)))
  rw [any_run, ← good_eq k hk0 hk _ (by omega)] at hq
  rw [show wrap64 (0 + 1) = ((1 : Nat) : Int) by rw [wr (by omega) (by omega)]; rfl]
  exact hq
theorem ratio_le (l : List UInt8) (k : Int) (n : Nat) : (ratioUp l k n).length ≤ n := by
  unfold ratioUp
  rw [List.length_map]
  exact Nat.le_trans (List.length_filter_le _ _) (by simp)
theorem ril (s : ByteArray) (k : Int) (hk0 : 0 ≤ k) (hk : k ≤ 40) (hs : s.size ≤ 40) (hp : pth s.data.toList = true) : ∀ (d i : Nat), i + d = s.size → Ev (fun n => impl_RatioRotations.l0 n s k (ratioUp s.data.toList k i) (s.size : Int) (i : Int)) (ratioList s.data.toList k, true)
  | 0, i, h => by
    obtain rfl : i = s.size := by omega
    exact Ev.step (fun k => by simp only [impl_RatioRotations.l0]; rfl) (ev_neg (by omega) (Ev.now _))
  | d + 1, i, h => by
    have ih := ril s k hk0 hk hs hp d (i + 1) (by omega)
    have hle := ratio_le s.data.toList k i
    have hx : (s.extract i s.size).size = s.size - i := by rw [ByteArray.size_extract]; omega
    have hy : (s.extract 0 i).size = i := by rw [ByteArray.size_extract]; omega
    have hl := ratio_list s i
    obtain ⟨q, hq⟩ := first_i (s.extract i s.size ++ s.extract 0 i) k hk0 hk (by rw [ByteArray.size_append, hx, hy]; omega) (by
      rw [hl]
      refine pth_iff.2 fun c hc => pth_iff.1 hp c ?_
      exact (mem_rot s.data.toList i c).1 hc)
    rw [hl] at hq
    refine Ev.step (fun k => by simp only [impl_RatioRotations.l0]; rfl) ?_
    refine ev_pos (by omega) (ev_pos (by omega) (ev_pos (by omega) ?_))
    rw [Int.toNat_natCast]
    refine ev_pos (by rw [hx, hy]; omega) (Ev.bind hq ?_)
    rw [nx i (by omega)]
    rw [ratioUp_succ] at ih
    dsimp only
    cases hg : ratioGood (s.data.toList.drop i ++ s.data.toList.take i) k with
    | true =>
      rw [hg, if_pos rfl] at ih
      exact ev_neg (by decide) (ev_pos (by omega) ih)
    | false =>
      rw [hg, if_neg (by decide)] at ih
      exact ev_pos rfl ih
def ratR (s : ByteArray) (k : Int) : List Int × Bool := if pthB s = true ∧ 0 ≤ k ∧ k ≤ 40 then (ratioList s.data.toList k, true) else ([], false)
theorem pthB_iff {s : ByteArray} : pthB s = true ↔ s.size ≤ 40 ∧ pth s.data.toList = true := by unfold pthB; simp
theorem ratR_s (s : ByteArray) (hs : s.size ≤ 1000) (k : Int) : Ev (fun n => spec_RatioRotations.f n s k) (ratR s k) := by
  unfold spec_RatioRotations.f
  refine Ev.bind (path_s s hs) ?_
  by_cases h : pthB s = true ∧ 0 ≤ k ∧ k ≤ 40
  · rw [show ratR s k = _ from if_pos h]
    obtain ⟨h1, h2⟩ := pthB_iff.1 h.1
    refine ev_pos h (ev_pos ⟨by omega, List.all_eq_true.2 fun c hc => ?_⟩ (Ev.now _))
    rcases pth_iff.1 h2 c hc with rfl | rfl <;> rfl
  · rw [show ratR s k = _ from if_neg h]
    exact ev_neg h (Ev.now _)
theorem ratR_i (s : ByteArray) (k : Int) : Ev (fun n => impl_RatioRotations.f n s k) (ratR s k) := by
  unfold impl_RatioRotations.f
  refine ev_on (path_i s) ?_
  by_cases h1 : pthB s = true
  · refine ev_pos h1 (ev_on (in_i _ _ _) ?_)
    refine Ev.step (fun k => by simp only [impl_RatioRotations.j0]; rfl) ?_
    by_cases h2 : 0 ≤ k ∧ k ≤ 40
    · rw [show ratR s k = _ from if_pos ⟨h1, h2⟩]
      rw [decide_eq_true h2]
      obtain ⟨h3, h4⟩ := pthB_iff.1 h1
      exact ev_neg (by decide) (ril s k h2.1 h2.2 h3 h4 s.size 0 (by omega))
    · rw [show ratR s k = _ from if_neg (fun hh => h2 hh.2)]
      rw [decide_eq_false h2]
      exact ev_pos rfl (Ev.now _)
  · rw [show ratR s k = _ from if_neg (fun hh => h1 hh.1)]
    refine ev_neg h1 (Ev.step (fun k => by simp only [impl_RatioRotations.j0]; rfl) ?_)
    first | exact Ev.now _ | exact ev_pos trivial (Ev.now _)
/- the starts -/
theorem ratio_cnt (l : List UInt8) (k : Int) : ∀ n, (ratioUp l k n).length = Cyc.cnt (fun i => ratioGood (l.drop i ++ l.take i) k) n
  | 0 => rfl
  | n + 1 => by
    have ih := ratio_cnt l k n
    rw [ratioUp_succ]
    unfold Cyc.cnt
    by_cases h : ratioGood (l.drop n ++ l.take n) k = true
    · rw [if_pos h, if_pos h, List.length_append, ih]; rfl
    · rw [if_neg h, if_neg h, ih]; rfl
theorem ratio_len (l : List UInt8) (k : Int) (hk0 : 0 ≤ k) (hk : k ≤ 40) (hl : l.length ≤ 40) : ((ratioList l k).length : Int) = max 0 (sm (st k l)) := by
  have e : ratioList l k = ratioUp l k l.length := rfl
  rw [e, ratio_cnt]
  have hsl : (st k l).length = l.length := by simp [st]
  have := ratio_count (st k l) (fun x hx => by
    obtain ⟨y, hy, rfl⟩ := List.mem_map.1 hx
    split <;> omega) (fun i => ratioGood (l.drop i ++ l.take i) k) (fun i hi => by
    rw [hsl] at hi
    rw [good_eq k hk0 hk _ (by simp; omega), pos_iff]
    have e2 : st k (l.drop i ++ l.take i) = rot (st k l) i := (rot_map _ l i).symm
    rw [e2, rot_len _ _ (by omega)]
    simp only [Int.zero_add])
  rw [hsl] at this
  exact this
def cn (c : UInt8) (l : List UInt8) : Int := (l.countP fun b => b == c : Nat)
theorem cn_cons (c b : UInt8) (l : List UInt8) : cn c (b :: l) = cn c l + if b = c then 1 else 0 := by
  unfold cn
  rw [List.countP_cons]
  by_cases h : b = c <;> simp [h]
theorem cn_bd (c : UInt8) (l : List UInt8) : 0 ≤ cn c l ∧ cn c l ≤ l.length := by
  unfold cn
  have := List.countP_le_length (p := fun b => b == c) (l := l)
  omega
theorem sm_st (k : Int) : ∀ (l : List UInt8), pth l = true → sm (st k l) = cn 85 l - k * cn 68 l
  | [], _ => by simp [st, sm, cn]
  | b :: r, h => by
    have hb := pth_iff.1 h b (by simp)
    have ih := sm_st k r (pth_iff.2 fun c hc => pth_iff.1 h c (by simp [hc]))
    have e : st k (b :: r) = (if b = 85 then 1 else -k) :: st k r := rfl
    rw [e, cn_cons, cn_cons]
    simp only [sm, ih]
    rcases hb with rfl | rfl
    · rw [if_pos rfl, if_pos rfl, if_neg (by decide)]
      rw [Int.add_zero]; omega
    · rw [if_neg (by decide), if_neg (by decide), if_pos rfl, Int.mul_add]
      omega
theorem xcount (s : ByteArray) (hs : s.size ≤ 1000) (c : UInt8) : ∀ (r : List UInt8) (i : Nat) (acc : Int), s.data.toList.drop i = r → 0 ≤ acc → acc ≤ i → Ev (fun k => laws_xCount.l0 k s (c.toNat : Int) acc (i : Int)) (acc + cn c r)
  | [], i, acc, h, _, _ => by
    have := drop_nil h
    have hsl := size_len s
    exact ev_eq (Ev.step (fun k => by simp only [laws_xCount.l0]; rfl) (ev_neg (by omega) (Ev.now _))) (by simp [cn])
  | b :: r, i, acc, h, h0, h1 => by
    obtain ⟨hlt, hc, hr⟩ := drop_cons h
    have hb := bt_get s i hlt
    rw [hc] at hb
    have hsl := size_len s
    refine Ev.step (fun k => by simp only [laws_xCount.l0]; rfl) ?_
    refine ev_pos (by omega) (ev_pos (by omega) ?_)
    rw [hb, nx i (by omega), wr (n := acc + 1) (by omega) (by omega), cn_cons]
    have e : ((b.toNat : Int) = (c.toNat : Int)) ↔ b = c := by
      constructor
      · intro h; exact UInt8.toNat_inj.1 (by omega)
      · rintro rfl; rfl
    by_cases hbc : b = c
    · refine ev_pos (e.2 hbc) ?_
      rw [if_pos hbc]
      exact ev_eq (xcount s hs c r (i + 1) (acc + 1) hr (by omega) (by omega)) (by omega)
    · refine ev_neg (fun hh => hbc (e.1 hh)) ?_
      rw [if_neg hbc]
      exact ev_eq (xcount s hs c r (i + 1) acc hr (by omega) (by omega)) (by omega)
theorem start_at (l : List UInt8) (k : Int) (hk0 : 0 ≤ k) (hk : k ≤ 40) (hl : l.length ≤ 40) (hp : pth l = true) (i : Nat) (hi : i < (ratioList l k).length) :
    ∃ m : Nat, ∃ hm : m < l.length, (ratioList l k)[i] = (m : Int) ∧ l[m] = 85 := by
  have hmem := List.getElem_mem hi
  unfold ratioList at hmem
  obtain ⟨m, hm, he⟩ := List.mem_map.1 hmem
  obtain ⟨hr, hg⟩ := List.mem_filter.1 hm
  have hml := List.mem_range.1 hr
  refine ⟨m, hml, he.symm, ?_⟩
  rw [good_eq k hk0 hk _ (by simp; omega), pos_iff] at hg
  have := hg 1 (by omega) (by simp [st]; omega)
  rw [List.drop_eq_getElem_cons hml] at this
  simp only [st, List.cons_append, List.map_cons, List.take_succ_cons, List.take_zero, sm] at this
  rcases pth_iff.1 hp _ (List.getElem_mem hml) with h | h
  · exact h
  · rw [h, if_neg (by decide)] at this
    omega
theorem start_lt (l : List UInt8) (k : Int) (i j : Nat) (hij : i < j) (hj : j < (ratioList l k).length) : (ratioList l k)[i] < (ratioList l k)[j] := by
  have hp : (ratioList l k).Pairwise (· < ·) := by
    unfold ratioList
    rw [List.pairwise_map]
    refine List.Pairwise.imp (R := fun a b : Nat => a < b) (fun h => by omega) ?_
    exact List.Pairwise.filter _ List.pairwise_lt_range
  exact List.pairwise_iff_getElem.1 hp i j (by omega) hj hij

/- the law -/
theorem rotR_len (a : List Int) (ha : a.length ≤ 1000) (b : Int) : (rotR a b).1.length ≤ 1000 := by
  unfold rotR
  split
  · rename_i h
    simp only
    rw [rot_len _ _ (by omega)]
    exact ha
  · simp
theorem j5 (a : List Int) (ha : a.length ≤ 1000) (b : Int) : Ev (fun k => laws_FnRotationsGood.j5 k a b (rotR a b).1 (rotR a b).2) true := by
  refine Ev.step (fun k => by simp only [laws_FnRotationsGood.j5]; rfl) ?_
  by_cases h : deg a = true ∧ 0 ≤ b ∧ b < (a.length : Int)
  · have e : rotR a b = (rot a b.toNat, true) := if_pos h
    obtain ⟨hd, h0, h1⟩ := h
    obtain ⟨m, rfl⟩ := Int.eq_ofNat_of_zero_le h0
    rw [e, Int.toNat_natCast]
    have hm : m < a.length := by omega
    have hr := rot_len a m (by omega)
    obtain ⟨q, hq, hql, hback⟩ : ∃ q : Nat, Int.tmod (wrap64 ((a.length : Int) - (m : Int))) (a.length : Int) = (q : Int) ∧ q < a.length ∧ rot (rot a m) q = a := by
      rw [wr (by omega) (by omega), show (a.length : Int) - (m : Int) = ((a.length - m : Nat) : Int) from by omega]
      by_cases hm0 : m = 0
      · subst hm0
        refine ⟨0, ?_, by omega, by simp [rot]⟩
        rw [Nat.sub_zero]
        exact Int.tmod_self
      · refine ⟨a.length - m, ?_, by omega, rot_back a m⟩
        rw [Int.tmod_eq_emod_of_nonneg (by omega)]
        exact Int.emod_eq_of_lt (by omega) (by omega)
    refine ev_pos rfl (ev_neg (by omega) ?_)
    rw [hq]
    have e2 : rotR (rot a m) (q : Int) = (a, true) := by
      unfold rotR
      rw [if_pos ⟨by rw [deg_rot a m (by omega)]; exact hd, by omega, by omega⟩, Int.toNat_natCast, hback]
    have hb := rotR_i (rot a m) (by omega) (q : Int)
    rw [e2] at hb
    refine Ev.bind hb (ev_pos rfl (Ev.bind (xsame a ha) (ev_pos rfl (Ev.now _))))
  · have e : rotR a b = ([], false) := if_neg h
    rw [e]
    exact ev_neg (by decide) (Ev.now _)
theorem l1 (s : ByteArray) (S : List Int) (hst : ∀ (i : Nat) (hi : i < S.length), ∃ m : Nat, ∃ hm : m < s.data.toList.length, S[i] = (m : Int) ∧ s.data.toList[m] = 85) (hlt' : ∀ (i j : Nat) (hij : i < j) (hj : j < S.length), S[i] < S[j]) (hle2 : S.length ≤ 40) (a : List Int) (ha : a.length ≤ 1000) (b : Int) : ∀ (r : List Int) (i : Nat), S.drop i = r →
    Ev (fun n => laws_FnRotationsGood.l1 n s S a b (rotR a b).1 (rotR a b).2 S (S.length : Int) (i : Int)) true
  | [], i, h => by
    have := drop_nil h
    exact Ev.step (fun k => by simp only [laws_FnRotationsGood.l1]; rfl) (ev_neg (by omega) (j5 a ha b))
  | x :: r, i, h => by
    have ih := l1 s S hst hlt' hle2 a ha b r (i + 1)
    have hsl := size_len s
    obtain ⟨hlt, hc, hr⟩ := drop_cons h
    obtain ⟨m, hm, he, h85⟩ := hst i hlt
    have hb := bt_get s m hm
    rw [h85] at hb
    refine Ev.step (fun k => by simp only [laws_FnRotationsGood.l1]; rfl) ?_
    refine ev_pos (by omega) (ev_pos (by omega) (ev_pos (by omega) ?_))
    rw [rdI S i hlt, he]
    refine ev_pos (by omega) (ev_pos (by omega) (ev_pos (by rw [hb]; rfl) ?_))
    rw [nx i (by omega)]
    by_cases h0 : (i : Int) > 0
    · refine ev_pos h0 ?_
      obtain ⟨i', rfl⟩ : ∃ i', i = i' + 1 := ⟨i - 1, by omega⟩
      have hlt2 := hlt' i' (i' + 1) (by omega) hlt
      rw [he] at hlt2
      rw [show wrap64 (((i' + 1 : Nat) : Int) - 1) = (i' : Int) by rw [wr (by omega) (by omega)]; omega]
      refine ev_pos (by omega) (ev_pos (by omega) ?_)
      rw [rdI S i' (by omega)]
      exact ev_neg (by omega) (ih hr)
    · exact ev_neg h0 (ih hr)
theorem j2 (c : List Int) (hc : byteL c) : Ev (fun k => laws_FnRotationsGood.j2 k c) true := by
  have hdraw : ∃ s kk, Ev (fun k => spec_DrawRatioRotations.f k c) (s, kk) ∧ s.size ≤ 200 := by
    obtain ⟨t, a1, s1, e, hl, hx, hy⟩ := any_draw hc 14 (by omega) (a := 0) (by omega) (by omega) 0
    obtain ⟨v, a2, s2, e2, _, _, _⟩ := cur_among hc (a := a1) (by omega) (by omega) s1 [0, 1, 1, 2, 3, 40, 41, (-1)] (by simp)
    refine ⟨t, v, ?_, hl⟩
    unfold spec_DrawRatioRotations.f
    refine Ev.bind e ?_
    refine ev_on e2 (Ev.now _)
  have hdraw2 : ∃ a b, Ev (fun k => spec_DrawRotateList.f k c) (a, b) ∧ a.length ≤ 17 := by
    obtain ⟨l, a1, s1, e, hl, hx, hy⟩ := deg_draw hc 8 (by omega) (by omega) (a := 0) (by omega) (by omega) 0
    obtain ⟨v, a2, s2, e2, hx2, hy2, _⟩ := cur_pick hc (a := a1) (by omega) (by omega) s1 (wrap64 ((l.length : Int) + 2))
    obtain ⟨u, a3, s3, e3, _, _, _⟩ := cur_pick hc (a := a2) (by omega) (by omega) s2 2
    refine ⟨l, wrap64 (v - u), ?_, hl⟩
    unfold spec_DrawRotateList.f
    refine Ev.bind e ?_
    refine ev_on e2 ?_
    exact ev_on e3 (Ev.now _)
  obtain ⟨s, kk, e1, hs⟩ := hdraw
  obtain ⟨a, b, e2, ha⟩ := hdraw2
  refine Ev.step (fun k => by simp only [laws_FnRotationsGood.j2]; rfl) ?_
  refine Ev.bind e1 ?_
  refine Ev.bind (ratR_i s kk) ?_
  refine Ev.bind (ratR_s s (by omega) kk) ?_
  refine Ev.bind e2 ?_
  refine Ev.bind (rotR_i a (by omega) b) ?_
  refine Ev.bind (rotR_s a (by omega) b) ?_
  dsimp only
  refine ev_neg (by simp) ?_
  have hrl : (ratR s kk).1.length ≤ 1000 := by
    unfold ratR
    split
    · have h1 := ratio_le s.data.toList kk s.data.toList.length
      have h2 := size_len s
      have h3 : (ratioList s.data.toList kk).length ≤ s.data.toList.length := h1
      simp only
      omega
    · simp
  refine Ev.bind (xsame _ hrl) (ev_pos rfl (ev_neg (by simp) ?_))
  refine Ev.bind (xsame _ (rotR_len a (by omega) b)) (ev_pos rfl ?_)
  by_cases h : pthB s = true ∧ 0 ≤ kk ∧ kk ≤ 40
  · have er : ratR s kk = (ratioList s.data.toList kk, true) := if_pos h
    rw [er]
    obtain ⟨hp, hk0, hk⟩ := h
    obtain ⟨hs40, hpt⟩ := pthB_iff.1 hp
    refine ev_pos rfl ?_
    have x1 := xcount s (by omega) 85 _ 0 0 rfl (by omega) (by omega)
    have x2 := xcount s (by omega) 68 _ 0 0 rfl (by omega) (by omega)
    have c1 := cn_bd 85 s.data.toList
    have c2 := cn_bd 68 s.data.toList
    have hsl := size_len s
    have hm := sm_st kk s.data.toList hpt
    have hlen := ratio_len s.data.toList kk hk0 hk (by omega)
    have p0 : 0 ≤ kk * cn 68 s.data.toList := Int.mul_nonneg hk0 c2.1
    have p1 : kk * cn 68 s.data.toList ≤ 40 * 40 := by
      have h1 : kk * cn 68 s.data.toList ≤ 40 * cn 68 s.data.toList := Int.mul_le_mul_of_nonneg_right hk c2.1
      omega
    have j3 : ∀ v : Int, v = max 0 (sm (st kk s.data.toList)) → Ev (fun n => laws_FnRotationsGood.j3 n s (ratioList s.data.toList kk) a b (rotR a b).1 (rotR a b).2 v) true := fun v hv => by
      refine Ev.step (fun k => by simp only [laws_FnRotationsGood.j3]; rfl) ?_
      refine ev_pos (by omega) ?_
      have hle := ratio_le s.data.toList kk s.data.toList.length
      exact l1 s _ (start_at s.data.toList kk hk0 hk (by omega) hpt) (start_lt s.data.toList kk) (Nat.le_trans hle (by omega)) a (by omega) b _ 0 rfl
    have ev : wrap64 ((0 + cn 85 s.data.toList) - wrap64 (kk * (0 + cn 68 s.data.toList))) = sm (st kk s.data.toList) := by
      rw [Int.zero_add, Int.zero_add, hm, wr (n := kk * cn 68 s.data.toList) (by omega) (by omega), wr (by omega) (by omega)]
    refine Ev.bind x1 (Ev.bind x2 ?_)
    rw [List.drop_zero, ev]
    by_cases hn : sm (st kk s.data.toList) < 0
    · exact ev_pos hn (j3 0 (by omega))
    · exact ev_neg hn (j3 _ (by omega))
  · have er : ratR s kk = ([], false) := if_neg h
    rw [er]
    exact ev_neg (by decide) (j5 a (by omega) b)
theorem l0 (c : List Int) (hc : byteL c) (l : List Int) (hd : deg l = true) : ∀ (d i : Nat), i + d = l.length → Ev (fun k => laws_FnRotationsGood.l0 k c l (goods l l.length) (l.length : Int) (i : Int)) true
  | 0, i, h => by
    obtain rfl : i = l.length := by omega
    exact Ev.step (fun k => by simp only [laws_FnRotationsGood.l0]; rfl) (ev_neg (by omega) (j2 c hc))
  | d + 1, i, h => by
    obtain ⟨d1, d2, d3⟩ := deg_iff.1 hd
    have ih := l0 c hc l hd d (i + 1) (by omega)
    have hle := goods_le l l.length
    have er : rotR l (i : Int) = (rot l i, true) := by
      unfold rotR
      rw [if_pos ⟨hd, by omega, by omega⟩, Int.toNat_natCast]
    have hr := rotR_i l (by omega) (i : Int)
    rw [er] at hr
    have hx := xhas (goods l l.length) (by omega) (i : Int) _ 0 rfl (by omega)
    rw [List.drop_zero, has_goods l i (by omega)] at hx
    refine Ev.step (fun k => by simp only [laws_FnRotationsGood.l0]; rfl) (ev_pos (by omega) ?_)
    refine Ev.bind hr ?_
    dsimp only
    refine Ev.bind (isForest_i (rot l i) (by rw [rot_len l i (by omega)]; omega) (by rw [deg_rot l i (by omega)]; exact hd)) ?_
    refine ev_pos rfl (ev_pos rfl ?_)
    refine Ev.bind hx ?_
    rw [nx i (by omega)]
    exact ev_neg (by simp) ih
theorem FnRotationsGood : laws_FnRotationsGood.Pure := by
  intro l0' l1' _ _ hw0 _ _ hw1
  refine Ev.rounds ?_
  unfold laws_FnRotationsGood.f
  obtain ⟨b, hb⟩ : ∃ b, laws_big.f l0' l1' = some b := by unfold laws_big.f; split <;> exact ⟨_, rfl⟩
  refine ev_on hb ?_
  cases b with
  | true => exact ev_pos rfl (Ev.now _)
  | false =>
    refine ev_neg (by decide) ?_
    have hc0 := byteL_of hw0
    have hc1 := byteL_of hw1
    have hdraw : ∃ l, Ev (fun k => spec_DrawGoodRotations.f k l0') l ∧ l.length ≤ 17 := by
      obtain ⟨l, a1, s1, e, hl, hx, hy⟩ := deg_draw hc0 8 (by omega) (by omega) (a := 0) (by omega) (by omega) 0
      refine ⟨l, ?_, hl⟩
      unfold spec_DrawGoodRotations.f spec_DrawIsDegrees.f
      exact Ev.bind (Ev.bind e (Ev.now _)) (Ev.now _)
    obtain ⟨l, e, hl⟩ := hdraw
    refine Ev.bind e ?_
    refine Ev.bind (goodRot_i l (by omega)) ?_
    refine Ev.bind (goodRot_s l (by omega)) ?_
    refine Ev.bind (exR_i l (by omega)) ?_
    refine Ev.bind (exR_s l (by omega)) ?_
    refine ev_neg (by simp) ?_
    have hgl : (goodsR l).1.length ≤ 1000 := by
      unfold goodsR
      split
      · have := goods_le l l.length
        simp only
        omega
      · simp
    refine Ev.bind (xsame _ hgl) (ev_pos rfl (ev_neg (by simp) (ev_pos rfl ?_)))
    have e1 : (goodsR l).2 = deg l := by unfold goodsR; cases h : deg l <;> simp
    have e2 : (exR l).2 = deg l := by unfold exR; cases h : deg l <;> simp
    refine Ev.bind (good_i l (by omega)) ?_
    rw [e1, e2]
    refine ev_neg (by simp) ?_
    refine Ev.bind (good_i l (by omega)) ?_
    have hsd : Ev (fun k => spec_IsDegrees.f k l) (deg l) := by
      unfold spec_IsDegrees.f
      exact Ev.bind (good_s l (by omega)) (Ev.now _)
    refine Ev.bind hsd (ev_neg (by simp) (ev_neg (by simp) ?_))
    cases hd : deg l with
    | false => exact ev_neg (by decide) (j2 l1' hc1)
    | true =>
      have e3 : goodsR l = (goods l l.length, true) := if_pos hd
      have e4 : exR l = (ex l, true) := if_pos hd
      rw [e3, e4]
      refine ev_pos rfl ?_
      have hlen := goods_len l hd
      have hb := ex_bd l hd
      have j0 : ∀ v : Int, v = max 0 (ex l) → Ev (fun n => laws_FnRotationsGood.j0 n l1' l (goods l l.length) (ex l) v) true := fun v hv => by
        refine Ev.step (fun k => by simp only [laws_FnRotationsGood.j0]; rfl) ?_
        refine ev_pos (by omega) ?_
        have hx := xsum l hd l 0 0 rfl (by omega) (by omega) (by omega)
        refine Ev.bind hx (ev_pos ?_ (l0 l1' hc1 l hd l.length 0 (by omega)))
        have hsb := sm_bd l (deg_iff.1 hd).2.2
        rw [Int.zero_add, wr (by omega) (by omega)]
        rfl
      dsimp only
      by_cases hn : ex l < 0
      · exact ev_pos hn (j0 0 (by omega))
      · exact ev_neg hn (j0 (ex l) (by omega))

end Go.Proofs.YtaacmpmjogpodaaDoor.Pure
