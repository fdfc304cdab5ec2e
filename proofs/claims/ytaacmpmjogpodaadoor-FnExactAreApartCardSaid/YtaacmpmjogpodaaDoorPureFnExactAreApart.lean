/- Two ways of asking whether ways are apart answer alike, for all lists of ways: the program's AreApart returns what the reference's returns.
   Conditions: the list takes no more memory than a process has. -/
import Derived.Test.YtaacmpmjogpodaaDoorPFnExactAreApartx17
namespace Go.Proofs.YtaacmpmjogpodaaDoor.Pure
open Go.RowKit Go.Proofs.YtaacmpmjogpodaaDoor.PFnExactAreApart Go.Proofs.YtaacmpmjogpodaaDoorW.PrintWords Go.Proofs.YtaacmpmjogpodaaDoorW.PrintLast
theorem ev_pos {α : Type} {c : Prop} [Decidable c] (h : c) {g f : Nat → Option α} {r : α} (k : Ev g r) : Ev (fun n => if c then g n else f n) r := by
  obtain ⟨K, hK⟩ := k
  exact ⟨K, fun n hn => by simp only [if_pos h]; exact hK n hn⟩
theorem ev_neg {α : Type} {c : Prop} [Decidable c] (h : ¬ c) {g f : Nat → Option α} {r : α} (k : Ev f r) : Ev (fun n => if c then g n else f n) r := by
  obtain ⟨K, hK⟩ := k
  exact ⟨K, fun n hn => by simp only [if_neg h]; exact hK n hn⟩
theorem ev_on {α β : Type} {o : Option α} {a : α} (h : o = some a) {f : Nat → α → Option β} {r : β} (k : Ev (fun n => f n a) r) : Ev (fun n => o.bind (f n)) r := by
  obtain ⟨K, hK⟩ := k
  exact ⟨K, fun n hn => by rw [h]; exact hK n hn⟩
theorem ev_eq {α : Type} {g : Nat → Option α} {r r' : α} (h : Ev g r) (e : r = r') : Ev g r' := e ▸ h
theorem ev_uniq {α : Type} {g : Nat → Option α} {r r' : α} (h : Ev g r) (h' : Ev g r') : r = r' := by
  obtain ⟨K, hK⟩ := h
  obtain ⟨K', hK'⟩ := h'
  have a := hK (max K K') (Nat.le_max_left _ _)
  have b := hK' (max K K') (Nat.le_max_right _ _)
  exact Option.some.inj (a.symm.trans b)
theorem wr {n : Int} (h : -9223372036854775808 ≤ n) (h2 : n ≤ 9223372036854775807) : wrap64 n = n := by unfold wrap64; omega
theorem bt_get (s : ByteArray) (i : Nat) (h : i < s.data.toList.length) : bt s (i : Int) = ((s.data.toList[i]).toNat : Int) := by
  have h' : i < s.size := h
  unfold bt
  simp only [Int.toNat_natCast, dif_pos h']
  rfl
theorem size_len (s : ByteArray) : s.size = s.data.toList.length := rfl
theorem drop_cons {α : Type} {l : List α} {i : Nat} {x : α} {r : List α} (h : l.drop i = x :: r) : ∃ hi : i < l.length, l[i] = x ∧ l.drop (i + 1) = r := by
  have hi : i < l.length := by
    apply Classical.byContradiction
    intro hn
    rw [List.drop_eq_nil_of_le (by omega)] at h
    cases h
  rw [List.drop_eq_getElem_cons hi] at h
  injection h with a b
  exact ⟨hi, a, b⟩
theorem drop_nil {α : Type} {l : List α} {i : Nat} (h : l.drop i = []) : l.length ≤ i := by
  simpa using h

abbrev C := S51
abbrev W := S53
theorem C_ext {a b : C} (h1 : a.f0 = b.f0) (h2 : a.f1 = b.f1) : a = b := by
  cases a; cases b; simp at h1 h2; subst h1; subst h2; rfl
def ok (x y : Int) : Bool := decide (0 ≤ x ∧ x ≤ 12 ∧ 0 ≤ y ∧ y ≤ 12)
def go : List UInt8 → Int → Int → List C → List C × Bool
  | [], _, _, acc => (acc, true)
  | c :: r, x, y, acc => if c = 69 then (if ok (x + 1) y = true then go r (x + 1) y (acc ++ [⟨x + 1, y⟩]) else ([], false)) else if c = 78 then (if ok x (y + 1) = true then go r x (y + 1) (acc ++ [⟨x, y + 1⟩]) else ([], false)) else ([], false)
def cl : List UInt8 → Int → Int → List C
  | [], _, _ => []
  | c :: r, x, y => if c = 69 then ⟨x + 1, y⟩ :: cl r (x + 1) y else ⟨x, y + 1⟩ :: cl r x (y + 1)
theorem cell_s (x y : Int) : spec_ncCell.f x y = some (ok x y) := by
  unfold spec_ncCell.f spec_l1In.f ok
  by_cases h1 : 0 ≤ x <;> by_cases h2 : x ≤ 12 <;> by_cases h3 : 0 ≤ y <;> by_cases h4 : y ≤ 12 <;> simp [h1, h2, h3, h4]
theorem cell_i (x y : Int) : impl_IsCell.f x y = some (ok x y) := by
  unfold impl_IsCell.f impl_in.f ok
  by_cases h1 : 0 ≤ x <;> by_cases h2 : x ≤ 12 <;> by_cases h3 : 0 ≤ y <;> by_cases h4 : y ≤ 12 <;> simp [h1, h2, h3, h4]
theorem ok_iff {x y : Int} : ok x y = true ↔ 0 ≤ x ∧ x ≤ 12 ∧ 0 ≤ y ∧ y ≤ 12 := by unfold ok; simp
theorem byte_eq (c : UInt8) (n : Nat) (hn : n < 256) : ((c.toNat : Int) = (n : Int)) ↔ c = UInt8.ofNat n := by
  constructor
  · intro h
    have h' : c.toNat = n := by omega
    rw [← h']; simp
  · rintro rfl
    simp; omega
/- the reference's cells -/
theorem ncl (s : ByteArray) (a b : Int) (hs : s.size ≤ 24) : ∀ (r : List UInt8) (i : Nat) (x y : Int) (acc : List C), s.data.toList.drop i = r → -100 ≤ x → x ≤ 12 → -100 ≤ y → y ≤ 12 → acc.length ≤ i + 1 → i ≤ 24 →
    Ev (fun k => spec_ncCells.l0 k acc (i : Int) a b s x y) (go r x y acc)
  | [], i, x, y, acc, h, _, _, _, _, ha, hi => by
    have := drop_nil h
    refine Ev.step (fun k => by simp only [spec_ncCells.l0]; rfl) ?_
    refine ev_neg (by rw [size_len]; omega) ?_
    exact Ev.now _
  | c :: r, i, x, y, acc, h, hx0, hx1, hy0, hy1, ha, hi => by
    obtain ⟨hlt, hc, hr⟩ := drop_cons h
    have hb := bt_get s i hlt
    rw [hc] at hb
    have hsl := size_len s
    refine Ev.step (fun k => by simp only [spec_ncCells.l0]; rfl) ?_
    refine ev_pos (by omega) ?_
    refine ev_pos (by omega) ?_
    rw [hb, wr (n := x + 1) (by omega) (by omega), wr (n := y + 1) (by omega) (by omega), wr (n := (i : Int) + 1) (by omega) (by omega)]
    have e1 : ((c.toNat : Int) = 69) ↔ c = 69 := byte_eq c 69 (by omega)
    have e2 : ((c.toNat : Int) = 78) ↔ c = 78 := byte_eq c 78 (by omega)
    by_cases h1 : c = 69
    · refine ev_pos (by rw [h1]; rfl) ?_
      refine ev_on (cell_s _ _) ?_
      unfold go
      rw [if_pos h1]
      cases ho : ok (x + 1) y with
      | true =>
        have := ok_iff.1 ho
        refine ev_pos rfl (ev_pos (by omega) ?_)
        rw [if_pos rfl]
        exact ncl s a b hs r (i + 1) (x + 1) y _ hr (by omega) (by omega) (by omega) (by omega) (by simp; omega) (by omega)
      | false =>
        refine ev_neg (by decide) ?_
        rw [if_neg (by decide)]
        exact Ev.now _
    · refine ev_neg (by intro hh; exact h1 (e1.1 hh)) ?_
      unfold go
      rw [if_neg h1]
      by_cases h2 : c = 78
      · refine ev_pos (by rw [h2]; rfl) ?_
        refine ev_on (cell_s _ _) ?_
        rw [if_pos h2]
        cases ho : ok x (y + 1) with
        | true =>
          have := ok_iff.1 ho
          refine ev_pos rfl (ev_pos (by omega) ?_)
          rw [if_pos rfl]
          exact ncl s a b hs r (i + 1) x (y + 1) _ hr (by omega) (by omega) (by omega) (by omega) (by simp; omega) (by omega)
        | false =>
          refine ev_neg (by decide) ?_
          rw [if_neg (by decide)]
          exact Ev.now _
      · refine ev_neg (by intro hh; exact h2 (e2.1 hh)) ?_
        rw [if_neg h2]
        exact Ev.now _
def cellsS (w : W) : List C × Bool := if ok w.f0.f0 w.f0.f1 = true ∧ w.f1.size ≤ 24 then go w.f1.data.toList w.f0.f0 w.f0.f1 [⟨w.f0.f0, w.f0.f1⟩] else ([], false)
theorem nc (w : W) : Ev (fun k => spec_ncCells.f k w.f0.f0 w.f0.f1 w.f1) (cellsS w) := by
  unfold spec_ncCells.f cellsS
  refine ev_on (cell_s _ _) ?_
  cases ho : ok w.f0.f0 w.f0.f1 with
  | true =>
    refine ev_pos rfl ?_
    refine Ev.step (fun k => by simp only [spec_ncCells.j0]; rfl) ?_
    by_cases hs : (w.f1.size : Int) > 24
    · refine ev_pos (by simpa using hs) ?_
      rw [if_neg (by omega)]
      exact Ev.now _
    · refine ev_neg (by simpa using hs) ?_
      rw [if_pos ⟨rfl, by omega⟩]
      have := ok_iff.1 ho
      exact ncl w.f1 _ _ (by omega) _ 0 _ _ _ rfl (by omega) (by omega) (by omega) (by omega) (by simp) (by omega)
  | false =>
    refine ev_neg (by decide) ?_
    refine Ev.step (fun k => by simp only [spec_ncCells.j0]; rfl) ?_
    rw [if_neg (by simp)]
    first | exact Ev.now _ | exact ev_pos trivial (Ev.now _)
/- the program's cells -/
theorem rdC (l : List C) (i : Nat) (h : i < l.length) : rd_T51 l (i : Int) = l[i] := by
  unfold rd_T51
  simp only [Int.toNat_natCast]
  rw [List.getD_eq_getElem?_getD, List.getElem?_eq_getElem h]; rfl
theorem next_i (x y : Int) (c : UInt8) (hx : -100 ≤ x) (hx1 : x ≤ 100) (hy : -100 ≤ y) (hy1 : y ≤ 100) : impl_Cell_next.f x y (c.toNat : Int) = some (if c = 69 then (x + 1, y) else (x, y + 1)) := by
  unfold impl_Cell_next.f
  have e1 : ((c.toNat : Int) = 69) ↔ c = 69 := byte_eq c 69 (by omega)
  rw [wr (n := x + 1) (by omega) (by omega), wr (n := y + 1) (by omega) (by omega)]
  by_cases h : c = 69
  · rw [if_pos (e1.2 h), if_pos h]
  · rw [if_neg (fun hh => h (e1.1 hh)), if_neg h]
theorem cll (s : ByteArray) (a b : Int) (hs : s.size ≤ 24) : ∀ (r : List UInt8) (i : Nat) (acc : List C) (x y : Int), s.data.toList.drop i = r → acc.length = i + 1 → (∀ h : i < acc.length, acc[i] = ⟨x, y⟩) → 0 ≤ x → x ≤ 12 + i → 0 ≤ y → y ≤ 12 + i → i ≤ 24 →
    Ev (fun k => impl_Way_cells.l0 k acc (s.size : Int) (i : Int) a b s) (acc ++ cl r x y)
  | [], i, acc, x, y, h, ha, hl, _, _, _, _, hi => by
    have := drop_nil h
    refine Ev.step (fun k => by simp only [impl_Way_cells.l0]; rfl) ?_
    refine ev_neg (by rw [size_len]; omega) ?_
    simp only [cl, List.append_nil]
    exact Ev.now _
  | c :: r, i, acc, x, y, h, ha, hl, hx0, hx1, hy0, hy1, hi => by
    obtain ⟨hlt, hc, hr⟩ := drop_cons h
    have hb := bt_get s i hlt
    rw [hc] at hb
    have hsl := size_len s
    have hle := hl (by omega)
    refine Ev.step (fun k => by simp only [impl_Way_cells.l0]; rfl) ?_
    refine ev_pos (by omega) (ev_pos (by omega) (ev_pos (by omega) (ev_pos (by omega) ?_)))
    rw [rdC acc i (by omega), hle, hb, wr (n := (i : Int) + 1) (by omega) (by omega)]
    refine ev_on (next_i x y c (by omega) (by omega) (by omega) (by omega)) ?_
    refine ev_pos (by omega) ?_
    unfold cl
    by_cases h1 : c = 69
    · simp only [if_pos h1]
      have := cll s a b hs r (i + 1) (acc ++ [⟨x + 1, y⟩]) (x + 1) y hr (by simp; omega) (fun hh => by simp [List.getElem_append_right, ha]) (by omega) (by omega) (by omega) (by omega) (by omega)
      rw [List.append_assoc] at this
      exact this
    · simp only [if_neg h1]
      have := cll s a b hs r (i + 1) (acc ++ [⟨x, y + 1⟩]) x (y + 1) hr (by simp; omega) (fun hh => by simp [List.getElem_append_right, ha]) (by omega) (by omega) (by omega) (by omega) (by omega)
      rw [List.append_assoc] at this
      exact this
def cellsI (w : W) : List C := ⟨w.f0.f0, w.f0.f1⟩ :: cl w.f1.data.toList w.f0.f0 w.f0.f1
theorem ci (w : W) (h : ok w.f0.f0 w.f0.f1 = true) (hs : w.f1.size ≤ 24) : Ev (fun k => impl_Way_cells.f k w.f0.f0 w.f0.f1 w.f1) (cellsI w) := by
  unfold impl_Way_cells.f cellsI
  have := ok_iff.1 h
  exact cll w.f1 _ _ hs _ 0 [⟨w.f0.f0, w.f0.f1⟩] _ _ rfl rfl (fun _ => rfl) (by omega) (by omega) (by omega) (by omega) (by omega)
/- both are one -/
def made (l : List UInt8) : Bool := l.all fun c => c == 69 || c == 78
theorem cl_len : ∀ (l : List UInt8) (x y : Int), (cl l x y).length = l.length
  | [], _, _ => rfl
  | c :: r, x, y => by unfold cl; split <;> simp [cl_len r]
def lastC : List UInt8 → Int → Int → C
  | [], x, y => ⟨x, y⟩
  | c :: r, x, y => if c = 69 then lastC r (x + 1) y else lastC r x (y + 1)
theorem last_ge : ∀ (l : List UInt8) (x y : Int), x ≤ (lastC l x y).f0 ∧ y ≤ (lastC l x y).f1
  | [], x, y => ⟨Int.le_refl _, Int.le_refl _⟩
  | c :: r, x, y => by
    unfold lastC
    split
    · have := last_ge r (x + 1) y
      omega
    · have := last_ge r x (y + 1)
      omega
theorem cl_last : ∀ (l : List UInt8) (x y : Int) (h : l.length < (⟨x, y⟩ :: cl l x y : List C).length), (⟨x, y⟩ :: cl l x y : List C)[l.length] = lastC l x y
  | [], x, y, _ => rfl
  | c :: r, x, y, h => by
    unfold lastC cl
    by_cases h1 : c = 69
    · simp only [if_pos h1, List.length_cons, List.getElem_cons_succ]
      exact cl_last r (x + 1) y (by simp [cl_len])
    · simp only [if_neg h1, List.length_cons, List.getElem_cons_succ]
      exact cl_last r x (y + 1) (by simp [cl_len])
theorem go_eq : ∀ (l : List UInt8) (x y : Int) (acc : List C), ok x y = true → go l x y acc = if made l = true ∧ ok (lastC l x y).f0 (lastC l x y).f1 = true then (acc ++ cl l x y, true) else ([], false)
  | [], x, y, acc, h => by simp [go, made, lastC, cl, h]
  | c :: r, x, y, acc, h => by
    have h0 := ok_iff.1 h
    unfold go
    by_cases h1 : c = 69
    · simp only [if_pos h1]
      have hm : made (c :: r) = made r := by simp [made, h1]
      have hl : lastC (c :: r) x y = lastC r (x + 1) y := by simp [lastC, h1]
      rw [hm, hl]
      cases ho : ok (x + 1) y with
      | true =>
        rw [if_pos rfl, go_eq r (x + 1) y _ ho]
        simp [cl, h1]
      | false =>
        rw [if_neg (by decide)]
        have := last_ge r (x + 1) y
        rw [if_neg]
        rintro ⟨_, h3⟩
        have h4 := ok_iff.1 h3
        have : ok (x + 1) y = true := ok_iff.2 ⟨by omega, by omega, by omega, by omega⟩
        rw [ho] at this
        cases this
    · simp only [if_neg h1]
      by_cases h2 : c = 78
      · simp only [if_pos h2]
        have hm : made (c :: r) = made r := by simp [made, h2]
        have hl : lastC (c :: r) x y = lastC r x (y + 1) := by simp [lastC, h1]
        rw [hm, hl]
        cases ho : ok x (y + 1) with
        | true =>
          rw [if_pos rfl, go_eq r x (y + 1) _ ho]
          simp [cl, h1]
        | false =>
          rw [if_neg (by decide)]
          have := last_ge r x (y + 1)
          rw [if_neg]
          rintro ⟨_, h3⟩
          have h4 := ok_iff.1 h3
          have : ok x (y + 1) = true := ok_iff.2 ⟨by omega, by omega, by omega, by omega⟩
          rw [ho] at this
          cases this
      · rw [if_neg h2, if_neg]
        rintro ⟨h3, _⟩
        simp [made, h1, h2] at h3
def isWay (w : W) : Bool := ok w.f0.f0 w.f0.f1 && decide (w.f1.size ≤ 24) && made w.f1.data.toList && ok (lastC w.f1.data.toList w.f0.f0 w.f0.f1).f0 (lastC w.f1.data.toList w.f0.f0 w.f0.f1).f1
theorem cellsS_eq (w : W) : cellsS w = if isWay w = true then (cellsI w, true) else ([], false) := by
  unfold cellsS isWay
  by_cases h1 : ok w.f0.f0 w.f0.f1 = true
  · by_cases h2 : w.f1.size ≤ 24
    · rw [if_pos ⟨h1, h2⟩, go_eq _ _ _ _ h1]
      simp only [h1, decide_eq_true h2, Bool.true_and, Bool.and_eq_true]
      rfl
    · rw [if_neg (fun h => h2 h.2), if_neg]
      simp [h2]
  · rw [if_neg (fun h => h1 h.1), if_neg]
    simp [h1]
theorem way_s (w : W) : Ev (fun k => spec_IsWay.f k w.f0.f0 w.f0.f1 w.f1) (isWay w) := by
  unfold spec_IsWay.f
  refine Ev.bind (nc w) ?_
  rw [cellsS_eq]
  split
  · rename_i h; rw [h]; exact Ev.now _
  · rename_i h
    rw [Bool.not_eq_true] at h
    rw [h]; exact Ev.now _
theorem dropWhile_nil (p : UInt8 → Bool) : ∀ l : List UInt8, l.dropWhile p = [] ↔ l.all p = true
  | [] => by simp
  | a :: r => by
    by_cases h : p a = true
    · simp [h, dropWhile_nil p r]
    · simp [h]
theorem trimS_nil (l cs : List UInt8) : Lib.trimS l cs = [] ↔ (l.all fun c => cs.contains c) = true := by
  unfold Lib.trimS Lib.trimLeftS Lib.trimRightS
  rw [dropWhile_nil, List.all_reverse]
  constructor
  · intro h
    have h1 : ∀ x ∈ l, cs.contains x = true := by
      intro x hx
      apply Classical.byContradiction
      intro hn
      have h2 := List.all_eq_true.1 h
      have : ∀ m : List UInt8, x ∈ m → x ∈ m.dropWhile (cs.contains ·) := by
        intro m
        induction m with
        | nil => intro h; exact h
        | cons a r ih =>
          intro hm
          by_cases ha : cs.contains a = true
          · rw [List.dropWhile_cons, if_pos ha]
            rcases List.mem_cons.1 hm with e | e
            · rw [e] at hn; exact absurd ha hn
            · exact ih e
          · rw [List.dropWhile_cons, if_neg ha]; exact hm
      exact hn (h2 x (this _ (List.mem_reverse.2 hx)))
    exact List.all_eq_true.2 h1
  · intro h
    have h1 := List.all_eq_true.1 h
    refine List.all_eq_true.2 fun x hx => h1 x ?_
    exact List.mem_reverse.1 ((List.dropWhile_sublist _).subset hx)
theorem made_i (s : ByteArray) (hs : s.size ≤ 24) : impl_isMade.f s (⟨#[69, 78]⟩ : ByteArray) = some (made s.data.toList) := by
  unfold impl_isMade.f strings_Trim.f
  rw [if_pos ⟨⟨by decide, by decide⟩, by omega⟩]
  simp only [Option.bind_some, Option.some.injEq]
  have e := trimS_nil s.data.toList [69, 78]
  have e2 : (s.data.toList.all fun c => ([69, 78] : List UInt8).contains c) = made s.data.toList := by
    unfold made
    congr 1
    funext c
    simp [List.contains, List.elem]
    cases h1 : c == 69 <;> cases h2 : c == 78 <;> simp
  rw [e2] at e
  have e3 : ∀ l : List UInt8, (⟨l.toArray⟩ : ByteArray).toList = l := fun l => by rw [ByteArray.toList_eq]
  cases hm : made s.data.toList with
  | true => rw [e.2 hm, e3]; rfl
  | false =>
    rw [beq_eq_false_iff_ne]
    intro hh
    rw [e3] at hh
    rw [e.1 hh] at hm
    cases hm
theorem way_i (w : W) : Ev (fun k => impl_IsWay.f k w.f0.f0 w.f0.f1 w.f1) (isWay w) := by
  unfold impl_IsWay.f
  refine ev_on (cell_i _ _) ?_
  unfold isWay
  cases h1 : ok w.f0.f0 w.f0.f1 with
  | false => refine ev_neg (by decide) ?_; simp only [Bool.false_and]; exact Ev.now _
  | true =>
    refine ev_pos rfl ?_
    by_cases h2 : w.f1.size ≤ 24
    · refine ev_pos (by omega) ?_
      refine ev_on (made_i _ h2) ?_
      cases h3 : made w.f1.data.toList with
      | false => refine ev_neg (by decide) ?_; simp only [Bool.and_false, Bool.false_and]; exact Ev.now _
      | true =>
        refine ev_pos rfl ?_
        refine Ev.bind (ci w h1 h2) ?_
        have hl : (cellsI w).length = w.f1.size + 1 := by unfold cellsI; simp only [List.length_cons, cl_len]; rfl
        refine ev_pos (by omega) (ev_pos (by omega) ?_)
        have hlast : rd_T51 (cellsI w) (w.f1.size : Int) = lastC w.f1.data.toList w.f0.f0 w.f0.f1 := by
          rw [rdC _ _ (by omega)]
          exact cl_last w.f1.data.toList w.f0.f0 w.f0.f1 (by simp [cl_len])
        rw [hlast]
        refine ev_on (cell_i _ _) ?_
        simp only [Bool.true_and, decide_eq_true h2]
        exact Ev.now _
    · refine ev_neg (by omega) ?_
      simp only [decide_eq_false h2, Bool.and_false, Bool.false_and]
      exact Ev.now _
/- do they meet -/
def meet (v w : W) : Bool := (cellsI v).any fun c => (cellsI w).any fun d => decide (c.f0 = d.f0 ∧ c.f1 = d.f1)
theorem ix (l : List C) (a b : Int) : ∀ (r : List C) (i : Nat), l.drop i = r → i ≤ l.length → l.length ≤ 100 →
    ∃ q : Int, Ev (fun k => impl_Cell.l0 k l (l.length : Int) (i : Int) a b) q ∧ (0 ≤ q ↔ ∃ d ∈ r, (⟨a, b⟩ : C) = d)
  | [], i, h, hi, hl => by
    have := drop_nil h
    refine ⟨-1, ?_, by simp⟩
    refine Ev.step (fun k => by simp only [impl_Cell.l0]; rfl) ?_
    exact ev_neg (by omega) (Ev.now _)
  | d :: r, i, h, hi, hl => by
    obtain ⟨hlt, hc, hr⟩ := drop_cons h
    by_cases he : (⟨a, b⟩ : C) = d
    · refine ⟨i, ?_, ⟨fun _ => ⟨d, by simp, he⟩, fun _ => by omega⟩⟩
      refine Ev.step (fun k => by simp only [impl_Cell.l0]; rfl) ?_
      refine ev_pos (by omega) (ev_pos (by omega) (ev_pos (by omega) ?_))
      rw [rdC l i hlt, hc, ← he]
      exact ev_pos (by simp) (Ev.now _)
    · obtain ⟨q, hq, hiff⟩ := ix l a b r (i + 1) hr (by omega) hl
      refine ⟨q, ?_, ?_⟩
      · refine Ev.step (fun k => by simp only [impl_Cell.l0]; rfl) ?_
        refine ev_pos (by omega) (ev_pos (by omega) (ev_pos (by omega) ?_))
        rw [rdC l i hlt, hc, wr (n := (i : Int) + 1) (by omega) (by omega)]
        refine ev_neg ?_ hq
        simp only [Bool.and_eq_true, beq_iff_eq]
        rintro ⟨h1, h2⟩
        exact he (C_ext h1 h2)
      · rw [hiff]
        constructor
        · rintro ⟨x, hx, e⟩; exact ⟨x, by simp [hx], e⟩
        · rintro ⟨x, hx, e⟩
          rcases List.mem_cons.1 hx with e2 | e2
          · exact absurd (e.trans e2) he
          · exact ⟨x, e2, e⟩
theorem mi (o : List C) (ho : o.length ≤ 100) (l : List C) (hl : l.length ≤ 100) : ∀ (r : List C) (i : Nat), l.drop i = r → i ≤ l.length →
    ∃ q : Int × Int, Ev (fun k => impl_meeting.l0 k o l (l.length : Int) (i : Int)) q ∧ (q.1 ≥ 0 ↔ ∃ c ∈ r, ∃ d ∈ o, c = d)
  | [], i, h, hi => by
    have := drop_nil h
    refine ⟨(-1, -1), ?_, by simp⟩
    refine Ev.step (fun k => by simp only [impl_meeting.l0]; rfl) ?_
    exact ev_neg (by omega) (Ev.now _)
  | c :: r, i, h, hi => by
    obtain ⟨hlt, hc, hr⟩ := drop_cons h
    obtain ⟨q, hq, hiff⟩ := ix o c.f0 c.f1 o 0 rfl (by omega) ho
    have hq' : Ev (fun k => impl_Cell.f k o c.f0 c.f1) q := by unfold impl_Cell.f; exact hq
    by_cases h0 : 0 ≤ q
    · refine ⟨((i : Int), q), ?_, ?_⟩
      · refine Ev.step (fun k => by simp only [impl_meeting.l0]; rfl) ?_
        refine ev_pos (by omega) (ev_pos (by omega) (ev_pos (by omega) ?_))
        rw [rdC l i hlt, hc]
        refine Ev.bind hq' ?_
        exact ev_pos h0 (Ev.now _)
      · obtain ⟨d, hd, e⟩ := hiff.1 h0
        exact ⟨fun _ => ⟨c, by simp, d, hd, e⟩, fun _ => by show (0 : Int) ≤ (i : Int); omega⟩
    · obtain ⟨q2, hq2, hiff2⟩ := mi o ho l hl r (i + 1) hr (by omega)
      refine ⟨q2, ?_, ?_⟩
      · refine Ev.step (fun k => by simp only [impl_meeting.l0]; rfl) ?_
        refine ev_pos (by omega) (ev_pos (by omega) (ev_pos (by omega) ?_))
        rw [rdC l i hlt, hc, wr (n := (i : Int) + 1) (by omega) (by omega)]
        refine Ev.bind hq' ?_
        exact ev_neg h0 hq2
      · rw [hiff2]
        constructor
        · rintro ⟨x, hx, e⟩; exact ⟨x, by simp [hx], e⟩
        · rintro ⟨x, hx, d, hd, e⟩
          rcases List.mem_cons.1 hx with e2 | e2
          · exact absurd (hiff.2 ⟨d, hd, by rw [← e, e2]⟩) h0
          · exact ⟨x, e2, d, hd, e⟩
theorem sj (o : List C) (ho : o.length ≤ 100) (l : List C) (n : Int) (i0 : Int) (a b : Int) (R : Int × Int × Bool) (hR : Ev (fun k => spec_ncMeet.l0 k o l n (wrap64 (i0 + 1))) R) : ∀ (r : List C) (j : Nat), o.drop j = r → j ≤ o.length →
    ∃ q : Int × Int × Bool, Ev (fun k => spec_ncMeet.l1 k o i0 l n i0 o (o.length : Int) (j : Int) a b) q ∧ (q.2.2 = true ↔ (∃ d ∈ r, (⟨a, b⟩ : C) = d) ∨ R.2.2 = true)
  | [], j, h, hj => by
    have := drop_nil h
    refine ⟨R, ?_, by simp⟩
    refine Ev.step (fun k => by simp only [spec_ncMeet.l1]; rfl) ?_
    exact ev_neg (by omega) hR
  | d :: r, j, h, hj => by
    obtain ⟨hlt, hc, hr⟩ := drop_cons h
    by_cases he : (⟨a, b⟩ : C) = d
    · refine ⟨(i0, (j : Int), true), ?_, ⟨fun _ => .inl ⟨d, by simp, he⟩, fun _ => rfl⟩⟩
      refine Ev.step (fun k => by simp only [spec_ncMeet.l1]; rfl) ?_
      refine ev_pos (by omega) (ev_pos (by omega) (ev_pos (by omega) ?_))
      rw [rdC o j hlt, hc, ← he]
      exact ev_pos (by simp) (Ev.now _)
    · obtain ⟨q, hq, hiff⟩ := sj o ho l n i0 a b R hR r (j + 1) hr (by omega)
      refine ⟨q, ?_, ?_⟩
      · refine Ev.step (fun k => by simp only [spec_ncMeet.l1]; rfl) ?_
        refine ev_pos (by omega) (ev_pos (by omega) (ev_pos (by omega) ?_))
        rw [rdC o j hlt, hc, wr (n := (j : Int) + 1) (by omega) (by omega)]
        refine ev_neg ?_ hq
        simp only [Bool.and_eq_true, beq_iff_eq]
        rintro ⟨h1, h2⟩
        exact he (C_ext h1 h2)
      · rw [hiff]
        constructor
        · rintro (⟨x, hx, e⟩ | e)
          · exact .inl ⟨x, by simp [hx], e⟩
          · exact .inr e
        · rintro (⟨x, hx, e⟩ | e)
          · rcases List.mem_cons.1 hx with e2 | e2
            · exact absurd (e.trans e2) he
            · exact .inl ⟨x, e2, e⟩
          · exact .inr e
theorem si (o : List C) (ho : o.length ≤ 100) (l : List C) (hl : l.length ≤ 100) : ∀ (r : List C) (i : Nat), l.drop i = r → i ≤ l.length →
    ∃ q : Int × Int × Bool, Ev (fun k => spec_ncMeet.l0 k o l (l.length : Int) (i : Int)) q ∧ (q.2.2 = true ↔ ∃ c ∈ r, ∃ d ∈ o, c = d)
  | [], i, h, hi => by
    have := drop_nil h
    refine ⟨(0, 0, false), ?_, by simp⟩
    refine Ev.step (fun k => by simp only [spec_ncMeet.l0]; rfl) ?_
    exact ev_neg (by omega) (Ev.now _)
  | c :: r, i, h, hi => by
    obtain ⟨hlt, hc, hr⟩ := drop_cons h
    obtain ⟨R, hR, hRiff⟩ := si o ho l hl r (i + 1) hr (by omega)
    have hR' : Ev (fun k => spec_ncMeet.l0 k o l (l.length : Int) (wrap64 ((i : Int) + 1))) R := by
      rw [wr (n := (i : Int) + 1) (by omega) (by omega)]; exact hR
    obtain ⟨q, hq, hiff⟩ := sj o ho l (l.length : Int) i c.f0 c.f1 R hR' o 0 rfl (by omega)
    refine ⟨q, ?_, ?_⟩
    · refine Ev.step (fun k => by simp only [spec_ncMeet.l0]; rfl) ?_
      refine ev_pos (by omega) (ev_pos (by omega) (ev_pos (by omega) ?_))
      rw [rdC l i hlt, hc]
      exact hq
    · rw [hiff, hRiff]
      constructor
      · rintro (⟨d, hd, e⟩ | ⟨x, hx, e⟩)
        · exact ⟨c, by simp, d, hd, e⟩
        · exact ⟨x, by simp [hx], e⟩
      · rintro ⟨x, hx, d, hd, e⟩
        rcases List.mem_cons.1 hx with e2 | e2
        · exact .inl ⟨d, hd, by rw [← e, e2]⟩
        · exact .inr ⟨x, e2, d, hd, e⟩
theorem len_i (w : W) (h : isWay w = true) : (cellsI w).length ≤ 100 := by
  unfold isWay at h
  simp only [Bool.and_eq_true, decide_eq_true_eq] at h
  have := h.1.1.2
  rw [size_len] at this
  unfold cellsI
  simp [cl_len]
  omega
theorem meet_iff (v w : W) : meet v w = true ↔ ∃ c ∈ cellsI v, ∃ d ∈ cellsI w, c = d := by
  unfold meet
  simp only [List.any_eq_true, decide_eq_true_eq]
  constructor
  · rintro ⟨c, hc, d, hd, h1, h2⟩
    exact ⟨c, hc, d, hd, C_ext h1 h2⟩
  · rintro ⟨c, hc, d, hd, e⟩
    exact ⟨c, hc, d, hd, by rw [e], by rw [e]⟩
theorem meet_i (v w : W) (hv : isWay v = true) (hw : isWay w = true) : ∃ q : Int × Int, Ev (fun k => impl_meeting.f k v.f0.f0 v.f0.f1 v.f1 w.f0.f0 w.f0.f1 w.f1) q ∧ (q.1 ≥ 0 ↔ meet v w = true) := by
  have av := hv
  have aw := hw
  unfold isWay at av aw
  simp only [Bool.and_eq_true, decide_eq_true_eq] at av aw
  obtain ⟨q, hq, hiff⟩ := mi (cellsI w) (len_i w hw) (cellsI v) (len_i v hv) (cellsI v) 0 rfl (by omega)
  refine ⟨q, ?_, by rw [hiff, meet_iff]⟩
  unfold impl_meeting.f
  refine Ev.bind (ci w aw.1.1.1 aw.1.1.2) ?_
  refine Ev.bind (ci v av.1.1.1 av.1.1.2) ?_
  exact hq
theorem meet_s (v w : W) (hv : isWay v = true) (hw : isWay w = true) : ∃ q : Int × Int × Bool, Ev (fun k => spec_ncMeet.f k v.f0.f0 v.f0.f1 v.f1 w.f0.f0 w.f0.f1 w.f1) q ∧ (q.2.2 = meet v w) := by
  obtain ⟨q, hq, hiff⟩ := si (cellsI w) (len_i w hw) (cellsI v) (len_i v hv) (cellsI v) 0 rfl (by omega)
  refine ⟨q, ?_, ?_⟩
  · unfold spec_ncMeet.f
    refine Ev.bind (nc v) ?_
    refine Ev.bind (nc w) ?_
    rw [cellsS_eq, cellsS_eq, if_pos hv, if_pos hw]
    exact hq
  · rw [← meet_iff] at hiff
    cases h1 : q.2.2 <;> cases h2 : meet v w <;> simp_all
theorem rdW (l : List W) (i : Nat) (h : i < l.length) : rd_T53 l (i : Int) = l[i] := by
  unfold rd_T53
  simp only [Int.toNat_natCast]
  rw [List.getD_eq_getElem?_getD, List.getElem?_eq_getElem h]; rfl
def outer (l : List W) : List W → Nat → Bool
  | [], _ => true
  | v :: r, i => !((l.take i).any (meet v)) && outer l r (i + 1)
theorem sl1 (l : List W) (hall : ∀ w ∈ l, isWay w = true) (hl : l.length ≤ 4) (n : Int) (i : Nat) (v : W) (hv : isWay v = true) (b : Bool) (hb : Ev (fun k => spec_ncApart.l0 k l l n (wrap64 ((i : Int) + 1))) b) :
    ∀ (r : List W) (j : Nat), (l.take i).drop j = r → j ≤ (l.take i).length →
    Ev (fun k => spec_ncApart.l1 k l l n (i : Int) (l.take i) ((l.take i).length : Int) (j : Int) v.f0.f0 v.f0.f1 v.f1) (!(r.any (meet v)) && b)
  | [], j, h, hj => by
    have := drop_nil h
    refine Ev.step (fun k => by simp only [spec_ncApart.l1]; rfl) ?_
    refine ev_neg (by omega) ?_
    simpa using hb
  | w :: r, j, h, hj => by
    obtain ⟨hlt, hc, hr⟩ := drop_cons h
    have hw : isWay w = true := hall w (List.mem_of_mem_take (by rw [← hc]; exact List.getElem_mem hlt))
    obtain ⟨q, hq, hm⟩ := meet_s v w hv hw
    have hlen : (l.take i).length ≤ 4 := by simp; omega
    refine Ev.step (fun k => by simp only [spec_ncApart.l1]; rfl) ?_
    refine ev_pos (by omega) (ev_pos (by omega) (ev_pos (by omega) ?_))
    rw [rdW _ j hlt, hc, wr (n := (j : Int) + 1) (by omega) (by omega)]
    refine Ev.bind hq ?_
    rw [hm]
    cases h1 : meet v w with
    | true => refine ev_pos rfl ?_; simp only [List.any_cons, h1, Bool.true_or, Bool.not_true, Bool.false_and]; exact Ev.now _
    | false =>
      refine ev_neg (by decide) ?_
      simp only [List.any_cons, h1, Bool.false_or]
      exact sl1 l hall hl n i v hv b hb r (j + 1) hr (by omega)
theorem sl0 (l : List W) (hall : ∀ w ∈ l, isWay w = true) (hl : l.length ≤ 4) : ∀ (r : List W) (i : Nat), l.drop i = r → i ≤ l.length → Ev (fun k => spec_ncApart.l0 k l l (l.length : Int) (i : Int)) (outer l r i)
  | [], i, h, hi => by
    have := drop_nil h
    refine Ev.step (fun k => by simp only [spec_ncApart.l0]; rfl) ?_
    exact ev_neg (by omega) (Ev.now _)
  | v :: r, i, h, hi => by
    obtain ⟨hlt, hc, hr⟩ := drop_cons h
    have hv : isWay v = true := hall v (by rw [← hc]; exact List.getElem_mem hlt)
    have ih := sl0 l hall hl r (i + 1) hr (by omega)
    refine Ev.step (fun k => by simp only [spec_ncApart.l0]; rfl) ?_
    refine ev_pos (by omega) (ev_pos (by omega) (ev_pos (by omega) (ev_pos (by omega) ?_)))
    refine ev_on rfl ?_
    rw [rdW _ i hlt, hc, Int.toNat_natCast]
    unfold outer
    exact sl1 l hall hl _ i v hv _ (by rw [wr (n := (i : Int) + 1) (by omega) (by omega)]; exact ih) _ 0 rfl (by omega)
theorem il1 (l : List W) (hall : ∀ w ∈ l, isWay w = true) (hl : l.length ≤ 4) (n : Int) (i : Nat) (v : W) (hv : isWay v = true) (b : Bool) (hb : Ev (fun k => impl_AreApart.l0 k l l n (wrap64 ((i : Int) + 1))) (b, true)) :
    ∀ (r : List W) (j : Nat), (l.take i).drop j = r → j ≤ (l.take i).length →
    Ev (fun k => impl_AreApart.l1 k l l n (i : Int) (l.take i) ((l.take i).length : Int) (j : Int) v.f0.f0 v.f0.f1 v.f1) (!(r.any (meet v)) && b, true)
  | [], j, h, hj => by
    have := drop_nil h
    refine Ev.step (fun k => by simp only [impl_AreApart.l1]; rfl) ?_
    refine ev_neg (by omega) ?_
    simpa using hb
  | w :: r, j, h, hj => by
    obtain ⟨hlt, hc, hr⟩ := drop_cons h
    have hw : isWay w = true := hall w (List.mem_of_mem_take (by rw [← hc]; exact List.getElem_mem hlt))
    obtain ⟨q, hq, hm⟩ := meet_i v w hv hw
    have hlen : (l.take i).length ≤ 4 := by simp; omega
    refine Ev.step (fun k => by simp only [impl_AreApart.l1]; rfl) ?_
    refine ev_pos (by omega) (ev_pos (by omega) (ev_pos (by omega) ?_))
    rw [rdW _ j hlt, hc, wr (n := (j : Int) + 1) (by omega) (by omega)]
    refine Ev.bind hq ?_
    cases h1 : meet v w with
    | true => refine ev_pos (hm.2 h1) ?_; simp only [List.any_cons, h1, Bool.true_or, Bool.not_true, Bool.false_and]; exact Ev.now _
    | false =>
      refine ev_neg (fun hh => by rw [hm.1 hh] at h1; cases h1) ?_
      simp only [List.any_cons, h1, Bool.false_or]
      exact il1 l hall hl n i v hv b hb r (j + 1) hr (by omega)
theorem il0 (l : List W) (hall : ∀ w ∈ l, isWay w = true) (hl : l.length ≤ 4) : ∀ (r : List W) (i : Nat), l.drop i = r → i ≤ l.length → Ev (fun k => impl_AreApart.l0 k l l (l.length : Int) (i : Int)) (outer l r i, true)
  | [], i, h, hi => by
    have := drop_nil h
    refine Ev.step (fun k => by simp only [impl_AreApart.l0]; rfl) ?_
    exact ev_neg (by omega) (Ev.now _)
  | v :: r, i, h, hi => by
    obtain ⟨hlt, hc, hr⟩ := drop_cons h
    have hv : isWay v = true := hall v (by rw [← hc]; exact List.getElem_mem hlt)
    have ih := il0 l hall hl r (i + 1) hr (by omega)
    refine Ev.step (fun k => by simp only [impl_AreApart.l0]; rfl) ?_
    refine ev_pos (by omega) (ev_pos (by omega) (ev_pos (by omega) (ev_pos (by omega) ?_)))
    refine ev_on rfl ?_
    rw [rdW _ i hlt, hc, Int.toNat_natCast]
    unfold outer
    exact il1 l hall hl _ i v hv _ (by rw [wr (n := (i : Int) + 1) (by omega) (by omega)]; exact ih) _ 0 rfl (by omega)
def apart (l : List W) : Bool × Bool := if l.length ≤ 4 ∧ 1 ≤ l.length ∧ l.all isWay = true then (outer l l 0, true) else (false, false)
theorem sAll (l : List W) (hl : l.length ≤ 4) (h0 : 1 ≤ l.length) : ∀ (r : List W) (i : Nat), l.drop i = r → i ≤ l.length → (∀ w ∈ l.take i, isWay w = true) →
    Ev (fun k => spec_AreApart.l0 k l l (l.length : Int) (i : Int)) (if r.all isWay = true then (outer l l 0, true) else (false, false))
  | [], i, h, hi, ht => by
    have hle := drop_nil h
    rw [List.take_of_length_le hle] at ht
    refine Ev.step (fun k => by simp only [spec_AreApart.l0]; rfl) ?_
    refine ev_neg (by omega) ?_
    simp only [List.all_nil, if_true]
    refine Ev.bind (a := outer l l 0) ?_ (Ev.now _)
    unfold spec_ncApart.f
    exact sl0 l ht hl l 0 rfl (by omega)
  | v :: r, i, h, hi, ht => by
    obtain ⟨hlt, hc, hr⟩ := drop_cons h
    refine Ev.step (fun k => by simp only [spec_AreApart.l0]; rfl) ?_
    refine ev_pos (by omega) (ev_pos (by omega) (ev_pos (by omega) ?_))
    rw [rdW _ i hlt, hc, wr (n := (i : Int) + 1) (by omega) (by omega)]
    refine Ev.bind (way_s v) ?_
    cases hv : isWay v with
    | true =>
      refine ev_pos rfl ?_
      simp only [List.all_cons, hv, Bool.true_and]
      refine sAll l hl h0 r (i + 1) hr (by omega) ?_
      intro w hw
      rw [List.take_succ_eq_append_getElem hlt, List.mem_append] at hw
      rcases hw with hw | hw
      · exact ht w hw
      · rw [hc] at hw
        rw [List.mem_singleton.1 hw]; exact hv
    | false =>
      refine ev_neg (by decide) ?_
      simp only [List.all_cons, hv, Bool.false_and]
      exact Ev.now _
theorem apart_s (l : List W) : Ev (fun k => spec_AreApart.f k l) (apart l) := by
  unfold spec_AreApart.f apart spec_l1In.f
  by_cases h1 : (l.length : Int) ≥ 1
  · rw [if_pos h1]
    refine ev_on rfl ?_
    by_cases h2 : l.length ≤ 4
    · refine ev_pos (by simp; omega) ?_
      have := sAll l h2 (by omega) l 0 rfl (by omega) (by simp)
      simp only [h2, true_and, show 1 ≤ l.length by omega]
      exact this
    · refine ev_neg (by simp; omega) ?_
      rw [if_neg (by omega)]
      exact Ev.now _
  · rw [if_neg h1]
    refine ev_on rfl ?_
    refine ev_neg (by decide) ?_
    rw [if_neg (by omega)]
    exact Ev.now _
theorem not_i (w : W) : Ev (fun k => impl_AreApart_1.f k w.f0.f0 w.f0.f1 w.f1) (!isWay w) := by
  unfold impl_AreApart_1.f
  exact Ev.bind (way_i w) (Ev.now _)
theorem iAll (l : List W) (hl : l.length ≤ 4) : ∀ (r : List W) (i : Nat), l.drop i = r → i ≤ l.length →
    ∃ q : Int, Ev (fun k => impl_Way_93_on_AreApart_1.l0 k l (l.length : Int) (i : Int)) q ∧ (0 ≤ q ↔ r.all isWay = false)
  | [], i, h, hi => by
    have hle := drop_nil h
    refine ⟨-1, ?_, by simp⟩
    refine Ev.step (fun k => by simp only [impl_Way_93_on_AreApart_1.l0]; rfl) ?_
    exact ev_neg (by omega) (Ev.now _)
  | v :: r, i, h, hi => by
    obtain ⟨hlt, hc, hr⟩ := drop_cons h
    have nv := not_i v
    cases hv : isWay v with
    | true =>
      obtain ⟨q, hq, hiff⟩ := iAll l hl r (i + 1) hr (by omega)
      refine ⟨q, ?_, by rw [hiff]; simp [hv]⟩
      refine Ev.step (fun k => by simp only [impl_Way_93_on_AreApart_1.l0]; rfl) ?_
      refine ev_pos (by omega) (ev_pos (by omega) (ev_pos (by omega) ?_))
      rw [rdW _ i hlt, hc, wr (n := (i : Int) + 1) (by omega) (by omega)]
      rw [hv] at nv
      exact Ev.bind nv (ev_neg (by decide) hq)
    | false =>
      refine ⟨i, ?_, by simp [hv]⟩
      refine Ev.step (fun k => by simp only [impl_Way_93_on_AreApart_1.l0]; rfl) ?_
      refine ev_pos (by omega) (ev_pos (by omega) (ev_pos (by omega) ?_))
      rw [rdW _ i hlt, hc]
      rw [hv] at nv
      exact Ev.bind nv (ev_pos rfl (Ev.now _))
theorem apart_i (l : List W) : Ev (fun k => impl_AreApart.f k l) (apart l) := by
  unfold impl_AreApart.f apart impl_in.f
  by_cases h1 : (1 : Int) ≤ (l.length : Int)
  · rw [if_pos h1]
    refine ev_on rfl ?_
    by_cases h2 : l.length ≤ 4
    · refine ev_pos (by simp; omega) ?_
      obtain ⟨q, hq, hiff⟩ := iAll l h2 l 0 rfl (by omega)
      have hc : Ev (fun k => impl_Way_58_on_AreApart_1.f k l) (decide (q ≥ 0)) := by
        unfold impl_Way_58_on_AreApart_1.f impl_Way_93_on_AreApart_1.f
        exact Ev.bind hq (Ev.now _)
      refine Ev.bind hc ?_
      refine Ev.step (fun k => by simp only [impl_AreApart.j0]; rfl) ?_
      cases ha : l.all isWay with
      | true =>
        have : ¬ q ≥ 0 := fun hh => by rw [hiff.1 hh] at ha; cases ha
        refine ev_neg (by simpa using this) ?_
        rw [if_pos ⟨h2, by omega, rfl⟩]
        exact il0 l (List.all_eq_true.1 ha) h2 l 0 rfl (by omega)
      | false =>
        have : q ≥ 0 := hiff.2 ha
        refine ev_pos (by simpa using this) ?_
        rw [if_neg (by simp)]
        exact Ev.now _
    · refine ev_neg (by simp; omega) ?_
      refine Ev.step (fun k => by simp only [impl_AreApart.j0]; rfl) ?_
      rw [if_neg (by omega)]
      first | exact Ev.now _ | exact ev_pos trivial (Ev.now _)
  · rw [if_neg h1]
    refine ev_on rfl ?_
    refine ev_neg (by decide) ?_
    refine Ev.step (fun k => by simp only [impl_AreApart.j0]; rfl) ?_
    rw [if_neg (by omega)]
    first | exact Ev.now _ | exact ev_pos trivial (Ev.now _)
/- the law -/
abbrev L := S77
def conv (w : L) : W := ⟨⟨w.f0.f0, w.f0.f1⟩, w.f1⟩
theorem rdL (l : List L) (i : Nat) (h : i < l.length) : rd_T77 l (i : Int) = l[i] := by
  unfold rd_T77
  simp only [Int.toNat_natCast]
  rw [List.getD_eq_getElem?_getD, List.getElem?_eq_getElem h]; rfl
theorem sz (l : List L) (hl : l.length ≤ 8796093022208) : ∀ (r : List L) (i : Nat) (acc : Int), l.drop i = r → i ≤ l.length → ∃ q, Ev (fun k => laws_szWayS.l0 k l acc (i : Int)) q
  | [], i, acc, h, hi => by
    have hle := drop_nil h
    refine ⟨acc, ?_⟩
    refine Ev.step (fun k => by simp only [laws_szWayS.l0]; rfl) ?_
    exact ev_neg (by omega) (Ev.now _)
  | v :: r, i, acc, h, hi => by
    obtain ⟨hlt, hc, hr⟩ := drop_cons h
    obtain ⟨t, ht⟩ : ∃ t, laws_szWay.f v.f0.f0 v.f0.f1 v.f1 acc = some t := by unfold laws_szWay.f; split <;> exact ⟨_, rfl⟩
    by_cases h0 : t < 0
    · refine ⟨-1, ?_⟩
      refine Ev.step (fun k => by simp only [laws_szWayS.l0]; rfl) ?_
      refine ev_pos (by omega) (ev_pos (by omega) ?_)
      rw [rdL _ i hlt, hc]
      exact ev_on ht (ev_pos h0 (Ev.now _))
    · obtain ⟨q, hq⟩ := sz l hl r (i + 1) t hr (by omega)
      refine ⟨q, ?_⟩
      refine Ev.step (fun k => by simp only [laws_szWayS.l0]; rfl) ?_
      refine ev_pos (by omega) (ev_pos (by omega) ?_)
      rw [rdL _ i hlt, hc, wr (n := (i : Int) + 1) (by omega) (by omega)]
      exact ev_on ht (ev_neg h0 hq)
theorem tw (l : List L) (hl : l.length ≤ 8796093022208) : ∀ (r : List L) (i : Nat) (acc : List W), l.drop i = r → i ≤ l.length → acc.length = l.length → acc.take i = (l.take i).map conv →
    Ev (fun k => laws_toWayS.l0 k l acc (i : Int)) (l.map conv)
  | [], i, acc, h, hi, ha, ht => by
    have hle := drop_nil h
    refine Ev.step (fun k => by simp only [laws_toWayS.l0]; rfl) ?_
    refine ev_neg (by omega) ?_
    rw [List.take_of_length_le hle, List.take_of_length_le (by omega)] at ht
    rw [ht]
    exact Ev.now _
  | v :: r, i, acc, h, hi, ha, ht => by
    obtain ⟨hlt, hc, hr⟩ := drop_cons h
    refine Ev.step (fun k => by simp only [laws_toWayS.l0]; rfl) ?_
    refine ev_pos (by omega) (ev_pos (by omega) ?_)
    rw [rdL _ i hlt, hc, wr (n := (i : Int) + 1) (by omega) (by omega)]
    refine ev_on (a := (v.f0.f0, v.f0.f1, v.f1)) rfl ?_
    refine ev_pos (by omega) ?_
    rw [Int.toNat_natCast]
    refine tw l hl r (i + 1) _ hr (by omega) (by simpa using ha) ?_
    have hia : i < acc.length := by omega
    rw [List.take_succ_eq_append_getElem (by simpa using hia), List.take_succ_eq_append_getElem hlt, List.map_append, ← ht, hc]
    simp [List.take_set_of_le, conv]
theorem toW (l : List L) (hl : l.length ≤ 8796093022208) : Ev (fun k => laws_toWayS.f k l) (l.map conv) := by
  unfold laws_toWayS.f
  refine ev_pos (by omega) (ev_pos (by omega) ?_)
  exact tw l hl l 0 _ rfl (by omega) (by simp) (by simp)
theorem eqs (l : List W) (hl : l.length ≤ 8796093022208) : ∀ (r : List W) (i : Nat), l.drop i = r → i ≤ l.length → Ev (fun k => laws_eqWayS.l0 k l l (i : Int)) true
  | [], i, h, hi => by
    have hle := drop_nil h
    refine Ev.step (fun k => by simp only [laws_eqWayS.l0]; rfl) ?_
    exact ev_neg (by omega) (Ev.now _)
  | v :: r, i, h, hi => by
    obtain ⟨hlt, hc, hr⟩ := drop_cons h
    refine Ev.step (fun k => by simp only [laws_eqWayS.l0]; rfl) ?_
    refine ev_pos (by omega) (ev_pos (by omega) (ev_pos (by omega) ?_))
    rw [wr (n := (i : Int) + 1) (by omega) (by omega)]
    refine ev_on (a := true) (by unfold laws_eqWay.f laws_eqCell.f; simp) ?_
    exact ev_pos rfl (eqs l hl r (i + 1) hr (by omega))
theorem FnExactAreApart (l : List L) (hl : l.length ≤ 8796093022208) : ∃ k, laws_FnExactAreApart.f k l = some true := by
  refine Ev.rounds ?_
  obtain ⟨q, hq⟩ : ∃ q, Ev (fun k => laws_szWayS.f k l 1048576) q := by
    unfold laws_szWayS.f
    by_cases h : wrap64 (1048576 - (l.length : Int)) < 0
    · exact ⟨-1, ev_pos h (Ev.now _)⟩
    · obtain ⟨q, hq⟩ := sz l hl l 0 (wrap64 (1048576 - (l.length : Int))) rfl (by omega)
      exact ⟨q, ev_neg h hq⟩
  unfold laws_FnExactAreApart.f
  refine Ev.bind hq ?_
  by_cases h : q < 0
  · exact ev_pos h (Ev.now _)
  · refine ev_neg h ?_
    refine Ev.bind (toW l hl) ?_
    refine Ev.bind (apart_s _) ?_
    refine Ev.bind (toW l hl) ?_
    refine Ev.bind (apart_i _) ?_
    refine ev_neg (by simp) (ev_neg (by simp) ?_)
    refine Ev.bind (toW l hl) ?_
    have : Ev (fun k => laws_eqWayS.f k (l.map conv) (l.map conv)) true := by
      unfold laws_eqWayS.f
      exact ev_pos rfl (eqs _ (by simpa using hl) _ 0 rfl (by omega))
    refine Ev.bind this ?_
    exact ev_pos rfl (Ev.now _)
end Go.Proofs.YtaacmpmjogpodaaDoor.Pure
