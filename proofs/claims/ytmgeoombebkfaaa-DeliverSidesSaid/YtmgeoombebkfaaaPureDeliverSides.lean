/- Who has how many lots on which side is what the document says: the law, as a statement over numbers and lists. -/
import Derived.Test.YtmgeoombebkfaaaArgDeliverSides
namespace Go.Proofs.Ytmgeoombebkfaaa.Pure
set_option linter.unusedSimpArgs false
set_option linter.unusedVariables false
open Go.RowKit Go.Proofs.Ytmgeoombebkfaaa.PDeliverSides Go.Proofs.Ytmgeoombebkfaaa.Opens Go.Proofs.YtmgeoombebkfaaaW.PrintWords Go.Proofs.YtmgeoombebkfaaaW.PrintLast
/-- Comes to r, at all large numbers of rounds. -/
def Ev {α : Type} (g : Nat → Option α) (r : α) : Prop := ∃ K, ∀ k, K ≤ k → g k = some r
theorem Ev.shift {α : Type} {g : Nat → Option α} {r : α} (h : Ev (fun k => g (k + 1)) r) : Ev g r := by
  obtain ⟨K, h⟩ := h
  refine ⟨K + 1, fun k hk => ?_⟩
  obtain ⟨m, rfl⟩ : ∃ m, k = m + 1 := ⟨k - 1, by omega⟩
  exact h m (by omega)
theorem Ev.val {α : Type} (r : α) : Ev (fun _ => some r) r := ⟨0, fun _ _ => rfl⟩
theorem Ev.bind {α β : Type} {g : Nat → Option α} {f : Nat → α → Option β} {x : α} {r : β} (h : Ev g x) (h' : Ev (fun k => f k x) r) : Ev (fun k => (g k).bind (f k)) r := by
  obtain ⟨K, h⟩ := h
  obtain ⟨K', h'⟩ := h'
  exact ⟨max K K', fun k hk => by show (g k).bind (f k) = some r; rw [h k (by omega)]; exact h' k (by omega)⟩
theorem Ev.get {α : Type} {g : Nat → Option α} {r : α} (h : Ev g r) : ∃ k, g k = some r := by
  obtain ⟨K, h⟩ := h
  exact ⟨K, h K (Nat.le_refl _)⟩
theorem Ev.of {α : Type} {g : Nat → Option α} {r : α} {k0 : Nat} (h : g k0 = some r) (hm : ∀ k, LeO (g k) (g (k + 1))) : Ev g r := ⟨k0, fun _ hk => at_rounds hm hk h⟩
theorem Ev.pos {α : Type} {c : Prop} [Decidable c] {a b : Nat → Option α} {r : α} (hc : c) (h : Ev a r) : Ev (fun k => if c then a k else b k) r := by
  obtain ⟨K, h⟩ := h
  exact ⟨K, fun k hk => by show (if c then a k else b k) = some r; rw [if_pos hc]; exact h k hk⟩
theorem Ev.neg {α : Type} {c : Prop} [Decidable c] {a b : Nat → Option α} {r : α} (hc : ¬ c) (h : Ev b r) : Ev (fun k => if c then a k else b k) r := by
  obtain ⟨K, h⟩ := h
  exact ⟨K, fun k hk => by show (if c then a k else b k) = some r; rw [if_neg hc]; exact h k hk⟩
/-- Both ways, each where it is taken. -/
theorem Ev.ite {α : Type} {c : Prop} [Decidable c] {a b : Nat → Option α} {r : α} (h : c → Ev a r) (h' : ¬ c → Ev b r) : Ev (fun k => if c then a k else b k) r := by
  by_cases hc : c
  · exact Ev.pos hc (h hc)
  · exact Ev.neg hc (h' hc)
theorem wrap_small {n : Int} (h0 : -9223372036854775808 ≤ n) (h1 : n ≤ 9223372036854775807) : wrap64 n = n := by unfold wrap64; omega
/-- Both ways, each with its own end. -/
theorem Ev.both {α : Type} {c : Prop} [Decidable c] {a b : Nat → Option α} {r s : α} (h : c → Ev a r) (h' : ¬ c → Ev b s) : Ev (fun k => if c then a k else b k) (if c then r else s) := by
  by_cases hc : c
  · rw [if_pos hc]; exact Ev.pos hc (h hc)
  · rw [if_neg hc]; exact Ev.neg hc (h' hc)
theorem Ev.valOf {α : Type} {r s : α} (h : s = r) : Ev (fun _ => some r) s := by subst h; exact Ev.val _
/-- The first fault of a list, each element looked at beside the one ahead of it. -/
def scan {α : Type} (f : Option α → α → Int) : Option α → List α → Int
  | _, [] => 0
  | q, p :: r => if f q p = 0 then scan f (some p) r else f q p
/-- The element ahead of a place. -/
def prevAt {α : Type} (l : List α) (i : Nat) : Option α := if i = 0 then none else l[i - 1]?
theorem prevAt_succ {α : Type} (l : List α) (i : Nat) (h : i < l.length) : prevAt l (i + 1) = some l[i] := by
  simp [prevAt, h]
theorem prevAt_pos {α : Type} (l : List α) (i : Nat) (h0 : 0 < i) (h : i - 1 < l.length) : prevAt l i = some l[i - 1] := by
  rw [prevAt, if_neg (by omega), List.getElem?_eq_getElem h]
theorem scan_cons {α : Type} (f : Option α → α → Int) (q : Option α) (p : α) (r : List α) : scan f q (p :: r) = if f q p = 0 then scan f (some p) r else f q p := rfl
theorem less_irrefl (a : List UInt8) : Op.bytesLess a a = false := by
  induction a with
  | nil => rfl
  | cons x r ih =>
    have h : ¬ x < x := fun h => by have := UInt8.lt_iff_toNat_lt.mp h; omega
    simp [Op.bytesLess, ih, h]
theorem less_trans (a : List UInt8) : ∀ b c : List UInt8, Op.bytesLess a b = true → Op.bytesLess b c = true → Op.bytesLess a c = true := by
  induction a with
  | nil =>
    intro b c h1 h2
    cases c with
    | nil => cases b <;> simp [Op.bytesLess] at h2
    | cons z c => rfl
  | cons x a ih =>
    intro b c h1 h2
    cases b with
    | nil => simp [Op.bytesLess] at h1
    | cons y b =>
      cases c with
      | nil => simp [Op.bytesLess] at h2
      | cons z c =>
        simp only [Op.bytesLess, Bool.or_eq_true, decide_eq_true_eq, Bool.and_eq_true, beq_iff_eq, UInt8.lt_iff_toNat_lt] at h1 h2 ⊢
        rcases h1 with h1 | ⟨rfl, h1⟩
        · rcases h2 with h2 | ⟨rfl, h2⟩
          · exact Or.inl (by omega)
          · exact Or.inl h1
        · rcases h2 with h2 | ⟨rfl, h2⟩
          · exact Or.inl h2
          · exact Or.inr ⟨rfl, ih _ _ h1 h2⟩
theorem less_flip {a b : List UInt8} (h : ¬ Op.bytesLess a b = true) (hne : b ≠ a) : Op.bytesLess b a = true := by
  have := Go.Proofs.YtmgeoombebkfaaaHand.bytesLess_flip b a
  have h' : Op.bytesLess a b = false := by simpa using h
  rw [h', beq_eq_false_iff_ne.mpr hne] at this
  simpa using this
theorem less_ne {a b : List UInt8} (h : Op.bytesLess a b = true) : a ≠ b := by
  intro e
  subst e
  rw [less_irrefl] at h
  cases h
/-- The order of numbers, as a number. -/
def cmpI (a b : Int) : Int := if a < b then -1 else if a > b then 1 else 0
/-- The order of series, as a number. -/
def cmpS (a b : S67) : Int := if Op.bytesLess a.f0.toList b.f0.toList = true then -1 else if Op.bytesLess b.f0.toList a.f0.toList = true then 1 else if a.f2 = b.f2 then (if a.f1 = b.f1 then cmpI a.f3 b.f3 else cmpI a.f1 b.f1) else cmpI a.f2 b.f2
theorem cmp_int (a b : Int) : cmp_Compare_int.f a b = some (cmpI a b) := by
  unfold cmp_Compare_int.f cmp_isNaN_int.f cmpI
  simp only [Option.bind_some, bne_self_eq_false, Bool.false_eq_true, if_false]
  split
  · rfl
  · split <;> rfl
theorem cmp_str (a b : ByteArray) : cmp_Compare_string.f a b = some (if Op.bytesLess a.toList b.toList = true then -1 else if Op.bytesLess b.toList a.toList = true then 1 else 0) := by
  unfold cmp_Compare_string.f cmp_isNaN_string.f
  simp only [Option.bind_some, bne_self_eq_false, Bool.false_eq_true, if_false]
  split
  · rfl
  · split <;> rfl
theorem cmpI_self (a : Int) : cmpI a a = 0 := by unfold cmpI; rw [if_neg (by omega), if_neg (by omega)]
theorem cmp_ser (a b : S67) : series_Compare.f a.f0 a.f1 a.f2 a.f3 b.f0 b.f1 b.f2 b.f3 = some (cmpS a b) := by
  unfold series_Compare.f
  by_cases h : (eqD67 a.f0 b.f0 a.f1 b.f1 a.f2 b.f2 a.f3 b.f3) = true
  · rw [if_pos h]
    unfold eqD67 at h
    simp only [Bool.and_eq_true, beq_iff_eq] at h
    obtain ⟨h1, h2, h3, h4⟩ := h
    unfold cmpS
    rw [h1, h2, h3, h4, less_irrefl]
    simp [cmpI_self]
  · rw [if_neg h]
    by_cases h1 : a.f0.toList = b.f0.toList
    · rw [if_pos h1]
      unfold cmpS
      rw [h1, less_irrefl]
      simp only [cmp_int, Option.bind_some, Bool.false_eq_true, if_false]
      split
      · split <;> rfl
      · rfl
    · rw [if_neg h1, cmp_str]
      unfold cmpS
      by_cases h2 : Op.bytesLess a.f0.toList b.f0.toList = true
      · rw [if_pos h2, if_pos h2]; rfl
      · rw [if_neg h2, if_neg h2, if_pos (less_flip h2 (fun e => h1 e.symm)), if_pos (less_flip h2 (fun e => h1 e.symm))]; rfl
/-- What is amiss with a position, beside the one ahead of it. -/
def posF (q : Option S97) (p : S97) : Int :=
  if (match q with | none => false | some q => decide (cmpS q.f0 p.f0 ≥ 0)) = true then 19 else if 0 ≤ p.f1 ∧ p.f1 ≤ 1048576 ∧ 0 ≤ p.f2 ∧ p.f2 ≤ 1048576 ∧ ¬ (p.f1 = 0 ∧ p.f2 = 0) then 0 else 18
/-- What is amiss with positions. -/
def posC (l : List S97) : Int := if l.length > 128 then 8 else scan posF none l
theorem lots_some (n : Int) : position_lots.f n = some (decide (0 ≤ n ∧ n ≤ 1048576)) := by
  unfold position_lots.f
  by_cases h : n ≥ 0
  · rw [if_pos h]
    congr 1
    exact decide_eq_decide.mpr ⟨fun h2 => ⟨h, h2⟩, fun h2 => h2.2⟩
  · rw [if_neg h]
    congr 1
    exact (decide_eq_false (by omega)).symm
theorem posJ (l : List S97) (i : Nat) (b : Bool) (p : S97) (rest : Int)
    (h : Ev (fun k => position_Check.l0 k l l (l.length : Int) (wrap64 ((i : Int) + 1))) rest) :
    Ev (fun k => position_Check.j1 k l l (l.length : Int) (i : Int) b p.f0.f0 p.f0.f1 p.f0.f2 p.f0.f3 p.f1 p.f2) (if b = true then 19 else if 0 ≤ p.f1 ∧ p.f1 ≤ 1048576 ∧ 0 ≤ p.f2 ∧ p.f2 ≤ 1048576 ∧ ¬ (p.f1 = 0 ∧ p.f2 = 0) then rest else 18) := by
  refine Ev.shift ?_
  simp only [position_Check.j1, lots_some, Option.bind_some, decide_eq_true_eq]
  refine Ev.both (fun _ => Ev.val _) (fun _ => ?_)
  by_cases h1 : 0 ≤ p.f1 ∧ p.f1 ≤ 1048576
  · refine Ev.pos h1 ?_
    by_cases h2 : 0 ≤ p.f2 ∧ p.f2 ≤ 1048576
    · refine Ev.pos h2 ?_
      by_cases h3 : p.f1 = 0
      · refine Ev.pos h3 ?_
        by_cases h4 : p.f2 = 0
        · rw [if_neg (by omega)]
          exact Ev.pos h4 (Ev.val _)
        · rw [if_pos (by omega)]
          exact Ev.neg h4 h
      · rw [if_pos (by omega)]
        exact Ev.neg h3 h
    · rw [if_neg (by omega)]
      exact Ev.neg h2 (Ev.val _)
  · rw [if_neg (by omega)]
    exact Ev.neg h1 (Ev.val _)
theorem posOne (b : Bool) (c : Prop) [Decidable c] (a : Int) : (if (if b = true then (19 : Int) else if c then 0 else 18) = 0 then a else (if b = true then 19 else if c then 0 else 18)) = (if b = true then 19 else if c then a else 18) := by
  cases b <;> by_cases hc : c <;> simp [hc]
theorem rd_pos (l : List S97) (i : Nat) (h : i < l.length) : rd_T97 l (i : Int) = l[i] := by simp [rd_T97, h]
theorem posL (l : List S97) (hl : l.length ≤ 128) (n : Nat) : ∀ i : Nat, l.length - i = n → i ≤ l.length →
    Ev (fun k => position_Check.l0 k l l (l.length : Int) (i : Int)) (scan posF (prevAt l i) (l.drop i)) := by
  induction n with
  | zero =>
    intro i hi hle
    refine Ev.shift ?_
    simp only [position_Check.l0]
    rw [List.drop_eq_nil_of_le (by omega)]
    exact Ev.neg (by omega) (Ev.val _)
  | succ n ih =>
    intro i hi hle
    have hlt : i < l.length := by omega
    have hw : wrap64 ((i : Int) + 1) = ((i + 1 : Nat) : Int) := by unfold wrap64; omega
    have ih2 := ih (i + 1) (by omega) (by omega)
    rw [prevAt_succ l i hlt] at ih2
    refine Ev.shift ?_
    simp only [position_Check.l0, rd_pos l i hlt]
    rw [List.drop_eq_getElem_cons hlt, scan_cons]
    refine Ev.pos (by omega) (Ev.pos (by omega) (Ev.pos (by omega) ?_))
    by_cases h0 : i = 0
    · subst h0
      refine Ev.neg (by omega) ?_
      have hj := posJ l 0 false l[0] (scan posF (some l[0]) (l.drop (0 + 1))) (by rw [hw]; exact ih2)
      have e : (if posF (prevAt l 0) l[0] = 0 then scan posF (some l[0]) (l.drop (0 + 1)) else posF (prevAt l 0) l[0]) = _ := posOne false _ (scan posF (some l[0]) (l.drop (0 + 1)))
      rw [e]
      exact hj
    · have hw2 : wrap64 ((i : Int) - 1) = ((i - 1 : Nat) : Int) := by unfold wrap64; omega
      simp only [hw2]
      refine Ev.pos (by omega) (Ev.pos (by omega) (Ev.pos (by omega) ?_))
      rw [rd_pos l (i - 1) (by omega), cmp_ser]
      simp only [Option.bind_some]
      have hj := posJ l i (decide (cmpS l[i - 1].f0 l[i].f0 ≥ 0)) l[i] (scan posF (some l[i]) (l.drop (i + 1))) (by rw [hw]; exact ih2)
      have e : (if posF (prevAt l i) l[i] = 0 then scan posF (some l[i]) (l.drop (i + 1)) else posF (prevAt l i) l[i]) = (if decide (cmpS l[i - 1].f0 l[i].f0 ≥ 0) = true then 19 else if 0 ≤ l[i].f1 ∧ l[i].f1 ≤ 1048576 ∧ 0 ≤ l[i].f2 ∧ l[i].f2 ≤ 1048576 ∧ ¬ (l[i].f1 = 0 ∧ l[i].f2 = 0) then scan posF (some l[i]) (l.drop (i + 1)) else 18) := by
        rw [prevAt_pos l i (by omega) (by omega)]
        exact posOne (decide (cmpS l[i - 1].f0 l[i].f0 ≥ 0)) _ (scan posF (some l[i]) (l.drop (i + 1)))
      rw [e]
      exact hj
theorem posC_ev (l : List S97) : Ev (fun k => position_Check.f k l) (posC l) := by
  simp only [position_Check.f]
  unfold posC
  by_cases h : l.length > 128
  · rw [if_pos h]
    exact Ev.pos (by omega) (Ev.val _)
  · rw [if_neg h]
    exact Ev.neg (by omega) (posL l (by omega) l.length 0 (by omega) (by omega))
theorem order_some (a b : Int) : contangoref10_order.f a b = some (cmpI a b) := by
  unfold contangoref10_order.f cmpI
  split
  · rfl
  · split <;> rfl
theorem cmpr_ser (a b : S67) : contangoref10_Compare.f a.f0 a.f1 a.f2 a.f3 b.f0 b.f1 b.f2 b.f3 = some (cmpS a b) := by
  unfold contangoref10_Compare.f cmpS
  simp only [order_some, Option.bind_some]
  split
  · rfl
  · split
    · rfl
    · split
      · split <;> rfl
      · rfl
theorem lotsr_some (n : Int) : contangoref15_lots.f n = some (decide (0 ≤ n ∧ n ≤ 1048576)) := by
  unfold contangoref15_lots.f
  by_cases h : n ≥ 0
  · rw [if_pos h]
    congr 1
    exact decide_eq_decide.mpr ⟨fun h2 => ⟨h, h2⟩, fun h2 => h2.2⟩
  · rw [if_neg h]
    congr 1
    exact (decide_eq_false (by omega)).symm
theorem posrJ (l : List S97) (i : Nat) (hi : i < l.length) (b : Bool) (rest : Int)
    (h : Ev (fun k => contangoref15_Check.l0 k l (wrap64 ((i : Int) + 1))) rest) :
    Ev (fun k => contangoref15_Check.j1 k l (i : Int) b) (if b = true then 19 else if 0 ≤ l[i].f1 ∧ l[i].f1 ≤ 1048576 ∧ 0 ≤ l[i].f2 ∧ l[i].f2 ≤ 1048576 ∧ ¬ (l[i].f1 = 0 ∧ l[i].f2 = 0) then rest else 18) := by
  refine Ev.shift ?_
  simp only [contangoref15_Check.j1, lotsr_some, Option.bind_some, decide_eq_true_eq, rd_pos l i hi]
  refine Ev.both (fun _ => Ev.val _) (fun _ => Ev.pos (by omega) (Ev.pos (by omega) ?_))
  by_cases h1 : 0 ≤ l[i].f1 ∧ l[i].f1 ≤ 1048576
  · refine Ev.pos h1 ?_
    by_cases h2 : 0 ≤ l[i].f2 ∧ l[i].f2 ≤ 1048576
    · refine Ev.pos h2 ?_
      have hw : wrap64 (l[i].f1 + l[i].f2) = l[i].f1 + l[i].f2 := wrap_small (by omega) (by omega)
      rw [hw]
      by_cases h3 : l[i].f1 + l[i].f2 = 0
      · rw [if_neg (by omega)]
        exact Ev.pos h3 (Ev.val _)
      · rw [if_pos (by omega)]
        exact Ev.neg h3 h
    · rw [if_neg (by omega)]
      exact Ev.neg h2 (Ev.val _)
  · rw [if_neg (by omega)]
    exact Ev.neg h1 (Ev.val _)
theorem posrL (l : List S97) (hl : l.length ≤ 128) (n : Nat) : ∀ i : Nat, l.length - i = n → i ≤ l.length →
    Ev (fun k => contangoref15_Check.l0 k l (i : Int)) (scan posF (prevAt l i) (l.drop i)) := by
  induction n with
  | zero =>
    intro i hi hle
    refine Ev.shift ?_
    simp only [contangoref15_Check.l0]
    rw [List.drop_eq_nil_of_le (by omega)]
    exact Ev.neg (by omega) (Ev.val _)
  | succ n ih =>
    intro i hi hle
    have hlt : i < l.length := by omega
    have hw : wrap64 ((i : Int) + 1) = ((i + 1 : Nat) : Int) := by unfold wrap64; omega
    have ih2 := ih (i + 1) (by omega) (by omega)
    rw [prevAt_succ l i hlt] at ih2
    refine Ev.shift ?_
    simp only [contangoref15_Check.l0, rd_pos l i hlt]
    rw [List.drop_eq_getElem_cons hlt, scan_cons]
    refine Ev.pos (by omega) ?_
    by_cases h0 : i = 0
    · subst h0
      refine Ev.neg (by omega) ?_
      have hj := posrJ l 0 hlt false (scan posF (some l[0]) (l.drop (0 + 1))) (by rw [hw]; exact ih2)
      have e : (if posF (prevAt l 0) l[0] = 0 then scan posF (some l[0]) (l.drop (0 + 1)) else posF (prevAt l 0) l[0]) = _ := posOne false _ (scan posF (some l[0]) (l.drop (0 + 1)))
      rw [e]
      exact hj
    · have hw2 : wrap64 ((i : Int) - 1) = ((i - 1 : Nat) : Int) := by unfold wrap64; omega
      simp only [hw2]
      refine Ev.pos (by omega) (Ev.pos (by omega) (Ev.pos (by omega) (Ev.pos (by omega) ?_)))
      rw [rd_pos l (i - 1) (by omega), cmpr_ser]
      simp only [Option.bind_some]
      have hj := posrJ l i hlt (decide (cmpS l[i - 1].f0 l[i].f0 ≥ 0)) (scan posF (some l[i]) (l.drop (i + 1))) (by rw [hw]; exact ih2)
      have e : (if posF (prevAt l i) l[i] = 0 then scan posF (some l[i]) (l.drop (i + 1)) else posF (prevAt l i) l[i]) = (if decide (cmpS l[i - 1].f0 l[i].f0 ≥ 0) = true then 19 else if 0 ≤ l[i].f1 ∧ l[i].f1 ≤ 1048576 ∧ 0 ≤ l[i].f2 ∧ l[i].f2 ≤ 1048576 ∧ ¬ (l[i].f1 = 0 ∧ l[i].f2 = 0) then scan posF (some l[i]) (l.drop (i + 1)) else 18) := by
        rw [prevAt_pos l i (by omega) (by omega)]
        exact posOne (decide (cmpS l[i - 1].f0 l[i].f0 ≥ 0)) _ (scan posF (some l[i]) (l.drop (i + 1)))
      rw [e]
      exact hj
theorem posCr_ev (l : List S97) : Ev (fun k => contangoref15_Check.f k l) (posC l) := by
  simp only [contangoref15_Check.f]
  unfold posC
  by_cases h : l.length > 128
  · rw [if_pos h]
    exact Ev.pos (by omega) (Ev.val _)
  · rw [if_neg h]
    exact Ev.neg (by omega) (posrL l (by omega) l.length 0 (by omega) (by omega))
/-- The first position of a series. -/
def fdV (s : S67) : List S97 → ByteArray × Int × Int × Int × Int × Int
  | [] => (s.f0, s.f1, s.f2, s.f3, 0, 0)
  | p :: r => if eqD67 p.f0.f0 s.f0 p.f0.f1 s.f1 p.f0.f2 s.f2 p.f0.f3 s.f3 = true then (p.f0.f0, p.f0.f1, p.f0.f2, p.f0.f3, p.f1, p.f2) else fdV s r
theorem idxOf_spec {α : Type} (q : α → Bool) (l : List α) : ∀ i : Int, 0 ≤ i → (idxOf q l i = -1 ∧ ∀ x ∈ l, q x = false) ∨ ∃ j : Nat, ∃ h : j < l.length, idxOf q l i = i + j ∧ q l[j] = true ∧ ∀ n (hn : n < j), q (l[n]'(by omega)) = false := by
  induction l with
  | nil => intro i _; exact .inl ⟨rfl, fun x h => by cases h⟩
  | cons x r ih =>
    intro i hi
    rw [idxOf]
    by_cases h : q x = true
    · rw [if_pos h]
      exact .inr ⟨0, by simp, by simp, h, fun n hn => by omega⟩
    · rw [if_neg h]
      rcases ih (i + 1) (by omega) with ⟨h1, h2⟩ | ⟨j, hj, h1, h2, h3⟩
      · refine .inl ⟨h1, fun y hy => ?_⟩
        rcases List.mem_cons.mp hy with rfl | hy
        · simpa using h
        · exact h2 y hy
      · refine .inr ⟨j + 1, by simpa using hj, by rw [h1]; omega, h2, fun n hn => ?_⟩
        cases n with
        | zero => simpa using h
        | succ n => exact h3 n (by omega)
theorem fdV_none (s : S67) (l : List S97) (h : ∀ x ∈ l, position_place.q s.f0 s.f1 s.f2 s.f3 x = false) : fdV s l = (s.f0, s.f1, s.f2, s.f3, 0, 0) := by
  induction l with
  | nil => rfl
  | cons x r ih =>
    rw [fdV, if_neg (by have := h x List.mem_cons_self; rw [position_place.q] at this; rw [this]; decide)]
    exact ih (fun y hy => h y (List.mem_cons_of_mem _ hy))
theorem fdV_at (s : S67) (l : List S97) : ∀ j, (h : j < l.length) → position_place.q s.f0 s.f1 s.f2 s.f3 l[j] = true → (∀ n (hn : n < j), position_place.q s.f0 s.f1 s.f2 s.f3 (l[n]'(by omega)) = false) → fdV s l = (l[j].f0.f0, l[j].f0.f1, l[j].f0.f2, l[j].f0.f3, l[j].f1, l[j].f2) := by
  induction l with
  | nil => intro j h; cases h
  | cons x r ih =>
    intro j h hq hn
    cases j with
    | zero =>
      have hq2 : eqD67 x.f0.f0 s.f0 x.f0.f1 s.f1 x.f0.f2 s.f2 x.f0.f3 s.f3 = true := hq
      rw [fdV, if_pos hq2]
      rfl
    | succ j =>
      rw [fdV, if_neg (by have := hn 0 (by omega); simp only [List.getElem_cons_zero, position_place.q] at this; rw [this]; decide)]
      exact ih j (by simpa using h) hq (fun n hn2 => hn (n + 1) (by omega))
theorem fd_some (s : S67) (l : List S97) : position_Find.f l s.f0 s.f1 s.f2 s.f3 = some (fdV s l) := by
  simp only [position_Find.f, position_place.f, Option.bind_some]
  rcases idxOf_spec (position_place.q s.f0 s.f1 s.f2 s.f3) l 0 (Int.le_refl _) with ⟨h1, h2⟩ | ⟨j, hj, h1, h2, h3⟩
  · rw [h1, if_neg (by decide), fdV_none s l h2]
  · rw [h1, fdV_at s l j hj h2 h3, Int.zero_add, if_pos (by omega), if_pos (by omega), if_pos (by omega)]
    simp [rd_T97, hj]
theorem fdr_loop (s : S67) (l : List S97) (hl : l.length ≤ 9223372036854775806) (n : Nat) : ∀ i : Nat, l.length - i = n → i ≤ l.length → Ev (fun k => contangoref15_Find.l0 k l (i : Int) s.f0 s.f1 s.f2 s.f3) (fdV s (l.drop i)) := by
  induction n with
  | zero =>
    intro i hi hle
    refine Ev.shift ?_
    simp only [contangoref15_Find.l0]
    rw [List.drop_eq_nil_of_le (by omega)]
    exact Ev.neg (by omega) (Ev.val _)
  | succ n ih =>
    intro i hi hle
    have hlt : i < l.length := by omega
    have hw : wrap64 ((i : Int) + 1) = ((i + 1 : Nat) : Int) := by unfold wrap64; omega
    have hr : rd_T97 l (i : Int) = l[i] := by simp [rd_T97, hlt]
    refine Ev.shift ?_
    simp only [contangoref15_Find.l0, hr, hw]
    rw [List.drop_eq_getElem_cons hlt, fdV]
    exact Ev.pos (by omega) (Ev.pos (by omega) (Ev.both (fun _ => Ev.val _) (fun _ => ih (i + 1) (by omega) (by omega))))
theorem fdr_ev (s : S67) (l : List S97) (hl : l.length ≤ 9223372036854775806) : Ev (fun k => contangoref15_Find.f k l s.f0 s.f1 s.f2 s.f3) (fdV s l) := by
  simp only [contangoref15_Find.f]
  exact fdr_loop s l hl _ 0 rfl (by omega)
theorem wsc (i : Nat) (h : i < 1000000) : wrap64 ((i : Int) + 1) = ((i + 1 : Nat) : Int) := by unfold wrap64; omega
theorem rd_pt (l : List S60) (i : Nat) (h : i < l.length) : rd_T60 l (i : Int) = l[i] := by simp [rd_T60, h]
theorem rd_hd (l : List S94) (i : Nat) (h : i < l.length) : rd_T94 l (i : Int) = l[i] := by simp [rd_T94, h]
/-- Who has lots of a series, on both sides. -/
def sdG (s : S67) : List S94 → List S60 → List S60 → List S60 × List S60 × Int
  | [], a, b => (a, b, 0)
  | h :: r, a, b => if posC h.f1 = 0 then sdG s r (if (fdV s h.f1).2.2.2.2.1 > 0 then a ++ [⟨h.f0, (fdV s h.f1).2.2.2.2.1⟩] else a) (if (fdV s h.f1).2.2.2.2.2 > 0 then b ++ [⟨h.f0, (fdV s h.f1).2.2.2.2.2⟩] else b) else ([], [], posC h.f1)
theorem posC_len {l : List S97} (h : posC l = 0) : l.length ≤ 128 := by
  unfold posC at h
  by_cases c : l.length > 128
  · rw [if_pos c] at h; cases h
  · omega
theorem sdpL (s : S67) (l : List S94) (hl : l.length ≤ 1024) (n : Nat) : ∀ (i : Nat) (a b : List S60), l.length - i = n → i ≤ l.length → a.length ≤ i → b.length ≤ i →
    Ev (fun k => deliver_Sides.l0 k a b l (l.length : Int) (i : Int) s.f0 s.f1 s.f2 s.f3) (sdG s (l.drop i) a b) := by
  induction n with
  | zero =>
    intro i a b hi hle ha hb
    refine Ev.shift ?_
    simp only [deliver_Sides.l0]
    rw [show l.drop i = [] from List.drop_eq_nil_of_le (by omega), sdG]
    exact Ev.neg (by omega) (Ev.val _)
  | succ n ih =>
    intro i a b hi hle ha hb
    have hlt : i < l.length := by omega
    have ih2 := fun A B (hA : A.length ≤ i + 1) (hB : B.length ≤ i + 1) => ih (i + 1) A B (by omega) (by omega) hA hB
    refine Ev.shift ?_
    simp only [deliver_Sides.l0, rd_hd l i hlt, wsc i (by omega), fd_some, Option.bind_some]
    rw [List.drop_eq_getElem_cons hlt, sdG]
    refine Ev.pos (by omega) (Ev.pos (by omega) (Ev.pos (by omega) (Ev.bind (posC_ev _) ?_)))
    by_cases c0 : posC l[i].f1 = 0
    case neg => rw [if_neg c0]; exact Ev.neg c0 (Ev.val _)
    rw [if_pos c0]
    refine Ev.pos c0 ?_
    generalize hA : l[i].f0 = A at *
    generalize (fdV s l[i].f1).2.2.2.2.1 = x at *
    generalize (fdV s l[i].f1).2.2.2.2.2 = y at *
    by_cases c1 : x > 0
    · rw [if_pos c1]
      refine Ev.pos c1 (Ev.pos (by omega) ?_)
      by_cases c2 : y > 0
      · rw [if_pos c2]
        exact Ev.pos c2 (Ev.pos (by omega) (ih2 _ _ (by simp; omega) (by simp; omega)))
      · rw [if_neg c2]
        exact Ev.neg c2 (ih2 _ _ (by simp; omega) (by omega))
    · rw [if_neg c1]
      refine Ev.neg c1 ?_
      by_cases c2 : y > 0
      · rw [if_pos c2]
        exact Ev.pos c2 (Ev.pos (by omega) (ih2 _ _ (by omega) (by simp; omega)))
      · rw [if_neg c2]
        exact Ev.neg c2 (ih2 _ _ (by omega) (by omega))
theorem sdrL (s : S67) (l : List S94) (hl : l.length ≤ 1024) (n : Nat) : ∀ (i : Nat) (a b : List S60), l.length - i = n → i ≤ l.length → a.length ≤ i → b.length ≤ i →
    Ev (fun k => contangoref52_Sides.l0 k l a b (i : Int) s.f0 s.f1 s.f2 s.f3) (sdG s (l.drop i) a b) := by
  induction n with
  | zero =>
    intro i a b hi hle ha hb
    refine Ev.shift ?_
    simp only [contangoref52_Sides.l0]
    rw [show l.drop i = [] from List.drop_eq_nil_of_le (by omega), sdG]
    exact Ev.neg (by omega) (Ev.val _)
  | succ n ih =>
    intro i a b hi hle ha hb
    have hlt : i < l.length := by omega
    have ih2 := fun A B (hA : A.length ≤ i + 1) (hB : B.length ≤ i + 1) => ih (i + 1) A B (by omega) (by omega) hA hB
    refine Ev.shift ?_
    simp only [contangoref52_Sides.l0, rd_hd l i hlt, wsc i (by omega), Option.bind_some]
    rw [List.drop_eq_getElem_cons hlt, sdG]
    refine Ev.pos (by omega) (Ev.pos (by omega) (Ev.bind (posCr_ev _) ?_))
    by_cases c0 : posC l[i].f1 = 0
    case neg => rw [if_neg c0]; exact Ev.neg c0 (Ev.val _)
    rw [if_pos c0]
    have hpl := posC_len c0
    refine Ev.pos c0 (Ev.bind (fdr_ev s _ (by omega)) ?_)
    generalize hA : l[i].f0 = A at *
    generalize (fdV s l[i].f1).2.2.2.2.1 = x at *
    generalize (fdV s l[i].f1).2.2.2.2.2 = y at *
    by_cases c1 : x > 0
    · rw [if_pos c1]
      refine Ev.pos c1 (Ev.pos (by omega) ?_)
      by_cases c2 : y > 0
      · rw [if_pos c2]
        exact Ev.pos c2 (Ev.pos (by omega) (ih2 _ _ (by simp; omega) (by simp; omega)))
      · rw [if_neg c2]
        exact Ev.neg c2 (ih2 _ _ (by simp; omega) (by omega))
    · rw [if_neg c1]
      refine Ev.neg c1 ?_
      by_cases c2 : y > 0
      · rw [if_pos c2]
        exact Ev.pos c2 (Ev.pos (by omega) (ih2 _ _ (by omega) (by simp; omega)))
      · rw [if_neg c2]
        exact Ev.neg c2 (ih2 _ _ (by omega) (by omega))
theorem sdG_len (s : S67) (l : List S94) : ∀ a b, (sdG s l a b).1.length ≤ a.length + l.length ∧ (sdG s l a b).2.1.length ≤ b.length + l.length := by
  induction l with
  | nil => intro a b; exact ⟨Nat.le_refl _, Nat.le_refl _⟩
  | cons h r ih =>
    intro a b
    rw [sdG, List.length_cons]
    split
    · obtain ⟨h1, h2⟩ := ih (if (fdV s h.f1).2.2.2.2.1 > 0 then a ++ [⟨h.f0, (fdV s h.f1).2.2.2.2.1⟩] else a) (if (fdV s h.f1).2.2.2.2.2 > 0 then b ++ [⟨h.f0, (fdV s h.f1).2.2.2.2.2⟩] else b)
      refine ⟨Nat.le_trans h1 ?_, Nat.le_trans h2 ?_⟩
      · split <;> simp <;> omega
      · split <;> simp <;> omega
    · exact ⟨Nat.zero_le _, Nat.zero_le _⟩
def sdV52 (s : S67) (l : List S94) : List S60 × List S60 × Int := if l.length > 1024 then ([], [], 8) else sdG s l [] []
theorem sdp_ev (s : S67) (l : List S94) : Ev (fun k => deliver_Sides.f k l s.f0 s.f1 s.f2 s.f3) (sdV52 s l) := by
  unfold sdV52
  simp only [deliver_Sides.f]
  by_cases c : l.length > 1024
  · rw [if_pos c]; exact Ev.pos (by omega) (Ev.val _)
  · rw [if_neg c]
    have := sdpL s l (by omega) l.length 0 [] [] (by omega) (by omega) (Nat.le_refl _) (Nat.le_refl _)
    rw [List.drop_zero] at this
    exact Ev.neg (by omega) this
theorem sdr_ev (s : S67) (l : List S94) : Ev (fun k => contangoref52_Sides.f k l s.f0 s.f1 s.f2 s.f3) (sdV52 s l) := by
  unfold sdV52
  simp only [contangoref52_Sides.f]
  by_cases c : l.length > 1024
  · rw [if_pos c]; exact Ev.pos (by omega) (Ev.val _)
  · rw [if_neg c]
    have := sdrL s l (by omega) l.length 0 [] [] (by omega) (by omega) (Nat.le_refl _) (Nat.le_refl _)
    rw [List.drop_zero] at this
    exact Ev.neg (by omega) this
theorem sdV52_len (s : S67) (l : List S94) : (sdV52 s l).1.length ≤ 1024 ∧ (sdV52 s l).2.1.length ≤ 1024 := by
  unfold sdV52
  split
  · exact ⟨Nat.zero_le _, Nat.zero_le _⟩
  · have := sdG_len s l [] []
    rw [List.length_nil] at this
    omega
theorem few_ev (l : List S94) (hl : l.length ≤ 9223372036854775806) (n : Nat) : ∀ (i : Nat) (c : Int), l.length - i = n → i ≤ l.length → ∃ b, Ev (fun k => contangolaw52_few.l0 k l c (l.length : Int) (i : Int)) b := by
  induction n with
  | zero =>
    intro i c hi hle
    by_cases h : (l.length : Int) ≤ 1100
    · refine ⟨decide (c ≤ 3000), Ev.shift ?_⟩
      simp only [contangolaw52_few.l0]
      exact Ev.neg (by omega) (Ev.pos h (Ev.val _))
    · refine ⟨false, Ev.shift ?_⟩
      simp only [contangolaw52_few.l0]
      exact Ev.neg (by omega) (Ev.neg h (Ev.val _))
  | succ n ih =>
    intro i c hi hle
    have hlt : i < l.length := by omega
    have w : wrap64 ((i : Int) + 1) = ((i + 1 : Nat) : Int) := by unfold wrap64; omega
    obtain ⟨b, hb⟩ := ih (i + 1) (wrap64 (c + mn ((rd_T94 l (i : Int)).f1.length : Int) 1000)) (by omega) (by omega)
    refine ⟨b, Ev.shift ?_⟩
    simp only [contangolaw52_few.l0, w]
    clear w
    exact Ev.pos (by omega) (Ev.pos (by omega) (Ev.pos (by omega) hb))
theorem parts52L (l : List S60) (hl : l.length ≤ 100000) (n : Nat) : ∀ i : Nat, l.length - i = n → i ≤ l.length → Ev (fun k => contangoref52_Parts.l0 k l l (i : Int)) true := by
  induction n with
  | zero =>
    intro i hi hle
    refine Ev.shift ?_
    simp only [contangoref52_Parts.l0]
    exact Ev.neg (by omega) (Ev.val _)
  | succ n ih =>
    intro i hi hle
    refine Ev.shift ?_
    simp only [contangoref52_Parts.l0, wsc i (by omega)]
    exact Ev.pos (by omega) (Ev.pos (by omega) (Ev.pos (by omega) (Ev.pos (by simp [eqD60]) (ih (i + 1) (by omega) (by omega)))))
theorem parts52_ev (l : List S60) (hl : l.length ≤ 100000) : Ev (fun k => contangoref52_Parts.f k l l) true := by
  simp only [contangoref52_Parts.f]
  exact Ev.pos trivial (parts52L l hl l.length 0 (by omega) (by omega))
theorem goes_true : contangolaw52_goes.f 200 = some true := by decide +kernel
theorem goes_ev : Ev (fun k => contangolaw52_goes.f k) true := Ev.of goes_true (fun k => contangolaw52_goes.mono k)
theorem DeliverSides : contangolaw52_DeliverSides.Said := by
  intro l s hl _ _ _
  refine Ev.get ?_
  have hlz := hl.1
  rename_i hsz _
  simp only [contangolaw52_DeliverSides.f]
  obtain ⟨b, hb⟩ := few_ev l (by have := hsz.1; omega) l.length 0 0 (by omega) (by omega)
  refine Ev.bind (f := fun k t => if t = true then _ else _) (x := b) (by simp only [contangolaw52_few.f]; exact hb) ?_
  by_cases c : b = true
  · have hn := sdV52_len s l
    exact Ev.pos c (Ev.bind (sdp_ev s l) (Ev.bind (sdr_ev s l) (Ev.bind (parts52_ev _ (by omega)) (Ev.pos rfl (Ev.bind (parts52_ev _ (by omega)) (Ev.pos rfl (Ev.pos rfl (Ev.bind goes_ev (Ev.val _)))))))))
  · exact Ev.neg c (Ev.bind goes_ev (Ev.val _))
end Go.Proofs.Ytmgeoombebkfaaa.Pure
