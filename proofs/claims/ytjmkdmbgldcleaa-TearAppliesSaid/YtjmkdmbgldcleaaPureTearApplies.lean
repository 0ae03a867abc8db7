/- What is left of holdings when parts are taken out is what the document says: the law, as a statement over numbers and lists. -/
import Derived.Test.YtjmkdmbgldcleaaArgTearApplies
namespace Go.Proofs.Ytjmkdmbgldcleaa.Pure
set_option linter.unusedSimpArgs false
set_option linter.unusedVariables false
open Go.RowKit Go.Proofs.Ytjmkdmbgldcleaa.PTearApplies Go.Proofs.Ytjmkdmbgldcleaa.Opens Go.Proofs.YtjmkdmbgldcleaaW.PrintWords Go.Proofs.YtjmkdmbgldcleaaW.PrintLast
/-- Comes to r, at all large numbers of rounds. -/
def Ev {α : Type} (g : Nat → Option α) (r : α) : Prop := ∃ K, ∀ k, K ≤ k → g k = some r
theorem Ev.shift {α : Type} {g : Nat → Option α} {r : α} (h : Ev (fun k => g (k + 1)) r) : Ev g r := by
  obtain ⟨K, h⟩ := h
  refine ⟨K + 1, fun k hk => ?_⟩
  obtain ⟨m, rfl⟩ : ∃ m, k = m + 1 := ⟨k - 1, by omega⟩
  exact h m (by omega)
theorem Ev.val {α : Type} (r : α) : Ev (fun _ => some r) r := ⟨0, fun _ _ => rfl⟩
theorem Ev.bind {α β : Type} {g : Nat → Option α} {f : Nat → α → Option β} {x : α} {r : β} (h : Ev g x) (h' : Ev (fun k => f k x) r) : Ev (fun k => (g k).bind (f k)) r := by
  obtain ⟨K, h⟩ := h
  obtain ⟨K', h'⟩ := h'
  exact ⟨max K K', fun k hk => by show (g k).bind (f k) = some r; rw [h k (by omega)]; exact h' k (by omega)⟩
theorem Ev.get {α : Type} {g : Nat → Option α} {r : α} (h : Ev g r) : ∃ k, g k = some r := by
  obtain ⟨K, h⟩ := h
  exact ⟨K, h K (Nat.le_refl _)⟩
theorem Ev.of {α : Type} {g : Nat → Option α} {r : α} {k0 : Nat} (h : g k0 = some r) (hm : ∀ k, LeO (g k) (g (k + 1))) : Ev g r := ⟨k0, fun _ hk => at_rounds hm hk h⟩
theorem Ev.pos {α : Type} {c : Prop} [Decidable c] {a b : Nat → Option α} {r : α} (hc : c) (h : Ev a r) : Ev (fun k => if c then a k else b k) r := by
  obtain ⟨K, h⟩ := h
  exact ⟨K, fun k hk => by show (if c then a k else b k) = some r; rw [if_pos hc]; exact h k hk⟩
theorem Ev.neg {α : Type} {c : Prop} [Decidable c] {a b : Nat → Option α} {r : α} (hc : ¬ c) (h : Ev b r) : Ev (fun k => if c then a k else b k) r := by
  obtain ⟨K, h⟩ := h
  exact ⟨K, fun k hk => by show (if c then a k else b k) = some r; rw [if_neg hc]; exact h k hk⟩
/-- Both ways, each where it is taken. -/
theorem Ev.ite {α : Type} {c : Prop} [Decidable c] {a b : Nat → Option α} {r : α} (h : c → Ev a r) (h' : ¬ c → Ev b r) : Ev (fun k => if c then a k else b k) r := by
  by_cases hc : c
  · exact Ev.pos hc (h hc)
  · exact Ev.neg hc (h' hc)
theorem wrap_small {n : Int} (h0 : -9223372036854775808 ≤ n) (h1 : n ≤ 9223372036854775807) : wrap64 n = n := by unfold wrap64; omega
/-- Both ways, each with its own end. -/
theorem Ev.both {α : Type} {c : Prop} [Decidable c] {a b : Nat → Option α} {r s : α} (h : c → Ev a r) (h' : ¬ c → Ev b s) : Ev (fun k => if c then a k else b k) (if c then r else s) := by
  by_cases hc : c
  · rw [if_pos hc]; exact Ev.pos hc (h hc)
  · rw [if_neg hc]; exact Ev.neg hc (h' hc)
theorem Ev.valOf {α : Type} {r s : α} (h : s = r) : Ev (fun _ => some r) s := by subst h; exact Ev.val _
/-- The first fault of a list, each element looked at beside the one ahead of it. -/
def scan {α : Type} (f : Option α → α → Int) : Option α → List α → Int
  | _, [] => 0
  | q, p :: r => if f q p = 0 then scan f (some p) r else f q p
/-- The element ahead of a place. -/
def prevAt {α : Type} (l : List α) (i : Nat) : Option α := if i = 0 then none else l[i - 1]?
theorem prevAt_succ {α : Type} (l : List α) (i : Nat) (h : i < l.length) : prevAt l (i + 1) = some l[i] := by
  simp [prevAt, h]
theorem prevAt_pos {α : Type} (l : List α) (i : Nat) (h0 : 0 < i) (h : i - 1 < l.length) : prevAt l i = some l[i - 1] := by
  rw [prevAt, if_neg (by omega), List.getElem?_eq_getElem h]
theorem scan_cons {α : Type} (f : Option α → α → Int) (q : Option α) (p : α) (r : List α) : scan f q (p :: r) = if f q p = 0 then scan f (some p) r else f q p := rfl
theorem less_irrefl (a : List UInt8) : Op.bytesLess a a = false := by
  induction a with
  | nil => rfl
  | cons x r ih =>
    have h : ¬ x < x := fun h => by have := UInt8.lt_iff_toNat_lt.mp h; omega
    simp [Op.bytesLess, ih, h]
theorem less_trans (a : List UInt8) : ∀ b c : List UInt8, Op.bytesLess a b = true → Op.bytesLess b c = true → Op.bytesLess a c = true := by
  induction a with
  | nil =>
    intro b c h1 h2
    cases c with
    | nil => cases b <;> simp [Op.bytesLess] at h2
    | cons z c => rfl
  | cons x a ih =>
    intro b c h1 h2
    cases b with
    | nil => simp [Op.bytesLess] at h1
    | cons y b =>
      cases c with
      | nil => simp [Op.bytesLess] at h2
      | cons z c =>
        simp only [Op.bytesLess, Bool.or_eq_true, decide_eq_true_eq, Bool.and_eq_true, beq_iff_eq, UInt8.lt_iff_toNat_lt] at h1 h2 ⊢
        rcases h1 with h1 | ⟨rfl, h1⟩
        · rcases h2 with h2 | ⟨rfl, h2⟩
          · exact Or.inl (by omega)
          · exact Or.inl h1
        · rcases h2 with h2 | ⟨rfl, h2⟩
          · exact Or.inl h2
          · exact Or.inr ⟨rfl, ih _ _ h1 h2⟩
theorem less_flip {a b : List UInt8} (h : ¬ Op.bytesLess a b = true) (hne : b ≠ a) : Op.bytesLess b a = true := by
  have := Go.Proofs.YtjmkdmbgldcleaaHand.bytesLess_flip b a
  have h' : Op.bytesLess a b = false := by simpa using h
  rw [h', beq_eq_false_iff_ne.mpr hne] at this
  simpa using this
theorem less_ne {a b : List UInt8} (h : Op.bytesLess a b = true) : a ≠ b := by
  intro e
  subst e
  rw [less_irrefl] at h
  cases h
/-- The order of numbers, as a number. -/
def cmpI (a b : Int) : Int := if a < b then -1 else if a > b then 1 else 0
/-- The order of series, as a number. -/
def cmpS (a b : S24) : Int := if Op.bytesLess a.f0.toList b.f0.toList = true then -1 else if Op.bytesLess b.f0.toList a.f0.toList = true then 1 else if a.f2 = b.f2 then (if a.f1 = b.f1 then cmpI a.f3 b.f3 else cmpI a.f1 b.f1) else cmpI a.f2 b.f2
theorem cmp_int (a b : Int) : cmp_Compare_int.f a b = some (cmpI a b) := by
  unfold cmp_Compare_int.f cmp_isNaN_int.f cmpI
  simp only [Option.bind_some, bne_self_eq_false, Bool.false_eq_true, if_false]
  split
  · rfl
  · split <;> rfl
theorem cmp_str (a b : ByteArray) : cmp_Compare_string.f a b = some (if Op.bytesLess a.toList b.toList = true then -1 else if Op.bytesLess b.toList a.toList = true then 1 else 0) := by
  unfold cmp_Compare_string.f cmp_isNaN_string.f
  simp only [Option.bind_some, bne_self_eq_false, Bool.false_eq_true, if_false]
  split
  · rfl
  · split <;> rfl
theorem cmpI_self (a : Int) : cmpI a a = 0 := by unfold cmpI; rw [if_neg (by omega), if_neg (by omega)]
theorem cmp_ser (a b : S24) : series_Compare.f a.f0 a.f1 a.f2 a.f3 b.f0 b.f1 b.f2 b.f3 = some (cmpS a b) := by
  unfold series_Compare.f
  by_cases h : (eqD24 a.f0 b.f0 a.f1 b.f1 a.f2 b.f2 a.f3 b.f3) = true
  · rw [if_pos h]
    unfold eqD24 at h
    simp only [Bool.and_eq_true, beq_iff_eq] at h
    obtain ⟨h1, h2, h3, h4⟩ := h
    unfold cmpS
    rw [h1, h2, h3, h4, less_irrefl]
    simp [cmpI_self]
  · rw [if_neg h]
    by_cases h1 : a.f0.toList = b.f0.toList
    · rw [if_pos h1]
      unfold cmpS
      rw [h1, less_irrefl]
      simp only [cmp_int, Option.bind_some, Bool.false_eq_true, if_false]
      split
      · split <;> rfl
      · rfl
    · rw [if_neg h1, cmp_str]
      unfold cmpS
      by_cases h2 : Op.bytesLess a.f0.toList b.f0.toList = true
      · rw [if_pos h2, if_pos h2]; rfl
      · rw [if_neg h2, if_neg h2, if_pos (less_flip h2 (fun e => h1 e.symm)), if_pos (less_flip h2 (fun e => h1 e.symm))]; rfl
/-- What is amiss with a position, beside the one ahead of it. -/
def posF (q : Option S52) (p : S52) : Int :=
  if (match q with | none => false | some q => decide (cmpS q.f0 p.f0 ≥ 0)) = true then 19 else if 0 ≤ p.f1 ∧ p.f1 ≤ 1048576 ∧ 0 ≤ p.f2 ∧ p.f2 ≤ 1048576 ∧ ¬ (p.f1 = 0 ∧ p.f2 = 0) then 0 else 18
/-- What is amiss with positions. -/
def posC (l : List S52) : Int := if l.length > 128 then 8 else scan posF none l
theorem lots_some (n : Int) : position_lots.f n = some (decide (0 ≤ n ∧ n ≤ 1048576)) := by
  unfold position_lots.f
  by_cases h : n ≥ 0
  · rw [if_pos h]
    congr 1
    exact decide_eq_decide.mpr ⟨fun h2 => ⟨h, h2⟩, fun h2 => h2.2⟩
  · rw [if_neg h]
    congr 1
    exact (decide_eq_false (by omega)).symm
theorem posJ (l : List S52) (i : Nat) (b : Bool) (p : S52) (rest : Int)
    (h : Ev (fun k => position_Check.l0 k l l (l.length : Int) (wrap64 ((i : Int) + 1))) rest) :
    Ev (fun k => position_Check.j1 k l l (l.length : Int) (i : Int) b p.f0.f0 p.f0.f1 p.f0.f2 p.f0.f3 p.f1 p.f2) (if b = true then 19 else if 0 ≤ p.f1 ∧ p.f1 ≤ 1048576 ∧ 0 ≤ p.f2 ∧ p.f2 ≤ 1048576 ∧ ¬ (p.f1 = 0 ∧ p.f2 = 0) then rest else 18) := by
  refine Ev.shift ?_
  simp only [position_Check.j1, lots_some, Option.bind_some, decide_eq_true_eq]
  refine Ev.both (fun _ => Ev.val _) (fun _ => ?_)
  by_cases h1 : 0 ≤ p.f1 ∧ p.f1 ≤ 1048576
  · refine Ev.pos h1 ?_
    by_cases h2 : 0 ≤ p.f2 ∧ p.f2 ≤ 1048576
    · refine Ev.pos h2 ?_
      by_cases h3 : p.f1 = 0
      · refine Ev.pos h3 ?_
        by_cases h4 : p.f2 = 0
        · rw [if_neg (by omega)]
          exact Ev.pos h4 (Ev.val _)
        · rw [if_pos (by omega)]
          exact Ev.neg h4 h
      · rw [if_pos (by omega)]
        exact Ev.neg h3 h
    · rw [if_neg (by omega)]
      exact Ev.neg h2 (Ev.val _)
  · rw [if_neg (by omega)]
    exact Ev.neg h1 (Ev.val _)
theorem posOne (b : Bool) (c : Prop) [Decidable c] (a : Int) : (if (if b = true then (19 : Int) else if c then 0 else 18) = 0 then a else (if b = true then 19 else if c then 0 else 18)) = (if b = true then 19 else if c then a else 18) := by
  cases b <;> by_cases hc : c <;> simp [hc]
theorem rd_pos (l : List S52) (i : Nat) (h : i < l.length) : rd_T52 l (i : Int) = l[i] := by simp [rd_T52, h]
theorem posL (l : List S52) (hl : l.length ≤ 128) (n : Nat) : ∀ i : Nat, l.length - i = n → i ≤ l.length →
    Ev (fun k => position_Check.l0 k l l (l.length : Int) (i : Int)) (scan posF (prevAt l i) (l.drop i)) := by
  induction n with
  | zero =>
    intro i hi hle
    refine Ev.shift ?_
    simp only [position_Check.l0]
    rw [List.drop_eq_nil_of_le (by omega)]
    exact Ev.neg (by omega) (Ev.val _)
  | succ n ih =>
    intro i hi hle
    have hlt : i < l.length := by omega
    have hw : wrap64 ((i : Int) + 1) = ((i + 1 : Nat) : Int) := by unfold wrap64; omega
    have ih2 := ih (i + 1) (by omega) (by omega)
    rw [prevAt_succ l i hlt] at ih2
    refine Ev.shift ?_
    simp only [position_Check.l0, rd_pos l i hlt]
    rw [List.drop_eq_getElem_cons hlt, scan_cons]
    refine Ev.pos (by omega) (Ev.pos (by omega) (Ev.pos (by omega) ?_))
    by_cases h0 : i = 0
    · subst h0
      refine Ev.neg (by omega) ?_
      have hj := posJ l 0 false l[0] (scan posF (some l[0]) (l.drop (0 + 1))) (by rw [hw]; exact ih2)
      have e : (if posF (prevAt l 0) l[0] = 0 then scan posF (some l[0]) (l.drop (0 + 1)) else posF (prevAt l 0) l[0]) = _ := posOne false _ (scan posF (some l[0]) (l.drop (0 + 1)))
      rw [e]
      exact hj
    · have hw2 : wrap64 ((i : Int) - 1) = ((i - 1 : Nat) : Int) := by unfold wrap64; omega
      simp only [hw2]
      refine Ev.pos (by omega) (Ev.pos (by omega) (Ev.pos (by omega) ?_))
      rw [rd_pos l (i - 1) (by omega), cmp_ser]
      simp only [Option.bind_some]
      have hj := posJ l i (decide (cmpS l[i - 1].f0 l[i].f0 ≥ 0)) l[i] (scan posF (some l[i]) (l.drop (i + 1))) (by rw [hw]; exact ih2)
      have e : (if posF (prevAt l i) l[i] = 0 then scan posF (some l[i]) (l.drop (i + 1)) else posF (prevAt l i) l[i]) = (if decide (cmpS l[i - 1].f0 l[i].f0 ≥ 0) = true then 19 else if 0 ≤ l[i].f1 ∧ l[i].f1 ≤ 1048576 ∧ 0 ≤ l[i].f2 ∧ l[i].f2 ≤ 1048576 ∧ ¬ (l[i].f1 = 0 ∧ l[i].f2 = 0) then scan posF (some l[i]) (l.drop (i + 1)) else 18) := by
        rw [prevAt_pos l i (by omega) (by omega)]
        exact posOne (decide (cmpS l[i - 1].f0 l[i].f0 ≥ 0)) _ (scan posF (some l[i]) (l.drop (i + 1)))
      rw [e]
      exact hj
theorem posC_ev (l : List S52) : Ev (fun k => position_Check.f k l) (posC l) := by
  simp only [position_Check.f]
  unfold posC
  by_cases h : l.length > 128
  · rw [if_pos h]
    exact Ev.pos (by omega) (Ev.val _)
  · rw [if_neg h]
    exact Ev.neg (by omega) (posL l (by omega) l.length 0 (by omega) (by omega))
theorem order_some (a b : Int) : contangoref10_order.f a b = some (cmpI a b) := by
  unfold contangoref10_order.f cmpI
  split
  · rfl
  · split <;> rfl
theorem cmpr_ser (a b : S24) : contangoref10_Compare.f a.f0 a.f1 a.f2 a.f3 b.f0 b.f1 b.f2 b.f3 = some (cmpS a b) := by
  unfold contangoref10_Compare.f cmpS
  simp only [order_some, Option.bind_some]
  split
  · rfl
  · split
    · rfl
    · split
      · split <;> rfl
      · rfl
theorem lotsr_some (n : Int) : contangoref15_lots.f n = some (decide (0 ≤ n ∧ n ≤ 1048576)) := by
  unfold contangoref15_lots.f
  by_cases h : n ≥ 0
  · rw [if_pos h]
    congr 1
    exact decide_eq_decide.mpr ⟨fun h2 => ⟨h, h2⟩, fun h2 => h2.2⟩
  · rw [if_neg h]
    congr 1
    exact (decide_eq_false (by omega)).symm
theorem posrJ (l : List S52) (i : Nat) (hi : i < l.length) (b : Bool) (rest : Int)
    (h : Ev (fun k => contangoref15_Check.l0 k l (wrap64 ((i : Int) + 1))) rest) :
    Ev (fun k => contangoref15_Check.j1 k l (i : Int) b) (if b = true then 19 else if 0 ≤ l[i].f1 ∧ l[i].f1 ≤ 1048576 ∧ 0 ≤ l[i].f2 ∧ l[i].f2 ≤ 1048576 ∧ ¬ (l[i].f1 = 0 ∧ l[i].f2 = 0) then rest else 18) := by
  refine Ev.shift ?_
  simp only [contangoref15_Check.j1, lotsr_some, Option.bind_some, decide_eq_true_eq, rd_pos l i hi]
  refine Ev.both (fun _ => Ev.val _) (fun _ => Ev.pos (by omega) (Ev.pos (by omega) ?_))
  by_cases h1 : 0 ≤ l[i].f1 ∧ l[i].f1 ≤ 1048576
  · refine Ev.pos h1 ?_
    by_cases h2 : 0 ≤ l[i].f2 ∧ l[i].f2 ≤ 1048576
    · refine Ev.pos h2 ?_
      have hw : wrap64 (l[i].f1 + l[i].f2) = l[i].f1 + l[i].f2 := wrap_small (by omega) (by omega)
      rw [hw]
      by_cases h3 : l[i].f1 + l[i].f2 = 0
      · rw [if_neg (by omega)]
        exact Ev.pos h3 (Ev.val _)
      · rw [if_pos (by omega)]
        exact Ev.neg h3 h
    · rw [if_neg (by omega)]
      exact Ev.neg h2 (Ev.val _)
  · rw [if_neg (by omega)]
    exact Ev.neg h1 (Ev.val _)
theorem posrL (l : List S52) (hl : l.length ≤ 128) (n : Nat) : ∀ i : Nat, l.length - i = n → i ≤ l.length →
    Ev (fun k => contangoref15_Check.l0 k l (i : Int)) (scan posF (prevAt l i) (l.drop i)) := by
  induction n with
  | zero =>
    intro i hi hle
    refine Ev.shift ?_
    simp only [contangoref15_Check.l0]
    rw [List.drop_eq_nil_of_le (by omega)]
    exact Ev.neg (by omega) (Ev.val _)
  | succ n ih =>
    intro i hi hle
    have hlt : i < l.length := by omega
    have hw : wrap64 ((i : Int) + 1) = ((i + 1 : Nat) : Int) := by unfold wrap64; omega
    have ih2 := ih (i + 1) (by omega) (by omega)
    rw [prevAt_succ l i hlt] at ih2
    refine Ev.shift ?_
    simp only [contangoref15_Check.l0, rd_pos l i hlt]
    rw [List.drop_eq_getElem_cons hlt, scan_cons]
    refine Ev.pos (by omega) ?_
    by_cases h0 : i = 0
    · subst h0
      refine Ev.neg (by omega) ?_
      have hj := posrJ l 0 hlt false (scan posF (some l[0]) (l.drop (0 + 1))) (by rw [hw]; exact ih2)
      have e : (if posF (prevAt l 0) l[0] = 0 then scan posF (some l[0]) (l.drop (0 + 1)) else posF (prevAt l 0) l[0]) = _ := posOne false _ (scan posF (some l[0]) (l.drop (0 + 1)))
      rw [e]
      exact hj
    · have hw2 : wrap64 ((i : Int) - 1) = ((i - 1 : Nat) : Int) := by unfold wrap64; omega
      simp only [hw2]
      refine Ev.pos (by omega) (Ev.pos (by omega) (Ev.pos (by omega) (Ev.pos (by omega) ?_)))
      rw [rd_pos l (i - 1) (by omega), cmpr_ser]
      simp only [Option.bind_some]
      have hj := posrJ l i hlt (decide (cmpS l[i - 1].f0 l[i].f0 ≥ 0)) (scan posF (some l[i]) (l.drop (i + 1))) (by rw [hw]; exact ih2)
      have e : (if posF (prevAt l i) l[i] = 0 then scan posF (some l[i]) (l.drop (i + 1)) else posF (prevAt l i) l[i]) = (if decide (cmpS l[i - 1].f0 l[i].f0 ≥ 0) = true then 19 else if 0 ≤ l[i].f1 ∧ l[i].f1 ≤ 1048576 ∧ 0 ≤ l[i].f2 ∧ l[i].f2 ≤ 1048576 ∧ ¬ (l[i].f1 = 0 ∧ l[i].f2 = 0) then scan posF (some l[i]) (l.drop (i + 1)) else 18) := by
        rw [prevAt_pos l i (by omega) (by omega)]
        exact posOne (decide (cmpS l[i - 1].f0 l[i].f0 ≥ 0)) _ (scan posF (some l[i]) (l.drop (i + 1)))
      rw [e]
      exact hj
theorem posCr_ev (l : List S52) : Ev (fun k => contangoref15_Check.f k l) (posC l) := by
  simp only [contangoref15_Check.f]
  unfold posC
  by_cases h : l.length > 128
  · rw [if_pos h]
    exact Ev.pos (by omega) (Ev.val _)
  · rw [if_neg h]
    exact Ev.neg (by omega) (posrL l (by omega) l.length 0 (by omega) (by omega))
/-- The first position of a series. -/
def fdV (s : S24) : List S52 → ByteArray × Int × Int × Int × Int × Int
  | [] => (s.f0, s.f1, s.f2, s.f3, 0, 0)
  | p :: r => if eqD24 p.f0.f0 s.f0 p.f0.f1 s.f1 p.f0.f2 s.f2 p.f0.f3 s.f3 = true then (p.f0.f0, p.f0.f1, p.f0.f2, p.f0.f3, p.f1, p.f2) else fdV s r
theorem idxOf_spec {α : Type} (q : α → Bool) (l : List α) : ∀ i : Int, 0 ≤ i → (idxOf q l i = -1 ∧ ∀ x ∈ l, q x = false) ∨ ∃ j : Nat, ∃ h : j < l.length, idxOf q l i = i + j ∧ q l[j] = true ∧ ∀ n (hn : n < j), q (l[n]'(by omega)) = false := by
  induction l with
  | nil => intro i _; exact .inl ⟨rfl, fun x h => by cases h⟩
  | cons x r ih =>
    intro i hi
    rw [idxOf]
    by_cases h : q x = true
    · rw [if_pos h]
      exact .inr ⟨0, by simp, by simp, h, fun n hn => by omega⟩
    · rw [if_neg h]
      rcases ih (i + 1) (by omega) with ⟨h1, h2⟩ | ⟨j, hj, h1, h2, h3⟩
      · refine .inl ⟨h1, fun y hy => ?_⟩
        rcases List.mem_cons.mp hy with rfl | hy
        · simpa using h
        · exact h2 y hy
      · refine .inr ⟨j + 1, by simpa using hj, by rw [h1]; omega, h2, fun n hn => ?_⟩
        cases n with
        | zero => simpa using h
        | succ n => exact h3 n (by omega)
theorem fdV_none (s : S24) (l : List S52) (h : ∀ x ∈ l, position_place.q s.f0 s.f1 s.f2 s.f3 x = false) : fdV s l = (s.f0, s.f1, s.f2, s.f3, 0, 0) := by
  induction l with
  | nil => rfl
  | cons x r ih =>
    rw [fdV, if_neg (by have := h x List.mem_cons_self; rw [position_place.q] at this; rw [this]; decide)]
    exact ih (fun y hy => h y (List.mem_cons_of_mem _ hy))
theorem fdV_at (s : S24) (l : List S52) : ∀ j, (h : j < l.length) → position_place.q s.f0 s.f1 s.f2 s.f3 l[j] = true → (∀ n (hn : n < j), position_place.q s.f0 s.f1 s.f2 s.f3 (l[n]'(by omega)) = false) → fdV s l = (l[j].f0.f0, l[j].f0.f1, l[j].f0.f2, l[j].f0.f3, l[j].f1, l[j].f2) := by
  induction l with
  | nil => intro j h; cases h
  | cons x r ih =>
    intro j h hq hn
    cases j with
    | zero =>
      have hq2 : eqD24 x.f0.f0 s.f0 x.f0.f1 s.f1 x.f0.f2 s.f2 x.f0.f3 s.f3 = true := hq
      rw [fdV, if_pos hq2]
      rfl
    | succ j =>
      rw [fdV, if_neg (by have := hn 0 (by omega); simp only [List.getElem_cons_zero, position_place.q] at this; rw [this]; decide)]
      exact ih j (by simpa using h) hq (fun n hn2 => hn (n + 1) (by omega))
theorem fd_some (s : S24) (l : List S52) : position_Find.f l s.f0 s.f1 s.f2 s.f3 = some (fdV s l) := by
  simp only [position_Find.f, position_place.f, Option.bind_some]
  rcases idxOf_spec (position_place.q s.f0 s.f1 s.f2 s.f3) l 0 (Int.le_refl _) with ⟨h1, h2⟩ | ⟨j, hj, h1, h2, h3⟩
  · rw [h1, if_neg (by decide), fdV_none s l h2]
  · rw [h1, fdV_at s l j hj h2 h3, Int.zero_add, if_pos (by omega), if_pos (by omega), if_pos (by omega)]
    simp [rd_T52, hj]
theorem fdr_loop (s : S24) (l : List S52) (hl : l.length ≤ 9223372036854775806) (n : Nat) : ∀ i : Nat, l.length - i = n → i ≤ l.length → Ev (fun k => contangoref15_Find.l0 k l (i : Int) s.f0 s.f1 s.f2 s.f3) (fdV s (l.drop i)) := by
  induction n with
  | zero =>
    intro i hi hle
    refine Ev.shift ?_
    simp only [contangoref15_Find.l0]
    rw [List.drop_eq_nil_of_le (by omega)]
    exact Ev.neg (by omega) (Ev.val _)
  | succ n ih =>
    intro i hi hle
    have hlt : i < l.length := by omega
    have hw : wrap64 ((i : Int) + 1) = ((i + 1 : Nat) : Int) := by unfold wrap64; omega
    have hr : rd_T52 l (i : Int) = l[i] := by simp [rd_T52, hlt]
    refine Ev.shift ?_
    simp only [contangoref15_Find.l0, hr, hw]
    rw [List.drop_eq_getElem_cons hlt, fdV]
    exact Ev.pos (by omega) (Ev.pos (by omega) (Ev.both (fun _ => Ev.val _) (fun _ => ih (i + 1) (by omega) (by omega))))
theorem fdr_ev (s : S24) (l : List S52) (hl : l.length ≤ 9223372036854775806) : Ev (fun k => contangoref15_Find.f k l s.f0 s.f1 s.f2 s.f3) (fdV s l) := by
  simp only [contangoref15_Find.f]
  exact fdr_loop s l hl _ 0 rfl (by omega)
theorem wsc (i : Nat) (h : i < 1000000) : wrap64 ((i : Int) + 1) = ((i + 1 : Nat) : Int) := by unfold wrap64; omega
theorem rd_hd (l : List S58) (i : Nat) (h : i < l.length) : rd_T58 l (i : Int) = l[i] := by simp [rd_T58, h]
/-- The first of holdings that may not be, and why. -/
def pcV : List S58 → Int
  | [] => 0
  | h :: r => if posC h.f1 = 0 then pcV r else posC h.f1
def tcV (l : List S58) : Int := if 1024 < l.length then 8 else pcV l
theorem pc_ev (l : List S58) : Ev (fun k => tear_check.pos k l) (pcV l) := by
  induction l with
  | nil => simp only [tear_check.pos]; exact Ev.val _
  | cons h r ih =>
    rw [pcV]
    simp only [tear_check.pos]
    refine Ev.bind (posC_ev h.f1) ?_
    by_cases c : posC h.f1 = 0
    · rw [if_pos c]; exact Ev.pos c ih
    · rw [if_neg c]; exact Ev.neg c (Ev.val _)
theorem tc_ev (l : List S58) : Ev (fun k => tear_check.f k l []) (tcV l) := by
  unfold tcV
  simp only [tear_check.f]
  by_cases c : 1024 < l.length
  · rw [if_pos c]; exact Ev.pos (.inr c) (Ev.val _)
  · rw [if_neg c]; exact Ev.neg (fun h => h.elim (fun h => by simp at h) c) (pc_ev l)
theorem tcrL (l : List S58) (hl : l.length ≤ 1024) (n : Nat) : ∀ i : Nat, l.length - i = n → i ≤ l.length → Ev (fun k => contangoref50_check.l0 k l (i : Int)) (pcV (l.drop i)) := by
  induction n with
  | zero =>
    intro i hi hle
    refine Ev.shift ?_
    simp only [contangoref50_check.l0]
    rw [show l.drop i = [] from List.drop_eq_nil_of_le (by omega), pcV]
    exact Ev.neg (by omega) (Ev.val _)
  | succ n ih =>
    intro i hi hle
    have hlt : i < l.length := by omega
    refine Ev.shift ?_
    simp only [contangoref50_check.l0, rd_hd l i hlt, wsc i (by omega)]
    rw [List.drop_eq_getElem_cons hlt, pcV]
    refine Ev.pos (by omega) (Ev.pos (by omega) (Ev.bind (posCr_ev _) ?_))
    by_cases c : posC l[i].f1 = 0
    · rw [if_pos c]; exact Ev.pos c (ih (i + 1) (by omega) (by omega))
    · rw [if_neg c]; exact Ev.neg c (Ev.val _)
theorem tcr_ev (l : List S58) : Ev (fun k => contangoref50_check.f k l) (tcV l) := by
  unfold tcV
  simp only [contangoref50_check.f]
  by_cases c : 1024 < l.length
  · rw [if_pos c]; exact Ev.pos (by omega) (Ev.val _)
  · rw [if_neg c]
    have := tcrL l (by omega) l.length 0 (by omega) (by omega)
    rw [List.drop_zero] at this
    exact Ev.neg (by omega) this
theorem tcV_len {l : List S58} (h : tcV l = 0) : l.length ≤ 1024 ∧ pcV l = 0 := by
  unfold tcV at h
  by_cases c : 1024 < l.length
  · rw [if_pos c] at h; cases h
  · rw [if_neg c] at h; exact ⟨by omega, h⟩
theorem pcV_at {l : List S58} (h : pcV l = 0) : ∀ x ∈ l, posC x.f1 = 0 := by
  induction l with
  | nil => intro x hx; cases hx
  | cons y r ih =>
    intro x hx
    rw [pcV] at h
    by_cases c : posC y.f1 = 0
    · rw [if_pos c] at h
      rcases List.mem_cons.mp hx with e | hx
      · rw [e]; exact c
      · exact ih h x hx
    · rw [if_neg c] at h; exact absurd h c
theorem posC_len {l : List S52} (h : posC l = 0) : l.length ≤ 128 := by
  unfold posC at h
  by_cases c : l.length > 128
  · rw [if_pos c] at h; cases h
  · omega
theorem sd50_some (a : ByteArray) (b c d L S : Int) (long : Bool) : contangoref50_side.f a b c d L S long = some (if long = true then L else S) := by
  unfold contangoref50_side.f
  split <;> rfl
/-- One series ahead of another one. -/
theorem cmpS_lt (a b : S24) : cmpS a b < 0 ↔ Op.bytesLess a.f0.toList b.f0.toList = true ∨ (a.f0.toList = b.f0.toList ∧ (a.f2 < b.f2 ∨ (a.f2 = b.f2 ∧ (a.f1 < b.f1 ∨ (a.f1 = b.f1 ∧ a.f3 < b.f3))))) := by
  unfold cmpS cmpI
  by_cases h1 : Op.bytesLess a.f0.toList b.f0.toList = true
  · rw [if_pos h1]; exact ⟨fun _ => .inl h1, fun _ => by decide⟩
  rw [if_neg h1]
  by_cases h2 : Op.bytesLess b.f0.toList a.f0.toList = true
  · rw [if_pos h2]
    refine ⟨fun h => absurd h (by decide), fun h => ?_⟩
    rcases h with h | ⟨e, _⟩
    · exact absurd h h1
    · rw [e, less_irrefl] at h2; cases h2
  rw [if_neg h2]
  have e : a.f0.toList = b.f0.toList := Classical.byContradiction fun hne => h1 (less_flip h2 hne)
  constructor
  · intro h
    refine .inr ⟨e, ?_⟩
    clear h1 h2 e
    (repeat' split at h) <;> omega
  · rintro (h | ⟨_, h⟩)
    · exact absurd h h1
    · clear h1 h2 e
      (repeat' split) <;> omega
theorem cmpS_trans {a b c : S24} (h1 : cmpS a b < 0) (h2 : cmpS b c < 0) : cmpS a c < 0 := by
  rw [cmpS_lt] at *
  rcases h1 with h1 | ⟨e1, h1⟩
  · rcases h2 with h2 | ⟨e2, _⟩
    · exact .inl (less_trans _ _ _ h1 h2)
    · exact .inl (by rw [← e2]; exact h1)
  · rcases h2 with h2 | ⟨e2, h2⟩
    · exact .inl (by rw [e1]; exact h2)
    · exact .inr ⟨e1.trans e2, by omega⟩
def posB (p : S52) : Prop := 0 ≤ p.f1 ∧ p.f1 ≤ 1048576 ∧ 0 ≤ p.f2 ∧ p.f2 ≤ 1048576 ∧ ¬ (p.f1 = 0 ∧ p.f2 = 0)
theorem posF_zero {q : Option S52} {p : S52} (h : posF q p = 0) : (∀ q', q = some q' → cmpS q'.f0 p.f0 < 0) ∧ posB p := by
  have hd : 0 ≤ p.f1 ∧ p.f1 ≤ 1048576 ∧ 0 ≤ p.f2 ∧ p.f2 ≤ 1048576 ∧ ¬ (p.f1 = 0 ∧ p.f2 = 0) := by
    by_cases d : 0 ≤ p.f1 ∧ p.f1 ≤ 1048576 ∧ 0 ≤ p.f2 ∧ p.f2 ≤ 1048576 ∧ ¬ (p.f1 = 0 ∧ p.f2 = 0)
    · exact d
    · exfalso
      unfold posF at h
      rw [if_neg d] at h
      exact (show ∀ b : Bool, (if b = true then (19 : Int) else 18) ≠ 0 from by intro b; cases b <;> decide) _ h
  refine ⟨fun q' e => ?_, hd⟩
  subst e
  unfold posF at h
  by_cases c : cmpS q'.f0 p.f0 ≥ 0
  · rw [if_pos (decide_eq_true c)] at h; cases h
  · clear h hd
    omega
theorem scan_rise (l : List S52) : ∀ q : Option S52, scan posF q l = 0 → l.Pairwise (fun a b => cmpS a.f0 b.f0 < 0) ∧ (∀ q', q = some q' → ∀ p ∈ l, cmpS q'.f0 p.f0 < 0) ∧ ∀ p ∈ l, posB p := by
  induction l with
  | nil => intro q _; exact ⟨List.Pairwise.nil, fun _ _ p hp => (by cases hp), fun p hp => (by cases hp)⟩
  | cons p r ih =>
    intro q h
    rw [scan_cons] at h
    by_cases c : posF q p = 0
    · rw [if_pos c] at h
      obtain ⟨i1, i2, i3⟩ := ih (some p) h
      obtain ⟨j1, j2⟩ := posF_zero c
      refine ⟨List.Pairwise.cons (fun y hy => i2 p rfl y hy) i1, fun q' e y hy => ?_, fun y hy => ?_⟩
      · rcases List.mem_cons.mp hy with rfl | hy
        · exact j1 q' e
        · exact cmpS_trans (j1 q' e) (i2 p rfl y hy)
      · rcases List.mem_cons.mp hy with rfl | hy
        · exact j2
        · exact i3 y hy
    · rw [if_neg c] at h; exact absurd h c
theorem posC_rise {l : List S52} (h : posC l = 0) : l.length ≤ 128 ∧ l.Pairwise (fun a b => cmpS a.f0 b.f0 < 0) ∧ ∀ p ∈ l, posB p := by
  unfold posC at h
  by_cases c : l.length > 128
  · rw [if_pos c] at h; cases h
  · rw [if_neg c] at h
    obtain ⟨i1, _, i3⟩ := scan_rise l none h
    exact ⟨by omega, i1, i3⟩
theorem ser_iff {a b : S24} : eqD24 a.f0 b.f0 a.f1 b.f1 a.f2 b.f2 a.f3 b.f3 = true ↔ a.f0.toList = b.f0.toList ∧ a.f1 = b.f1 ∧ a.f2 = b.f2 ∧ a.f3 = b.f3 := by
  simp only [eqD24, Bool.and_eq_true, beq_iff_eq]
theorem ser_apart {a b s : S24} (h : cmpS a b < 0) (h1 : eqD24 a.f0 s.f0 a.f1 s.f1 a.f2 s.f2 a.f3 s.f3 = true) (h2 : eqD24 b.f0 s.f0 b.f1 s.f1 b.f2 s.f2 b.f3 s.f3 = true) : False := by
  rw [ser_iff] at h1 h2
  rw [cmpS_lt] at h
  obtain ⟨a0, a1, a2, a3⟩ := h1
  obtain ⟨b0, b1, b2, b3⟩ := h2
  rcases h with h | ⟨_, h⟩
  · rw [a0, b0, less_irrefl] at h; cases h
  · omega
/-- Positions with fewer lots of a side. -/
def lsV (s : S24) (long : Bool) (n : Int) : List S52 → List S52
  | [] => []
  | p :: r => if (if position_place.q s.f0 s.f1 s.f2 s.f3 p = true then tear_Apply.left long p n else p).f1 > 0 ∨ (if position_place.q s.f0 s.f1 s.f2 s.f3 p = true then tear_Apply.left long p n else p).f2 > 0 then (if position_place.q s.f0 s.f1 s.f2 s.f3 p = true then tear_Apply.left long p n else p) :: lsV s long n r else lsV s long n r
theorem lsV_cons (s : S24) (long : Bool) (n : Int) (p q : S52) (r : List S52) (h : (if position_place.q s.f0 s.f1 s.f2 s.f3 p = true then tear_Apply.left long p n else p) = q) : lsV s long n (p :: r) = if q.f1 > 0 ∨ q.f2 > 0 then q :: lsV s long n r else lsV s long n r := by
  rw [lsV, h]
theorem lsV_none (s : S24) (long : Bool) (n : Int) (l : List S52) (h : ∀ x ∈ l, position_place.q s.f0 s.f1 s.f2 s.f3 x = false) (hb : ∀ x ∈ l, posB x) : lsV s long n l = l := by
  induction l with
  | nil => rfl
  | cons p r ih =>
    rw [lsV_cons s long n p p r (by rw [h p List.mem_cons_self]; rfl), ih (fun x hx => h x (List.mem_cons_of_mem _ hx)) (fun x hx => hb x (List.mem_cons_of_mem _ hx))]
    have := hb p List.mem_cons_self
    unfold posB at this
    rw [if_pos (by omega)]
theorem lsV_at (s : S24) (long : Bool) (n : Int) (q : S52) (l : List S52) : ∀ j, (hj : j < l.length) → l.Pairwise (fun a b => cmpS a.f0 b.f0 < 0) → (∀ x ∈ l, posB x) → position_place.q s.f0 s.f1 s.f2 s.f3 l[j] = true → tear_Apply.left long l[j] n = q → 0 ≤ q.f1 → 0 ≤ q.f2 →
    lsV s long n l = if q.f1 = 0 ∧ q.f2 = 0 then l.eraseIdx j else l.set j q := by
  induction l with
  | nil => intro j hj; cases hj
  | cons p r ih =>
    intro j hj hp hb hq he h1 h2
    obtain ⟨hp1, hp2⟩ := List.pairwise_cons.mp hp
    have hbr : ∀ x ∈ r, posB x := fun x hx => hb x (List.mem_cons_of_mem _ hx)
    cases j with
    | zero =>
      have hq' : position_place.q s.f0 s.f1 s.f2 s.f3 p = true := hq
      have he' : tear_Apply.left long p n = q := he
      rw [lsV_cons s long n p q r (by rw [if_pos hq', he']), lsV_none s long n r (fun x hx => ?_) hbr]
      · rw [List.eraseIdx_zero, List.set_cons_zero, List.tail_cons]
        by_cases c : q.f1 = 0 ∧ q.f2 = 0
        · rw [if_pos c, if_neg (by omega)]
        · rw [if_neg c, if_pos (by omega)]
      · cases hx2 : position_place.q s.f0 s.f1 s.f2 s.f3 x with
        | false => rfl
        | true => exact (ser_apart (hp1 x hx) (show eqD24 p.f0.f0 s.f0 p.f0.f1 s.f1 p.f0.f2 s.f2 p.f0.f3 s.f3 = true from hq') (show eqD24 x.f0.f0 s.f0 x.f0.f1 s.f1 x.f0.f2 s.f2 x.f0.f3 s.f3 = true from hx2)).elim
    | succ j =>
      have hj' : j < r.length := by simpa using hj
      have hq' : position_place.q s.f0 s.f1 s.f2 s.f3 r[j] = true := hq
      have hn : position_place.q s.f0 s.f1 s.f2 s.f3 p = false := by
        cases hx2 : position_place.q s.f0 s.f1 s.f2 s.f3 p with
        | false => rfl
        | true => exact (ser_apart (hp1 r[j] (List.getElem_mem hj')) (show eqD24 p.f0.f0 s.f0 p.f0.f1 s.f1 p.f0.f2 s.f2 p.f0.f3 s.f3 = true from hx2) (show eqD24 (r[j]).f0.f0 s.f0 (r[j]).f0.f1 s.f1 (r[j]).f0.f2 s.f2 (r[j]).f0.f3 s.f3 = true from hq')).elim
      rw [lsV_cons s long n p p r (by rw [hn]; rfl), ih j hj' hp2 hbr hq' he h1 h2]
      have := hb p List.mem_cons_self
      unfold posB at this
      rw [if_pos (by omega)]
      by_cases c : q.f1 = 0 ∧ q.f2 = 0
      · rw [if_pos c, if_pos c, List.eraseIdx_cons_succ]
      · rw [if_neg c, if_neg c, List.set_cons_succ]
theorem lsEnd (s : S24) (long : Bool) (n : Int) (l t R : List S52) (i : Nat) (u : S52) (ht : t.length ≤ 100000)
    (h : ∀ t' : List S52, t'.length ≤ t.length + 1 → Ev (fun k => contangoref50_less.l0 k l long n t' (wrap64 ((i : Int) + 1)) s.f0 s.f1 s.f2 s.f3) (t' ++ R)) :
    Ev (fun k => if u.f1 > 0 then (if t.length < 2513169434916 then (contangoref50_less.l0 k l long n (t ++ [u]) (wrap64 ((i : Int) + 1)) s.f0 s.f1 s.f2 s.f3) else none) else (if u.f2 > 0 then (if t.length < 2513169434916 then (contangoref50_less.l0 k l long n (t ++ [u]) (wrap64 ((i : Int) + 1)) s.f0 s.f1 s.f2 s.f3) else none) else (contangoref50_less.l0 k l long n t (wrap64 ((i : Int) + 1)) s.f0 s.f1 s.f2 s.f3)))
      (t ++ (if u.f1 > 0 ∨ u.f2 > 0 then u :: R else R)) := by
  have h1 := h (t ++ [u]) (by rw [List.length_append, List.length_singleton]; omega)
  rw [List.append_assoc, List.singleton_append] at h1
  by_cases c : u.f1 > 0
  · rw [if_pos (.inl c)]
    exact Ev.pos c (Ev.pos (by omega) h1)
  · by_cases d : u.f2 > 0
    · rw [if_pos (.inr d)]
      exact Ev.neg c (Ev.pos d (Ev.pos (by omega) h1))
    · rw [if_neg (fun h => h.elim c d)]
      exact Ev.neg c (Ev.neg d (h t (by omega)))
theorem lsL (s : S24) (long : Bool) (n : Int) (l : List S52) (hl : l.length ≤ 128) (m : Nat) : ∀ (i : Nat) (t : List S52), l.length - i = m → i ≤ l.length → t.length ≤ i →
    Ev (fun k => contangoref50_less.l0 k l long n t (i : Int) s.f0 s.f1 s.f2 s.f3) (t ++ lsV s long n (l.drop i)) := by
  induction m with
  | zero =>
    intro i t hi hle ht
    refine Ev.shift ?_
    simp only [contangoref50_less.l0]
    rw [show l.drop i = [] from List.drop_eq_nil_of_le (by omega), lsV, List.append_nil]
    exact Ev.neg (by omega) (Ev.val _)
  | succ m ih =>
    intro i t hi hle ht
    have hlt : i < l.length := by omega
    have hw : wrap64 ((i : Int) + 1) = ((i + 1 : Nat) : Int) := by unfold wrap64; omega
    have ih2 : ∀ t' : List S52, t'.length ≤ t.length + 1 → Ev (fun k => contangoref50_less.l0 k l long n t' (wrap64 ((i : Int) + 1)) s.f0 s.f1 s.f2 s.f3) (t' ++ lsV s long n (l.drop (i + 1))) := by
      intro t' ht'
      rw [hw]
      exact ih (i + 1) t' (by omega) (by omega) (by omega)
    refine Ev.shift ?_
    simp only [contangoref50_less.l0, rd_pos l i hlt]
    rw [List.drop_eq_getElem_cons hlt]
    refine Ev.pos (by omega) (Ev.pos (by omega) ?_)
    clear hw
    generalize l[i] = p
    by_cases c : eqD24 p.f0.f0 s.f0 p.f0.f1 s.f1 p.f0.f2 s.f2 p.f0.f3 s.f3 = true
    · have hq : position_place.q s.f0 s.f1 s.f2 s.f3 p = true := c
      rw [lsV_cons s long n p _ _ (by rw [if_pos hq])]
      refine Ev.pos c (Ev.shift ?_)
      simp only [contangoref50_less.j1]
      cases long with
      | true =>
        refine Ev.pos rfl (Ev.shift ?_)
        simp only [contangoref50_less.j2]
        refine Ev.pos c (Ev.shift ?_)
        simp only [contangoref50_less.j3]
        refine Ev.neg (by decide) ?_
        exact lsEnd s true n l t _ i (tear_Apply.left true p n) (by omega) ih2
      | false =>
        refine Ev.neg (by decide) (Ev.shift ?_)
        simp only [contangoref50_less.j2]
        refine Ev.pos c (Ev.shift ?_)
        simp only [contangoref50_less.j3]
        refine Ev.pos rfl ?_
        exact lsEnd s false n l t _ i (tear_Apply.left false p n) (by omega) ih2
    · have hq : ¬ position_place.q s.f0 s.f1 s.f2 s.f3 p = true := c
      rw [lsV_cons s long n p p _ (by rw [if_neg hq])]
      refine Ev.neg c (Ev.shift ?_)
      simp only [contangoref50_less.j1]
      refine Ev.neg (by decide) (Ev.shift ?_)
      simp only [contangoref50_less.j2]
      refine Ev.neg c (Ev.shift ?_)
      simp only [contangoref50_less.j3]
      refine Ev.neg (by decide) ?_
      exact lsEnd s long n l t _ i p (by omega) ih2
theorem ls_ev (s : S24) (long : Bool) (n : Int) (l : List S52) (hl : l.length ≤ 128) : Ev (fun k => contangoref50_less.f k l s.f0 s.f1 s.f2 s.f3 long n) (lsV s long n l) := by
  simp only [contangoref50_less.f]
  have := lsL s long n l hl l.length 0 [] (by omega) (by omega) (Nat.le_refl _)
  rwa [List.nil_append, List.drop_zero] at this
theorem acc_iff {a b : S55} : tear_Apply.acc a b = true ↔ a = b := by
  unfold tear_Apply.acc eqD55
  simp only [Bool.and_eq_true, beq_iff_eq]
  constructor
  · rintro ⟨h1, h2⟩
    obtain ⟨a0, a1⟩ := a
    obtain ⟨b0, b1⟩ := b
    simp only at h1 h2
    rw [bytes_inj h1, bytes_inj h2]
  · rintro rfl
    exact ⟨rfl, rfl⟩
theorem accQ_eq (a b : S55) : accQ a b = tear_Apply.acc a b := rfl
theorem idxOf_map {α β : Type} (f : α → β) (p : β → Bool) (l : List α) : ∀ i : Int, idxOf (fun x => p (f x)) l i = idxOf p (l.map f) i := by
  induction l with
  | nil => intro i; rfl
  | cons x r ih => intro i; rw [List.map_cons, idxOf, idxOf, ih]
theorem plL (a : S55) (l : List S58) (hl : l.length ≤ 1024) (n : Nat) : ∀ i : Nat, l.length - i = n → i ≤ l.length → Ev (fun k => contangoref50_place.l0 k l (i : Int) a.f0 a.f1) (idxOf (fun h : S58 => tear_Apply.acc h.f0 a) (l.drop i) (i : Int)) := by
  induction n with
  | zero =>
    intro i hi hle
    refine Ev.shift ?_
    simp only [contangoref50_place.l0]
    rw [show l.drop i = [] from List.drop_eq_nil_of_le (by omega), idxOf]
    exact Ev.neg (by omega) (Ev.val _)
  | succ n ih =>
    intro i hi hle
    have hlt : i < l.length := by omega
    have h2 := ih (i + 1) (by omega) (by omega)
    refine Ev.shift ?_
    simp only [contangoref50_place.l0, rd_hd l i hlt, wsc i (by omega)]
    rw [List.drop_eq_getElem_cons hlt, idxOf]
    refine Ev.pos (by omega) (Ev.pos (by omega) ?_)
    exact Ev.both (c := eqD55 l[i].f0.f0 a.f0 l[i].f0.f1 a.f1 = true) (fun _ => Ev.val _) (fun _ => h2)
theorem pl_ev (a : S55) (l : List S58) (hl : l.length ≤ 1024) : Ev (fun k => contangoref50_place.f k l a.f0 a.f1) (idxOf (fun h : S58 => tear_Apply.acc h.f0 a) l 0) := by
  simp only [contangoref50_place.f]
  exact plL a l hl l.length 0 (by omega) (by omega)
theorem look_any (d : List (S55 × Unit)) (a : S55) : (Go.Proofs.YtjmkdmbgldcleaaHand.look accQ d a).isSome = d.any (fun p => accQ p.1 a) := by
  induction d with
  | nil => rfl
  | cons p r ih =>
    rw [Go.Proofs.YtjmkdmbgldcleaaHand.look_cons, List.any_cons]
    cases h : accQ p.1 a with
    | true => simp
    | false => simp [ih]
theorem rd_pt (l : List S62) (i : Nat) (h : i < l.length) : rd_T62 l (i : Int) = l[i] := by simp [rd_T62, h]
/-- Was the account done before? -/
def wasB (l3 : List S62) (m i : Nat) (a : S55) : Bool := ((l3.take i).drop m).any (fun y => tear_Apply.acc y.f0 a)
theorem wasB_end (l3 : List S62) (i : Nat) (a : S55) : wasB l3 i i a = false := by
  unfold wasB
  rw [List.drop_eq_nil_of_le (by rw [List.length_take]; omega)]
  rfl
theorem wasB_step (l3 : List S62) (m i : Nat) (a : S55) (h : m < i) (hi : i ≤ l3.length) : wasB l3 m i a = (tear_Apply.acc (l3[m]'(by omega)).f0 a || wasB l3 (m + 1) i a) := by
  unfold wasB
  rw [List.drop_eq_getElem_cons (by rw [List.length_take]; omega), List.any_cons, List.getElem_take]
theorem apr1 (s : S24) (long : Bool) (l out : List S58) (l3 : List S62) (i : Nat) (hi : i < l3.length) (h3 : l3.length ≤ 1024) (R : List S58 × Int) (n : Nat) : ∀ (m : Nat) (at_ : Int), i - m = n → m ≤ i →
    Ev (fun k => contangoref50_Apply.l1 k l long l3 out (i : Int) (if wasB l3 m i (l3[i]).f0 = true then -1 else at_) (i : Int) s.f0 s.f1 s.f2 s.f3) R → Ev (fun k => contangoref50_Apply.l1 k l long l3 out (i : Int) at_ (m : Int) s.f0 s.f1 s.f2 s.f3) R := by
  induction n with
  | zero =>
    intro m at_ hm hle h
    obtain rfl : m = i := by omega
    rw [wasB_end] at h
    exact h
  | succ n ih =>
    intro m at_ hm hle h
    have hlt : m < i := by omega
    rw [wasB_step l3 m i _ hlt (by omega)] at h
    refine Ev.shift ?_
    simp only [contangoref50_Apply.l1, wsc m (by omega)]
    refine Ev.pos (by omega) (Ev.pos (by omega) (Ev.pos (by omega) (Ev.pos (by omega) (Ev.pos (by omega) ?_))))
    simp only [rd_pt l3 m (by omega), rd_pt l3 i hi]
    by_cases c : tear_Apply.acc (l3[m]'(by omega)).f0 (l3[i]).f0 = true
    · refine Ev.pos (show eqD55 _ _ _ _ = true from c) (ih (m + 1) _ (by omega) (by omega) ?_)
      rw [c, Bool.true_or, if_pos rfl] at h
      split <;> exact h
    · refine Ev.neg (show ¬ eqD55 _ _ _ _ = true from c) (ih (m + 1) _ (by omega) (by omega) ?_)
      rw [show tear_Apply.acc (l3[m]'(by omega)).f0 (l3[i]).f0 = false from by simpa using c, Bool.false_or] at h
      exact h
/-- What holds of the holdings, some accounts being done. -/
structure TaI (l out : List S58) (d : List S62) : Prop where
  acc : out.map (·.f0) = l.map (·.f0)
  same : ∀ (j : Nat) h, l[j]? = some h → (∀ x ∈ d, tear_Apply.acc x.f0 h.f0 = false) → out[j]? = some h
  few : ∀ h ∈ out, h.f1.length ≤ 128
theorem TaI.put {l out : List S58} {d : List S62} (H : TaI l out d) (j : Nat) (hj : j < l.length) (x : S62) (hx : tear_Apply.acc (l[j]).f0 x.f0 = true) (ps : List S52) (hp : ps.length ≤ 128) : TaI l (out.set j ⟨(l[j]).f0, ps⟩) (d ++ [x]) := by
  have hlen : out.length = l.length := by have := congrArg List.length H.acc; simpa using this
  refine ⟨?_, ?_, ?_⟩
  · rw [List.map_set, H.acc]
    refine List.ext_getElem (by simp) fun n h1 h2 => ?_
    rw [List.getElem_set]
    split
    · rename_i e; subst e; simp
    · rfl
  · intro i h hi hd
    have hne : j ≠ i := by
      rintro rfl
      rw [List.getElem?_eq_getElem hj] at hi
      obtain rfl := Option.some.inj hi
      have := hd x (List.mem_append.mpr (.inr List.mem_cons_self))
      rw [acc_iff.mp hx, acc_iff.mpr rfl] at this
      cases this
    rw [List.getElem?_set_ne hne]
    exact H.same i h hi (fun y hy => hd y (List.mem_append.mpr (.inl hy)))
  · intro h hh
    rcases List.mem_or_eq_of_mem_set hh with hh | rfl
    · exact H.few h hh
    · exact hp
theorem take_snoc {α : Type} (l : List α) (i : Nat) (h : i < l.length) : l.take (i + 1) = l.take i ++ [l[i]] := List.take_succ_eq_append_getElem h
theorem left_nn (long : Bool) (p : S52) (n : Int) (hb : posB p) (h1 : 1 ≤ n) (h2 : n ≤ 1048576) (h3 : ¬ (if long = true then p.f1 else p.f2) < n) : 0 ≤ (tear_Apply.left long p n).f1 ∧ 0 ≤ (tear_Apply.left long p n).f2 := by
  unfold posB at hb
  cases long with
  | true =>
    have h3' : ¬ p.f1 < n := h3
    show 0 ≤ wrap64 (p.f1 - n) ∧ 0 ≤ p.f2
    rw [wrap_small (by omega) (by omega)]
    omega
  | false =>
    have h3' : ¬ p.f2 < n := h3
    show 0 ≤ p.f1 ∧ 0 ≤ wrap64 (p.f2 - n)
    rw [wrap_small (by omega) (by omega)]
    omega
theorem apr0 (s : S24) (long : Bool) (l : List S58) (hl : l.length ≤ 1024) (hpc : pcV l = 0) (l3 : List S62) (h3 : l3.length ≤ 1024) (n : Nat) : ∀ (i : Nat) (out : List S58), l3.length - i = n → i ≤ l3.length → TaI l out (l3.take i) →
    ∃ R, tear_Apply.go s.f0 s.f1 s.f2 s.f3 long (l3.drop i) out ((l3.take i).map fun x => (x.f0, ())) = some R ∧ Ev (fun k => contangoref50_Apply.l0 k l long l3 out (i : Int) s.f0 s.f1 s.f2 s.f3) R ∧ R.1.length ≤ 1024 ∧ ∀ h ∈ R.1, h.f1.length ≤ 128 := by
  induction n with
  | zero =>
    intro i out hi hle H
    have hlen : out.length = l.length := by have := congrArg List.length H.acc; simpa using this
    refine ⟨(out, 0), ?_, ?_, by show out.length ≤ 1024; omega, H.few⟩
    · rw [show l3.drop i = [] from List.drop_eq_nil_of_le (by omega), tear_Apply.go]
    · refine Ev.shift ?_
      simp only [contangoref50_Apply.l0]
      exact Ev.neg (by omega) (Ev.val _)
  | succ n ih =>
    intro i out hi hle H
    have hlt : i < l3.length := by omega
    have hlen : out.length = l.length := by have := congrArg List.length H.acc; simpa using this
    have hix : idxOf (fun h : S58 => tear_Apply.acc h.f0 (l3[i]).f0) out 0 = idxOf (fun h : S58 => tear_Apply.acc h.f0 (l3[i]).f0) l 0 := by
      rw [idxOf_map (fun h : S58 => h.f0) (fun a => tear_Apply.acc a (l3[i]).f0), idxOf_map (fun h : S58 => h.f0) (fun a => tear_Apply.acc a (l3[i]).f0), H.acc]
    have hwas : (Go.Proofs.YtjmkdmbgldcleaaHand.look accQ ((l3.take i).map fun x => (x.f0, ())) (l3[i]).f0).isSome = wasB l3 0 i (l3[i]).f0 := by
      rw [look_any, List.any_map]
      unfold wasB
      rw [List.drop_zero]
      rfl
    rw [List.drop_eq_getElem_cons hlt, tear_Apply.go]
    dsimp only
    rw [hix, hwas]
    have hr : ∀ R, Ev (fun k => contangoref50_Apply.l1 k l long l3 out (i : Int) (if wasB l3 0 i (l3[i]).f0 = true then -1 else idxOf (fun h : S58 => tear_Apply.acc h.f0 (l3[i]).f0) l 0) (i : Int) s.f0 s.f1 s.f2 s.f3) R → Ev (fun k => contangoref50_Apply.l0 k l long l3 out (i : Int) s.f0 s.f1 s.f2 s.f3) R := by
      intro R h
      refine Ev.shift ?_
      simp only [contangoref50_Apply.l0, rd_pt l3 i hlt]
      exact Ev.pos (by omega) (Ev.pos (by omega) (Ev.bind (pl_ev (l3[i]).f0 l hl) (apr1 s long l out l3 i hlt h3 R i 0 _ (by omega) (by omega) h)))
    have hnn : ([] : List S58).length ≤ 1024 ∧ ∀ h ∈ ([] : List S58), h.f1.length ≤ 128 := ⟨Nat.zero_le _, fun h hh => by cases hh⟩
    by_cases c1 : idxOf (fun h : S58 => tear_Apply.acc h.f0 (l3[i]).f0) l 0 < 0 ∨ wasB l3 0 i (l3[i]).f0 = true
    · rw [if_pos c1]
      refine ⟨_, rfl, hr _ (Ev.shift ?_), hnn⟩
      simp only [contangoref50_Apply.l1]
      refine Ev.neg (by omega) (Ev.pos ?_ (Ev.val _))
      rcases c1 with c1 | c1
      · split
        · decide
        · exact c1
      · rw [if_pos c1]; decide
    rw [if_neg c1]
    have hwf : wasB l3 0 i (l3[i]).f0 = false := by simpa using fun h => c1 (.inr h)
    rw [if_neg (by rw [hwf]; decide)] at hr
    rcases idxOf_spec (fun h : S58 => tear_Apply.acc h.f0 (l3[i]).f0) l 0 (Int.le_refl _) with ⟨e1, _⟩ | ⟨j, hj, e1, e2, _⟩
    · exact absurd (Or.inl (by rw [e1]; decide)) c1
    rw [Int.zero_add] at e1
    have e2' : tear_Apply.acc (l[j]).f0 (l3[i]).f0 = true := e2
    rw [e1] at hr ⊢
    have hr2 : ∀ R, Ev (fun k => contangoref50_Apply.j3 k l long l3 out (i : Int) (j : Int) (decide ((l3[i]).f1 < 1 ∨ (l3[i]).f1 > 1048576)) s.f0 s.f1 s.f2 s.f3) R → Ev (fun k => contangoref50_Apply.l0 k l long l3 out (i : Int) s.f0 s.f1 s.f2 s.f3) R := by
      intro R h
      refine hr R (Ev.shift ?_)
      simp only [contangoref50_Apply.l1, rd_pt l3 i hlt]
      refine Ev.neg (by omega) (Ev.neg (by omega) (Ev.pos (by omega) (Ev.pos (by omega) ?_)))
      by_cases c : (l3[i]).f1 < 1
      · rw [show decide ((l3[i]).f1 < 1 ∨ (l3[i]).f1 > 1048576) = true from decide_eq_true (.inl c)] at h
        exact Ev.pos c h
      · rw [show decide ((l3[i]).f1 < 1 ∨ (l3[i]).f1 > 1048576) = decide ((l3[i]).f1 > 1048576) from decide_eq_decide.mpr ⟨fun h => h.resolve_left c, .inr⟩] at h
        exact Ev.neg c h
    by_cases c2 : (l3[i]).f1 < 1 ∨ (l3[i]).f1 > 1048576
    · rw [if_pos c2]
      refine ⟨_, rfl, hr2 _ (Ev.shift ?_), hnn⟩
      simp only [contangoref50_Apply.j3]
      exact Ev.pos (decide_eq_true c2) (Ev.val _)
    rw [if_neg c2]
    have ho : out[j]? = some l[j] := H.same j _ (List.getElem?_eq_getElem hj) (fun x hx => by
      cases hq : tear_Apply.acc x.f0 (l[j]).f0 with
      | false => rfl
      | true =>
        have hw : wasB l3 0 i (l3[i]).f0 = true := by
          unfold wasB
          rw [List.drop_zero]
          refine List.any_eq_true.mpr ⟨x, hx, ?_⟩
          rw [acc_iff.mp hq]
          exact e2'
        rw [hwf] at hw; cases hw)
    have hrd : rd_T58 out (j : Int) = l[j] := by
      show out.getD j _ = _
      rw [List.getD_eq_getElem?_getD, ho]
      rfl
    rw [hrd]
    have hpos := pcV_at hpc l[j] (List.getElem_mem hj)
    obtain ⟨p1, p2, p3⟩ := posC_rise hpos
    have hside : ∀ R, Ev (fun k => if (if long = true then (fdV s l[j].f1).2.2.2.2.1 else (fdV s l[j].f1).2.2.2.2.2) < (l3[i]).f1 then (some (([] : List S58), (30 : Int))) else (contangoref50_Apply.l0 k l long l3 (out.set j ⟨l[j].f0, lsV s long (l3[i]).f1 l[j].f1⟩) ((i + 1 : Nat) : Int) s.f0 s.f1 s.f2 s.f3)) R → Ev (fun k => contangoref50_Apply.l0 k l long l3 out (i : Int) s.f0 s.f1 s.f2 s.f3) R := by
      intro R h
      refine hr2 R (Ev.shift ?_)
      simp only [contangoref50_Apply.j3, rd_pt l3 i hlt, rd_hd l j hj, wsc i (by omega), sd50_some, Option.bind_some, Int.toNat_natCast]
      refine Ev.neg (by rw [decide_eq_false c2]; decide) (Ev.pos (by omega) (Ev.pos (by omega) (Ev.bind (fdr_ev s _ (by omega)) (Ev.pos (by omega) (Ev.pos (by omega) ?_)))))
      by_cases c : (if long = true then (fdV s l[j].f1).2.2.2.2.1 else (fdV s l[j].f1).2.2.2.2.2) < (l3[i]).f1
      · refine Ev.pos c ?_
        obtain ⟨K, hK⟩ := h
        exact ⟨K, fun k hk => by have := hK k hk; dsimp only at this; rwa [if_pos c] at this⟩
      · refine Ev.neg c (Ev.bind (ls_ev s long _ _ p1) (Ev.pos (by omega) ?_))
        obtain ⟨K, hK⟩ := h
        exact ⟨K, fun k hk => by have := hK k hk; dsimp only at this; rwa [if_neg c] at this⟩
    rcases idxOf_spec (position_place.q s.f0 s.f1 s.f2 s.f3) l[j].f1 0 (Int.le_refl _) with ⟨g1, g2⟩ | ⟨m, hm, g1, g2, g3⟩
    · rw [g1, if_pos (by decide)]
      refine ⟨_, rfl, hside _ ?_, hnn⟩
      rw [fdV_none s _ g2]
      refine Ev.pos ?_ (Ev.val _)
      show (if long = true then (0 : Int) else 0) < _
      split <;> omega
    · rw [Int.zero_add] at g1
      rw [g1, if_neg (by omega)]
      have hpb := p3 _ (List.getElem_mem hm)
      have hfd := fdV_at s l[j].f1 m hm g2 g3
      rw [hfd] at hside
      dsimp only at hside ⊢
      rw [rd_pos l[j].f1 m hm, Int.toNat_natCast, Int.toNat_natCast]
      by_cases c3 : (if long = true then l[j].f1[m].f1 else l[j].f1[m].f2) < (l3[i]).f1
      · rw [if_pos c3]
        exact ⟨_, rfl, hside _ (Ev.pos c3 (Ev.val _)), hnn⟩
      · rw [if_neg c3, if_neg (by omega)]
        obtain ⟨n1, n2⟩ := left_nn long l[j].f1[m] (l3[i]).f1 hpb (by omega) (by omega) c3
        have hls := lsV_at s long (l3[i]).f1 _ l[j].f1 m hm p2 p3 g2 rfl n1 n2
        rw [← hls]
        have hl2 : (lsV s long (l3[i]).f1 l[j].f1).length ≤ 128 := by
          rw [hls]
          split
          · have := List.length_eraseIdx_le l[j].f1 m
            omega
          · rw [List.length_set]; omega
        have hT := H.put j hj (l3[i]) e2' (lsV s long (l3[i]).f1 l[j].f1) hl2
        rw [← take_snoc l3 i hlt] at hT
        obtain ⟨R, r1, r2, r3⟩ := ih (i + 1) _ (by omega) (by omega) hT
        rw [take_snoc l3 i hlt, List.map_append, List.map_singleton] at r1
        exact ⟨R, r1, hside R (Ev.neg c3 r2), r3⟩
theorem sm15L (l : List S52) (hl : l.length ≤ 100000) (n : Nat) : ∀ i : Nat, l.length - i = n → i ≤ l.length → Ev (fun k => contangoref15_Same.l0 k l l (i : Int)) true := by
  induction n with
  | zero =>
    intro i hi hle
    refine Ev.shift ?_
    simp only [contangoref15_Same.l0]
    refine Ev.neg (by omega) (Ev.shift ?_)
    simp only [contangoref15_Same.j1]
    refine Ev.neg (by decide) ?_
    rw [beq_self_eq_true]
    exact Ev.val _
  | succ n ih =>
    intro i hi hle
    refine Ev.shift ?_
    simp only [contangoref15_Same.l0, wsc i (by omega)]
    refine Ev.pos (by omega) (Ev.shift ?_)
    simp only [contangoref15_Same.j1, wsc i (by omega)]
    exact Ev.pos (decide_eq_true (by omega)) (Ev.pos (by omega) (Ev.pos (by omega) (Ev.pos (by omega) (Ev.pos (by simp [eqD52]) (ih (i + 1) (by omega) (by omega))))))
theorem sm15_ev (l : List S52) (hl : l.length ≤ 100000) : Ev (fun k => contangoref15_Same.f k l l) true := by
  simp only [contangoref15_Same.f]
  exact sm15L l hl l.length 0 (by omega) (by omega)
theorem sm50L (l : List S58) (hl : l.length ≤ 1024) (hp : ∀ h ∈ l, h.f1.length ≤ 128) (n : Nat) : ∀ i : Nat, l.length - i = n → i ≤ l.length → Ev (fun k => contangoref50_Same.l0 k l l (i : Int)) true := by
  induction n with
  | zero =>
    intro i hi hle
    refine Ev.shift ?_
    simp only [contangoref50_Same.l0]
    exact Ev.neg (by omega) (Ev.val _)
  | succ n ih =>
    intro i hi hle
    have hlt : i < l.length := by omega
    have := hp l[i] (List.getElem_mem hlt)
    refine Ev.shift ?_
    simp only [contangoref50_Same.l0, wsc i (by omega), rd_hd l i hlt]
    exact Ev.pos (by omega) (Ev.pos (by omega) (Ev.pos (by omega) (Ev.pos (by simp [eqD55]) (Ev.bind (sm15_ev _ (by omega)) (Ev.pos rfl (ih (i + 1) (by omega) (by omega)))))))
theorem sm50_ev (l : List S58) (hl : l.length ≤ 1024) (hp : ∀ h ∈ l, h.f1.length ≤ 128) : Ev (fun k => contangoref50_Same.f k l l) true := by
  simp only [contangoref50_Same.f]
  exact Ev.pos trivial (sm50L l hl hp l.length 0 (by omega) (by omega))
/-- tear.Apply and the document's come to the same. -/
theorem ta_both (s : S24) (long : Bool) (l : List S58) (l3 : List S62) (ha : ∀ x ∈ l3, accOk x.f0 = true) (hsz : ∀ h ∈ l, h.f1.length * 56 ≤ 140737488355328) :
    ∃ R, Ev (fun k => tear_Apply.f k l s.f0 s.f1 s.f2 s.f3 long l3) R ∧ Ev (fun k => contangoref50_Apply.f k l s.f0 s.f1 s.f2 s.f3 long l3) R ∧ R.1.length ≤ 1024 ∧ ∀ h ∈ R.1, h.f1.length ≤ 128 := by
  have hnn : ([] : List S58).length ≤ 1024 ∧ ∀ h ∈ ([] : List S58), h.f1.length ≤ 128 := ⟨Nat.zero_le _, fun h hh => by cases hh⟩
  have htc : Ev (fun k => tear_check.f k l [(l3.length : Int)]) (if 1024 < l3.length then 8 else tcV l) := by
    simp only [tear_check.f]
    by_cases c : 1024 < l3.length
    · rw [if_pos c]
      exact Ev.pos (.inl (by simp; omega)) (Ev.val _)
    · rw [if_neg c]
      unfold tcV
      by_cases c2 : 1024 < l.length
      · rw [if_pos c2]; exact Ev.pos (.inr c2) (Ev.val _)
      · rw [if_neg c2]; exact Ev.neg (fun h => h.elim (fun h => by simp at h; omega) c2) (pc_ev l)
  by_cases c0 : (if 1024 < l3.length then 8 else tcV l) = 0
  case neg =>
    refine ⟨([], if 1024 < l3.length then 8 else tcV l), ?_, ?_, hnn⟩
    · simp only [tear_Apply.f]
      exact Ev.bind htc (Ev.neg c0 (Ev.val _))
    · simp only [contangoref50_Apply.f]
      refine Ev.bind (tcr_ev l) ?_
      by_cases c : 1024 < l3.length
      · rw [if_pos c] at c0 ⊢
        refine Ev.pos (by omega) (Ev.shift ?_)
        simp only [contangoref50_Apply.j0]
        exact Ev.neg (by decide) (Ev.val _)
      · rw [if_neg c] at c0 ⊢
        refine Ev.neg (by omega) (Ev.shift ?_)
        simp only [contangoref50_Apply.j0]
        exact Ev.neg c0 (Ev.val _)
  have c3 : ¬ 1024 < l3.length := fun c => by rw [if_pos c] at c0; cases c0
  rw [if_neg c3] at c0 htc
  obtain ⟨hl, hpc⟩ := tcV_len c0
  have hT : TaI l l (l3.take 0) := ⟨rfl, fun j h hj _ => hj, fun h hh => (posC_rise (pcV_at hpc h hh)).1⟩
  obtain ⟨R, r1, r2, r3⟩ := apr0 s long l hl hpc l3 (by omega) l3.length 0 l (by omega) (by omega) hT
  rw [List.take_zero, List.map_nil, List.drop_zero] at r1
  refine ⟨R, ?_, ?_, r3⟩
  · simp only [tear_Apply.f]
    refine Ev.bind htc (Ev.pos c0 (Ev.pos (List.all_eq_true.mpr ha) (Ev.pos (List.all_eq_true.mpr fun h hh => decide_eq_true (hsz h hh)) ?_)))
    rw [r1]
    exact Ev.val _
  · simp only [contangoref50_Apply.f]
    refine Ev.bind (tcr_ev l) (Ev.neg (by omega) (Ev.shift ?_))
    simp only [contangoref50_Apply.j0]
    exact Ev.pos c0 (Ev.pos (by rw [List.length_nil]; omega) r2)
theorem few50L (l : List S58) (hl : l.length ≤ 9223372036854775806) (n : Nat) : ∀ (i : Nat) (c : Int), l.length - i = n → i ≤ l.length → ∃ b, Ev (fun k => contangolaw50_few.l0 k l c (i : Int)) b := by
  induction n with
  | zero =>
    intro i c hi hle
    refine ⟨true, Ev.shift ?_⟩
    simp only [contangolaw50_few.l0]
    exact Ev.neg (by omega) (Ev.val _)
  | succ n ih =>
    intro i c hi hle
    have hlt : i < l.length := by omega
    by_cases h : wrap64 (c + wrap64 (1 + ((rd_T58 l (i : Int)).f1.length : Int))) > 2500
    · refine ⟨false, Ev.shift ?_⟩
      simp only [contangolaw50_few.l0]
      exact Ev.pos (by clear h; omega) (Ev.pos (by clear h; omega) (Ev.pos h (Ev.val _)))
    · obtain ⟨b, hb⟩ := ih (i + 1) (wrap64 (c + wrap64 (1 + ((rd_T58 l (i : Int)).f1.length : Int)))) (by clear h; omega) (by clear h; omega)
      refine ⟨b, Ev.shift ?_⟩
      have w : wrap64 ((i : Int) + 1) = ((i + 1 : Nat) : Int) := by clear h hb; unfold wrap64; omega
      simp only [contangolaw50_few.l0, w]
      clear w
      exact Ev.pos (by clear h hb; omega) (Ev.pos (by clear h hb; omega) (Ev.neg h hb))
theorem few50_ev (l : List S58) (hl : l.length ≤ 9223372036854775806) : ∃ b, Ev (fun k => contangolaw50_few.f k l) b := by
  obtain ⟨b, hb⟩ := few50L l hl l.length 0 0 (by omega) (by omega)
  exact ⟨b, by simp only [contangolaw50_few.f]; exact hb⟩
theorem goes_true : contangolaw50_goes.f 200 = some true := by decide +kernel
theorem goes_ev : Ev (fun k => contangolaw50_goes.f k) true := Ev.of goes_true (fun k => contangolaw50_goes.mono k)
theorem TearApplies : contangolaw50_TearApplies.Said := by
  intro l x l3 _ _ hok3 hs _ _
  refine Ev.get ?_
  obtain ⟨b, hb⟩ := few50_ev l (by have := hs.1; omega)
  have ha : ∀ y ∈ l3, accOk y.f0 = true := by
    intro y hy
    have h := (hok3.2 y hy).1
    simp only [ok55] at h
    simp only [accOk, Bool.and_eq_true, decide_eq_true_eq]
    exact h
  have hz : ∀ h ∈ l, h.f1.length * 56 ≤ 140737488355328 := by
    intro h hh
    have := (hs.2 h hh).2.1
    omega
  obtain ⟨R, r1, r2, r3, r4⟩ := ta_both x.f0 x.f1 l l3 ha hz
  simp only [contangolaw50_TearApplies.f]
  have j : ∀ q : Bool, Ev (fun k => contangolaw50_TearApplies.j0 k l l3 q x.f0.f0 x.f0.f1 x.f0.f2 x.f0.f3 x.f1 x.f2) true := by
    intro q
    refine Ev.shift ?_
    simp only [contangolaw50_TearApplies.j0]
    by_cases c : q = true
    · exact Ev.pos c (Ev.bind goes_ev (Ev.val _))
    · exact Ev.neg c (Ev.bind r1 (Ev.bind r2 (Ev.bind (sm50_ev R.1 r3 r4) (Ev.pos rfl (Ev.pos rfl (Ev.bind goes_ev (Ev.val _)))))))
  refine Ev.bind hb ?_
  by_cases c : b = true
  · exact Ev.pos c (j _)
  · exact Ev.neg c (j _)
end Go.Proofs.Ytjmkdmbgldcleaa.Pure
