/- Nobody is a lot or more off its part: the law, as a statement over numbers and lists. -/
import Derived.Test.YtjmkdmbgldcleaaArgTearEven
namespace Go.Proofs.Ytjmkdmbgldcleaa.Pure
set_option linter.unusedSimpArgs false
set_option linter.unusedVariables false
open Go.RowKit Go.Proofs.Ytjmkdmbgldcleaa.PTearEven Go.Proofs.Ytjmkdmbgldcleaa.Opens Go.Proofs.YtjmkdmbgldcleaaW.PrintWords Go.Proofs.YtjmkdmbgldcleaaW.PrintLast
/-- Comes to r, at all large numbers of rounds. -/
def Ev {α : Type} (g : Nat → Option α) (r : α) : Prop := ∃ K, ∀ k, K ≤ k → g k = some r
theorem Ev.shift {α : Type} {g : Nat → Option α} {r : α} (h : Ev (fun k => g (k + 1)) r) : Ev g r := by
  obtain ⟨K, h⟩ := h
  refine ⟨K + 1, fun k hk => ?_⟩
  obtain ⟨m, rfl⟩ : ∃ m, k = m + 1 := ⟨k - 1, by omega⟩
  exact h m (by omega)
theorem Ev.val {α : Type} (r : α) : Ev (fun _ => some r) r := ⟨0, fun _ _ => rfl⟩
theorem Ev.bind {α β : Type} {g : Nat → Option α} {f : Nat → α → Option β} {x : α} {r : β} (h : Ev g x) (h' : Ev (fun k => f k x) r) : Ev (fun k => (g k).bind (f k)) r := by
  obtain ⟨K, h⟩ := h
  obtain ⟨K', h'⟩ := h'
  exact ⟨max K K', fun k hk => by show (g k).bind (f k) = some r; rw [h k (by omega)]; exact h' k (by omega)⟩
theorem Ev.get {α : Type} {g : Nat → Option α} {r : α} (h : Ev g r) : ∃ k, g k = some r := by
  obtain ⟨K, h⟩ := h
  exact ⟨K, h K (Nat.le_refl _)⟩
theorem Ev.of {α : Type} {g : Nat → Option α} {r : α} {k0 : Nat} (h : g k0 = some r) (hm : ∀ k, LeO (g k) (g (k + 1))) : Ev g r := ⟨k0, fun _ hk => at_rounds hm hk h⟩
theorem Ev.pos {α : Type} {c : Prop} [Decidable c] {a b : Nat → Option α} {r : α} (hc : c) (h : Ev a r) : Ev (fun k => if c then a k else b k) r := by
  obtain ⟨K, h⟩ := h
  exact ⟨K, fun k hk => by show (if c then a k else b k) = some r; rw [if_pos hc]; exact h k hk⟩
theorem Ev.neg {α : Type} {c : Prop} [Decidable c] {a b : Nat → Option α} {r : α} (hc : ¬ c) (h : Ev b r) : Ev (fun k => if c then a k else b k) r := by
  obtain ⟨K, h⟩ := h
  exact ⟨K, fun k hk => by show (if c then a k else b k) = some r; rw [if_neg hc]; exact h k hk⟩
/-- Both ways, each where it is taken. -/
theorem Ev.ite {α : Type} {c : Prop} [Decidable c] {a b : Nat → Option α} {r : α} (h : c → Ev a r) (h' : ¬ c → Ev b r) : Ev (fun k => if c then a k else b k) r := by
  by_cases hc : c
  · exact Ev.pos hc (h hc)
  · exact Ev.neg hc (h' hc)
theorem wrap_small {n : Int} (h0 : -9223372036854775808 ≤ n) (h1 : n ≤ 9223372036854775807) : wrap64 n = n := by unfold wrap64; omega
/-- Both ways, each with its own end. -/
theorem Ev.both {α : Type} {c : Prop} [Decidable c] {a b : Nat → Option α} {r s : α} (h : c → Ev a r) (h' : ¬ c → Ev b s) : Ev (fun k => if c then a k else b k) (if c then r else s) := by
  by_cases hc : c
  · rw [if_pos hc]; exact Ev.pos hc (h hc)
  · rw [if_neg hc]; exact Ev.neg hc (h' hc)
theorem Ev.valOf {α : Type} {r s : α} (h : s = r) : Ev (fun _ => some r) s := by subst h; exact Ev.val _
/-- The first fault of a list, each element looked at beside the one ahead of it. -/
def scan {α : Type} (f : Option α → α → Int) : Option α → List α → Int
  | _, [] => 0
  | q, p :: r => if f q p = 0 then scan f (some p) r else f q p
/-- The element ahead of a place. -/
def prevAt {α : Type} (l : List α) (i : Nat) : Option α := if i = 0 then none else l[i - 1]?
theorem prevAt_succ {α : Type} (l : List α) (i : Nat) (h : i < l.length) : prevAt l (i + 1) = some l[i] := by
  simp [prevAt, h]
theorem prevAt_pos {α : Type} (l : List α) (i : Nat) (h0 : 0 < i) (h : i - 1 < l.length) : prevAt l i = some l[i - 1] := by
  rw [prevAt, if_neg (by omega), List.getElem?_eq_getElem h]
theorem scan_cons {α : Type} (f : Option α → α → Int) (q : Option α) (p : α) (r : List α) : scan f q (p :: r) = if f q p = 0 then scan f (some p) r else f q p := rfl
theorem less_irrefl (a : List UInt8) : Op.bytesLess a a = false := by
  induction a with
  | nil => rfl
  | cons x r ih =>
    have h : ¬ x < x := fun h => by have := UInt8.lt_iff_toNat_lt.mp h; omega
    simp [Op.bytesLess, ih, h]
theorem less_trans (a : List UInt8) : ∀ b c : List UInt8, Op.bytesLess a b = true → Op.bytesLess b c = true → Op.bytesLess a c = true := by
  induction a with
  | nil =>
    intro b c h1 h2
    cases c with
    | nil => cases b <;> simp [Op.bytesLess] at h2
    | cons z c => rfl
  | cons x a ih =>
    intro b c h1 h2
    cases b with
    | nil => simp [Op.bytesLess] at h1
    | cons y b =>
      cases c with
      | nil => simp [Op.bytesLess] at h2
      | cons z c =>
        simp only [Op.bytesLess, Bool.or_eq_true, decide_eq_true_eq, Bool.and_eq_true, beq_iff_eq, UInt8.lt_iff_toNat_lt] at h1 h2 ⊢
        rcases h1 with h1 | ⟨rfl, h1⟩
        · rcases h2 with h2 | ⟨rfl, h2⟩
          · exact Or.inl (by omega)
          · exact Or.inl h1
        · rcases h2 with h2 | ⟨rfl, h2⟩
          · exact Or.inl h2
          · exact Or.inr ⟨rfl, ih _ _ h1 h2⟩
theorem less_flip {a b : List UInt8} (h : ¬ Op.bytesLess a b = true) (hne : b ≠ a) : Op.bytesLess b a = true := by
  have := Go.Proofs.YtjmkdmbgldcleaaHand.bytesLess_flip b a
  have h' : Op.bytesLess a b = false := by simpa using h
  rw [h', beq_eq_false_iff_ne.mpr hne] at this
  simpa using this
theorem less_ne {a b : List UInt8} (h : Op.bytesLess a b = true) : a ≠ b := by
  intro e
  subst e
  rw [less_irrefl] at h
  cases h
/-- The order of numbers, as a number. -/
def cmpI (a b : Int) : Int := if a < b then -1 else if a > b then 1 else 0
/-- The order of series, as a number. -/
def cmpS (a b : S24) : Int := if Op.bytesLess a.f0.toList b.f0.toList = true then -1 else if Op.bytesLess b.f0.toList a.f0.toList = true then 1 else if a.f2 = b.f2 then (if a.f1 = b.f1 then cmpI a.f3 b.f3 else cmpI a.f1 b.f1) else cmpI a.f2 b.f2
theorem cmp_int (a b : Int) : cmp_Compare_int.f a b = some (cmpI a b) := by
  unfold cmp_Compare_int.f cmp_isNaN_int.f cmpI
  simp only [Option.bind_some, bne_self_eq_false, Bool.false_eq_true, if_false]
  split
  · rfl
  · split <;> rfl
theorem cmp_str (a b : ByteArray) : cmp_Compare_string.f a b = some (if Op.bytesLess a.toList b.toList = true then -1 else if Op.bytesLess b.toList a.toList = true then 1 else 0) := by
  unfold cmp_Compare_string.f cmp_isNaN_string.f
  simp only [Option.bind_some, bne_self_eq_false, Bool.false_eq_true, if_false]
  split
  · rfl
  · split <;> rfl
theorem cmpI_self (a : Int) : cmpI a a = 0 := by unfold cmpI; rw [if_neg (by omega), if_neg (by omega)]
theorem cmp_ser (a b : S24) : series_Compare.f a.f0 a.f1 a.f2 a.f3 b.f0 b.f1 b.f2 b.f3 = some (cmpS a b) := by
  unfold series_Compare.f
  by_cases h : (eqD24 a.f0 b.f0 a.f1 b.f1 a.f2 b.f2 a.f3 b.f3) = true
  · rw [if_pos h]
    unfold eqD24 at h
    simp only [Bool.and_eq_true, beq_iff_eq] at h
    obtain ⟨h1, h2, h3, h4⟩ := h
    unfold cmpS
    rw [h1, h2, h3, h4, less_irrefl]
    simp [cmpI_self]
  · rw [if_neg h]
    by_cases h1 : a.f0.toList = b.f0.toList
    · rw [if_pos h1]
      unfold cmpS
      rw [h1, less_irrefl]
      simp only [cmp_int, Option.bind_some, Bool.false_eq_true, if_false]
      split
      · split <;> rfl
      · rfl
    · rw [if_neg h1, cmp_str]
      unfold cmpS
      by_cases h2 : Op.bytesLess a.f0.toList b.f0.toList = true
      · rw [if_pos h2, if_pos h2]; rfl
      · rw [if_neg h2, if_neg h2, if_pos (less_flip h2 (fun e => h1 e.symm)), if_pos (less_flip h2 (fun e => h1 e.symm))]; rfl
/-- What is amiss with a position, beside the one ahead of it. -/
def posF (q : Option S52) (p : S52) : Int :=
  if (match q with | none => false | some q => decide (cmpS q.f0 p.f0 ≥ 0)) = true then 19 else if 0 ≤ p.f1 ∧ p.f1 ≤ 1048576 ∧ 0 ≤ p.f2 ∧ p.f2 ≤ 1048576 ∧ ¬ (p.f1 = 0 ∧ p.f2 = 0) then 0 else 18
/-- What is amiss with positions. -/
def posC (l : List S52) : Int := if l.length > 128 then 8 else scan posF none l
theorem lots_some (n : Int) : position_lots.f n = some (decide (0 ≤ n ∧ n ≤ 1048576)) := by
  unfold position_lots.f
  by_cases h : n ≥ 0
  · rw [if_pos h]
    congr 1
    exact decide_eq_decide.mpr ⟨fun h2 => ⟨h, h2⟩, fun h2 => h2.2⟩
  · rw [if_neg h]
    congr 1
    exact (decide_eq_false (by omega)).symm
theorem posJ (l : List S52) (i : Nat) (b : Bool) (p : S52) (rest : Int)
    (h : Ev (fun k => position_Check.l0 k l l (l.length : Int) (wrap64 ((i : Int) + 1))) rest) :
    Ev (fun k => position_Check.j1 k l l (l.length : Int) (i : Int) b p.f0.f0 p.f0.f1 p.f0.f2 p.f0.f3 p.f1 p.f2) (if b = true then 19 else if 0 ≤ p.f1 ∧ p.f1 ≤ 1048576 ∧ 0 ≤ p.f2 ∧ p.f2 ≤ 1048576 ∧ ¬ (p.f1 = 0 ∧ p.f2 = 0) then rest else 18) := by
  refine Ev.shift ?_
  simp only [position_Check.j1, lots_some, Option.bind_some, decide_eq_true_eq]
  refine Ev.both (fun _ => Ev.val _) (fun _ => ?_)
  by_cases h1 : 0 ≤ p.f1 ∧ p.f1 ≤ 1048576
  · refine Ev.pos h1 ?_
    by_cases h2 : 0 ≤ p.f2 ∧ p.f2 ≤ 1048576
    · refine Ev.pos h2 ?_
      by_cases h3 : p.f1 = 0
      · refine Ev.pos h3 ?_
        by_cases h4 : p.f2 = 0
        · rw [if_neg (by omega)]
          exact Ev.pos h4 (Ev.val _)
        · rw [if_pos (by omega)]
          exact Ev.neg h4 h
      · rw [if_pos (by omega)]
        exact Ev.neg h3 h
    · rw [if_neg (by omega)]
      exact Ev.neg h2 (Ev.val _)
  · rw [if_neg (by omega)]
    exact Ev.neg h1 (Ev.val _)
theorem posOne (b : Bool) (c : Prop) [Decidable c] (a : Int) : (if (if b = true then (19 : Int) else if c then 0 else 18) = 0 then a else (if b = true then 19 else if c then 0 else 18)) = (if b = true then 19 else if c then a else 18) := by
  cases b <;> by_cases hc : c <;> simp [hc]
theorem rd_pos (l : List S52) (i : Nat) (h : i < l.length) : rd_T52 l (i : Int) = l[i] := by simp [rd_T52, h]
theorem posL (l : List S52) (hl : l.length ≤ 128) (n : Nat) : ∀ i : Nat, l.length - i = n → i ≤ l.length →
    Ev (fun k => position_Check.l0 k l l (l.length : Int) (i : Int)) (scan posF (prevAt l i) (l.drop i)) := by
  induction n with
  | zero =>
    intro i hi hle
    refine Ev.shift ?_
    simp only [position_Check.l0]
    rw [List.drop_eq_nil_of_le (by omega)]
    exact Ev.neg (by omega) (Ev.val _)
  | succ n ih =>
    intro i hi hle
    have hlt : i < l.length := by omega
    have hw : wrap64 ((i : Int) + 1) = ((i + 1 : Nat) : Int) := by unfold wrap64; omega
    have ih2 := ih (i + 1) (by omega) (by omega)
    rw [prevAt_succ l i hlt] at ih2
    refine Ev.shift ?_
    simp only [position_Check.l0, rd_pos l i hlt]
    rw [List.drop_eq_getElem_cons hlt, scan_cons]
    refine Ev.pos (by omega) (Ev.pos (by omega) (Ev.pos (by omega) ?_))
    by_cases h0 : i = 0
    · subst h0
      refine Ev.neg (by omega) ?_
      have hj := posJ l 0 false l[0] (scan posF (some l[0]) (l.drop (0 + 1))) (by rw [hw]; exact ih2)
      have e : (if posF (prevAt l 0) l[0] = 0 then scan posF (some l[0]) (l.drop (0 + 1)) else posF (prevAt l 0) l[0]) = _ := posOne false _ (scan posF (some l[0]) (l.drop (0 + 1)))
      rw [e]
      exact hj
    · have hw2 : wrap64 ((i : Int) - 1) = ((i - 1 : Nat) : Int) := by unfold wrap64; omega
      simp only [hw2]
      refine Ev.pos (by omega) (Ev.pos (by omega) (Ev.pos (by omega) ?_))
      rw [rd_pos l (i - 1) (by omega), cmp_ser]
      simp only [Option.bind_some]
      have hj := posJ l i (decide (cmpS l[i - 1].f0 l[i].f0 ≥ 0)) l[i] (scan posF (some l[i]) (l.drop (i + 1))) (by rw [hw]; exact ih2)
      have e : (if posF (prevAt l i) l[i] = 0 then scan posF (some l[i]) (l.drop (i + 1)) else posF (prevAt l i) l[i]) = (if decide (cmpS l[i - 1].f0 l[i].f0 ≥ 0) = true then 19 else if 0 ≤ l[i].f1 ∧ l[i].f1 ≤ 1048576 ∧ 0 ≤ l[i].f2 ∧ l[i].f2 ≤ 1048576 ∧ ¬ (l[i].f1 = 0 ∧ l[i].f2 = 0) then scan posF (some l[i]) (l.drop (i + 1)) else 18) := by
        rw [prevAt_pos l i (by omega) (by omega)]
        exact posOne (decide (cmpS l[i - 1].f0 l[i].f0 ≥ 0)) _ (scan posF (some l[i]) (l.drop (i + 1)))
      rw [e]
      exact hj
theorem posC_ev (l : List S52) : Ev (fun k => position_Check.f k l) (posC l) := by
  simp only [position_Check.f]
  unfold posC
  by_cases h : l.length > 128
  · rw [if_pos h]
    exact Ev.pos (by omega) (Ev.val _)
  · rw [if_neg h]
    exact Ev.neg (by omega) (posL l (by omega) l.length 0 (by omega) (by omega))
theorem and1 (n : Int) : Go.bits .and .i64 n 1 = n % 2 := by
  have h127 : (BitVec.ofInt 64 1).toNat = 2 ^ 1 - 1 := by decide
  have key : (BitVec.ofInt 64 n &&& BitVec.ofInt 64 1).toNat = (n % ((2 ^ 64 : Nat) : Int)).toNat % 2 ^ 1 := by
    rw [BitVec.toNat_and, BitVec.toNat_ofInt, h127, Nat.and_two_pow_sub_one_eq_mod]
  show IntKind.i64.wrap ((BitVec.ofInt 64 n &&& BitVec.ofInt 64 1).toNat : Nat) = n % 2
  rw [key, IntKind.wrap_i64]
  omega
theorem div_uniq {x s q r : Int} (h : q * s + r = x) (h0 : 0 ≤ r) (h1 : r < s) : x / s = q ∧ x % s = r := by
  subst h
  constructor
  · rw [Int.add_comm, Int.add_mul_ediv_right _ _ (by omega), Int.ediv_eq_zero_of_lt h0 h1, Int.zero_add]
  · rw [Int.add_comm, Int.add_mul_emod_self_right, Int.emod_eq_of_lt h0 h1]
theorem half_pow (w : Int) (i : Nat) (h : i < 61) : w / 2 ^ (61 - i) = w / 2 ^ (60 - i) / 2 := by
  have e : 61 - i = (60 - i) + 1 := by omega
  rw [e, Int.pow_succ, Int.ediv_ediv_of_nonneg (Int.le_of_lt (Int.pow_pos (by decide)))]
/-- One more bit. -/
theorem quo_step {a n s q r : Int} (ha : 0 ≤ a ∧ a ≤ 1152921504606846976) (hs : 1 ≤ s ∧ s ≤ 1152921504606846976) (hn : 0 ≤ n ∧ n ≤ s) (h : q * s + r = a * (n / 2)) (h0 : 0 ≤ q) (h1 : 0 ≤ r) (h2 : r < s) (b : Int) (hb : b = a * (n % 2)) :
    q ≤ 1152921504606846976 ∧ (2 * r + b) / s ≤ 3458764513820540928 ∧ 0 ≤ (2 * r + b) / s ∧ (2 * q + (2 * r + b) / s) * s + (2 * r + b) % s = a * n ∧ 0 ≤ (2 * r + b) % s ∧ (2 * r + b) % s < s ∧ 0 ≤ b ∧ b ≤ 1152921504606846976 ∧ 2 * q + (2 * r + b) / s ≤ 1152921504606846976 := by
  have hm : n % 2 = 0 ∨ n % 2 = 1 := by omega
  have hb0 : 0 ≤ b ∧ b ≤ 1152921504606846976 := by
    rcases hm with e | e <;> rw [hb, e] <;> omega
  have hd := Int.mul_ediv_add_emod (2 * r + b) s
  have he : (2 * q + (2 * r + b) / s) * s + (2 * r + b) % s = a * n := by
    have e1 : (2 * q + (2 * r + b) / s) * s = 2 * (q * s) + s * ((2 * r + b) / s) := by
      rw [Int.add_mul, Int.mul_assoc, Int.mul_comm ((2 * r + b) / s)]
    have e2 : a * n = 2 * (a * (n / 2)) + a * (n % 2) := by
      have : n = 2 * (n / 2) + n % 2 := by omega
      have e3 : a * n = a * (2 * (n / 2) + n % 2) := by rw [← this]
      rw [e3, Int.mul_add, Int.mul_left_comm]
    rw [e1, e2, ← h, ← hb]
    omega
  have hr0 := Int.emod_nonneg (2 * r + b) (show s ≠ 0 by omega)
  have hr1 := Int.emod_lt_of_pos (2 * r + b) (show 0 < s by omega)
  have hd0 : 0 ≤ (2 * r + b) / s := Int.ediv_nonneg (by omega) (by omega)
  have hle : ∀ x y m : Int, 0 ≤ y → 0 ≤ m → m ≤ s → x * s + y = a * m → x ≤ a := by
    intro x y m hy hm0 hms hx
    have h3 : a * m ≤ a * s := Int.mul_le_mul_of_nonneg_left hms ha.1
    exact Int.le_of_mul_le_mul_right (show x * s ≤ a * s by omega) (by omega)
  have hq := hle q r (n / 2) h1 (by omega) (by omega) h
  have hq2 := hle _ _ n hr0 hn.1 hn.2 he
  refine ⟨by omega, ?_, hd0, he, hr0, hr1, hb0.1, hb0.2, by omega⟩
  have : (2 * r + b) / s ≤ 2 * r + b := Int.ediv_le_self _ (by omega)
  omega
theorem quo_one (k : Nat) (a w s q r : Int) (i : Nat) (hi : i < 61) (ha : 0 ≤ a ∧ a ≤ 1152921504606846976) (hs : 1 ≤ s ∧ s ≤ 1152921504606846976) (hr : 0 ≤ r ∧ r < s) (hq : 0 ≤ q ∧ q ≤ 1152921504606846976) (m b : Int) (hm : w / 2 ^ (60 - i) = m) (hb : b = a * (m % 2)) (hb2 : 0 ≤ b ∧ b ≤ 1152921504606846976)
    (h1 : 0 ≤ (2 * r + b) / s) (h2 : (2 * r + b) / s ≤ 3458764513820540928) (h3 : 2 * q + (2 * r + b) / s ≤ 1152921504606846976) : share_quotient.l0 (k + 1) a w s q r (i : Int) = share_quotient.l0 k a w s (2 * q + (2 * r + b) / s) ((2 * r + b) % s) ((i + 1 : Nat) : Int) := by
  have hw60 : wrap64 (60 - (i : Int)) = ((60 - i : Nat) : Int) := by clear hm; unfold wrap64; omega
  have hwi : wrap64 ((i : Int) + 1) = ((i + 1 : Nat) : Int) := by clear hm; unfold wrap64; omega
  have hsh : shr .i64 w ((60 - i : Nat) : Int) = m := by
    unfold shr
    rw [Int.toNat_natCast, Nat.min_eq_left (show 60 - i ≤ IntKind.i64.bits from Nat.le_trans (Nat.sub_le _ _) (by decide))]
    exact hm
  simp only [share_quotient.l0, hw60, hwi, hsh, and1]
  clear hm hsh hw60 hwi
  rw [if_pos (by omega), if_pos (by omega)]
  have hmm : m % 2 = 0 ∨ m % 2 = 1 := by omega
  have w1 : wrap64 (2 * r) = 2 * r := wrap_small (by omega) (by omega)
  have w2 : wrap64 (2 * q) = 2 * q := wrap_small (by omega) (by omega)
  have w3 : wrap64 (2 * r + b) = 2 * r + b := wrap_small (by omega) (by omega)
  have w4 : wrap64 ((2 * r + b) / s) = (2 * r + b) / s := wrap_small (by omega) (by omega)
  have w5 : wrap64 (2 * q + (2 * r + b) / s) = 2 * q + (2 * r + b) / s := wrap_small (by omega) (by omega)
  have t1 : Int.tdiv (2 * r + b) s = (2 * r + b) / s := Int.tdiv_eq_ediv_of_nonneg (by omega)
  have t2 : Int.tmod (2 * r + b) s = (2 * r + b) % s := Int.tmod_eq_emod_of_nonneg (by omega)
  have hs0 : ¬ s = 0 := by omega
  rcases hmm with e | e
  · have hb0 : b = 0 := by rw [hb, e]; exact Int.mul_zero a
    subst hb0
    simp only [Int.add_zero] at w3 w4 w5 t1 t2 ⊢
    rw [if_neg (by omega), if_neg hs0, w1, w2, t1, t2, w4, w5]
  · have hb0 : b = a := by rw [hb, e]; exact Int.mul_one a
    subst hb0
    rw [if_pos e, if_neg hs0, w1, w2, w3, t1, t2, w4, w5]
theorem quo_loop (a w s : Int) (ha : 0 ≤ a ∧ a ≤ 1152921504606846976) (hw : 0 ≤ w ∧ w ≤ s) (hs : 1 ≤ s ∧ s ≤ 1152921504606846976) (n : Nat) : ∀ (i : Nat) (q r : Int), 61 - i = n → i ≤ 61 → q * s + r = a * (w / 2 ^ (61 - i)) → 0 ≤ q → 0 ≤ r → r < s →
    Ev (fun k => share_quotient.l0 k a w s q r (i : Int)) (a * w / s, a * w % s) := by
  induction n with
  | zero =>
    intro i q r hi hle h h0 h1 h2
    have e : i = 61 := by clear h; omega
    subst e
    have h3 : q * s + r = a * w := by
      have e2 : (w / 2 ^ (61 - 61) : Int) = w := Int.ediv_one w
      rw [e2] at h
      exact h
    obtain ⟨e1, e2⟩ := div_uniq h3 h1 h2
    rw [e1, e2]
    refine Ev.shift ?_
    simp only [share_quotient.l0]
    exact Ev.neg (by decide) (Ev.val _)
  | succ n ih =>
    intro i q r hi hle h h0 h1 h2
    have hlt : i < 61 := by clear h; omega
    have hex : 61 - (i + 1) = 60 - i := by clear h; omega
    rw [half_pow w i hlt] at h
    have hn : 0 ≤ w / 2 ^ (60 - i) ∧ w / 2 ^ (60 - i) ≤ s := ⟨Int.ediv_nonneg hw.1 (Int.le_of_lt (Int.pow_pos (by decide))), Int.le_trans (Int.ediv_le_self _ hw.1) hw.2⟩
    obtain ⟨m, hm⟩ : ∃ m, w / 2 ^ (60 - i) = m := ⟨_, rfl⟩
    rw [hm] at h hn
    obtain ⟨b1, b2, b3, b4, b5, b6, b7, b8, b9⟩ := quo_step ha hs hn h h0 h1 h2 (a * (m % 2)) rfl
    have hI := ih (i + 1) _ _ (by clear h hm b4; omega) (by clear h hm b4; omega) (by rw [hex, hm]; exact b4) (Int.add_nonneg (Int.mul_nonneg (by decide) h0) b3) b5 b6
    refine Ev.shift ?_
    simp only [quo_one _ a w s q r i hlt ha hs ⟨h1, h2⟩ ⟨h0, b1⟩ m _ hm rfl ⟨b7, b8⟩ b3 b2 b9]
    exact hI
theorem quo_ev (a w s : Int) (ha : 0 ≤ a ∧ a ≤ 1152921504606846976) (hw : 0 ≤ w ∧ w ≤ s) (hs : 1 ≤ s ∧ s ≤ 1152921504606846976) : Ev (fun k => share_quotient.f k a w s) (a * w / s, a * w % s) := by
  simp only [share_quotient.f]
  refine quo_loop a w s ha hw hs 61 0 0 0 (by omega) (by omega) ?_ (by omega) (by omega) (by omega)
  have e : (2 : Int) ^ (61 - 0) = 2305843009213693952 := by decide
  have : w / 2 ^ (61 - 0) = 0 := by rw [e]; exact Int.ediv_eq_zero_of_lt hw.1 (by clear e; omega)
  rw [this]
  simp
/-- The sum of weights, if they may be. -/
def wgt : Int → List Int → Option Int
  | a, [] => some a
  | a, w :: r => if 0 ≤ w ∧ w ≤ 1152921504606846976 - a then wgt (a + w) r else none
theorem wgt_ok (l : List Int) : ∀ a s, 0 ≤ a → a ≤ 1152921504606846976 → wgt a l = some s → s = a + l.sum ∧ (∀ w ∈ l, 0 ≤ w ∧ w ≤ s - a) ∧ a ≤ s ∧ s ≤ 1152921504606846976 := by
  induction l with
  | nil => intro a s h0 h1 h; obtain rfl := Option.some.inj h; exact ⟨by simp, fun w hw => (by cases hw), Int.le_refl _, h1⟩
  | cons x r ih =>
    intro a s h0 h1 h
    rw [wgt] at h
    by_cases c : 0 ≤ x ∧ x ≤ 1152921504606846976 - a
    · rw [if_pos c] at h
      obtain ⟨e, hw, h2, h3⟩ := ih (a + x) s (by omega) (by omega) h
      refine ⟨by rw [e, List.sum_cons]; omega, fun w hm => ?_, by omega, h3⟩
      rcases List.mem_cons.mp hm with rfl | hm
      · omega
      · have := hw w hm; omega
    · rw [if_neg c] at h; cases h
/-- Parts and rests. -/
def spE (a s : Int) (l : List Int) : List (Int × Int) := l.map fun w => (a * w / s, a * w % s)
def mxr : List (Int × Int) → Int
  | [] => -1
  | e :: t => if mxr t < e.2 then e.2 else mxr t
/-- The first one of the greatest rest gets one more. -/
def bump (m : Int) : List (Int × Int) → List (Int × Int)
  | [] => []
  | e :: t => if e.2 = m then (e.1 + 1, -1) :: t else e :: bump m t
def spG : Nat → List (Int × Int) → List (Int × Int)
  | 0, l => l
  | n + 1, l => spG n (bump (mxr l) l)
def lft (a : Int) (l : List (Int × Int)) : Int := a - (l.map (·.1)).sum
def spV (a : Int) (l : List Int) : List Int × Int :=
  if 0 ≤ a ∧ a ≤ 1152921504606846976 then (if l.length ≤ 1024 then (match wgt 0 l with | none => ([], 26) | some s => if s = 0 then ([], 26) else ((spG (lft a (spE a s l)).toNat (spE a s l)).map (·.1), 0)) else ([], 8)) else ([], 2)
theorem mxr_ge (l : List (Int × Int)) : -1 ≤ mxr l ∧ ∀ e ∈ l, e.2 ≤ mxr l := by
  induction l with
  | nil => exact ⟨Int.le_refl _, fun e h => by cases h⟩
  | cons x r ih =>
    rw [mxr]
    refine ⟨by split <;> omega, fun e h => ?_⟩
    rcases List.mem_cons.mp h with rfl | h
    · split <;> omega
    · have := ih.2 e h; split <;> omega
theorem mxr_of {l : List (Int × Int)} {m : Int} (h : ∀ e ∈ l, e.2 ≤ m) (hm : ∃ e ∈ l, e.2 = m) (h1 : -1 ≤ m) : mxr l = m := by
  obtain ⟨e, he, rfl⟩ := hm
  have h2 := (mxr_ge l).2 e he
  have h3 : mxr l ≤ e.2 := by
    clear he h2
    induction l with
    | nil => exact h1
    | cons x r ih =>
      rw [mxr]
      have := h x List.mem_cons_self
      have := ih (fun y hy => h y (List.mem_cons_of_mem _ hy))
      split <;> omega
  omega
theorem bump_length (m : Int) (l : List (Int × Int)) : (bump m l).length = l.length := by
  induction l with
  | nil => rfl
  | cons x r ih => rw [bump]; split <;> simp [ih]
theorem bump_at (m : Int) (l : List (Int × Int)) : ∀ t, (h : t < l.length) → l[t].2 = m → (∀ j, (hj : j < t) → (l[j]'(by omega)).2 ≠ m) → bump m l = l.set t (l[t].1 + 1, -1) := by
  induction l with
  | nil => intro t h; cases h
  | cons x r ih =>
    intro t h he hn
    cases t with
    | zero => rw [bump, if_pos (show x.2 = m from he)]; rfl
    | succ t =>
      rw [bump, if_neg (show ¬ x.2 = m from hn 0 (by omega))]
      rw [ih t (by simpa using h) he (fun j hj => by have := hn (j + 1) (by omega); simpa using this)]
      rfl
theorem top_spec (l : List Int) (n : Nat) : ∀ i a, l.length - i = n → i ≤ l.length → a < l.length → (∀ j : Nat, j < i → rd l j ≤ rd l a) → (∀ j : Nat, j < a → rd l j < rd l a) → a ≤ i →
    share_top l (l.drop i) i a < l.length ∧ (∀ j : Nat, j < l.length → rd l j ≤ rd l (share_top l (l.drop i) i a)) ∧ ∀ j : Nat, j < share_top l (l.drop i) i a → rd l j < rd l (share_top l (l.drop i) i a) := by
  induction n with
  | zero =>
    intro i a hi hle ha h1 h2 h3
    rw [List.drop_eq_nil_of_le (by omega), share_top]
    exact ⟨ha, fun j hj => h1 j (by omega), h2⟩
  | succ n ih =>
    intro i a hi hle ha h1 h2 h3
    have hlt : i < l.length := by omega
    rw [List.drop_eq_getElem_cons hlt, show l[i] = rd l i by simp [rd, hlt], share_top]
    by_cases c : rd l a < rd l i
    · rw [if_pos c]
      refine ih (i + 1) i (by omega) (by omega) hlt (fun j hj => ?_) (fun j hj => ?_) (by omega)
      · rcases Nat.lt_succ_iff_lt_or_eq.mp hj with hj | rfl
        · have := h1 j hj; omega
        · exact Int.le_refl _
      · have := h1 j hj; omega
    · rw [if_neg c]
      refine ih (i + 1) a (by omega) (by omega) ha (fun j hj => ?_) h2 (by omega)
      rcases Nat.lt_succ_iff_lt_or_eq.mp hj with hj | rfl
      · exact h1 j hj
      · omega
theorem rd_map_snd (l : List (Int × Int)) (j : Nat) (h : j < l.length) : rd (l.map (·.2)) j = l[j].2 := by simp [rd, h]
theorem rd_map_fst (l : List (Int × Int)) (j : Nat) (h : j < l.length) : rd (l.map (·.1)) j = l[j].1 := by simp [rd, h]
/-- What the search and both stores do is the bump. -/
theorem top_bump (l : List (Int × Int)) (hl : 0 < l.length) (h : ∀ e ∈ l, -1 ≤ e.2) (t : Nat) (ht : share_top (l.map (·.2)) (l.map (·.2)) 0 0 = t) : t < l.length ∧ (l.map (·.1)).set t (rd (l.map (·.1)) t + 1) = (bump (mxr l) l).map (·.1) ∧ (l.map (·.2)).set t (-1) = (bump (mxr l) l).map (·.2) := by
  have hs := top_spec (l.map (·.2)) _ 0 0 rfl (by omega) (by simpa using hl) (fun j hj => by omega) (fun j hj => by omega) (Nat.le_refl _)
  rw [List.drop_zero, ht, List.length_map] at hs
  obtain ⟨h1, h2, h3⟩ := hs
  rw [rd_map_snd l t h1] at h2 h3
  have hm : mxr l = l[t].2 := by
    refine mxr_of (fun e he => ?_) ⟨_, List.getElem_mem h1, rfl⟩ (h _ (List.getElem_mem h1))
    obtain ⟨j, hj, rfl⟩ := List.getElem_of_mem he
    have := h2 j hj
    rwa [rd_map_snd l j hj] at this
  have hb := bump_at (mxr l) l t h1 hm.symm (fun j hj => by
    have := h3 j hj
    rw [rd_map_snd l j (by omega)] at this
    rw [hm]
    omega)
  refine ⟨h1, ?_, ?_⟩
  · rw [hb, List.map_set, rd_map_fst l t h1]
  · rw [hb, List.map_set]
theorem bump_mem (m : Int) (l : List (Int × Int)) : ∀ e ∈ bump m l, (e ∈ l) ∨ (e.2 = -1 ∧ ∃ y ∈ l, e.1 = y.1 + 1) := by
  induction l with
  | nil => intro e h; cases h
  | cons x r ih =>
    intro e h
    rw [bump] at h
    split at h
    · rcases List.mem_cons.mp h with rfl | h
      · exact .inr ⟨rfl, x, List.mem_cons_self, rfl⟩
      · exact .inl (List.mem_cons_of_mem _ h)
    · rcases List.mem_cons.mp h with rfl | h
      · exact .inl List.mem_cons_self
      · rcases ih e h with h | ⟨h1, y, hy, h2⟩
        · exact .inl (List.mem_cons_of_mem _ h)
        · exact .inr ⟨h1, y, List.mem_cons_of_mem _ hy, h2⟩
theorem sum_le {x : List Int} {t : Int} : ∀ (hs : ∀ w ∈ x, 0 ≤ w), 0 ≤ x.sum := by
  induction x with
  | nil => intro _; exact Int.le_refl _
  | cons a r ih =>
    intro h
    rw [List.sum_cons]
    have := h a List.mem_cons_self
    have := ih (fun w hw => h w (List.mem_cons_of_mem _ hw))
    omega
theorem wgh_loop (l : List Int) (hl : l.length ≤ 1024) (n : Nat) : ∀ (i : Nat) (a : Int), l.length - i = n → i ≤ l.length → 0 ≤ a → a ≤ 1152921504606846976 →
    Ev (fun k => share_weighed.l0 k a l (l.length : Int) (i : Int)) (match wgt a (l.drop i) with | none => (0, 26) | some s => (s, 0)) := by
  induction n with
  | zero =>
    intro i a hi hle h0 h1
    refine Ev.shift ?_
    simp only [share_weighed.l0]
    rw [List.drop_eq_nil_of_le (by omega)]
    exact Ev.neg (by omega) (Ev.val _)
  | succ n ih =>
    intro i a hi hle h0 h1
    have hlt : i < l.length := by omega
    have hw : wrap64 ((i : Int) + 1) = ((i + 1 : Nat) : Int) := by unfold wrap64; omega
    have hr : rd l (i : Int) = l[i] := by simp [rd, hlt]
    have hm : share_money.f l[i] = some (decide (0 ≤ l[i] ∧ l[i] ≤ 1152921504606846976)) := by
      unfold share_money.f
      by_cases h : l[i] ≥ 0
      · rw [if_pos h]
        congr 1
        exact decide_eq_decide.mpr ⟨fun h2 => ⟨h, h2⟩, fun h2 => h2.2⟩
      · rw [if_neg h]
        congr 1
        exact (decide_eq_false (by omega)).symm
    refine Ev.shift ?_
    simp only [share_weighed.l0, hr, hm, hw, Option.bind_some, decide_eq_true_eq]
    rw [List.drop_eq_getElem_cons hlt, wgt]
    refine Ev.pos (by omega) (Ev.pos (by omega) (Ev.pos (by omega) ?_))
    rw [wrap_small (n := 1152921504606846976 - a) (by omega) (by omega)]
    by_cases c : 0 ≤ l[i] ∧ l[i] ≤ 1152921504606846976 - a
    · rw [if_pos c, wrap_small (n := a + l[i]) (by omega) (by omega)]
      exact Ev.pos (by omega) (Ev.neg (by omega) (ih (i + 1) _ (by omega) (by omega) (by omega) (by omega)))
    · rw [if_neg c]
      exact Ev.ite (fun _ => Ev.pos (by omega) (Ev.val _)) (fun _ => Ev.val _)
/-- The parts, one by one. -/
theorem spq_ev (a s : Int) (ha : 0 ≤ a ∧ a ≤ 1152921504606846976) (hs : 1 ≤ s ∧ s ≤ 1152921504606846976) (t : List Int) : ∀ (p r : List Int) (n : Int), (∀ w ∈ t, 0 ≤ w ∧ w ≤ s) → p.length + t.length ≤ 100000 → r.length = p.length → n ≤ 1152921504606846976 → a * t.sum ≤ n * s →
    Ev (fun k => share_Split.q k a s t p (r ++ List.replicate t.length 0) n) (p ++ (spE a s t).map (·.1), r ++ (spE a s t).map (·.2), n - ((spE a s t).map (·.1)).sum) ∧ 0 ≤ n - ((spE a s t).map (·.1)).sum := by
  induction t with
  | nil =>
    intro p r n _ _ _ _ hn
    simp only [share_Split.q, spE, List.map_nil, List.append_nil, List.sum_nil, List.length_nil, List.replicate_zero, Int.sub_zero, Int.mul_zero] at hn ⊢
    refine ⟨Ev.val _, ?_⟩
    rcases Int.lt_or_le n 0 with h | h
    · have := Int.mul_neg_of_neg_of_pos h (show 0 < s by omega)
      omega
    · exact h
  | cons w t ih =>
    intro p r n hw hlen hr hn1 hn
    have hww := hw w List.mem_cons_self
    have hd := Int.mul_ediv_add_emod (a * w) s
    have hm0 := Int.emod_nonneg (a * w) (show s ≠ 0 by omega)
    have hq0 : 0 ≤ a * w / s := Int.ediv_nonneg (Int.mul_nonneg ha.1 hww.1) (by omega)
    have hn2 : a * t.sum ≤ (n - a * w / s) * s := by
      rw [Int.sub_mul, Int.mul_comm (a * w / s) s]
      rw [List.sum_cons, Int.mul_add] at hn
      omega
    have hts : 0 ≤ t.sum := sum_le (t := 0) (fun x hx => (hw x (List.mem_cons_of_mem _ hx)).1)
    have hns : 0 ≤ n - a * w / s := by
      rcases Int.lt_or_le (n - a * w / s) 0 with h | h
      · have h2 := Int.mul_neg_of_neg_of_pos h (show 0 < s by omega)
        have h3 := Int.mul_nonneg ha.1 hts
        omega
      · exact h
    rw [List.length_cons] at hlen
    have hI := ih (p ++ [a * w / s]) (r ++ [a * w % s]) (n - a * w / s) (fun x hx => hw x (List.mem_cons_of_mem _ hx)) (by simp; omega) (by simp [hr]) (by omega) hn2
    have e1 : p ++ [a * w / s] ++ (spE a s t).map (·.1) = p ++ (spE a s (w :: t)).map (·.1) := by simp [spE]
    have e2 : r ++ [a * w % s] ++ (spE a s t).map (·.2) = r ++ (spE a s (w :: t)).map (·.2) := by simp [spE]
    have e3 : n - a * w / s - ((spE a s t).map (·.1)).sum = n - ((spE a s (w :: t)).map (·.1)).sum := by simp only [spE, List.map_cons, List.sum_cons]; omega
    rw [e1, e2, e3] at hI
    refine ⟨?_, hI.2⟩
    simp only [share_Split.q]
    refine Ev.bind (quo_ev a w s ha hww hs) (Ev.pos (by omega) ?_)
    simp only
    rw [wrap_small (n := n - a * w / s) (by omega) (by omega)]
    have e4 : (r ++ List.replicate (w :: t).length 0).set p.length (a * w % s) = r ++ [a * w % s] ++ List.replicate t.length 0 := by
      rw [← hr, List.set_append_right _ _ (Nat.le_refl _)]
      simp [List.replicate_succ]
    rw [e4]
    exact hI.1
/-- What is left goes round. -/
theorem spg_ok (n : Nat) : ∀ (l : List (Int × Int)) (B : Int), 0 < l.length → (∀ e ∈ l, -1 ≤ e.2 ∧ 0 ≤ e.1 ∧ e.1 ≤ B) → B + n ≤ 9223372036854775807 → share_Split.go n (l.map (·.1)) (l.map (·.2)) = some ((spG n l).map (·.1)) := by
  induction n with
  | zero => intro l B _ _ _; rfl
  | succ n ih =>
    intro l B hl h hB
    obtain ⟨h1, h2, h3⟩ := top_bump l hl (fun e he => (h e he).1) _ rfl
    rw [share_Split.go, if_pos ⟨by rw [List.length_map]; exact h1, by simp⟩]
    have hb := h _ (List.getElem_mem h1)
    rw [wrap_small (by rw [rd_map_fst l _ h1]; omega) (by rw [rd_map_fst l _ h1]; omega), h2, h3]
    rw [ih (bump (mxr l) l) (B + 1) (by rw [bump_length]; exact hl) (fun e he => ?_) (by omega)]
    · rfl
    · rcases bump_mem _ _ e he with he | ⟨h4, y, hy, h5⟩
      · have := h e he; omega
      · have := h y hy; omega
theorem spE_mem {a s : Int} (ha : 0 ≤ a) (hs : 1 ≤ s) {l : List Int} (hl : ∀ w ∈ l, 0 ≤ w ∧ w ≤ s) : ∀ e ∈ spE a s l, 0 ≤ e.1 ∧ e.1 ≤ a ∧ 0 ≤ e.2 ∧ e.2 < s := by
  intro e he
  obtain ⟨w, hw, rfl⟩ := List.mem_map.mp he
  have h := hl w hw
  refine ⟨Int.ediv_nonneg (Int.mul_nonneg ha h.1) (by omega), ?_, Int.emod_nonneg _ (by omega), Int.emod_lt_of_pos _ (by omega)⟩
  exact Int.le_trans (Int.ediv_le_ediv (by omega) (Int.mul_le_mul_of_nonneg_left h.2 ha)) (by rw [Int.mul_ediv_cancel _ (by omega)]; exact Int.le_refl _)
theorem spV_ev (a : Int) (l : List Int) : Ev (fun k => share_Split.f k a l) (spV a l) := by
  have hm : share_money.f a = some (decide (0 ≤ a ∧ a ≤ 1152921504606846976)) := by
    unfold share_money.f
    by_cases h : a ≥ 0
    · rw [if_pos h]
      congr 1
      exact decide_eq_decide.mpr ⟨fun h2 => ⟨h, h2⟩, fun h2 => h2.2⟩
    · rw [if_neg h]
      congr 1
      exact (decide_eq_false (by omega)).symm
  simp only [share_Split.f, hm, Option.bind_some, decide_eq_true_eq]
  unfold spV
  by_cases c0 : 0 ≤ a ∧ a ≤ 1152921504606846976
  case neg => rw [if_neg c0]; exact Ev.neg c0 (Ev.val _)
  rw [if_pos c0]
  refine Ev.pos c0 ?_
  simp only [share_weighed.f]
  by_cases c1 : l.length ≤ 1024
  case neg =>
    rw [if_neg c1]
    refine Ev.bind (x := (0, 8)) (Ev.pos (by omega) (Ev.val _)) ?_
    exact Ev.neg (by decide) (Ev.val _)
  rw [if_pos c1]
  refine Ev.bind (Ev.neg (by omega) (wgh_loop l c1 _ 0 0 rfl (by omega) (by decide) (by decide))) ?_
  rw [List.drop_zero]
  cases hw : wgt 0 l with
  | none => exact Ev.neg (by decide) (Ev.val _)
  | some s =>
    obtain ⟨e, hww, h2, h3⟩ := wgt_ok l 0 s (by decide) (by decide) hw
    simp only
    refine Ev.pos (by trivial) ?_
    by_cases hs : s = 0
    · rw [if_pos hs]; exact Ev.pos hs (Ev.val _)
    rw [if_neg hs]
    have hsl : 1 ≤ s := by omega
    have hw2 : ∀ w ∈ l, 0 ≤ w ∧ w ≤ s := fun w hm => by have := hww w hm; omega
    have hlen : 0 < l.length := by
      rcases Nat.eq_zero_or_pos l.length with h | h
      · rw [List.eq_nil_of_length_eq_zero h] at hw
        obtain rfl := Option.some.inj hw
        exact absurd rfl hs
      · exact h
    obtain ⟨hq, hn⟩ := spq_ev a s c0 ⟨hsl, h3⟩ l [] [] a hw2 (by simp; omega) rfl c0.2 (by rw [show l.sum = s by omega]; exact Int.le_refl _)
    simp only [List.nil_append] at hq
    refine Ev.neg hs (Ev.pos ⟨hlen, by omega⟩ (Ev.bind hq ?_))
    have hsum : 0 ≤ ((spE a s l).map (·.1)).sum := sum_le (t := 0) (fun w hm => by
      obtain ⟨e, he, rfl⟩ := List.mem_map.mp hm
      exact (spE_mem c0.1 hsl hw2 e he).1)
    simp only
    refine Ev.pos (by omega) ?_
    have hg := spg_ok (a - ((spE a s l).map (·.1)).sum).toNat (spE a s l) 1152921504606846976 (by simpa [spE] using hlen) (fun e he => by
      have := spE_mem c0.1 hsl hw2 e he
      omega) (by omega)
    rw [hg]
    exact Ev.val _
/-- How many have a rest. -/
def cnt (l : List (Int × Int)) : Nat := (l.filter fun e => decide (0 < e.2)).length
theorem mxr_mem (l : List (Int × Int)) (h : 0 < cnt l) : 0 < mxr l ∧ ∃ e ∈ l, e.2 = mxr l := by
  have hp : 0 < mxr l := by
    unfold cnt at h
    obtain ⟨e, he⟩ := List.exists_mem_of_length_pos h
    rw [List.mem_filter, decide_eq_true_eq] at he
    have := (mxr_ge l).2 e he.1
    omega
  refine ⟨hp, ?_⟩
  clear h
  induction l with
  | nil => simp [mxr] at hp
  | cons x r ih =>
    rw [mxr] at hp ⊢
    by_cases c : mxr r < x.2
    · rw [if_pos c] at hp ⊢
      exact ⟨x, List.mem_cons_self, rfl⟩
    · rw [if_neg c] at hp ⊢
      obtain ⟨e, he, h2⟩ := ih hp
      exact ⟨e, List.mem_cons_of_mem _ he, h2⟩
theorem bump_facts (m : Int) (hm : 0 < m) (l : List (Int × Int)) (h : ∃ e ∈ l, e.2 = m) : cnt (bump m l) + 1 = cnt l ∧ ((bump m l).map (·.1)).sum = (l.map (·.1)).sum + 1 := by
  induction l with
  | nil => obtain ⟨e, he, _⟩ := h; cases he
  | cons x r ih =>
    rw [bump]
    by_cases c : x.2 = m
    · rw [if_pos c]
      have h1 : decide (0 < x.2) = true := decide_eq_true (by omega)
      refine ⟨by simp [cnt, List.filter_cons, h1], by simp only [List.map_cons, List.sum_cons]; omega⟩
    · rw [if_neg c]
      obtain ⟨e, he, h2⟩ := h
      rcases List.mem_cons.mp he with rfl | he
      · exact absurd h2 c
      · obtain ⟨h3, h4⟩ := ih ⟨e, he, h2⟩
        refine ⟨?_, by simp only [List.map_cons, List.sum_cons, h4]; omega⟩
        unfold cnt at h3 ⊢
        rw [List.filter_cons, List.filter_cons]
        split
        · simp only [List.length_cons]; omega
        · exact h3
theorem spG_sum (n : Nat) : ∀ l, n ≤ cnt l → ((spG n l).map (·.1)).sum = (l.map (·.1)).sum + n := by
  induction n with
  | zero => intro l _; simp [spG]
  | succ n ih =>
    intro l h
    obtain ⟨h1, h2⟩ := mxr_mem l (by omega)
    obtain ⟨h3, h4⟩ := bump_facts _ h1 l h2
    rw [spG, ih _ (by omega), h4]
    omega
/-- What becomes of one. -/
def Pk (e e' : Int × Int) : Prop := e' = e ∨ (0 < e.2 ∧ e' = (e.1 + 1, -1))
theorem Pk.trans {a b c : Int × Int} (h : Pk a b) (k : Pk b c) : Pk a c := by
  rcases h with rfl | ⟨h1, rfl⟩
  · exact k
  · rcases k with rfl | ⟨h2, _⟩
    · exact .inr ⟨h1, rfl⟩
    · exact absurd h2 (by show ¬ (0 : Int) < -1; decide)
theorem bump_pk (m : Int) (hm : 0 < m) (l : List (Int × Int)) : ∀ j, (h : j < l.length) → Pk l[j] ((bump m l)[j]'(by rw [bump_length]; exact h)) := by
  induction l with
  | nil => intro j h; cases h
  | cons x r ih =>
    intro j h
    simp only [bump]
    by_cases c : x.2 = m
    · simp only [if_pos c]
      cases j with
      | zero => exact .inr ⟨by show 0 < x.2; omega, rfl⟩
      | succ j => exact .inl rfl
    · simp only [if_neg c]
      cases j with
      | zero => exact .inl rfl
      | succ j => exact ih j (by simpa using h)
theorem spG_length (n : Nat) : ∀ l, (spG n l).length = l.length := by
  induction n with
  | zero => intro l; rfl
  | succ n ih => intro l; rw [spG, ih, bump_length]
theorem spG_pk (n : Nat) : ∀ l, n ≤ cnt l → ∀ j, (h : j < l.length) → Pk l[j] ((spG n l)[j]'(by rw [spG_length]; exact h)) := by
  induction n with
  | zero => intro l _ j h; exact .inl rfl
  | succ n ih =>
    intro l hc j h
    obtain ⟨h1, h2⟩ := mxr_mem l (by omega)
    obtain ⟨h3, _⟩ := bump_facts _ h1 l h2
    exact (bump_pk _ h1 l j h).trans (ih (bump (mxr l) l) (by omega) j (by rw [bump_length]; exact h))
theorem spE_sum (a s : Int) (l : List Int) : ((spE a s l).map (·.1)).sum * s + ((spE a s l).map (·.2)).sum = a * l.sum := by
  induction l with
  | nil => simp [spE]
  | cons w r ih =>
    simp only [spE, List.map_cons, List.sum_cons] at ih ⊢
    have hd := Int.mul_ediv_add_emod (a * w) s
    rw [Int.add_mul, Int.mul_add, ← ih, Int.mul_comm (a * w / s) s]
    omega
theorem cnt_ge (s : Int) (hs : 1 ≤ s) (l : List (Int × Int)) (h : ∀ e ∈ l, 0 ≤ e.2 ∧ e.2 < s) : (l.map (·.2)).sum ≤ (cnt l : Int) * (s - 1) := by
  induction l with
  | nil => simp [cnt]
  | cons x r ih =>
    have hx := h x List.mem_cons_self
    have := ih (fun e he => h e (List.mem_cons_of_mem _ he))
    rw [List.map_cons, List.sum_cons]
    unfold cnt at this ⊢
    rw [List.filter_cons]
    by_cases c : 0 < x.2
    · rw [if_pos (decide_eq_true c), List.length_cons]
      have e : ((((r.filter fun e => decide (0 < e.2)).length + 1 : Nat) : Int) * (s - 1)) = ((r.filter fun e => decide (0 < e.2)).length : Int) * (s - 1) + (s - 1) := by
        rw [Int.natCast_add, Int.add_mul]; simp
      rw [e]
      omega
    · rw [if_neg (by simpa using c)]
      omega
/-- There are enough rests. -/
theorem lft_cnt (a s : Int) (ha : 0 ≤ a) (hs : 1 ≤ s) (l : List Int) (hl : ∀ w ∈ l, 0 ≤ w ∧ w ≤ s) (he : l.sum = s) : 0 ≤ lft a (spE a s l) ∧ (lft a (spE a s l)).toNat ≤ cnt (spE a s l) := by
  have h1 := spE_sum a s l
  have h2 := cnt_ge s hs (spE a s l) (fun e hm => by have := spE_mem ha hs hl e hm; exact ⟨this.2.2.1, this.2.2.2⟩)
  have h3 : 0 ≤ ((spE a s l).map (·.2)).sum := sum_le (t := 0) (fun w hm => by
    obtain ⟨e, hm2, rfl⟩ := List.mem_map.mp hm
    exact (spE_mem ha hs hl e hm2).2.2.1)
  rw [he] at h1
  have h4 : lft a (spE a s l) * s = ((spE a s l).map (·.2)).sum := by
    unfold lft
    rw [Int.sub_mul]
    omega
  have h5 : 0 ≤ lft a (spE a s l) := by
    rcases Int.lt_or_le (lft a (spE a s l)) 0 with h | h
    · have := Int.mul_neg_of_neg_of_pos h (show 0 < s by omega)
      omega
    · exact h
  refine ⟨h5, ?_⟩
  have h6 : lft a (spE a s l) * s ≤ (cnt (spE a s l) : Int) * s := by
    have : (cnt (spE a s l) : Int) * (s - 1) ≤ (cnt (spE a s l) : Int) * s := Int.mul_le_mul_of_nonneg_left (by omega) (by omega)
    omega
  have := Int.le_of_mul_le_mul_right h6 (show 0 < s by omega)
  omega
section
variable {α : Type}
def bumpT (m : Int) : List (α × Bool × (Int × Int)) → List (α × Bool × (Int × Int))
  | [] => []
  | x :: t => if x.2.2.2 = m then (x.1, x.2.1, (x.2.2.1 + 1, -1)) :: t else x :: bumpT m t
theorem bumpT_e (m : Int) (l : List (α × Bool × (Int × Int))) : (bumpT m l).map (·.2.2) = bump m (l.map (·.2.2)) := by
  induction l with
  | nil => rfl
  | cons x r ih =>
    rw [bumpT, List.map_cons, bump]
    split
    · rfl
    · rw [List.map_cons, ih]
theorem bumpT_a (m : Int) (l : List (α × Bool × (Int × Int))) : (bumpT m l).map (·.1) = l.map (·.1) := by
  induction l with
  | nil => rfl
  | cons x r ih =>
    rw [bumpT]
    split
    · rfl
    · rw [List.map_cons, ih, List.map_cons]
/-- Who has no weight has no part and no rest. -/
def Idle (l : List (α × Bool × (Int × Int))) : Prop := ∀ x ∈ l, x.2.1 = false → x.2.2 = (0, 0)
theorem bumpT_idle (m : Int) (hm : 0 < m) (l : List (α × Bool × (Int × Int))) (h : Idle l) : Idle (bumpT m l) ∧ (bumpT m l).filter (·.2.1) = bumpT m (l.filter (·.2.1)) := by
  induction l with
  | nil => exact ⟨h, rfl⟩
  | cons x r ih =>
    obtain ⟨h1, h2⟩ := ih (fun y hy => h y (List.mem_cons_of_mem _ hy))
    have hx := h x List.mem_cons_self
    rw [bumpT]
    by_cases c : x.2.2.2 = m
    · rw [if_pos c]
      have hb : x.2.1 = true := by
        cases hb : x.2.1 with
        | true => rfl
        | false => rw [hx hb] at c; simp at c; omega
      refine ⟨fun y hy hf => ?_, ?_⟩
      · rcases List.mem_cons.mp hy with rfl | hy
        · rw [show (x.1, x.2.1, (x.2.2.1 + 1, (-1 : Int))).2.1 = x.2.1 from rfl, hb] at hf
          cases hf
        · exact h y (List.mem_cons_of_mem _ hy) hf
      · rw [List.filter_cons, if_pos (show (x.1, x.2.1, (x.2.2.1 + 1, (-1 : Int))).2.1 = true from hb), List.filter_cons, if_pos hb, bumpT, if_pos c]
    · rw [if_neg c]
      refine ⟨fun y hy hf => ?_, ?_⟩
      · rcases List.mem_cons.mp hy with rfl | hy
        · exact hx hf
        · exact h1 y hy hf
      · rw [List.filter_cons, List.filter_cons]
        cases hb : x.2.1 with
        | true => rw [if_pos rfl, if_pos rfl, bumpT, if_neg c, h2]
        | false => rw [if_neg (by decide), if_neg (by decide), h2]
theorem idle_mxr (l : List (α × Bool × (Int × Int))) (h : Idle l) (hc : 0 < cnt (l.map (·.2.2))) : mxr ((l.filter (·.2.1)).map (·.2.2)) = mxr (l.map (·.2.2)) := by
  obtain ⟨h1, e, he, h2⟩ := mxr_mem _ hc
  refine mxr_of (fun y hy => ?_) ?_ (by omega)
  · obtain ⟨x, hx, rfl⟩ := List.mem_map.mp hy
    exact (mxr_ge _).2 _ (List.mem_map.mpr ⟨x, (List.mem_filter.mp hx).1, rfl⟩)
  · obtain ⟨x, hx, rfl⟩ := List.mem_map.mp he
    refine ⟨x.2.2, List.mem_map.mpr ⟨x, List.mem_filter.mpr ⟨hx, ?_⟩, rfl⟩, h2⟩
    cases hb : x.2.1 with
    | true => rfl
    | false => rw [h x hx hb] at h2; simp at h2; omega
/-- What goes round goes round among those who have a weight. -/
theorem spG_idle (n : Nat) : ∀ l : List (α × Bool × (Int × Int)), Idle l → n ≤ cnt (l.map (·.2.2)) → ∃ l' : List (α × Bool × (Int × Int)), Idle l' ∧ l'.map (·.2.2) = spG n (l.map (·.2.2)) ∧ l'.map (·.1) = l.map (·.1) ∧ (l'.filter (·.2.1)).map (·.2.2) = spG n ((l.filter (·.2.1)).map (·.2.2)) ∧ (l'.filter (·.2.1)).map (·.1) = (l.filter (·.2.1)).map (·.1) := by
  induction n with
  | zero => intro l h _; exact ⟨l, h, rfl, rfl, rfl, rfl⟩
  | succ n ih =>
    intro l h hc
    obtain ⟨h1, e, he, h2⟩ := mxr_mem _ (show 0 < cnt (l.map (·.2.2)) by omega)
    obtain ⟨h3, h4⟩ := bumpT_idle _ h1 l h
    have h5 := (bump_facts _ h1 (l.map (·.2.2)) ⟨e, he, h2⟩).1
    obtain ⟨l', k1, k2, k3, k4, k5⟩ := ih (bumpT (mxr (l.map (·.2.2))) l) h3 (by rw [bumpT_e]; omega)
    refine ⟨l', k1, ?_, ?_, ?_, ?_⟩
    · rw [k2, bumpT_e]; rfl
    · rw [k3, bumpT_a]
    · rw [k4, h4, bumpT_e, spG, idle_mxr l h (by omega)]
    · rw [k5, h4, bumpT_a]
end
theorem spV_length (a : Int) (l : List Int) (h : (spV a l).2 = 0) : (spV a l).1.length = l.length := by
  unfold spV at h ⊢
  by_cases c0 : 0 ≤ a ∧ a ≤ 1152921504606846976
  case neg => rw [if_neg c0] at h; cases h
  rw [if_pos c0] at h ⊢
  by_cases c1 : l.length ≤ 1024
  case neg => rw [if_neg c1] at h; cases h
  rw [if_pos c1] at h ⊢
  cases hw : wgt 0 l with
  | none => rw [hw] at h; cases h
  | some s =>
    rw [hw] at h
    simp only at h ⊢
    by_cases hs : s = 0
    · rw [if_pos hs] at h; cases h
    · rw [if_neg hs]
      simp [spG_length, spE]
/-- The first position of a series. -/
def fdV (s : S24) : List S52 → ByteArray × Int × Int × Int × Int × Int
  | [] => (s.f0, s.f1, s.f2, s.f3, 0, 0)
  | p :: r => if eqD24 p.f0.f0 s.f0 p.f0.f1 s.f1 p.f0.f2 s.f2 p.f0.f3 s.f3 = true then (p.f0.f0, p.f0.f1, p.f0.f2, p.f0.f3, p.f1, p.f2) else fdV s r
theorem idxOf_spec {α : Type} (q : α → Bool) (l : List α) : ∀ i : Int, 0 ≤ i → (idxOf q l i = -1 ∧ ∀ x ∈ l, q x = false) ∨ ∃ j : Nat, ∃ h : j < l.length, idxOf q l i = i + j ∧ q l[j] = true ∧ ∀ n (hn : n < j), q (l[n]'(by omega)) = false := by
  induction l with
  | nil => intro i _; exact .inl ⟨rfl, fun x h => by cases h⟩
  | cons x r ih =>
    intro i hi
    rw [idxOf]
    by_cases h : q x = true
    · rw [if_pos h]
      exact .inr ⟨0, by simp, by simp, h, fun n hn => by omega⟩
    · rw [if_neg h]
      rcases ih (i + 1) (by omega) with ⟨h1, h2⟩ | ⟨j, hj, h1, h2, h3⟩
      · refine .inl ⟨h1, fun y hy => ?_⟩
        rcases List.mem_cons.mp hy with rfl | hy
        · simpa using h
        · exact h2 y hy
      · refine .inr ⟨j + 1, by simpa using hj, by rw [h1]; omega, h2, fun n hn => ?_⟩
        cases n with
        | zero => simpa using h
        | succ n => exact h3 n (by omega)
theorem fdV_none (s : S24) (l : List S52) (h : ∀ x ∈ l, position_place.q s.f0 s.f1 s.f2 s.f3 x = false) : fdV s l = (s.f0, s.f1, s.f2, s.f3, 0, 0) := by
  induction l with
  | nil => rfl
  | cons x r ih =>
    rw [fdV, if_neg (by have := h x List.mem_cons_self; rw [position_place.q] at this; rw [this]; decide)]
    exact ih (fun y hy => h y (List.mem_cons_of_mem _ hy))
theorem fdV_at (s : S24) (l : List S52) : ∀ j, (h : j < l.length) → position_place.q s.f0 s.f1 s.f2 s.f3 l[j] = true → (∀ n (hn : n < j), position_place.q s.f0 s.f1 s.f2 s.f3 (l[n]'(by omega)) = false) → fdV s l = (l[j].f0.f0, l[j].f0.f1, l[j].f0.f2, l[j].f0.f3, l[j].f1, l[j].f2) := by
  induction l with
  | nil => intro j h; cases h
  | cons x r ih =>
    intro j h hq hn
    cases j with
    | zero =>
      have hq2 : eqD24 x.f0.f0 s.f0 x.f0.f1 s.f1 x.f0.f2 s.f2 x.f0.f3 s.f3 = true := hq
      rw [fdV, if_pos hq2]
      rfl
    | succ j =>
      rw [fdV, if_neg (by have := hn 0 (by omega); simp only [List.getElem_cons_zero, position_place.q] at this; rw [this]; decide)]
      exact ih j (by simpa using h) hq (fun n hn2 => hn (n + 1) (by omega))
theorem fd_some (s : S24) (l : List S52) : position_Find.f l s.f0 s.f1 s.f2 s.f3 = some (fdV s l) := by
  simp only [position_Find.f, position_place.f, Option.bind_some]
  rcases idxOf_spec (position_place.q s.f0 s.f1 s.f2 s.f3) l 0 (Int.le_refl _) with ⟨h1, h2⟩ | ⟨j, hj, h1, h2, h3⟩
  · rw [h1, if_neg (by decide), fdV_none s l h2]
  · rw [h1, fdV_at s l j hj h2 h3, Int.zero_add, if_pos (by omega), if_pos (by omega), if_pos (by omega)]
    simp [rd_T52, hj]
theorem fdr_loop (s : S24) (l : List S52) (hl : l.length ≤ 9223372036854775806) (n : Nat) : ∀ i : Nat, l.length - i = n → i ≤ l.length → Ev (fun k => contangoref15_Find.l0 k l (i : Int) s.f0 s.f1 s.f2 s.f3) (fdV s (l.drop i)) := by
  induction n with
  | zero =>
    intro i hi hle
    refine Ev.shift ?_
    simp only [contangoref15_Find.l0]
    rw [List.drop_eq_nil_of_le (by omega)]
    exact Ev.neg (by omega) (Ev.val _)
  | succ n ih =>
    intro i hi hle
    have hlt : i < l.length := by omega
    have hw : wrap64 ((i : Int) + 1) = ((i + 1 : Nat) : Int) := by unfold wrap64; omega
    have hr : rd_T52 l (i : Int) = l[i] := by simp [rd_T52, hlt]
    refine Ev.shift ?_
    simp only [contangoref15_Find.l0, hr, hw]
    rw [List.drop_eq_getElem_cons hlt, fdV]
    exact Ev.pos (by omega) (Ev.pos (by omega) (Ev.both (fun _ => Ev.val _) (fun _ => ih (i + 1) (by omega) (by omega))))
theorem fdr_ev (s : S24) (l : List S52) (hl : l.length ≤ 9223372036854775806) : Ev (fun k => contangoref15_Find.f k l s.f0 s.f1 s.f2 s.f3) (fdV s l) := by
  simp only [contangoref15_Find.f]
  exact fdr_loop s l hl _ 0 rfl (by omega)
theorem wsc (i : Nat) (h : i < 1000000) : wrap64 ((i : Int) + 1) = ((i + 1 : Nat) : Int) := by unfold wrap64; omega
theorem rd_hd (l : List S58) (i : Nat) (h : i < l.length) : rd_T58 l (i : Int) = l[i] := by simp [rd_T58, h]
/-- The first of holdings that may not be, and why. -/
def pcV : List S58 → Int
  | [] => 0
  | h :: r => if posC h.f1 = 0 then pcV r else posC h.f1
def tcV (l : List S58) : Int := if 1024 < l.length then 8 else pcV l
theorem pc_ev (l : List S58) : Ev (fun k => tear_check.pos k l) (pcV l) := by
  induction l with
  | nil => simp only [tear_check.pos]; exact Ev.val _
  | cons h r ih =>
    rw [pcV]
    simp only [tear_check.pos]
    refine Ev.bind (posC_ev h.f1) ?_
    by_cases c : posC h.f1 = 0
    · rw [if_pos c]; exact Ev.pos c ih
    · rw [if_neg c]; exact Ev.neg c (Ev.val _)
theorem tc_ev (l : List S58) : Ev (fun k => tear_check.f k l []) (tcV l) := by
  unfold tcV
  simp only [tear_check.f]
  by_cases c : 1024 < l.length
  · rw [if_pos c]; exact Ev.pos (.inr c) (Ev.val _)
  · rw [if_neg c]; exact Ev.neg (fun h => h.elim (fun h => by simp at h) c) (pc_ev l)
theorem tcV_len {l : List S58} (h : tcV l = 0) : l.length ≤ 1024 ∧ pcV l = 0 := by
  unfold tcV at h
  by_cases c : 1024 < l.length
  · rw [if_pos c] at h; cases h
  · rw [if_neg c] at h; exact ⟨by omega, h⟩
theorem pcV_at {l : List S58} (h : pcV l = 0) : ∀ x ∈ l, posC x.f1 = 0 := by
  induction l with
  | nil => intro x hx; cases hx
  | cons y r ih =>
    intro x hx
    rw [pcV] at h
    by_cases c : posC y.f1 = 0
    · rw [if_pos c] at h
      rcases List.mem_cons.mp hx with e | hx
      · rw [e]; exact c
      · exact ih h x hx
    · rw [if_neg c] at h; exact absurd h c
theorem posC_len {l : List S52} (h : posC l = 0) : l.length ≤ 128 := by
  unfold posC at h
  by_cases c : l.length > 128
  · rw [if_pos c] at h; cases h
  · omega
/-- One series ahead of another one. -/
theorem cmpS_lt (a b : S24) : cmpS a b < 0 ↔ Op.bytesLess a.f0.toList b.f0.toList = true ∨ (a.f0.toList = b.f0.toList ∧ (a.f2 < b.f2 ∨ (a.f2 = b.f2 ∧ (a.f1 < b.f1 ∨ (a.f1 = b.f1 ∧ a.f3 < b.f3))))) := by
  unfold cmpS cmpI
  by_cases h1 : Op.bytesLess a.f0.toList b.f0.toList = true
  · rw [if_pos h1]; exact ⟨fun _ => .inl h1, fun _ => by decide⟩
  rw [if_neg h1]
  by_cases h2 : Op.bytesLess b.f0.toList a.f0.toList = true
  · rw [if_pos h2]
    refine ⟨fun h => absurd h (by decide), fun h => ?_⟩
    rcases h with h | ⟨e, _⟩
    · exact absurd h h1
    · rw [e, less_irrefl] at h2; cases h2
  rw [if_neg h2]
  have e : a.f0.toList = b.f0.toList := Classical.byContradiction fun hne => h1 (less_flip h2 hne)
  constructor
  · intro h
    refine .inr ⟨e, ?_⟩
    clear h1 h2 e
    (repeat' split at h) <;> omega
  · rintro (h | ⟨_, h⟩)
    · exact absurd h h1
    · clear h1 h2 e
      (repeat' split) <;> omega
theorem cmpS_trans {a b c : S24} (h1 : cmpS a b < 0) (h2 : cmpS b c < 0) : cmpS a c < 0 := by
  rw [cmpS_lt] at *
  rcases h1 with h1 | ⟨e1, h1⟩
  · rcases h2 with h2 | ⟨e2, _⟩
    · exact .inl (less_trans _ _ _ h1 h2)
    · exact .inl (by rw [← e2]; exact h1)
  · rcases h2 with h2 | ⟨e2, h2⟩
    · exact .inl (by rw [e1]; exact h2)
    · exact .inr ⟨e1.trans e2, by omega⟩
def posB (p : S52) : Prop := 0 ≤ p.f1 ∧ p.f1 ≤ 1048576 ∧ 0 ≤ p.f2 ∧ p.f2 ≤ 1048576 ∧ ¬ (p.f1 = 0 ∧ p.f2 = 0)
theorem posF_zero {q : Option S52} {p : S52} (h : posF q p = 0) : (∀ q', q = some q' → cmpS q'.f0 p.f0 < 0) ∧ posB p := by
  have hd : 0 ≤ p.f1 ∧ p.f1 ≤ 1048576 ∧ 0 ≤ p.f2 ∧ p.f2 ≤ 1048576 ∧ ¬ (p.f1 = 0 ∧ p.f2 = 0) := by
    by_cases d : 0 ≤ p.f1 ∧ p.f1 ≤ 1048576 ∧ 0 ≤ p.f2 ∧ p.f2 ≤ 1048576 ∧ ¬ (p.f1 = 0 ∧ p.f2 = 0)
    · exact d
    · exfalso
      unfold posF at h
      rw [if_neg d] at h
      exact (show ∀ b : Bool, (if b = true then (19 : Int) else 18) ≠ 0 from by intro b; cases b <;> decide) _ h
  refine ⟨fun q' e => ?_, hd⟩
  subst e
  unfold posF at h
  by_cases c : cmpS q'.f0 p.f0 ≥ 0
  · rw [if_pos (decide_eq_true c)] at h; cases h
  · clear h hd
    omega
theorem scan_rise (l : List S52) : ∀ q : Option S52, scan posF q l = 0 → l.Pairwise (fun a b => cmpS a.f0 b.f0 < 0) ∧ (∀ q', q = some q' → ∀ p ∈ l, cmpS q'.f0 p.f0 < 0) ∧ ∀ p ∈ l, posB p := by
  induction l with
  | nil => intro q _; exact ⟨List.Pairwise.nil, fun _ _ p hp => (by cases hp), fun p hp => (by cases hp)⟩
  | cons p r ih =>
    intro q h
    rw [scan_cons] at h
    by_cases c : posF q p = 0
    · rw [if_pos c] at h
      obtain ⟨i1, i2, i3⟩ := ih (some p) h
      obtain ⟨j1, j2⟩ := posF_zero c
      refine ⟨List.Pairwise.cons (fun y hy => i2 p rfl y hy) i1, fun q' e y hy => ?_, fun y hy => ?_⟩
      · rcases List.mem_cons.mp hy with rfl | hy
        · exact j1 q' e
        · exact cmpS_trans (j1 q' e) (i2 p rfl y hy)
      · rcases List.mem_cons.mp hy with rfl | hy
        · exact j2
        · exact i3 y hy
    · rw [if_neg c] at h; exact absurd h c
theorem posC_rise {l : List S52} (h : posC l = 0) : l.length ≤ 128 ∧ l.Pairwise (fun a b => cmpS a.f0 b.f0 < 0) ∧ ∀ p ∈ l, posB p := by
  unfold posC at h
  by_cases c : l.length > 128
  · rw [if_pos c] at h; cases h
  · rw [if_neg c] at h
    obtain ⟨i1, _, i3⟩ := scan_rise l none h
    exact ⟨by omega, i1, i3⟩
theorem ser_iff {a b : S24} : eqD24 a.f0 b.f0 a.f1 b.f1 a.f2 b.f2 a.f3 b.f3 = true ↔ a.f0.toList = b.f0.toList ∧ a.f1 = b.f1 ∧ a.f2 = b.f2 ∧ a.f3 = b.f3 := by
  simp only [eqD24, Bool.and_eq_true, beq_iff_eq]
theorem ser_apart {a b s : S24} (h : cmpS a b < 0) (h1 : eqD24 a.f0 s.f0 a.f1 s.f1 a.f2 s.f2 a.f3 s.f3 = true) (h2 : eqD24 b.f0 s.f0 b.f1 s.f1 b.f2 s.f2 b.f3 s.f3 = true) : False := by
  rw [ser_iff] at h1 h2
  rw [cmpS_lt] at h
  obtain ⟨a0, a1, a2, a3⟩ := h1
  obtain ⟨b0, b1, b2, b3⟩ := h2
  rcases h with h | ⟨_, h⟩
  · rw [a0, b0, less_irrefl] at h; cases h
  · omega
/-- How many lots of a side one has. -/
def hsV (s : S24) (long : Bool) (h : S58) : Int := if long = true then (fdV s h.f1).2.2.2.2.1 else (fdV s h.f1).2.2.2.2.2
theorem has_some (s : S24) (long : Bool) (l : List S58) : tear_Parts.has s.f0 s.f1 s.f2 s.f3 long l = some (l.map (hsV s long)) := by
  induction l with
  | nil => rfl
  | cons h r ih => rw [tear_Parts.has, fd_some, Option.bind_some, ih, Option.bind_some]; rfl
def tlV : List S58 → List Int → List S62 → List S62
  | h :: l, k :: r, t => if k > 0 then tlV l r (t ++ [⟨h.f0, k⟩]) else tlV l r t
  | [], _, t => t
  | _ :: _, [], t => t
theorem tell_some (l : List S58) : ∀ (p : List Int) (t : List S62), p.length = l.length → t.length + l.length ≤ 100000 → tear_Parts.tell l p t = some (tlV l p t) := by
  induction l with
  | nil =>
    intro p t hp _
    cases p with
    | nil => rfl
    | cons a b => cases hp
  | cons h r ih =>
    intro p t hp ht
    rw [List.length_cons] at ht
    cases p with
    | nil => cases hp
    | cons k q =>
      rw [tear_Parts.tell, tlV]
      have hq : q.length = r.length := by simpa using hp
      by_cases c : k > 0
      · rw [if_pos c, if_pos c, if_pos (by omega)]
        exact ih q _ hq (by rw [List.length_append, List.length_singleton]; omega)
      · rw [if_neg c, if_neg c]
        exact ih q t hq (by omega)
theorem tlV_len (l : List S58) : ∀ (p : List Int) (t : List S62), (tlV l p t).length ≤ t.length + l.length := by
  induction l with
  | nil => intro p t; exact Nat.le_refl _
  | cons h r ih =>
    intro p t
    cases p with
    | nil => exact Nat.le_add_right _ _
    | cons k q =>
      rw [tlV, List.length_cons]
      split
      · have := ih q (t ++ [⟨h.f0, k⟩])
        rw [List.length_append, List.length_singleton] at this
        omega
      · have := ih q t
        omega
/-- Parts, or why there are none. -/
def ptV (s : S24) (long : Bool) (n : Int) (l : List S58) : List S62 × Int :=
  if tcV l = 0 then (if n < 0 ∨ n > 1048576 then ([], 18) else if tear_Parts.sum (l.map (hsV s long)) 0 < n then ([], 30) else if n = 0 then ([], 0) else if (spV n (l.map (hsV s long))).2 = 0 then (tlV l (spV n (l.map (hsV s long))).1 [], 0) else ([], (spV n (l.map (hsV s long))).2)) else ([], tcV l)
theorem pt_ev (s : S24) (long : Bool) (n : Int) (l : List S58) : Ev (fun k => tear_Parts.f k l s.f0 s.f1 s.f2 s.f3 long n) (ptV s long n l) := by
  unfold ptV
  simp only [tear_Parts.f, has_some, Option.bind_some]
  refine Ev.bind (tc_ev l) ?_
  by_cases c0 : tcV l = 0
  case neg => rw [if_neg c0]; exact Ev.neg c0 (Ev.val _)
  rw [if_pos c0]
  refine Ev.pos c0 ?_
  by_cases c1 : n < 0 ∨ n > 1048576
  · rw [if_pos c1]; exact Ev.pos c1 (Ev.val _)
  rw [if_neg c1]
  refine Ev.neg c1 ?_
  by_cases c2 : tear_Parts.sum (l.map (hsV s long)) 0 < n
  · rw [if_pos c2]; exact Ev.pos c2 (Ev.val _)
  rw [if_neg c2]
  refine Ev.neg c2 ?_
  by_cases c3 : n = 0
  · rw [if_pos c3]; exact Ev.pos c3 (Ev.val _)
  rw [if_neg c3]
  refine Ev.neg c3 (Ev.bind (spV_ev n _) ?_)
  by_cases c4 : (spV n (l.map (hsV s long))).2 = 0
  · have hv : (if (spV n (l.map (hsV s long))).2 = 0 then (tlV l (spV n (l.map (hsV s long))).1 [], (0 : Int)) else ([], (spV n (l.map (hsV s long))).2)) = (tlV l (spV n (l.map (hsV s long))).1 [], 0) := if_pos c4
    rw [hv]
    have h1 := spV_length n _ c4
    rw [List.length_map] at h1
    have h2 := tcV_len c0
    refine Ev.pos c4 ?_
    rw [tell_some l _ [] h1 (by rw [List.length_nil]; omega)]
    exact Ev.val _
  · have hv : (if (spV n (l.map (hsV s long))).2 = 0 then (tlV l (spV n (l.map (hsV s long))).1 [], (0 : Int)) else ([], (spV n (l.map (hsV s long))).2)) = ([], (spV n (l.map (hsV s long))).2) := if_neg c4
    rw [hv]
    exact Ev.neg c4 (Ev.val _)
theorem acc_iff {a b : S55} : tear_Apply.acc a b = true ↔ a = b := by
  unfold tear_Apply.acc eqD55
  simp only [Bool.and_eq_true, beq_iff_eq]
  constructor
  · rintro ⟨h1, h2⟩
    obtain ⟨a0, a1⟩ := a
    obtain ⟨b0, b1⟩ := b
    simp only at h1 h2
    rw [bytes_inj h1, bytes_inj h2]
  · rintro rfl
    exact ⟨rfl, rfl⟩
theorem rd_pt (l : List S62) (i : Nat) (h : i < l.length) : rd_T62 l (i : Int) = l[i] := by simp [rd_T62, h]
theorem wgt_of (l : List Int) : ∀ a, 0 ≤ a → (∀ w ∈ l, 0 ≤ w) → a + l.sum ≤ 1152921504606846976 → wgt a l = some (a + l.sum) := by
  induction l with
  | nil => intro a _ _ _; simp [wgt]
  | cons x r ih =>
    intro a h0 h1 h2
    rw [List.sum_cons] at h2
    have hx := h1 x List.mem_cons_self
    have hr : 0 ≤ r.sum := sum_le (t := 0) (fun w hw => h1 w (List.mem_cons_of_mem _ hw))
    rw [wgt, if_pos ⟨hx, by omega⟩, ih (a + x) (by omega) (fun w hw => h1 w (List.mem_cons_of_mem _ hw)) (by omega), List.sum_cons, Int.add_assoc]
theorem spV_val (a s : Int) (l : List Int) (ha : 0 ≤ a ∧ a ≤ 1152921504606846976) (hl : l.length ≤ 1024) (hw : ∀ w ∈ l, 0 ≤ w) (hs : l.sum = s) (hs1 : 1 ≤ s ∧ s ≤ 1152921504606846976) : spV a l = ((spG (lft a (spE a s l)).toNat (spE a s l)).map (·.1), 0) := by
  unfold spV
  rw [if_pos ha, if_pos hl, wgt_of l 0 (Int.le_refl _) hw (by omega), Int.zero_add, hs]
  simp only
  rw [if_neg (by omega)]
theorem sum_bd (ws : List Int) (h : ∀ w ∈ ws, 0 ≤ w ∧ w ≤ 1048576) : 0 ≤ ws.sum ∧ ws.sum ≤ 1048576 * (ws.length : Int) ∧ ∀ w ∈ ws, w ≤ ws.sum := by
  induction ws with
  | nil => exact ⟨by decide, by decide, fun w hw => by cases hw⟩
  | cons x r ih =>
    obtain ⟨i1, i2, i3⟩ := ih (fun w hw => h w (List.mem_cons_of_mem _ hw))
    have hx := h x List.mem_cons_self
    rw [List.sum_cons, List.length_cons]
    refine ⟨by omega, by omega, fun w hw => ?_⟩
    rcases List.mem_cons.mp hw with rfl | hw
    · omega
    · have := i3 w hw
      omega
theorem tsum (ws : List Int) (h : ∀ w ∈ ws, 0 ≤ w ∧ w ≤ 1048576) : ∀ a : Int, 0 ≤ a → a + 1048576 * (ws.length : Int) ≤ 9000000000000000000 → tear_Parts.sum ws a = a + ws.sum := by
  induction ws with
  | nil => intro a _ _; show a = a + 0; omega
  | cons x r ih =>
    intro a h0 h1
    have hx := h x List.mem_cons_self
    rw [List.length_cons] at h1
    have e : tear_Parts.sum (x :: r) a = tear_Parts.sum r (wrap64 (a + x)) := rfl
    rw [e, wrap_small (by omega) (by omega), ih (fun w hw => h w (List.mem_cons_of_mem _ hw)) (a + x) (by omega) (by omega), List.sum_cons]
    omega
theorem fd_bd (s : S24) (l : List S52) (hb : ∀ p ∈ l, posB p) : (0 ≤ (fdV s l).2.2.2.2.1 ∧ (fdV s l).2.2.2.2.1 ≤ 1048576) ∧ 0 ≤ (fdV s l).2.2.2.2.2 ∧ (fdV s l).2.2.2.2.2 ≤ 1048576 := by
  induction l with
  | nil => rw [fdV]; exact ⟨⟨Int.le_refl _, show (0 : Int) ≤ 1048576 by decide⟩, Int.le_refl _, show (0 : Int) ≤ 1048576 by decide⟩
  | cons p r ih =>
    rw [fdV]
    split
    · have := hb p List.mem_cons_self
      unfold posB at this
      exact ⟨⟨this.1, this.2.1⟩, this.2.2.1, this.2.2.2.1⟩
    · exact ih (fun y hy => hb y (List.mem_cons_of_mem _ hy))
theorem hs_bd (s : S24) (long : Bool) (h : S58) (hb : ∀ p ∈ h.f1, posB p) : 0 ≤ hsV s long h ∧ hsV s long h ≤ 1048576 := by
  have := fd_bd s h.f1 hb
  unfold hsV
  split
  · exact this.1
  · exact this.2
theorem ws_bd (s : S24) (long : Bool) (l : List S58) (h : pcV l = 0) : ∀ w ∈ l.map (hsV s long), 0 ≤ w ∧ w ≤ 1048576 := by
  intro w hw
  obtain ⟨x, hx, rfl⟩ := List.mem_map.mp hw
  exact hs_bd s long x (posC_rise (pcV_at h x hx)).2.2
/-- One's part is fair. -/
def Fair2 (n S w p : Int) : Prop := 0 ≤ p ∧ p ≤ w ∧ (0 < S → -S < p * S - n * w ∧ p * S - n * w < S)
theorem fair2_full (n : Int) (ws : List Int) (S : Int) (hn : 1 ≤ n) (hS : n ≤ S) (hs : ws.sum = S) (hw : ∀ w ∈ ws, 0 ≤ w ∧ w ≤ S) :
    ((spG (lft n (spE n S ws)).toNat (spE n S ws)).map (·.1)).sum = n ∧ ∀ i (h : i < ws.length), Fair2 n S ws[i] (((spG (lft n (spE n S ws)).toNat (spE n S ws)).map (·.1))[i]'(by simp [spG_length, spE]; exact h)) := by
  obtain ⟨h0, hc⟩ := lft_cnt n S (by omega) (by omega) ws hw hs
  refine ⟨?_, fun i h => ?_⟩
  · rw [spG_sum _ _ hc]
    unfold lft at h0 ⊢
    omega
  · have hl : i < (spE n S ws).length := by simpa [spE] using h
    have hk := spG_pk _ _ hc i hl
    rw [List.getElem_map]
    have he : (spE n S ws)[i] = (n * ws[i] / S, n * ws[i] % S) := by simp [spE]
    have hwi := hw _ (List.getElem_mem h)
    have hd := Int.mul_ediv_add_emod (n * ws[i]) S
    have hm0 := Int.emod_nonneg (n * ws[i]) (show S ≠ 0 by omega)
    have hm1 := Int.emod_lt_of_pos (n * ws[i]) (show 0 < S by omega)
    have hq0 : 0 ≤ n * ws[i] / S := Int.ediv_nonneg (Int.mul_nonneg (by omega) hwi.1) (by omega)
    have hle : n * ws[i] ≤ S * ws[i] := Int.mul_le_mul_of_nonneg_right hS hwi.1
    have hqle : n * ws[i] / S ≤ ws[i] := by
      have h1 : S * (n * ws[i] / S) ≤ S * ws[i] := by omega
      exact Int.le_of_mul_le_mul_left h1 (by omega)
    have hcm : n * ws[i] / S * S = S * (n * ws[i] / S) := Int.mul_comm _ _
    rcases hk with hk | ⟨hk1, hk2⟩
    · rw [hk, he]
      refine ⟨hq0, hqle, fun _ => ?_⟩
      show -S < n * ws[i] / S * S - n * ws[i] ∧ n * ws[i] / S * S - n * ws[i] < S
      rw [hcm]
      generalize n * ws[i] = x at *
      generalize S * (x / S) = y at *
      omega
    · rw [hk2, he]
      rw [he] at hk1
      have hk1 : 0 < n * ws[i] % S := hk1
      have hlt : n * ws[i] / S < ws[i] := by
        have h1 : S * (n * ws[i] / S) < S * ws[i] := by omega
        exact Int.lt_of_mul_lt_mul_left h1 (by omega)
      refine ⟨?_, ?_, fun _ => ?_⟩
      · show 0 ≤ n * ws[i] / S + 1; omega
      · show n * ws[i] / S + 1 ≤ ws[i]; omega
      · show -S < (n * ws[i] / S + 1) * S - n * ws[i] ∧ (n * ws[i] / S + 1) * S - n * ws[i] < S
        rw [Int.add_mul, Int.one_mul, hcm]
        generalize n * ws[i] = x at *
        generalize S * (x / S) = y at *
        omega
theorem tlV_zero (l : List S58) : ∀ n, tlV l (List.replicate n 0) [] = [] := by
  induction l with
  | nil => intro n; cases n <;> rfl
  | cons x r ih =>
    intro n
    cases n with
    | zero => rfl
    | succ n => rw [List.replicate_succ, tlV, if_neg (by decide), ih]
theorem rep_sum : ∀ n : Nat, (List.replicate n (0 : Int)).sum = 0
  | 0 => rfl
  | n + 1 => by rw [List.replicate_succ, List.sum_cons, rep_sum n]; rfl
/-- What is known of the parts. -/
theorem pt_fair (s : S24) (long : Bool) (n : Int) (l : List S58) (h2 : (ptV s long n l).2 = 0) :
    tcV l = 0 ∧ 0 ≤ n ∧ n ≤ 1048576 ∧ ∃ (ps : List Int) (hps : ps.length = l.length), (ptV s long n l).1 = tlV l ps [] ∧ ps.sum = n ∧ ∀ i (h : i < l.length), Fair2 n (l.map (hsV s long)).sum (hsV s long l[i]) (ps[i]'(by rw [hps]; exact h)) := by
  have c0 : tcV l = 0 := by
    unfold ptV at h2
    by_cases c0 : tcV l = 0
    · exact c0
    · rw [if_neg c0] at h2; exact absurd h2 c0
  obtain ⟨hl, hpc⟩ := tcV_len c0
  have hw := ws_bd s long l hpc
  obtain ⟨b1, b2, b3⟩ := sum_bd _ hw
  rw [List.length_map] at b2
  have hS := tsum (l.map (hsV s long)) hw 0 (Int.le_refl _) (by rw [List.length_map]; omega)
  rw [Int.zero_add] at hS
  unfold ptV at h2 ⊢
  rw [if_pos c0] at h2 ⊢
  rw [hS] at h2 ⊢
  by_cases c1 : n < 0 ∨ n > 1048576
  · rw [if_pos c1] at h2; cases h2
  rw [if_neg c1] at h2 ⊢
  by_cases c2 : (l.map (hsV s long)).sum < n
  · rw [if_pos c2] at h2; cases h2
  rw [if_neg c2] at h2 ⊢
  refine ⟨c0, by omega, by omega, ?_⟩
  by_cases c3 : n = 0
  · rw [if_pos c3] at h2 ⊢
    refine ⟨List.replicate l.length 0, List.length_replicate, (tlV_zero l _).symm, by rw [rep_sum, c3], fun i h => ?_⟩
    have := hw _ (List.mem_map.mpr ⟨l[i], List.getElem_mem h, rfl⟩)
    rw [List.getElem_replicate, c3]
    exact ⟨Int.le_refl _, this.1, fun hp => by rw [Int.zero_mul, Int.zero_mul]; omega⟩
  rw [if_neg c3] at h2 ⊢
  by_cases c4 : (spV n (l.map (hsV s long))).2 = 0
  case neg => rw [if_neg c4] at h2; exact absurd h2 c4
  rw [if_pos c4]
  obtain ⟨S, hSe⟩ : ∃ S, (l.map (hsV s long)).sum = S := ⟨_, rfl⟩
  rw [hSe] at b1 b2 b3 c2 ⊢
  obtain ⟨g1, g2⟩ := fair2_full n (l.map (hsV s long)) S (by omega) (by omega) hSe (fun w hm => ⟨(hw w hm).1, b3 w hm⟩)
  have hv := spV_val n S (l.map (hsV s long)) ⟨by omega, by omega⟩ (by rw [List.length_map]; exact hl) (fun w hm => (hw w hm).1) hSe ⟨by omega, by omega⟩
  have hlen : (spV n (l.map (hsV s long))).1.length = l.length := by
    have := spV_length n (l.map (hsV s long)) c4
    rwa [List.length_map] at this
  refine ⟨(spV n (l.map (hsV s long))).1, hlen, rfl, by rw [hv]; exact g1, fun i h => ?_⟩
  have h3 := g2 i (by rw [List.length_map]; exact h)
  have e1 : (l.map (hsV s long))[i]'(by rw [List.length_map]; exact h) = hsV s long l[i] := by simp
  rw [e1] at h3
  have e2 : (spV n (l.map (hsV s long))).1 = (spG (lft n (spE n S (l.map (hsV s long)))).toNat (spE n S (l.map (hsV s long)))).map (·.1) := by rw [hv]
  simp only [e2]
  exact h3
theorem tlV_acc (l : List S58) : ∀ (p : List Int) (t : List S62), tlV l p t = t ++ tlV l p [] := by
  induction l with
  | nil => intro p t; cases p <;> simp [tlV]
  | cons h r ih =>
    intro p t
    cases p with
    | nil => simp [tlV]
    | cons k q =>
      rw [tlV, tlV]
      split
      · rw [ih q (t ++ _), ih q ([] ++ _)]
        simp
      · exact ih q t
theorem tlV_cons (h : S58) (l : List S58) (k : Int) (r : List Int) : tlV (h :: l) (k :: r) [] = if k > 0 then ⟨h.f0, k⟩ :: tlV l r [] else tlV l r [] := by
  rw [tlV]
  split
  · rw [tlV_acc]; rfl
  · rfl
theorem tlV_pos (l : List S58) : ∀ (p : List Int), ∀ y ∈ tlV l p [], 0 < y.f1 := by
  induction l with
  | nil => intro p y hy; cases p <;> cases hy
  | cons h r ih =>
    intro p y hy
    cases p with
    | nil => cases hy
    | cons k q =>
      rw [tlV_cons] at hy
      split at hy
      · rename_i c
        rcases List.mem_cons.mp hy with rfl | hy
        · exact c
        · exact ih q y hy
      · exact ih q y hy
/-- Is no account there twice? -/
theorem al1 (l : List S58) (hl : l.length ≤ 100) (i : Nat) (hi : i < l.length) (R : Bool) (hR : Ev (fun k => contangolaw50_alone.l0 k l ((i + 1 : Nat) : Int)) R) (n : Nat) : ∀ m : Nat, i - m = n → m ≤ i →
    ∃ b, Ev (fun k => contangolaw50_alone.l1 k l (i : Int) (m : Int)) b ∧ (b = true → R = true ∧ ∀ j (hj : j < i), m ≤ j → tear_Apply.acc (l[i]).f0 (l[j]'(by omega)).f0 = false) := by
  induction n with
  | zero =>
    intro m hm hle
    refine ⟨R, Ev.shift ?_, fun h => ⟨h, fun j hj hmj => by omega⟩⟩
    simp only [contangolaw50_alone.l1, wsc i (by omega)]
    exact Ev.neg (by omega) hR
  | succ n ih =>
    intro m hm hle
    have hmi : m < l.length := by omega
    by_cases c : tear_Apply.acc (l[i]).f0 (l[m]).f0 = true
    · refine ⟨false, Ev.shift ?_, fun h => by cases h⟩
      simp only [contangolaw50_alone.l1, rd_hd l i hi, rd_hd l m hmi]
      exact Ev.pos (by omega) (Ev.pos (by omega) (Ev.pos (by omega) (Ev.pos (by omega) (Ev.pos (by omega) (Ev.pos c (Ev.val _))))))
    · obtain ⟨b, h1, h2⟩ := ih (m + 1) (by omega) (by omega)
      refine ⟨b, Ev.shift ?_, fun h => ⟨(h2 h).1, fun j hj hmj => ?_⟩⟩
      · simp only [contangolaw50_alone.l1, rd_hd l i hi, rd_hd l m hmi, wsc m (by omega)]
        exact Ev.pos (by omega) (Ev.pos (by omega) (Ev.pos (by omega) (Ev.pos (by omega) (Ev.pos (by omega) (Ev.neg c h1)))))
      · by_cases e : j = m
        · subst e; simpa using c
        · exact (h2 h).2 j hj (by omega)
theorem al0 (l : List S58) (hl : l.length ≤ 100) (n : Nat) : ∀ i : Nat, l.length - i = n → i ≤ l.length →
    ∃ b, Ev (fun k => contangolaw50_alone.l0 k l (i : Int)) b ∧ (b = true → ∀ i' (hi : i' < l.length), i ≤ i' → ∀ j (hj : j < i'), tear_Apply.acc (l[i']).f0 (l[j]'(by omega)).f0 = false) := by
  induction n with
  | zero =>
    intro i hi hle
    refine ⟨true, Ev.shift ?_, fun _ i' h1 h2 => by omega⟩
    simp only [contangolaw50_alone.l0]
    exact Ev.neg (by omega) (Ev.val _)
  | succ n ih =>
    intro i hi hle
    have hlt : i < l.length := by omega
    obtain ⟨R, r1, r2⟩ := ih (i + 1) (by omega) (by omega)
    obtain ⟨b, b1, b2⟩ := al1 l hl i hlt R r1 i 0 (by omega) (by omega)
    refine ⟨b, Ev.shift ?_, fun h i' hi' hle' j hj => ?_⟩
    · simp only [contangolaw50_alone.l0]
      exact Ev.pos (by omega) b1
    · by_cases e : i' = i
      · subst e; exact (b2 h).2 j hj (by omega)
      · exact r2 (b2 h).1 i' hi' (by omega) j hj
theorem al_ev (l : List S58) (hl : l.length ≤ 100) : ∃ b, Ev (fun k => contangolaw50_alone.f k l) b ∧ (b = true → ∀ i (hi : i < l.length) j (hj : j < i), tear_Apply.acc (l[i]).f0 (l[j]'(by omega)).f0 = false) := by
  obtain ⟨b, b1, b2⟩ := al0 l hl l.length 0 (by omega) (by omega)
  refine ⟨b, by simp only [contangolaw50_alone.f]; exact b1, fun h i hi j hj => b2 h i hi (by omega) j hj⟩
theorem few50L (l : List S58) (hl : l.length ≤ 9223372036854775806) (n : Nat) : ∀ (i : Nat) (c : Int), l.length - i = n → i ≤ l.length → ∃ b, Ev (fun k => contangolaw50_few.l0 k l c (i : Int)) b := by
  induction n with
  | zero =>
    intro i c hi hle
    refine ⟨true, Ev.shift ?_⟩
    simp only [contangolaw50_few.l0]
    exact Ev.neg (by omega) (Ev.val _)
  | succ n ih =>
    intro i c hi hle
    have hlt : i < l.length := by omega
    by_cases h : wrap64 (c + wrap64 (1 + ((rd_T58 l (i : Int)).f1.length : Int))) > 2500
    · refine ⟨false, Ev.shift ?_⟩
      simp only [contangolaw50_few.l0]
      exact Ev.pos (by clear h; omega) (Ev.pos (by clear h; omega) (Ev.pos h (Ev.val _)))
    · obtain ⟨b, hb⟩ := ih (i + 1) (wrap64 (c + wrap64 (1 + ((rd_T58 l (i : Int)).f1.length : Int)))) (by clear h; omega) (by clear h; omega)
      refine ⟨b, Ev.shift ?_⟩
      have w : wrap64 ((i : Int) + 1) = ((i + 1 : Nat) : Int) := by clear h hb; unfold wrap64; omega
      simp only [contangolaw50_few.l0, w]
      clear w
      exact Ev.pos (by clear h hb; omega) (Ev.pos (by clear h hb; omega) (Ev.neg h hb))
theorem few50_ev (l : List S58) (hl : l.length ≤ 9223372036854775806) : ∃ b, Ev (fun k => contangolaw50_few.f k l) b := by
  obtain ⟨b, hb⟩ := few50L l hl l.length 0 0 (by omega) (by omega)
  exact ⟨b, by simp only [contangolaw50_few.f]; exact hb⟩
theorem goes_true : contangolaw50_goes.f 200 = some true := by decide +kernel
theorem goes_ev : Ev (fun k => contangolaw50_goes.f k) true := Ev.of goes_true (fun k => contangolaw50_goes.mono k)
/-- What an account gets of parts. -/
def gtV (a : S55) : List S62 → Int
  | [] => 0
  | y :: r => (if tear_Apply.acc y.f0 a = true then y.f1 else 0) + gtV a r
theorem gtV_nn (a : S55) (l : List S62) (h : ∀ y ∈ l, 0 < y.f1) : 0 ≤ gtV a l := by
  induction l with
  | nil => exact Int.le_refl _
  | cons y r ih =>
    have h1 := ih (fun z hz => h z (List.mem_cons_of_mem _ hz))
    have h2 := h y List.mem_cons_self
    rw [gtV]
    split <;> omega
theorem gtV_out (a : S55) (l : List S58) : ∀ p : List Int, (∀ x ∈ l, tear_Apply.acc x.f0 a = false) → gtV a (tlV l p []) = 0 := by
  induction l with
  | nil => intro p _; cases p <;> rfl
  | cons h r ih =>
    intro p hx
    cases p with
    | nil => rfl
    | cons k q =>
      have h1 := ih q (fun x hm => hx x (List.mem_cons_of_mem _ hm))
      have h2 := hx h List.mem_cons_self
      rw [tlV_cons]
      split
      · rw [gtV, h1]
        show (if tear_Apply.acc h.f0 a = true then k else 0) + 0 = 0
        rw [h2]; rfl
      · exact h1
theorem gtV_at (l : List S58) : ∀ (p : List Int) (i : Nat) (hi : i < l.length) (hp : i < p.length), (∀ k ∈ p, 0 ≤ k) → (∀ i (hi : i < l.length) j (hj : j < i), tear_Apply.acc (l[i]).f0 (l[j]'(by omega)).f0 = false) → gtV (l[i]).f0 (tlV l p []) = p[i] := by
  induction l with
  | nil => intro p i hi; cases hi
  | cons h r ih =>
    intro p i hi hp hk hd
    cases p with
    | nil => cases hp
    | cons k q =>
      have hk0 := hk k List.mem_cons_self
      rw [tlV_cons]
      cases i with
      | zero =>
        have h0 : gtV h.f0 (tlV r q []) = 0 := gtV_out h.f0 r q (fun x hx => by
          obtain ⟨j, hj, rfl⟩ := List.mem_iff_getElem.mp hx
          exact hd (j + 1) (by simpa using hj) 0 (by omega))
        show gtV h.f0 (if k > 0 then ⟨h.f0, k⟩ :: tlV r q [] else tlV r q []) = k
        split
        · rw [gtV, h0]
          show (if tear_Apply.acc h.f0 h.f0 = true then k else 0) + 0 = k
          rw [acc_iff.mpr rfl, if_pos rfl, Int.add_zero]
        · rw [h0]; omega
      | succ i =>
        have hi' : i < r.length := by simpa using hi
        have hp' : i < q.length := by simpa using hp
        have h1 := ih q i hi' hp' (fun w hw => hk w (List.mem_cons_of_mem _ hw)) (fun a ha b hb => hd (a + 1) (by simpa using ha) (b + 1) (by omega))
        have h2 : tear_Apply.acc h.f0 (r[i]).f0 = false := by
          have := hd (i + 1) hi 0 (by omega)
          cases hc : tear_Apply.acc h.f0 (r[i]).f0 with
          | false => rfl
          | true =>
            have e := acc_iff.mp hc
            have h3 : tear_Apply.acc (r[i]).f0 h.f0 = false := this
            rw [e, acc_iff.mpr rfl] at h3
            cases h3
        show gtV (r[i]).f0 (if k > 0 then ⟨h.f0, k⟩ :: tlV r q [] else tlV r q []) = q[i]
        split
        · rw [gtV, h1]
          show (if tear_Apply.acc h.f0 (r[i]).f0 = true then k else 0) + q[i] = q[i]
          rw [h2, if_neg (by decide), Int.zero_add]
        · exact h1
theorem has_ev (s : S24) (long : Bool) (n : Int) (h : S58) (hl : h.f1.length ≤ 128) : Ev (fun k => contangolaw50_has.f k h.f0.f0 h.f0.f1 h.f1 s.f0 s.f1 s.f2 s.f3 long n) (hsV s long h) := by
  simp only [contangolaw50_has.f]
  unfold hsV
  refine Ev.bind (fdr_ev s h.f1 (by omega)) ?_
  cases long with
  | true => exact Ev.pos rfl (Ev.val _)
  | false => exact Ev.neg (by decide) (Ev.val _)
theorem te0 (s : S24) (long : Bool) (n : Int) (l : List S58) (a : List S62) (hl : l.length ≤ 100) (hpc : pcV l = 0) {R : Bool} (m : Nat) : ∀ (i : Nat) (t : Int), l.length - i = m → i ≤ l.length → 0 ≤ t → t ≤ 1048576 * (i : Int) →
    Ev (fun k => contangolaw50_TearEven.l1 k l a (t + ((l.drop i).map (hsV s long)).sum) 0 s.f0 s.f1 s.f2 s.f3 long n) R → Ev (fun k => contangolaw50_TearEven.l0 k l a t (i : Int) s.f0 s.f1 s.f2 s.f3 long n) R := by
  induction m with
  | zero =>
    intro i t hi hle h0 h1 h
    rw [show l.drop i = [] from List.drop_eq_nil_of_le (by omega)] at h
    refine Ev.shift ?_
    simp only [contangolaw50_TearEven.l0]
    refine Ev.neg (by omega) ?_
    simpa using h
  | succ m ih =>
    intro i t hi hle h0 h1 h
    have hlt : i < l.length := by omega
    have hpos := posC_rise (pcV_at hpc l[i] (List.getElem_mem hlt))
    have hx := hs_bd s long l[i] hpos.2.2
    refine Ev.shift ?_
    simp only [contangolaw50_TearEven.l0, rd_hd l i hlt, wsc i (by omega)]
    refine Ev.pos (by omega) (Ev.pos (by omega) (Ev.bind (has_ev s long n l[i] hpos.1) ?_))
    rw [wrap_small (n := t + hsV s long l[i]) (by omega) (by omega)]
    refine ih (i + 1) _ (by omega) (by omega) (by omega) (by omega) ?_
    rw [List.drop_eq_getElem_cons hlt, List.map_cons, List.sum_cons, ← Int.add_assoc] at h
    exact h
theorem te2 (s : S24) (long : Bool) (n S : Int) (l : List S58) (a : List S62) (hl : l.length ≤ 100) (ha : a.length ≤ 1024) (hpos : ∀ y ∈ a, 0 < y.f1) (i : Nat) (hi : i < l.length) (p : Int) (hp : p ≤ 1048576)
    (h : Ev (fun k => contangolaw50_TearEven.l2 k l a S (i : Int) p (a.length : Int) s.f0 s.f1 s.f2 s.f3 long n) true) (m : Nat) : ∀ (j : Nat) (g : Int), a.length - j = m → j ≤ a.length → 0 ≤ g → g + gtV (l[i]).f0 (a.drop j) = p →
    Ev (fun k => contangolaw50_TearEven.l2 k l a S (i : Int) g (j : Int) s.f0 s.f1 s.f2 s.f3 long n) true := by
  induction m with
  | zero =>
    intro j g hj hle h0 hg
    rw [show a.drop j = [] from List.drop_eq_nil_of_le (by omega), gtV, Int.add_zero] at hg
    rw [hg, show (j : Int) = (a.length : Int) by omega]
    exact h
  | succ m ih =>
    intro j g hj hle h0 hg
    have hlt : j < a.length := by omega
    have hy := hpos _ (List.getElem_mem hlt)
    have hnn := gtV_nn (l[i]).f0 (a.drop (j + 1)) (fun y hy => hpos y (List.mem_of_mem_drop hy))
    rw [List.drop_eq_getElem_cons hlt, gtV] at hg
    refine Ev.shift ?_
    simp only [contangolaw50_TearEven.l2, rd_hd l i hi, rd_pt a j hlt, wsc j (by omega)]
    refine Ev.pos (by omega) (Ev.pos (by omega) (Ev.pos (by omega) (Ev.pos (by omega) ?_)))
    by_cases c : tear_Apply.acc (a[j]).f0 (l[i]).f0 = true
    · rw [if_pos c] at hg
      rw [wrap_small (n := g + (a[j]).f1) (by omega) (by omega)]
      exact Ev.pos c (ih (j + 1) _ (by omega) (by omega) (by omega) (by omega))
    · rw [if_neg c, Int.zero_add] at hg
      exact Ev.neg c (ih (j + 1) _ (by omega) (by omega) h0 hg)
theorem te_end (p S n w : Int) (hS : 0 ≤ S ∧ S ≤ 104857600) (hn : 0 ≤ n ∧ n ≤ 1048576) (hw : 0 ≤ w ∧ w ≤ 1048576) (h : Fair2 n S w p) : 0 < S → -S < wrap64 (wrap64 (p * S) - wrap64 (n * w)) ∧ wrap64 (wrap64 (p * S) - wrap64 (n * w)) < S ∧ wrap64 (-S) = -S := by
  intro hS0
  obtain ⟨f1, f2, f3⟩ := h
  obtain ⟨g1, g2⟩ := f3 hS0
  have a1 : 0 ≤ p * S := Int.mul_nonneg f1 hS.1
  have a2 : p * S ≤ 1048576 * 104857600 := Int.mul_le_mul (by omega) hS.2 hS.1 (by decide)
  have b1 : 0 ≤ n * w := Int.mul_nonneg hn.1 hw.1
  have b2 : n * w ≤ 1048576 * 1048576 := Int.mul_le_mul hn.2 hw.2 hw.1 (by decide)
  generalize p * S = x at *
  generalize n * w = y at *
  rw [wrap_small (n := x) (by omega) (by omega), wrap_small (n := y) (by omega) (by omega), wrap_small (n := x - y) (by omega) (by omega), wrap_small (n := -S) (by omega) (by omega)]
  exact ⟨g1, g2, rfl⟩
theorem te1 (s : S24) (long : Bool) (n S : Int) (l : List S58) (ps : List Int) (hps : ps.length = l.length) (hl : l.length ≤ 100) (hpc : pcV l = 0) (hn : 0 ≤ n ∧ n ≤ 1048576) (hS : 0 ≤ S ∧ S ≤ 104857600)
    (hf : ∀ i (h : i < l.length), Fair2 n S (hsV s long l[i]) (ps[i]'(by rw [hps]; exact h))) (hd : ∀ i (hi : i < l.length) j (hj : j < i), tear_Apply.acc (l[i]).f0 (l[j]'(by omega)).f0 = false) (m : Nat) : ∀ i : Nat, l.length - i = m → i ≤ l.length →
    Ev (fun k => contangolaw50_TearEven.l1 k l (tlV l ps []) S (i : Int) s.f0 s.f1 s.f2 s.f3 long n) true := by
  have hk : ∀ k ∈ ps, 0 ≤ k := fun k hk => by
    obtain ⟨j, hj, rfl⟩ := List.mem_iff_getElem.mp hk
    exact (hf j (by omega)).1
  have hal := tlV_len l ps []
  rw [List.length_nil] at hal
  induction m with
  | zero =>
    intro i hi hle
    refine Ev.shift ?_
    simp only [contangolaw50_TearEven.l1]
    exact Ev.neg (by omega) (Ev.bind goes_ev (Ev.val _))
  | succ m ih =>
    intro i hi hle
    have hlt : i < l.length := by omega
    have hpos := posC_rise (pcV_at hpc l[i] (List.getElem_mem hlt))
    have hw := hs_bd s long l[i] hpos.2.2
    have hfi := hf i hlt
    have hg := gtV_at l ps i hlt (by omega) hk hd
    have hI := ih (i + 1) (by omega) (by omega)
    have he := te_end _ S n _ hS hn hw hfi
    refine Ev.shift ?_
    simp only [contangolaw50_TearEven.l1]
    refine Ev.pos (by omega) (te2 s long n S l (tlV l ps []) hl (by omega) (tlV_pos l ps) i hlt (ps[i]'(by omega)) (by have := hfi.2.1; omega) ?_ (tlV l ps []).length 0 0 (by omega) (by omega) (Int.le_refl _) (by rw [List.drop_zero, hg, Int.zero_add]))
    refine Ev.shift ?_
    simp only [contangolaw50_TearEven.l2, rd_hd l i hlt, wsc i (by omega)]
    refine Ev.neg (by omega) (Ev.pos (by omega) (Ev.pos (by omega) (Ev.bind (has_ev s long n l[i] hpos.1) ?_)))
    have hle2 := hfi.2.1
    by_cases c : S > 0
    · obtain ⟨e1, e2, e3⟩ := he c
      rw [e3]
      exact Ev.pos c (Ev.neg (by omega) (Ev.neg (by omega) (Ev.bind (has_ev s long n l[i] hpos.1) (Ev.neg (by omega) hI))))
    · exact Ev.neg c (Ev.bind (has_ev s long n l[i] hpos.1) (Ev.neg (by omega) hI))
theorem TearEven : contangolaw50_TearEven.Said := by
  intro l x _ _ hs _
  refine Ev.get ?_
  have j : ∀ q : Bool, (q = false → l.length ≤ 100 ∧ ∀ i (hi : i < l.length) j (hj : j < i), tear_Apply.acc (l[i]).f0 (l[j]'(by omega)).f0 = false) → Ev (fun k => contangolaw50_TearEven.j0 k l q x.f0.f0 x.f0.f1 x.f0.f2 x.f0.f3 x.f1 x.f2) true := by
    intro q hq
    refine Ev.shift ?_
    simp only [contangolaw50_TearEven.j0]
    cases q with
    | true => exact Ev.pos rfl (Ev.bind goes_ev (Ev.val _))
    | false =>
      obtain ⟨hl, hd⟩ := hq rfl
      refine Ev.neg (by decide) (Ev.bind (pt_ev x.f0 x.f1 x.f2 l) ?_)
      by_cases h2 : (ptV x.f0 x.f1 x.f2 l).2 = 0
      case neg => exact Ev.neg h2 (Ev.bind goes_ev (Ev.val _))
      refine Ev.pos h2 ?_
      obtain ⟨c0, n0, n1, ps, hps, e1, e2, hf⟩ := pt_fair x.f0 x.f1 x.f2 l h2
      obtain ⟨_, hpc⟩ := tcV_len c0
      rw [e1]
      obtain ⟨b1, b2, _⟩ := sum_bd _ (ws_bd x.f0 x.f1 l hpc)
      rw [List.length_map] at b2
      refine te0 x.f0 x.f1 x.f2 l _ hl hpc l.length 0 0 (by omega) (by omega) (Int.le_refl _) (by decide) ?_
      rw [List.drop_zero, Int.zero_add]
      exact te1 x.f0 x.f1 x.f2 _ l ps hps hl hpc ⟨n0, n1⟩ ⟨b1, by omega⟩ hf hd l.length 0 (by omega) (by omega)
  obtain ⟨b, hb⟩ := few50_ev l (by have := hs.1; omega)
  simp only [contangolaw50_TearEven.f]
  by_cases hl : l.length ≤ 100
  case neg => exact Ev.pos (by omega) (j true (fun h => by cases h))
  refine Ev.neg (by omega) (Ev.bind hb ?_)
  by_cases c : b = true
  · obtain ⟨d, d1, d2⟩ := al_ev l hl
    exact Ev.pos c (Ev.bind d1 (j (!d) (fun h => ⟨hl, d2 (by simpa using h)⟩)))
  · exact Ev.neg c (j true (fun h => by cases h))
end Go.Proofs.Ytjmkdmbgldcleaa.Pure
