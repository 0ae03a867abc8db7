/- An expiry's cash comes to nothing; as many lots are assigned as are exercised: the law, as a statement over numbers and lists. -/
import Derived.Test.YtoejllkjhaeeeaaArgExpiryZero
namespace Go.Proofs.Ytoejllkjhaeeeaa.Pure
set_option linter.unusedSimpArgs false
set_option linter.unusedVariables false
open Go.RowKit Go.Proofs.Ytoejllkjhaeeeaa.PExpiryZero Go.Proofs.Ytoejllkjhaeeeaa.Opens Go.Proofs.YtoejllkjhaeeeaaW.PrintWords Go.Proofs.YtoejllkjhaeeeaaW.PrintLast
/-- Comes to r, at all large numbers of rounds. -/
def Ev {α : Type} (g : Nat → Option α) (r : α) : Prop := ∃ K, ∀ k, K ≤ k → g k = some r
theorem Ev.shift {α : Type} {g : Nat → Option α} {r : α} (h : Ev (fun k => g (k + 1)) r) : Ev g r := by
  obtain ⟨K, h⟩ := h
  refine ⟨K + 1, fun k hk => ?_⟩
  obtain ⟨m, rfl⟩ : ∃ m, k = m + 1 := ⟨k - 1, by omega⟩
  exact h m (by omega)
theorem Ev.val {α : Type} (r : α) : Ev (fun _ => some r) r := ⟨0, fun _ _ => rfl⟩
theorem Ev.bind {α β : Type} {g : Nat → Option α} {f : Nat → α → Option β} {x : α} {r : β} (h : Ev g x) (h' : Ev (fun k => f k x) r) : Ev (fun k => (g k).bind (f k)) r := by
  obtain ⟨K, h⟩ := h
  obtain ⟨K', h'⟩ := h'
  exact ⟨max K K', fun k hk => by show (g k).bind (f k) = some r; rw [h k (by omega)]; exact h' k (by omega)⟩
theorem Ev.get {α : Type} {g : Nat → Option α} {r : α} (h : Ev g r) : ∃ k, g k = some r := by
  obtain ⟨K, h⟩ := h
  exact ⟨K, h K (Nat.le_refl _)⟩
theorem Ev.of {α : Type} {g : Nat → Option α} {r : α} {k0 : Nat} (h : g k0 = some r) (hm : ∀ k, LeO (g k) (g (k + 1))) : Ev g r := ⟨k0, fun _ hk => at_rounds hm hk h⟩
theorem Ev.pos {α : Type} {c : Prop} [Decidable c] {a b : Nat → Option α} {r : α} (hc : c) (h : Ev a r) : Ev (fun k => if c then a k else b k) r := by
  obtain ⟨K, h⟩ := h
  exact ⟨K, fun k hk => by show (if c then a k else b k) = some r; rw [if_pos hc]; exact h k hk⟩
theorem Ev.neg {α : Type} {c : Prop} [Decidable c] {a b : Nat → Option α} {r : α} (hc : ¬ c) (h : Ev b r) : Ev (fun k => if c then a k else b k) r := by
  obtain ⟨K, h⟩ := h
  exact ⟨K, fun k hk => by show (if c then a k else b k) = some r; rw [if_neg hc]; exact h k hk⟩
/-- Both ways, each where it is taken. -/
theorem Ev.ite {α : Type} {c : Prop} [Decidable c] {a b : Nat → Option α} {r : α} (h : c → Ev a r) (h' : ¬ c → Ev b r) : Ev (fun k => if c then a k else b k) r := by
  by_cases hc : c
  · exact Ev.pos hc (h hc)
  · exact Ev.neg hc (h' hc)
theorem wrap_small {n : Int} (h0 : -9223372036854775808 ≤ n) (h1 : n ≤ 9223372036854775807) : wrap64 n = n := by unfold wrap64; omega
/-- Both ways, each with its own end. -/
theorem Ev.both {α : Type} {c : Prop} [Decidable c] {a b : Nat → Option α} {r s : α} (h : c → Ev a r) (h' : ¬ c → Ev b s) : Ev (fun k => if c then a k else b k) (if c then r else s) := by
  by_cases hc : c
  · rw [if_pos hc]; exact Ev.pos hc (h hc)
  · rw [if_neg hc]; exact Ev.neg hc (h' hc)
theorem Ev.valOf {α : Type} {r s : α} (h : s = r) : Ev (fun _ => some r) s := by subst h; exact Ev.val _
/-- The first fault of a list, each element looked at beside the one ahead of it. -/
def scan {α : Type} (f : Option α → α → Int) : Option α → List α → Int
  | _, [] => 0
  | q, p :: r => if f q p = 0 then scan f (some p) r else f q p
/-- The element ahead of a place. -/
def prevAt {α : Type} (l : List α) (i : Nat) : Option α := if i = 0 then none else l[i - 1]?
theorem prevAt_succ {α : Type} (l : List α) (i : Nat) (h : i < l.length) : prevAt l (i + 1) = some l[i] := by
  simp [prevAt, h]
theorem prevAt_pos {α : Type} (l : List α) (i : Nat) (h0 : 0 < i) (h : i - 1 < l.length) : prevAt l i = some l[i - 1] := by
  rw [prevAt, if_neg (by omega), List.getElem?_eq_getElem h]
theorem scan_cons {α : Type} (f : Option α → α → Int) (q : Option α) (p : α) (r : List α) : scan f q (p :: r) = if f q p = 0 then scan f (some p) r else f q p := rfl
def letB (c : Int) : Bool := decide (97 ≤ c) && decide (c ≤ 122)
def digB (c : Int) : Bool := decide (48 ≤ c) && decide (c ≤ 57)
/-- From place i on, d letters or digits. -/
def restB (s : ByteArray) : Nat → Nat → Bool
  | 0, _ => true
  | d + 1, i => (letB (bt s i) || digB (bt s i)) && restB s d (i + 1)
/-- Is a text a name? -/
def nameB (s : ByteArray) : Bool := decide (0 < s.size) && decide (s.size ≤ 12) && letB (bt s 0) && restB s s.size 0
theorem letter_some (c : Int) : words_letter.f c = some (letB c) := by
  unfold words_letter.f letB
  split <;> rename_i h <;> simp [h]
theorem digit_some (c : Int) : words_digit.f c = some (digB c) := by
  unfold words_digit.f digB
  split <;> rename_i h <;> simp [h]
theorem toList_nil (s : ByteArray) : s.toList = [] ↔ s.size = 0 := by
  rw [ByteArray.toList_eq]
  constructor
  · intro h
    have := congrArg List.length h
    simpa using this
  · intro h
    apply List.eq_nil_of_length_eq_zero
    simpa using h
theorem words_Name_loop (s : ByteArray) (hs : s.size ≤ 12) (d : Nat) : ∀ (k i : Nat), s.size - i = d → i ≤ s.size → d < k → words_Name.l0 k s (s.size : Int) i = some (restB s d i) := by
  induction d with
  | zero =>
    intro k i hd hi hk
    obtain ⟨k, rfl⟩ : ∃ m, k = m + 1 := ⟨k - 1, by omega⟩
    simp only [words_Name.l0]
    rw [if_neg (by omega)]
    rfl
  | succ d ih =>
    intro k i hd hi hk
    obtain ⟨k, rfl⟩ : ∃ m, k = m + 1 := ⟨k - 1, by omega⟩
    have hw : wrap64 ((i : Int) + 1) = ((i + 1 : Nat) : Int) := by unfold wrap64; omega
    simp only [words_Name.l0]
    rw [if_pos (by omega), if_pos (by omega), if_pos (by omega), letter_some, digit_some, hw, ih k (i + 1) (by omega) (by omega) (by omega)]
    simp only [Option.bind_some, restB]
    cases letB (bt s i) <;> cases digB (bt s i) <;> simp
theorem words_Name_some (s : ByteArray) : words_Name.f 20 s = some (nameB s) := by
  unfold words_Name.f nameB
  by_cases h0 : s.size = 0
  · rw [if_pos ((toList_nil s).mpr h0)]
    simp [words_Name.j0, h0]
  · rw [if_neg (fun h => h0 ((toList_nil s).mp h))]
    by_cases h1 : (s.size : Int) > 12
    · rw [if_pos h1]
      have : ¬ s.size ≤ 12 := by omega
      simp [words_Name.j0, this]
    · rw [if_neg h1, if_pos (by omega), letter_some]
      have h2 : s.size ≤ 12 := by omega
      have h3 : 0 < s.size := by omega
      simp only [Option.bind_some, h2, h3, decide_true, Bool.true_and]
      have hl := words_Name_loop s h2 s.size 19 0 (by omega) (by omega) (by omega)
      cases letB (bt s 0)
      · simp [words_Name.j0]
      · simp only [words_Name.j0, Bool.not_true, Bool.false_eq_true, if_false]
        rw [Bool.true_and]
        exact hl
theorem less_irrefl (a : List UInt8) : Op.bytesLess a a = false := by
  induction a with
  | nil => rfl
  | cons x r ih =>
    have h : ¬ x < x := fun h => by have := UInt8.lt_iff_toNat_lt.mp h; omega
    simp [Op.bytesLess, ih, h]
theorem less_trans (a : List UInt8) : ∀ b c : List UInt8, Op.bytesLess a b = true → Op.bytesLess b c = true → Op.bytesLess a c = true := by
  induction a with
  | nil =>
    intro b c h1 h2
    cases c with
    | nil => cases b <;> simp [Op.bytesLess] at h2
    | cons z c => rfl
  | cons x a ih =>
    intro b c h1 h2
    cases b with
    | nil => simp [Op.bytesLess] at h1
    | cons y b =>
      cases c with
      | nil => simp [Op.bytesLess] at h2
      | cons z c =>
        simp only [Op.bytesLess, Bool.or_eq_true, decide_eq_true_eq, Bool.and_eq_true, beq_iff_eq, UInt8.lt_iff_toNat_lt] at h1 h2 ⊢
        rcases h1 with h1 | ⟨rfl, h1⟩
        · rcases h2 with h2 | ⟨rfl, h2⟩
          · exact Or.inl (by omega)
          · exact Or.inl h1
        · rcases h2 with h2 | ⟨rfl, h2⟩
          · exact Or.inl h2
          · exact Or.inr ⟨rfl, ih _ _ h1 h2⟩
theorem less_flip {a b : List UInt8} (h : ¬ Op.bytesLess a b = true) (hne : b ≠ a) : Op.bytesLess b a = true := by
  have := Go.Proofs.YtoejllkjhaeeeaaHand.bytesLess_flip b a
  have h' : Op.bytesLess a b = false := by simpa using h
  rw [h', beq_eq_false_iff_ne.mpr hne] at this
  simpa using this
theorem less_ne {a b : List UInt8} (h : Op.bytesLess a b = true) : a ≠ b := by
  intro e
  subst e
  rw [less_irrefl] at h
  cases h
/-- The order of numbers, as a number. -/
def cmpI (a b : Int) : Int := if a < b then -1 else if a > b then 1 else 0
/-- The order of series, as a number. -/
def cmpS (a b : S25) : Int := if Op.bytesLess a.f0.toList b.f0.toList = true then -1 else if Op.bytesLess b.f0.toList a.f0.toList = true then 1 else if a.f2 = b.f2 then (if a.f1 = b.f1 then cmpI a.f3 b.f3 else cmpI a.f1 b.f1) else cmpI a.f2 b.f2
theorem cmp_int (a b : Int) : cmp_Compare_int.f a b = some (cmpI a b) := by
  unfold cmp_Compare_int.f cmp_isNaN_int.f cmpI
  simp only [Option.bind_some, bne_self_eq_false, Bool.false_eq_true, if_false]
  split
  · rfl
  · split <;> rfl
theorem cmp_str (a b : ByteArray) : cmp_Compare_string.f a b = some (if Op.bytesLess a.toList b.toList = true then -1 else if Op.bytesLess b.toList a.toList = true then 1 else 0) := by
  unfold cmp_Compare_string.f cmp_isNaN_string.f
  simp only [Option.bind_some, bne_self_eq_false, Bool.false_eq_true, if_false]
  split
  · rfl
  · split <;> rfl
theorem cmpI_self (a : Int) : cmpI a a = 0 := by unfold cmpI; rw [if_neg (by omega), if_neg (by omega)]
theorem cmp_ser (a b : S25) : series_Compare.f a.f0 a.f1 a.f2 a.f3 b.f0 b.f1 b.f2 b.f3 = some (cmpS a b) := by
  unfold series_Compare.f
  by_cases h : (eqD25 a.f0 b.f0 a.f1 b.f1 a.f2 b.f2 a.f3 b.f3) = true
  · rw [if_pos h]
    unfold eqD25 at h
    simp only [Bool.and_eq_true, beq_iff_eq] at h
    obtain ⟨h1, h2, h3, h4⟩ := h
    unfold cmpS
    rw [h1, h2, h3, h4, less_irrefl]
    simp [cmpI_self]
  · rw [if_neg h]
    by_cases h1 : a.f0.toList = b.f0.toList
    · rw [if_pos h1]
      unfold cmpS
      rw [h1, less_irrefl]
      simp only [cmp_int, Option.bind_some, Bool.false_eq_true, if_false]
      split
      · split <;> rfl
      · rfl
    · rw [if_neg h1, cmp_str]
      unfold cmpS
      by_cases h2 : Op.bytesLess a.f0.toList b.f0.toList = true
      · rw [if_pos h2, if_pos h2]; rfl
      · rw [if_neg h2, if_neg h2, if_pos (less_flip h2 (fun e => h1 e.symm)), if_pos (less_flip h2 (fun e => h1 e.symm))]; rfl
/-- What is amiss with a product. -/
def prC (p : S23) : Int :=
  if nameB p.f0 = true then (if 0 ≤ p.f1 ∧ p.f1 ≤ 7 then (if 1 ≤ p.f2 ∧ p.f2 ≤ 4096 then (if 1 ≤ p.f3 ∧ p.f3 ≤ 16777216 then (if -16777216 ≤ p.f4 ∧ p.f4 ≤ 16777216 ∧ -16777216 ≤ p.f5 ∧ p.f5 ≤ 16777216 ∧ p.f4 ≤ p.f5 ∧ Int.tmod p.f4 p.f3 = 0 ∧ Int.tmod p.f5 p.f3 = 0 then 0 else 17) else 16) else 2) else 25) else 10
theorem within_some (n m : Int) (h0 : 0 ≤ m) (h1 : m ≤ 1000000000) : product_within.f n m = some (decide (-m ≤ n ∧ n ≤ m)) := by
  unfold product_within.f
  have hw : wrap64 (-m) = -m := by unfold wrap64; omega
  rw [hw]
  by_cases h : n ≥ -m
  · rw [if_pos h]
    congr 1
    exact decide_eq_decide.mpr ⟨fun h2 => ⟨h, h2⟩, fun h2 => h2.2⟩
  · rw [if_neg h]
    congr 1
    exact (decide_eq_false (by omega)).symm
theorem nameB_nil : nameB (⟨#[]⟩ : ByteArray) = false := by decide
theorem prC_ev (p : S23) : Ev (fun k => product_Check.f k p.f0 p.f1 p.f2 p.f3 p.f4 p.f5 p.f6) (prC p) := by
  have h3 : Ev (fun k => product_Check.j3 k (if p.f3 < 1 then true else decide (p.f3 > 16777216)) p.f0 p.f1 p.f2 p.f3 p.f4 p.f5 p.f6) (if 1 ≤ p.f3 ∧ p.f3 ≤ 16777216 then (if -16777216 ≤ p.f4 ∧ p.f4 ≤ 16777216 ∧ -16777216 ≤ p.f5 ∧ p.f5 ≤ 16777216 ∧ p.f4 ≤ p.f5 ∧ Int.tmod p.f4 p.f3 = 0 ∧ Int.tmod p.f5 p.f3 = 0 then 0 else 17) else 16) := by
    refine Ev.shift ?_
    simp only [product_Check.j3, within_some _ 16777216 (by omega) (by omega), Option.bind_some, decide_eq_true_eq]
    by_cases c : 1 ≤ p.f3 ∧ p.f3 ≤ 16777216
    · rw [if_pos c, if_neg (by omega : ¬ p.f3 < 1), decide_eq_false (by omega : ¬ p.f3 > 16777216)]
      refine Ev.neg (by decide) ?_
      by_cases hG : -16777216 ≤ p.f4 ∧ p.f4 ≤ 16777216 ∧ -16777216 ≤ p.f5 ∧ p.f5 ≤ 16777216 ∧ p.f4 ≤ p.f5 ∧ Int.tmod p.f4 p.f3 = 0 ∧ Int.tmod p.f5 p.f3 = 0
      · rw [if_pos hG]
        obtain ⟨g1, g2, g3, g4, g5, g6, g7⟩ := hG
        exact Ev.pos ⟨g1, g2⟩ (Ev.pos ⟨g3, g4⟩ (Ev.neg (by omega) (Ev.neg (by omega) (Ev.pos g6 (Ev.pos g7 (Ev.val _))))))
      · rw [if_neg hG]
        refine Ev.ite (fun c1 => Ev.ite (fun c2 => Ev.ite (fun c3 => Ev.val _) (fun c3 => Ev.neg (by omega) (Ev.ite (fun c4 => Ev.neg (fun c5 => ?_) (Ev.val _)) (fun c4 => Ev.val _)))) (fun c2 => Ev.val _)) (fun c1 => Ev.val _)
        exact hG ⟨c1.1, c1.2, c2.1, c2.2, by omega, c4, c5⟩
    · rw [if_neg c]
      have e : (if p.f3 < 1 then true else decide (p.f3 > 16777216)) = true := by
        split
        · rfl
        · exact decide_eq_true (by omega)
      rw [e]
      exact Ev.pos rfl (Ev.val _)
  have h2 : Ev (fun k => product_Check.j2 k (if p.f2 < 1 then true else decide (p.f2 > 4096)) p.f0 p.f1 p.f2 p.f3 p.f4 p.f5 p.f6) (if 1 ≤ p.f2 ∧ p.f2 ≤ 4096 then (if 1 ≤ p.f3 ∧ p.f3 ≤ 16777216 then (if -16777216 ≤ p.f4 ∧ p.f4 ≤ 16777216 ∧ -16777216 ≤ p.f5 ∧ p.f5 ≤ 16777216 ∧ p.f4 ≤ p.f5 ∧ Int.tmod p.f4 p.f3 = 0 ∧ Int.tmod p.f5 p.f3 = 0 then 0 else 17) else 16) else 2) := by
    refine Ev.shift ?_
    simp only [product_Check.j2]
    by_cases c : 1 ≤ p.f2 ∧ p.f2 ≤ 4096
    · rw [if_pos c, if_neg (by omega : ¬ p.f2 < 1), decide_eq_false (by omega : ¬ p.f2 > 4096)]
      refine Ev.neg (by decide) (Ev.ite (fun h => ?_) (fun h => ?_))
      · rw [if_pos h] at h3; exact h3
      · rw [if_neg h] at h3; exact h3
    · rw [if_neg c]
      have e : (if p.f2 < 1 then true else decide (p.f2 > 4096)) = true := by
        split
        · rfl
        · exact decide_eq_true (by omega)
      rw [e]
      exact Ev.pos rfl (Ev.val _)
  have h1 : Ev (fun k => product_Check.j1 k (if p.f1 < 0 then true else decide (p.f1 ≥ 8)) p.f0 p.f1 p.f2 p.f3 p.f4 p.f5 p.f6) (if 0 ≤ p.f1 ∧ p.f1 ≤ 7 then (if 1 ≤ p.f2 ∧ p.f2 ≤ 4096 then (if 1 ≤ p.f3 ∧ p.f3 ≤ 16777216 then (if -16777216 ≤ p.f4 ∧ p.f4 ≤ 16777216 ∧ -16777216 ≤ p.f5 ∧ p.f5 ≤ 16777216 ∧ p.f4 ≤ p.f5 ∧ Int.tmod p.f4 p.f3 = 0 ∧ Int.tmod p.f5 p.f3 = 0 then 0 else 17) else 16) else 2) else 25) := by
    refine Ev.shift ?_
    simp only [product_Check.j1]
    by_cases c : 0 ≤ p.f1 ∧ p.f1 ≤ 7
    · rw [if_pos c, if_neg (by omega : ¬ p.f1 < 0), decide_eq_false (by omega : ¬ p.f1 ≥ 8)]
      refine Ev.neg (by decide) (Ev.ite (fun h => ?_) (fun h => ?_))
      · rw [if_pos h] at h2; exact h2
      · rw [if_neg h] at h2; exact h2
    · rw [if_neg c]
      have e : (if p.f1 < 0 then true else decide (p.f1 ≥ 8)) = true := by
        split
        · rfl
        · exact decide_eq_true (by omega)
      rw [e]
      exact Ev.pos rfl (Ev.val _)
  have h0 : Ev (fun k => product_Check.j0 k (!nameB p.f0) p.f0 p.f1 p.f2 p.f3 p.f4 p.f5 p.f6) (prC p) := by
    refine Ev.shift ?_
    simp only [product_Check.j0]
    unfold prC
    cases nameB p.f0 with
    | false => exact Ev.pos rfl (Ev.val _)
    | true =>
      rw [if_pos rfl]
      refine Ev.neg (by decide) (Ev.ite (fun h => ?_) (fun h => ?_))
      · rw [if_pos h] at h1; exact h1
      · rw [if_neg h] at h1; exact h1
  simp only [product_Check.f]
  refine Ev.ite (fun h => ?_) (fun _ => Ev.bind (Ev.of (words_Name_some p.f0) (fun k => words_Name.mono _ k)) h0)
  have hn : nameB p.f0 = false := by
    unfold eqD23 at h
    simp only [Bool.and_eq_true, beq_iff_eq] at h
    have hs : p.f0.size = 0 := (toList_nil p.f0).mp (h.1.trans ((toList_nil _).mpr rfl))
    simp [nameB, hs]
  rw [hn] at h0
  exact h0
theorem mul_within {a b A B : Int} (h1 : -A ≤ a) (h2 : a ≤ A) (h3 : -B ≤ b) (h4 : b ≤ B) : -(A * B) ≤ a * b ∧ a * b ≤ A * B := by
  have h : (a * b).natAbs ≤ (A * B).natAbs := by
    rw [Int.natAbs_mul, Int.natAbs_mul]
    exact Nat.mul_le_mul (by omega) (by omega)
  have hp : 0 ≤ A * B := Int.mul_nonneg (by omega) (by omega)
  omega
/-- What lots are worth at a price, and what is amiss. -/
def vl (p : S23) (pr q : Int) : Int × Int :=
  if prC p = 0 then (if -33554432 ≤ pr ∧ pr ≤ 33554432 then (if -1048576 ≤ q ∧ q ≤ 1048576 then (pr * p.f2 * q, 0) else (0, 18)) else (0, 17)) else (0, prC p)
theorem prC_zero {p : S23} (h : prC p = 0) : (0 ≤ p.f1 ∧ p.f1 ≤ 7) ∧ (1 ≤ p.f2 ∧ p.f2 ≤ 4096) := by
  unfold prC at h
  by_cases c0 : nameB p.f0 = true
  case neg => rw [if_neg c0] at h; cases h
  rw [if_pos c0] at h
  by_cases c1 : 0 ≤ p.f1 ∧ p.f1 ≤ 7
  case neg => rw [if_neg c1] at h; cases h
  rw [if_pos c1] at h
  by_cases c2 : 1 ≤ p.f2 ∧ p.f2 ≤ 4096
  case neg => rw [if_neg c2] at h; cases h
  exact ⟨c1, c2⟩
theorem vl_ev (p : S23) (pr q : Int) : Ev (fun k => product_Value.f k p.f0 p.f1 p.f2 p.f3 p.f4 p.f5 p.f6 pr q) (vl p pr q) := by
  simp only [product_Value.f, within_some _ 33554432 (by omega) (by omega), within_some _ 1048576 (by omega) (by omega), Option.bind_some, decide_eq_true_eq]
  refine Ev.bind (prC_ev p) ?_
  unfold vl
  refine Ev.both (fun h0 => Ev.both (fun h1 => Ev.both (fun h2 => ?_) (fun _ => Ev.val _)) (fun _ => Ev.val _)) (fun _ => Ev.val _)
  have hm := (prC_zero h0).2
  have b1 := mul_within (a := pr) (b := p.f2) (A := 33554432) (B := 4096) h1.1 h1.2 (by omega) (by omega)
  have b2 := mul_within (a := pr * p.f2) (b := q) (A := 137438953472) (B := 1048576) (by omega) (by omega) (by omega) (by omega)
  rw [wrap_small (n := pr * p.f2) (by omega) (by omega), wrap_small (by omega) (by omega)]
  exact Ev.val _
def cl (a : Int) : Int := if a < -33554432 then -33554432 else if a > 33554432 then 33554432 else a
theorem cl_le (a : Int) : -33554432 ≤ cl a ∧ cl a ≤ 33554432 := by unfold cl; (repeat' split) <;> omega
theorem clamp_ev (a : Int) : Ev (fun k => cents_Clamp.f k a (-33554432) 33554432) (cl a) := by
  refine Ev.shift ?_
  simp only [cents_Clamp.f, cents_Clamp.j0]
  refine Ev.neg (by omega) ?_
  unfold cl
  simp only [decide_eq_true_eq]
  exact Ev.both (fun _ => Ev.val _) (fun _ => Ev.both (fun _ => Ev.val _) (fun _ => Ev.val _))
/-- What exercising is worth. -/
def iv (kd st un : Int) : Int := if kd = 3 then mx (cl st - cl un) 0 else if kd = 2 then mx (cl un - cl st) 0 else 0
theorem intr_ev (a : ByteArray) (b c d u : Int) : Ev (fun k => option_Intrinsic.f k a b c d u) (iv b d u) := by
  have h1 := cl_le u
  have h2 := cl_le d
  simp only [option_Intrinsic.f]
  refine Ev.bind (clamp_ev u) (Ev.bind (clamp_ev d) ?_)
  have e1 : wrap64 (cl u - cl d) = cl u - cl d := wrap_small (by omega) (by omega)
  have e2 : wrap64 (-(cl u - cl d)) = cl d - cl u := by rw [wrap_small (by omega) (by omega)]; omega
  rw [e1, e2]
  unfold iv
  exact Ev.both (fun _ => Ev.val _) (fun _ => Ev.both (fun _ => Ev.val _) (fun _ => Ev.val _))
theorem elots_some (n : Int) : expiry_lots.f n = some (decide (0 ≤ n ∧ n ≤ 1048576)) := by
  unfold expiry_lots.f
  by_cases h : n ≥ 0
  · rw [if_pos h]
    congr 1
    exact decide_eq_decide.mpr ⟨fun h2 => ⟨h, h2⟩, fun h2 => h2.2⟩
  · rw [if_neg h]
    congr 1
    exact (decide_eq_false (by omega)).symm
/-- What is amiss with a price. -/
def prP (p : S23) (u : Int) : Int := if prC p = 0 then (if p.f4 ≤ u ∧ u ≤ p.f5 then (if Int.tmod u p.f3 = 0 then 0 else 16) else 17) else prC p
theorem prC_tick {p : S23} (h : prC p = 0) : 1 ≤ p.f3 := by
  unfold prC at h
  by_cases c0 : nameB p.f0 = true
  case neg => rw [if_neg c0] at h; cases h
  rw [if_pos c0] at h
  by_cases c1 : 0 ≤ p.f1 ∧ p.f1 ≤ 7
  case neg => rw [if_neg c1] at h; cases h
  rw [if_pos c1] at h
  by_cases c2 : 1 ≤ p.f2 ∧ p.f2 ≤ 4096
  case neg => rw [if_neg c2] at h; cases h
  rw [if_pos c2] at h
  by_cases c3 : 1 ≤ p.f3 ∧ p.f3 ≤ 16777216
  case neg => rw [if_neg c3] at h; cases h
  exact c3.1
theorem prP_ev (p : S23) (u : Int) : Ev (fun k => product_Price.f k p.f0 p.f1 p.f2 p.f3 p.f4 p.f5 p.f6 u) (prP p u) := by
  simp only [product_Price.f]
  refine Ev.bind (prC_ev p) ?_
  unfold prP
  refine Ev.both (fun h0 => ?_) (fun _ => Ev.val _)
  have ht := prC_tick h0
  by_cases h1 : u < p.f4
  · rw [if_neg (by omega : ¬ (p.f4 ≤ u ∧ u ≤ p.f5))]
    refine Ev.pos h1 (Ev.shift ?_)
    simp only [product_Price.j0]
    exact Ev.pos (by trivial) (Ev.val _)
  · refine Ev.neg h1 (Ev.shift ?_)
    simp only [product_Price.j0, decide_eq_true_eq]
    by_cases h2 : u > p.f5
    · rw [if_neg (by omega : ¬ (p.f4 ≤ u ∧ u ≤ p.f5))]
      exact Ev.pos h2 (Ev.val _)
    · rw [if_pos (by omega : p.f4 ≤ u ∧ u ≤ p.f5)]
      exact Ev.neg h2 (Ev.neg (by omega) (Ev.both (fun _ => Ev.val _) (fun _ => Ev.val _)))
/-- What an account gets. -/
def csV (p : S23) (s : S25) (l : S27) (u : Int) : Int × Int :=
  if prP p u = 0 then (if eqD25 l.f0.f0 s.f0 l.f0.f1 s.f1 l.f0.f2 s.f2 l.f0.f3 s.f3 = true ∧ (s.f0.toList != p.f0.toList) = false then (if 0 ≤ l.f1 ∧ l.f1 ≤ 1048576 ∧ 0 ≤ l.f2 ∧ l.f2 ≤ 1048576 then vl p (iv s.f1 s.f3 u) (l.f1 - l.f2) else (0, 18)) else (0, 19)) else (0, prP p u)
theorem csV_ev (p : S23) (s : S25) (l : S27) (u : Int) : Ev (fun k => expiry_Cash.f k p.f0 p.f1 p.f2 p.f3 p.f4 p.f5 p.f6 s.f0 s.f1 s.f2 s.f3 l.f0.f0 l.f0.f1 l.f0.f2 l.f0.f3 l.f1 l.f2 u) (csV p s l u) := by
  simp only [expiry_Cash.f]
  refine Ev.bind (prP_ev p u) ?_
  unfold csV
  refine Ev.both (fun h0 => ?_) (fun _ => Ev.val _)
  have hj : ∀ b : Bool, Ev (fun k => expiry_Cash.j0 k u b p.f0 p.f1 p.f2 p.f3 p.f4 p.f5 p.f6 s.f0 s.f1 s.f2 s.f3 l.f0.f0 l.f0.f1 l.f0.f2 l.f0.f3 l.f1 l.f2) (if b = false then (if 0 ≤ l.f1 ∧ l.f1 ≤ 1048576 ∧ 0 ≤ l.f2 ∧ l.f2 ≤ 1048576 then vl p (iv s.f1 s.f3 u) (l.f1 - l.f2) else (0, 18)) else (0, 19)) := by
    intro b
    refine Ev.shift ?_
    simp only [expiry_Cash.j0]
    cases b with
    | true => exact Ev.pos (by trivial) (Ev.val _)
    | false =>
      rw [if_pos rfl]
      refine Ev.neg (by decide) ?_
      simp only [elots_some, Option.bind_some, decide_eq_true_eq]
      have hb : Ev (fun k => expiry_Cash.j1 k u true p.f0 p.f1 p.f2 p.f3 p.f4 p.f5 p.f6 s.f0 s.f1 s.f2 s.f3 l.f0.f0 l.f0.f1 l.f0.f2 l.f0.f3 l.f1 l.f2) (0, 18) := by
        refine Ev.shift ?_
        simp only [expiry_Cash.j1]
        exact Ev.pos (by trivial) (Ev.val _)
      by_cases c1 : 0 ≤ l.f1 ∧ l.f1 ≤ 1048576
      · refine Ev.pos c1 ?_
        by_cases c2 : 0 ≤ l.f2 ∧ l.f2 ≤ 1048576
        · rw [if_pos (by omega), decide_eq_true c2]
          refine Ev.shift ?_
          simp only [expiry_Cash.j1, position_Net.f, Option.bind_some]
          refine Ev.neg (by decide) (Ev.bind (intr_ev _ _ _ _ _) ?_)
          rw [wrap_small (n := l.f1 - l.f2) (by omega) (by omega)]
          exact Ev.bind (vl_ev p _ _) (Ev.val _)
        · rw [if_neg (by omega), decide_eq_false c2]
          exact hb
      · rw [if_neg (by omega)]
        exact Ev.neg c1 hb
  by_cases he : eqD25 l.f0.f0 s.f0 l.f0.f1 s.f1 l.f0.f2 s.f2 l.f0.f3 s.f3 = true
  · refine Ev.pos he ?_
    have := hj (s.f0.toList != p.f0.toList)
    by_cases hb : (s.f0.toList != p.f0.toList) = false
    · rw [if_pos hb] at this
      rw [if_pos ⟨he, hb⟩]
      exact this
    · rw [if_neg hb] at this
      rw [if_neg (fun h => hb h.2)]
      exact this
  · refine Ev.neg he ?_
    rw [if_neg (fun h => he h.1)]
    exact hj true
/-- What is amiss with a position, beside the one ahead of it. -/
def posF (q : Option S27) (p : S27) : Int :=
  if (match q with | none => false | some q => decide (cmpS q.f0 p.f0 ≥ 0)) = true then 19 else if 0 ≤ p.f1 ∧ p.f1 ≤ 1048576 ∧ 0 ≤ p.f2 ∧ p.f2 ≤ 1048576 ∧ ¬ (p.f1 = 0 ∧ p.f2 = 0) then 0 else 18
/-- What is amiss with positions. -/
def posC (l : List S27) : Int := if l.length > 128 then 8 else scan posF none l
theorem lots_some (n : Int) : position_lots.f n = some (decide (0 ≤ n ∧ n ≤ 1048576)) := by
  unfold position_lots.f
  by_cases h : n ≥ 0
  · rw [if_pos h]
    congr 1
    exact decide_eq_decide.mpr ⟨fun h2 => ⟨h, h2⟩, fun h2 => h2.2⟩
  · rw [if_neg h]
    congr 1
    exact (decide_eq_false (by omega)).symm
theorem posJ (l : List S27) (i : Nat) (b : Bool) (p : S27) (rest : Int)
    (h : Ev (fun k => position_Check.l0 k l l (l.length : Int) (wrap64 ((i : Int) + 1))) rest) :
    Ev (fun k => position_Check.j1 k l l (l.length : Int) (i : Int) b p.f0.f0 p.f0.f1 p.f0.f2 p.f0.f3 p.f1 p.f2) (if b = true then 19 else if 0 ≤ p.f1 ∧ p.f1 ≤ 1048576 ∧ 0 ≤ p.f2 ∧ p.f2 ≤ 1048576 ∧ ¬ (p.f1 = 0 ∧ p.f2 = 0) then rest else 18) := by
  refine Ev.shift ?_
  simp only [position_Check.j1, lots_some, Option.bind_some, decide_eq_true_eq]
  refine Ev.both (fun _ => Ev.val _) (fun _ => ?_)
  by_cases h1 : 0 ≤ p.f1 ∧ p.f1 ≤ 1048576
  · refine Ev.pos h1 ?_
    by_cases h2 : 0 ≤ p.f2 ∧ p.f2 ≤ 1048576
    · refine Ev.pos h2 ?_
      by_cases h3 : p.f1 = 0
      · refine Ev.pos h3 ?_
        by_cases h4 : p.f2 = 0
        · rw [if_neg (by omega)]
          exact Ev.pos h4 (Ev.val _)
        · rw [if_pos (by omega)]
          exact Ev.neg h4 h
      · rw [if_pos (by omega)]
        exact Ev.neg h3 h
    · rw [if_neg (by omega)]
      exact Ev.neg h2 (Ev.val _)
  · rw [if_neg (by omega)]
    exact Ev.neg h1 (Ev.val _)
theorem posOne (b : Bool) (c : Prop) [Decidable c] (a : Int) : (if (if b = true then (19 : Int) else if c then 0 else 18) = 0 then a else (if b = true then 19 else if c then 0 else 18)) = (if b = true then 19 else if c then a else 18) := by
  cases b <;> by_cases hc : c <;> simp [hc]
theorem rd_pos (l : List S27) (i : Nat) (h : i < l.length) : rd_T27 l (i : Int) = l[i] := by simp [rd_T27, h]
theorem posL (l : List S27) (hl : l.length ≤ 128) (n : Nat) : ∀ i : Nat, l.length - i = n → i ≤ l.length →
    Ev (fun k => position_Check.l0 k l l (l.length : Int) (i : Int)) (scan posF (prevAt l i) (l.drop i)) := by
  induction n with
  | zero =>
    intro i hi hle
    refine Ev.shift ?_
    simp only [position_Check.l0]
    rw [List.drop_eq_nil_of_le (by omega)]
    exact Ev.neg (by omega) (Ev.val _)
  | succ n ih =>
    intro i hi hle
    have hlt : i < l.length := by omega
    have hw : wrap64 ((i : Int) + 1) = ((i + 1 : Nat) : Int) := by unfold wrap64; omega
    have ih2 := ih (i + 1) (by omega) (by omega)
    rw [prevAt_succ l i hlt] at ih2
    refine Ev.shift ?_
    simp only [position_Check.l0, rd_pos l i hlt]
    rw [List.drop_eq_getElem_cons hlt, scan_cons]
    refine Ev.pos (by omega) (Ev.pos (by omega) (Ev.pos (by omega) ?_))
    by_cases h0 : i = 0
    · subst h0
      refine Ev.neg (by omega) ?_
      have hj := posJ l 0 false l[0] (scan posF (some l[0]) (l.drop (0 + 1))) (by rw [hw]; exact ih2)
      have e : (if posF (prevAt l 0) l[0] = 0 then scan posF (some l[0]) (l.drop (0 + 1)) else posF (prevAt l 0) l[0]) = _ := posOne false _ (scan posF (some l[0]) (l.drop (0 + 1)))
      rw [e]
      exact hj
    · have hw2 : wrap64 ((i : Int) - 1) = ((i - 1 : Nat) : Int) := by unfold wrap64; omega
      simp only [hw2]
      refine Ev.pos (by omega) (Ev.pos (by omega) (Ev.pos (by omega) ?_))
      rw [rd_pos l (i - 1) (by omega), cmp_ser]
      simp only [Option.bind_some]
      have hj := posJ l i (decide (cmpS l[i - 1].f0 l[i].f0 ≥ 0)) l[i] (scan posF (some l[i]) (l.drop (i + 1))) (by rw [hw]; exact ih2)
      have e : (if posF (prevAt l i) l[i] = 0 then scan posF (some l[i]) (l.drop (i + 1)) else posF (prevAt l i) l[i]) = (if decide (cmpS l[i - 1].f0 l[i].f0 ≥ 0) = true then 19 else if 0 ≤ l[i].f1 ∧ l[i].f1 ≤ 1048576 ∧ 0 ≤ l[i].f2 ∧ l[i].f2 ≤ 1048576 ∧ ¬ (l[i].f1 = 0 ∧ l[i].f2 = 0) then scan posF (some l[i]) (l.drop (i + 1)) else 18) := by
        rw [prevAt_pos l i (by omega) (by omega)]
        exact posOne (decide (cmpS l[i - 1].f0 l[i].f0 ≥ 0)) _ (scan posF (some l[i]) (l.drop (i + 1)))
      rw [e]
      exact hj
theorem posC_ev (l : List S27) : Ev (fun k => position_Check.f k l) (posC l) := by
  simp only [position_Check.f]
  unfold posC
  by_cases h : l.length > 128
  · rw [if_pos h]
    exact Ev.pos (by omega) (Ev.val _)
  · rw [if_neg h]
    exact Ev.neg (by omega) (posL l (by omega) l.length 0 (by omega) (by omega))
theorem and1 (n : Int) : Go.bits .and .i64 n 1 = n % 2 := by
  have h127 : (BitVec.ofInt 64 1).toNat = 2 ^ 1 - 1 := by decide
  have key : (BitVec.ofInt 64 n &&& BitVec.ofInt 64 1).toNat = (n % ((2 ^ 64 : Nat) : Int)).toNat % 2 ^ 1 := by
    rw [BitVec.toNat_and, BitVec.toNat_ofInt, h127, Nat.and_two_pow_sub_one_eq_mod]
  show IntKind.i64.wrap ((BitVec.ofInt 64 n &&& BitVec.ofInt 64 1).toNat : Nat) = n % 2
  rw [key, IntKind.wrap_i64]
  omega
theorem div_uniq {x s q r : Int} (h : q * s + r = x) (h0 : 0 ≤ r) (h1 : r < s) : x / s = q ∧ x % s = r := by
  subst h
  constructor
  · rw [Int.add_comm, Int.add_mul_ediv_right _ _ (by omega), Int.ediv_eq_zero_of_lt h0 h1, Int.zero_add]
  · rw [Int.add_comm, Int.add_mul_emod_self_right, Int.emod_eq_of_lt h0 h1]
theorem half_pow (w : Int) (i : Nat) (h : i < 61) : w / 2 ^ (61 - i) = w / 2 ^ (60 - i) / 2 := by
  have e : 61 - i = (60 - i) + 1 := by omega
  rw [e, Int.pow_succ, Int.ediv_ediv_of_nonneg (Int.le_of_lt (Int.pow_pos (by decide)))]
/-- One more bit. -/
theorem quo_step {a n s q r : Int} (ha : 0 ≤ a ∧ a ≤ 1152921504606846976) (hs : 1 ≤ s ∧ s ≤ 1152921504606846976) (hn : 0 ≤ n ∧ n ≤ s) (h : q * s + r = a * (n / 2)) (h0 : 0 ≤ q) (h1 : 0 ≤ r) (h2 : r < s) (b : Int) (hb : b = a * (n % 2)) :
    q ≤ 1152921504606846976 ∧ (2 * r + b) / s ≤ 3458764513820540928 ∧ 0 ≤ (2 * r + b) / s ∧ (2 * q + (2 * r + b) / s) * s + (2 * r + b) % s = a * n ∧ 0 ≤ (2 * r + b) % s ∧ (2 * r + b) % s < s ∧ 0 ≤ b ∧ b ≤ 1152921504606846976 ∧ 2 * q + (2 * r + b) / s ≤ 1152921504606846976 := by
  have hm : n % 2 = 0 ∨ n % 2 = 1 := by omega
  have hb0 : 0 ≤ b ∧ b ≤ 1152921504606846976 := by
    rcases hm with e | e <;> rw [hb, e] <;> omega
  have hd := Int.mul_ediv_add_emod (2 * r + b) s
  have he : (2 * q + (2 * r + b) / s) * s + (2 * r + b) % s = a * n := by
    have e1 : (2 * q + (2 * r + b) / s) * s = 2 * (q * s) + s * ((2 * r + b) / s) := by
      rw [Int.add_mul, Int.mul_assoc, Int.mul_comm ((2 * r + b) / s)]
    have e2 : a * n = 2 * (a * (n / 2)) + a * (n % 2) := by
      have : n = 2 * (n / 2) + n % 2 := by omega
      have e3 : a * n = a * (2 * (n / 2) + n % 2) := by rw [← this]
      rw [e3, Int.mul_add, Int.mul_left_comm]
    rw [e1, e2, ← h, ← hb]
    omega
  have hr0 := Int.emod_nonneg (2 * r + b) (show s ≠ 0 by omega)
  have hr1 := Int.emod_lt_of_pos (2 * r + b) (show 0 < s by omega)
  have hd0 : 0 ≤ (2 * r + b) / s := Int.ediv_nonneg (by omega) (by omega)
  have hle : ∀ x y m : Int, 0 ≤ y → 0 ≤ m → m ≤ s → x * s + y = a * m → x ≤ a := by
    intro x y m hy hm0 hms hx
    have h3 : a * m ≤ a * s := Int.mul_le_mul_of_nonneg_left hms ha.1
    exact Int.le_of_mul_le_mul_right (show x * s ≤ a * s by omega) (by omega)
  have hq := hle q r (n / 2) h1 (by omega) (by omega) h
  have hq2 := hle _ _ n hr0 hn.1 hn.2 he
  refine ⟨by omega, ?_, hd0, he, hr0, hr1, hb0.1, hb0.2, by omega⟩
  have : (2 * r + b) / s ≤ 2 * r + b := Int.ediv_le_self _ (by omega)
  omega
theorem quo_one (k : Nat) (a w s q r : Int) (i : Nat) (hi : i < 61) (ha : 0 ≤ a ∧ a ≤ 1152921504606846976) (hs : 1 ≤ s ∧ s ≤ 1152921504606846976) (hr : 0 ≤ r ∧ r < s) (hq : 0 ≤ q ∧ q ≤ 1152921504606846976) (m b : Int) (hm : w / 2 ^ (60 - i) = m) (hb : b = a * (m % 2)) (hb2 : 0 ≤ b ∧ b ≤ 1152921504606846976)
    (h1 : 0 ≤ (2 * r + b) / s) (h2 : (2 * r + b) / s ≤ 3458764513820540928) (h3 : 2 * q + (2 * r + b) / s ≤ 1152921504606846976) : share_quotient.l0 (k + 1) a w s q r (i : Int) = share_quotient.l0 k a w s (2 * q + (2 * r + b) / s) ((2 * r + b) % s) ((i + 1 : Nat) : Int) := by
  have hw60 : wrap64 (60 - (i : Int)) = ((60 - i : Nat) : Int) := by clear hm; unfold wrap64; omega
  have hwi : wrap64 ((i : Int) + 1) = ((i + 1 : Nat) : Int) := by clear hm; unfold wrap64; omega
  have hsh : shr .i64 w ((60 - i : Nat) : Int) = m := by
    unfold shr
    rw [Int.toNat_natCast, Nat.min_eq_left (show 60 - i ≤ IntKind.i64.bits from Nat.le_trans (Nat.sub_le _ _) (by decide))]
    exact hm
  simp only [share_quotient.l0, hw60, hwi, hsh, and1]
  clear hm hsh hw60 hwi
  rw [if_pos (by omega), if_pos (by omega)]
  have hmm : m % 2 = 0 ∨ m % 2 = 1 := by omega
  have w1 : wrap64 (2 * r) = 2 * r := wrap_small (by omega) (by omega)
  have w2 : wrap64 (2 * q) = 2 * q := wrap_small (by omega) (by omega)
  have w3 : wrap64 (2 * r + b) = 2 * r + b := wrap_small (by omega) (by omega)
  have w4 : wrap64 ((2 * r + b) / s) = (2 * r + b) / s := wrap_small (by omega) (by omega)
  have w5 : wrap64 (2 * q + (2 * r + b) / s) = 2 * q + (2 * r + b) / s := wrap_small (by omega) (by omega)
  have t1 : Int.tdiv (2 * r + b) s = (2 * r + b) / s := Int.tdiv_eq_ediv_of_nonneg (by omega)
  have t2 : Int.tmod (2 * r + b) s = (2 * r + b) % s := Int.tmod_eq_emod_of_nonneg (by omega)
  have hs0 : ¬ s = 0 := by omega
  rcases hmm with e | e
  · have hb0 : b = 0 := by rw [hb, e]; exact Int.mul_zero a
    subst hb0
    simp only [Int.add_zero] at w3 w4 w5 t1 t2 ⊢
    rw [if_neg (by omega), if_neg hs0, w1, w2, t1, t2, w4, w5]
  · have hb0 : b = a := by rw [hb, e]; exact Int.mul_one a
    subst hb0
    rw [if_pos e, if_neg hs0, w1, w2, w3, t1, t2, w4, w5]
theorem quo_loop (a w s : Int) (ha : 0 ≤ a ∧ a ≤ 1152921504606846976) (hw : 0 ≤ w ∧ w ≤ s) (hs : 1 ≤ s ∧ s ≤ 1152921504606846976) (n : Nat) : ∀ (i : Nat) (q r : Int), 61 - i = n → i ≤ 61 → q * s + r = a * (w / 2 ^ (61 - i)) → 0 ≤ q → 0 ≤ r → r < s →
    Ev (fun k => share_quotient.l0 k a w s q r (i : Int)) (a * w / s, a * w % s) := by
  induction n with
  | zero =>
    intro i q r hi hle h h0 h1 h2
    have e : i = 61 := by clear h; omega
    subst e
    have h3 : q * s + r = a * w := by
      have e2 : (w / 2 ^ (61 - 61) : Int) = w := Int.ediv_one w
      rw [e2] at h
      exact h
    obtain ⟨e1, e2⟩ := div_uniq h3 h1 h2
    rw [e1, e2]
    refine Ev.shift ?_
    simp only [share_quotient.l0]
    exact Ev.neg (by decide) (Ev.val _)
  | succ n ih =>
    intro i q r hi hle h h0 h1 h2
    have hlt : i < 61 := by clear h; omega
    have hex : 61 - (i + 1) = 60 - i := by clear h; omega
    rw [half_pow w i hlt] at h
    have hn : 0 ≤ w / 2 ^ (60 - i) ∧ w / 2 ^ (60 - i) ≤ s := ⟨Int.ediv_nonneg hw.1 (Int.le_of_lt (Int.pow_pos (by decide))), Int.le_trans (Int.ediv_le_self _ hw.1) hw.2⟩
    obtain ⟨m, hm⟩ : ∃ m, w / 2 ^ (60 - i) = m := ⟨_, rfl⟩
    rw [hm] at h hn
    obtain ⟨b1, b2, b3, b4, b5, b6, b7, b8, b9⟩ := quo_step ha hs hn h h0 h1 h2 (a * (m % 2)) rfl
    have hI := ih (i + 1) _ _ (by clear h hm b4; omega) (by clear h hm b4; omega) (by rw [hex, hm]; exact b4) (Int.add_nonneg (Int.mul_nonneg (by decide) h0) b3) b5 b6
    refine Ev.shift ?_
    simp only [quo_one _ a w s q r i hlt ha hs ⟨h1, h2⟩ ⟨h0, b1⟩ m _ hm rfl ⟨b7, b8⟩ b3 b2 b9]
    exact hI
theorem quo_ev (a w s : Int) (ha : 0 ≤ a ∧ a ≤ 1152921504606846976) (hw : 0 ≤ w ∧ w ≤ s) (hs : 1 ≤ s ∧ s ≤ 1152921504606846976) : Ev (fun k => share_quotient.f k a w s) (a * w / s, a * w % s) := by
  simp only [share_quotient.f]
  refine quo_loop a w s ha hw hs 61 0 0 0 (by omega) (by omega) ?_ (by omega) (by omega) (by omega)
  have e : (2 : Int) ^ (61 - 0) = 2305843009213693952 := by decide
  have : w / 2 ^ (61 - 0) = 0 := by rw [e]; exact Int.ediv_eq_zero_of_lt hw.1 (by clear e; omega)
  rw [this]
  simp
/-- The sum of weights, if they may be. -/
def wgt : Int → List Int → Option Int
  | a, [] => some a
  | a, w :: r => if 0 ≤ w ∧ w ≤ 1152921504606846976 - a then wgt (a + w) r else none
theorem wgt_ok (l : List Int) : ∀ a s, 0 ≤ a → a ≤ 1152921504606846976 → wgt a l = some s → s = a + l.sum ∧ (∀ w ∈ l, 0 ≤ w ∧ w ≤ s - a) ∧ a ≤ s ∧ s ≤ 1152921504606846976 := by
  induction l with
  | nil => intro a s h0 h1 h; obtain rfl := Option.some.inj h; exact ⟨by simp, fun w hw => (by cases hw), Int.le_refl _, h1⟩
  | cons x r ih =>
    intro a s h0 h1 h
    rw [wgt] at h
    by_cases c : 0 ≤ x ∧ x ≤ 1152921504606846976 - a
    · rw [if_pos c] at h
      obtain ⟨e, hw, h2, h3⟩ := ih (a + x) s (by omega) (by omega) h
      refine ⟨by rw [e, List.sum_cons]; omega, fun w hm => ?_, by omega, h3⟩
      rcases List.mem_cons.mp hm with rfl | hm
      · omega
      · have := hw w hm; omega
    · rw [if_neg c] at h; cases h
/-- Parts and rests. -/
def spE (a s : Int) (l : List Int) : List (Int × Int) := l.map fun w => (a * w / s, a * w % s)
def mxr : List (Int × Int) → Int
  | [] => -1
  | e :: t => if mxr t < e.2 then e.2 else mxr t
/-- The first one of the greatest rest gets one more. -/
def bump (m : Int) : List (Int × Int) → List (Int × Int)
  | [] => []
  | e :: t => if e.2 = m then (e.1 + 1, -1) :: t else e :: bump m t
def spG : Nat → List (Int × Int) → List (Int × Int)
  | 0, l => l
  | n + 1, l => spG n (bump (mxr l) l)
def lft (a : Int) (l : List (Int × Int)) : Int := a - (l.map (·.1)).sum
def spV (a : Int) (l : List Int) : List Int × Int :=
  if 0 ≤ a ∧ a ≤ 1152921504606846976 then (if l.length ≤ 1024 then (match wgt 0 l with | none => ([], 26) | some s => if s = 0 then ([], 26) else ((spG (lft a (spE a s l)).toNat (spE a s l)).map (·.1), 0)) else ([], 8)) else ([], 2)
theorem mxr_ge (l : List (Int × Int)) : -1 ≤ mxr l ∧ ∀ e ∈ l, e.2 ≤ mxr l := by
  induction l with
  | nil => exact ⟨Int.le_refl _, fun e h => by cases h⟩
  | cons x r ih =>
    rw [mxr]
    refine ⟨by split <;> omega, fun e h => ?_⟩
    rcases List.mem_cons.mp h with rfl | h
    · split <;> omega
    · have := ih.2 e h; split <;> omega
theorem mxr_of {l : List (Int × Int)} {m : Int} (h : ∀ e ∈ l, e.2 ≤ m) (hm : ∃ e ∈ l, e.2 = m) (h1 : -1 ≤ m) : mxr l = m := by
  obtain ⟨e, he, rfl⟩ := hm
  have h2 := (mxr_ge l).2 e he
  have h3 : mxr l ≤ e.2 := by
    clear he h2
    induction l with
    | nil => exact h1
    | cons x r ih =>
      rw [mxr]
      have := h x List.mem_cons_self
      have := ih (fun y hy => h y (List.mem_cons_of_mem _ hy))
      split <;> omega
  omega
theorem bump_length (m : Int) (l : List (Int × Int)) : (bump m l).length = l.length := by
  induction l with
  | nil => rfl
  | cons x r ih => rw [bump]; split <;> simp [ih]
theorem bump_at (m : Int) (l : List (Int × Int)) : ∀ t, (h : t < l.length) → l[t].2 = m → (∀ j, (hj : j < t) → (l[j]'(by omega)).2 ≠ m) → bump m l = l.set t (l[t].1 + 1, -1) := by
  induction l with
  | nil => intro t h; cases h
  | cons x r ih =>
    intro t h he hn
    cases t with
    | zero => rw [bump, if_pos (show x.2 = m from he)]; rfl
    | succ t =>
      rw [bump, if_neg (show ¬ x.2 = m from hn 0 (by omega))]
      rw [ih t (by simpa using h) he (fun j hj => by have := hn (j + 1) (by omega); simpa using this)]
      rfl
theorem top_spec (l : List Int) (n : Nat) : ∀ i a, l.length - i = n → i ≤ l.length → a < l.length → (∀ j : Nat, j < i → rd l j ≤ rd l a) → (∀ j : Nat, j < a → rd l j < rd l a) → a ≤ i →
    share_top l (l.drop i) i a < l.length ∧ (∀ j : Nat, j < l.length → rd l j ≤ rd l (share_top l (l.drop i) i a)) ∧ ∀ j : Nat, j < share_top l (l.drop i) i a → rd l j < rd l (share_top l (l.drop i) i a) := by
  induction n with
  | zero =>
    intro i a hi hle ha h1 h2 h3
    rw [List.drop_eq_nil_of_le (by omega), share_top]
    exact ⟨ha, fun j hj => h1 j (by omega), h2⟩
  | succ n ih =>
    intro i a hi hle ha h1 h2 h3
    have hlt : i < l.length := by omega
    rw [List.drop_eq_getElem_cons hlt, show l[i] = rd l i by simp [rd, hlt], share_top]
    by_cases c : rd l a < rd l i
    · rw [if_pos c]
      refine ih (i + 1) i (by omega) (by omega) hlt (fun j hj => ?_) (fun j hj => ?_) (by omega)
      · rcases Nat.lt_succ_iff_lt_or_eq.mp hj with hj | rfl
        · have := h1 j hj; omega
        · exact Int.le_refl _
      · have := h1 j hj; omega
    · rw [if_neg c]
      refine ih (i + 1) a (by omega) (by omega) ha (fun j hj => ?_) h2 (by omega)
      rcases Nat.lt_succ_iff_lt_or_eq.mp hj with hj | rfl
      · exact h1 j hj
      · omega
theorem rd_map_snd (l : List (Int × Int)) (j : Nat) (h : j < l.length) : rd (l.map (·.2)) j = l[j].2 := by simp [rd, h]
theorem rd_map_fst (l : List (Int × Int)) (j : Nat) (h : j < l.length) : rd (l.map (·.1)) j = l[j].1 := by simp [rd, h]
/-- What the search and both stores do is the bump. -/
theorem top_bump (l : List (Int × Int)) (hl : 0 < l.length) (h : ∀ e ∈ l, -1 ≤ e.2) (t : Nat) (ht : share_top (l.map (·.2)) (l.map (·.2)) 0 0 = t) : t < l.length ∧ (l.map (·.1)).set t (rd (l.map (·.1)) t + 1) = (bump (mxr l) l).map (·.1) ∧ (l.map (·.2)).set t (-1) = (bump (mxr l) l).map (·.2) := by
  have hs := top_spec (l.map (·.2)) _ 0 0 rfl (by omega) (by simpa using hl) (fun j hj => by omega) (fun j hj => by omega) (Nat.le_refl _)
  rw [List.drop_zero, ht, List.length_map] at hs
  obtain ⟨h1, h2, h3⟩ := hs
  rw [rd_map_snd l t h1] at h2 h3
  have hm : mxr l = l[t].2 := by
    refine mxr_of (fun e he => ?_) ⟨_, List.getElem_mem h1, rfl⟩ (h _ (List.getElem_mem h1))
    obtain ⟨j, hj, rfl⟩ := List.getElem_of_mem he
    have := h2 j hj
    rwa [rd_map_snd l j hj] at this
  have hb := bump_at (mxr l) l t h1 hm.symm (fun j hj => by
    have := h3 j hj
    rw [rd_map_snd l j (by omega)] at this
    rw [hm]
    omega)
  refine ⟨h1, ?_, ?_⟩
  · rw [hb, List.map_set, rd_map_fst l t h1]
  · rw [hb, List.map_set]
theorem bump_mem (m : Int) (l : List (Int × Int)) : ∀ e ∈ bump m l, (e ∈ l) ∨ (e.2 = -1 ∧ ∃ y ∈ l, e.1 = y.1 + 1) := by
  induction l with
  | nil => intro e h; cases h
  | cons x r ih =>
    intro e h
    rw [bump] at h
    split at h
    · rcases List.mem_cons.mp h with rfl | h
      · exact .inr ⟨rfl, x, List.mem_cons_self, rfl⟩
      · exact .inl (List.mem_cons_of_mem _ h)
    · rcases List.mem_cons.mp h with rfl | h
      · exact .inl List.mem_cons_self
      · rcases ih e h with h | ⟨h1, y, hy, h2⟩
        · exact .inl (List.mem_cons_of_mem _ h)
        · exact .inr ⟨h1, y, List.mem_cons_of_mem _ hy, h2⟩
theorem sum_le {x : List Int} {t : Int} : ∀ (hs : ∀ w ∈ x, 0 ≤ w), 0 ≤ x.sum := by
  induction x with
  | nil => intro _; exact Int.le_refl _
  | cons a r ih =>
    intro h
    rw [List.sum_cons]
    have := h a List.mem_cons_self
    have := ih (fun w hw => h w (List.mem_cons_of_mem _ hw))
    omega
theorem wgh_loop (l : List Int) (hl : l.length ≤ 1024) (n : Nat) : ∀ (i : Nat) (a : Int), l.length - i = n → i ≤ l.length → 0 ≤ a → a ≤ 1152921504606846976 →
    Ev (fun k => share_weighed.l0 k a l (l.length : Int) (i : Int)) (match wgt a (l.drop i) with | none => (0, 26) | some s => (s, 0)) := by
  induction n with
  | zero =>
    intro i a hi hle h0 h1
    refine Ev.shift ?_
    simp only [share_weighed.l0]
    rw [List.drop_eq_nil_of_le (by omega)]
    exact Ev.neg (by omega) (Ev.val _)
  | succ n ih =>
    intro i a hi hle h0 h1
    have hlt : i < l.length := by omega
    have hw : wrap64 ((i : Int) + 1) = ((i + 1 : Nat) : Int) := by unfold wrap64; omega
    have hr : rd l (i : Int) = l[i] := by simp [rd, hlt]
    have hm : share_money.f l[i] = some (decide (0 ≤ l[i] ∧ l[i] ≤ 1152921504606846976)) := by
      unfold share_money.f
      by_cases h : l[i] ≥ 0
      · rw [if_pos h]
        congr 1
        exact decide_eq_decide.mpr ⟨fun h2 => ⟨h, h2⟩, fun h2 => h2.2⟩
      · rw [if_neg h]
        congr 1
        exact (decide_eq_false (by omega)).symm
    refine Ev.shift ?_
    simp only [share_weighed.l0, hr, hm, hw, Option.bind_some, decide_eq_true_eq]
    rw [List.drop_eq_getElem_cons hlt, wgt]
    refine Ev.pos (by omega) (Ev.pos (by omega) (Ev.pos (by omega) ?_))
    rw [wrap_small (n := 1152921504606846976 - a) (by omega) (by omega)]
    by_cases c : 0 ≤ l[i] ∧ l[i] ≤ 1152921504606846976 - a
    · rw [if_pos c, wrap_small (n := a + l[i]) (by omega) (by omega)]
      exact Ev.pos (by omega) (Ev.neg (by omega) (ih (i + 1) _ (by omega) (by omega) (by omega) (by omega)))
    · rw [if_neg c]
      exact Ev.ite (fun _ => Ev.pos (by omega) (Ev.val _)) (fun _ => Ev.val _)
/-- The parts, one by one. -/
theorem spq_ev (a s : Int) (ha : 0 ≤ a ∧ a ≤ 1152921504606846976) (hs : 1 ≤ s ∧ s ≤ 1152921504606846976) (t : List Int) : ∀ (p r : List Int) (n : Int), (∀ w ∈ t, 0 ≤ w ∧ w ≤ s) → p.length + t.length ≤ 100000 → r.length = p.length → n ≤ 1152921504606846976 → a * t.sum ≤ n * s →
    Ev (fun k => share_Split.q k a s t p (r ++ List.replicate t.length 0) n) (p ++ (spE a s t).map (·.1), r ++ (spE a s t).map (·.2), n - ((spE a s t).map (·.1)).sum) ∧ 0 ≤ n - ((spE a s t).map (·.1)).sum := by
  induction t with
  | nil =>
    intro p r n _ _ _ _ hn
    simp only [share_Split.q, spE, List.map_nil, List.append_nil, List.sum_nil, List.length_nil, List.replicate_zero, Int.sub_zero, Int.mul_zero] at hn ⊢
    refine ⟨Ev.val _, ?_⟩
    rcases Int.lt_or_le n 0 with h | h
    · have := Int.mul_neg_of_neg_of_pos h (show 0 < s by omega)
      omega
    · exact h
  | cons w t ih =>
    intro p r n hw hlen hr hn1 hn
    have hww := hw w List.mem_cons_self
    have hd := Int.mul_ediv_add_emod (a * w) s
    have hm0 := Int.emod_nonneg (a * w) (show s ≠ 0 by omega)
    have hq0 : 0 ≤ a * w / s := Int.ediv_nonneg (Int.mul_nonneg ha.1 hww.1) (by omega)
    have hn2 : a * t.sum ≤ (n - a * w / s) * s := by
      rw [Int.sub_mul, Int.mul_comm (a * w / s) s]
      rw [List.sum_cons, Int.mul_add] at hn
      omega
    have hts : 0 ≤ t.sum := sum_le (t := 0) (fun x hx => (hw x (List.mem_cons_of_mem _ hx)).1)
    have hns : 0 ≤ n - a * w / s := by
      rcases Int.lt_or_le (n - a * w / s) 0 with h | h
      · have h2 := Int.mul_neg_of_neg_of_pos h (show 0 < s by omega)
        have h3 := Int.mul_nonneg ha.1 hts
        omega
      · exact h
    rw [List.length_cons] at hlen
    have hI := ih (p ++ [a * w / s]) (r ++ [a * w % s]) (n - a * w / s) (fun x hx => hw x (List.mem_cons_of_mem _ hx)) (by simp; omega) (by simp [hr]) (by omega) hn2
    have e1 : p ++ [a * w / s] ++ (spE a s t).map (·.1) = p ++ (spE a s (w :: t)).map (·.1) := by simp [spE]
    have e2 : r ++ [a * w % s] ++ (spE a s t).map (·.2) = r ++ (spE a s (w :: t)).map (·.2) := by simp [spE]
    have e3 : n - a * w / s - ((spE a s t).map (·.1)).sum = n - ((spE a s (w :: t)).map (·.1)).sum := by simp only [spE, List.map_cons, List.sum_cons]; omega
    rw [e1, e2, e3] at hI
    refine ⟨?_, hI.2⟩
    simp only [share_Split.q]
    refine Ev.bind (quo_ev a w s ha hww hs) (Ev.pos (by omega) ?_)
    simp only
    rw [wrap_small (n := n - a * w / s) (by omega) (by omega)]
    have e4 : (r ++ List.replicate (w :: t).length 0).set p.length (a * w % s) = r ++ [a * w % s] ++ List.replicate t.length 0 := by
      rw [← hr, List.set_append_right _ _ (Nat.le_refl _)]
      simp [List.replicate_succ]
    rw [e4]
    exact hI.1
/-- What is left goes round. -/
theorem spg_ok (n : Nat) : ∀ (l : List (Int × Int)) (B : Int), 0 < l.length → (∀ e ∈ l, -1 ≤ e.2 ∧ 0 ≤ e.1 ∧ e.1 ≤ B) → B + n ≤ 9223372036854775807 → share_Split.go n (l.map (·.1)) (l.map (·.2)) = some ((spG n l).map (·.1)) := by
  induction n with
  | zero => intro l B _ _ _; rfl
  | succ n ih =>
    intro l B hl h hB
    obtain ⟨h1, h2, h3⟩ := top_bump l hl (fun e he => (h e he).1) _ rfl
    rw [share_Split.go, if_pos ⟨by rw [List.length_map]; exact h1, by simp⟩]
    have hb := h _ (List.getElem_mem h1)
    rw [wrap_small (by rw [rd_map_fst l _ h1]; omega) (by rw [rd_map_fst l _ h1]; omega), h2, h3]
    rw [ih (bump (mxr l) l) (B + 1) (by rw [bump_length]; exact hl) (fun e he => ?_) (by omega)]
    · rfl
    · rcases bump_mem _ _ e he with he | ⟨h4, y, hy, h5⟩
      · have := h e he; omega
      · have := h y hy; omega
theorem spE_mem {a s : Int} (ha : 0 ≤ a) (hs : 1 ≤ s) {l : List Int} (hl : ∀ w ∈ l, 0 ≤ w ∧ w ≤ s) : ∀ e ∈ spE a s l, 0 ≤ e.1 ∧ e.1 ≤ a ∧ 0 ≤ e.2 ∧ e.2 < s := by
  intro e he
  obtain ⟨w, hw, rfl⟩ := List.mem_map.mp he
  have h := hl w hw
  refine ⟨Int.ediv_nonneg (Int.mul_nonneg ha h.1) (by omega), ?_, Int.emod_nonneg _ (by omega), Int.emod_lt_of_pos _ (by omega)⟩
  exact Int.le_trans (Int.ediv_le_ediv (by omega) (Int.mul_le_mul_of_nonneg_left h.2 ha)) (by rw [Int.mul_ediv_cancel _ (by omega)]; exact Int.le_refl _)
theorem spV_ev (a : Int) (l : List Int) : Ev (fun k => share_Split.f k a l) (spV a l) := by
  have hm : share_money.f a = some (decide (0 ≤ a ∧ a ≤ 1152921504606846976)) := by
    unfold share_money.f
    by_cases h : a ≥ 0
    · rw [if_pos h]
      congr 1
      exact decide_eq_decide.mpr ⟨fun h2 => ⟨h, h2⟩, fun h2 => h2.2⟩
    · rw [if_neg h]
      congr 1
      exact (decide_eq_false (by omega)).symm
  simp only [share_Split.f, hm, Option.bind_some, decide_eq_true_eq]
  unfold spV
  by_cases c0 : 0 ≤ a ∧ a ≤ 1152921504606846976
  case neg => rw [if_neg c0]; exact Ev.neg c0 (Ev.val _)
  rw [if_pos c0]
  refine Ev.pos c0 ?_
  simp only [share_weighed.f]
  by_cases c1 : l.length ≤ 1024
  case neg =>
    rw [if_neg c1]
    refine Ev.bind (x := (0, 8)) (Ev.pos (by omega) (Ev.val _)) ?_
    exact Ev.neg (by decide) (Ev.val _)
  rw [if_pos c1]
  refine Ev.bind (Ev.neg (by omega) (wgh_loop l c1 _ 0 0 rfl (by omega) (by decide) (by decide))) ?_
  rw [List.drop_zero]
  cases hw : wgt 0 l with
  | none => exact Ev.neg (by decide) (Ev.val _)
  | some s =>
    obtain ⟨e, hww, h2, h3⟩ := wgt_ok l 0 s (by decide) (by decide) hw
    simp only
    refine Ev.pos (by trivial) ?_
    by_cases hs : s = 0
    · rw [if_pos hs]; exact Ev.pos hs (Ev.val _)
    rw [if_neg hs]
    have hsl : 1 ≤ s := by omega
    have hw2 : ∀ w ∈ l, 0 ≤ w ∧ w ≤ s := fun w hm => by have := hww w hm; omega
    have hlen : 0 < l.length := by
      rcases Nat.eq_zero_or_pos l.length with h | h
      · rw [List.eq_nil_of_length_eq_zero h] at hw
        obtain rfl := Option.some.inj hw
        exact absurd rfl hs
      · exact h
    obtain ⟨hq, hn⟩ := spq_ev a s c0 ⟨hsl, h3⟩ l [] [] a hw2 (by simp; omega) rfl c0.2 (by rw [show l.sum = s by omega]; exact Int.le_refl _)
    simp only [List.nil_append] at hq
    refine Ev.neg hs (Ev.pos ⟨hlen, by omega⟩ (Ev.bind hq ?_))
    have hsum : 0 ≤ ((spE a s l).map (·.1)).sum := sum_le (t := 0) (fun w hm => by
      obtain ⟨e, he, rfl⟩ := List.mem_map.mp hm
      exact (spE_mem c0.1 hsl hw2 e he).1)
    simp only
    refine Ev.pos (by omega) ?_
    have hg := spg_ok (a - ((spE a s l).map (·.1)).sum).toNat (spE a s l) 1152921504606846976 (by simpa [spE] using hlen) (fun e he => by
      have := spE_mem c0.1 hsl hw2 e he
      omega) (by omega)
    rw [hg]
    exact Ev.val _
/-- How many have a rest. -/
def cnt (l : List (Int × Int)) : Nat := (l.filter fun e => decide (0 < e.2)).length
theorem mxr_mem (l : List (Int × Int)) (h : 0 < cnt l) : 0 < mxr l ∧ ∃ e ∈ l, e.2 = mxr l := by
  have hp : 0 < mxr l := by
    unfold cnt at h
    obtain ⟨e, he⟩ := List.exists_mem_of_length_pos h
    rw [List.mem_filter, decide_eq_true_eq] at he
    have := (mxr_ge l).2 e he.1
    omega
  refine ⟨hp, ?_⟩
  clear h
  induction l with
  | nil => simp [mxr] at hp
  | cons x r ih =>
    rw [mxr] at hp ⊢
    by_cases c : mxr r < x.2
    · rw [if_pos c] at hp ⊢
      exact ⟨x, List.mem_cons_self, rfl⟩
    · rw [if_neg c] at hp ⊢
      obtain ⟨e, he, h2⟩ := ih hp
      exact ⟨e, List.mem_cons_of_mem _ he, h2⟩
theorem bump_facts (m : Int) (hm : 0 < m) (l : List (Int × Int)) (h : ∃ e ∈ l, e.2 = m) : cnt (bump m l) + 1 = cnt l ∧ ((bump m l).map (·.1)).sum = (l.map (·.1)).sum + 1 := by
  induction l with
  | nil => obtain ⟨e, he, _⟩ := h; cases he
  | cons x r ih =>
    rw [bump]
    by_cases c : x.2 = m
    · rw [if_pos c]
      have h1 : decide (0 < x.2) = true := decide_eq_true (by omega)
      refine ⟨by simp [cnt, List.filter_cons, h1], by simp only [List.map_cons, List.sum_cons]; omega⟩
    · rw [if_neg c]
      obtain ⟨e, he, h2⟩ := h
      rcases List.mem_cons.mp he with rfl | he
      · exact absurd h2 c
      · obtain ⟨h3, h4⟩ := ih ⟨e, he, h2⟩
        refine ⟨?_, by simp only [List.map_cons, List.sum_cons, h4]; omega⟩
        unfold cnt at h3 ⊢
        rw [List.filter_cons, List.filter_cons]
        split
        · simp only [List.length_cons]; omega
        · exact h3
theorem spG_sum (n : Nat) : ∀ l, n ≤ cnt l → ((spG n l).map (·.1)).sum = (l.map (·.1)).sum + n := by
  induction n with
  | zero => intro l _; simp [spG]
  | succ n ih =>
    intro l h
    obtain ⟨h1, h2⟩ := mxr_mem l (by omega)
    obtain ⟨h3, h4⟩ := bump_facts _ h1 l h2
    rw [spG, ih _ (by omega), h4]
    omega
/-- What becomes of one. -/
def Pk (e e' : Int × Int) : Prop := e' = e ∨ (0 < e.2 ∧ e' = (e.1 + 1, -1))
theorem Pk.trans {a b c : Int × Int} (h : Pk a b) (k : Pk b c) : Pk a c := by
  rcases h with rfl | ⟨h1, rfl⟩
  · exact k
  · rcases k with rfl | ⟨h2, _⟩
    · exact .inr ⟨h1, rfl⟩
    · exact absurd h2 (by show ¬ (0 : Int) < -1; decide)
theorem bump_pk (m : Int) (hm : 0 < m) (l : List (Int × Int)) : ∀ j, (h : j < l.length) → Pk l[j] ((bump m l)[j]'(by rw [bump_length]; exact h)) := by
  induction l with
  | nil => intro j h; cases h
  | cons x r ih =>
    intro j h
    simp only [bump]
    by_cases c : x.2 = m
    · simp only [if_pos c]
      cases j with
      | zero => exact .inr ⟨by show 0 < x.2; omega, rfl⟩
      | succ j => exact .inl rfl
    · simp only [if_neg c]
      cases j with
      | zero => exact .inl rfl
      | succ j => exact ih j (by simpa using h)
theorem spG_length (n : Nat) : ∀ l, (spG n l).length = l.length := by
  induction n with
  | zero => intro l; rfl
  | succ n ih => intro l; rw [spG, ih, bump_length]
theorem spG_pk (n : Nat) : ∀ l, n ≤ cnt l → ∀ j, (h : j < l.length) → Pk l[j] ((spG n l)[j]'(by rw [spG_length]; exact h)) := by
  induction n with
  | zero => intro l _ j h; exact .inl rfl
  | succ n ih =>
    intro l hc j h
    obtain ⟨h1, h2⟩ := mxr_mem l (by omega)
    obtain ⟨h3, _⟩ := bump_facts _ h1 l h2
    exact (bump_pk _ h1 l j h).trans (ih (bump (mxr l) l) (by omega) j (by rw [bump_length]; exact h))
theorem spE_sum (a s : Int) (l : List Int) : ((spE a s l).map (·.1)).sum * s + ((spE a s l).map (·.2)).sum = a * l.sum := by
  induction l with
  | nil => simp [spE]
  | cons w r ih =>
    simp only [spE, List.map_cons, List.sum_cons] at ih ⊢
    have hd := Int.mul_ediv_add_emod (a * w) s
    rw [Int.add_mul, Int.mul_add, ← ih, Int.mul_comm (a * w / s) s]
    omega
theorem cnt_ge (s : Int) (hs : 1 ≤ s) (l : List (Int × Int)) (h : ∀ e ∈ l, 0 ≤ e.2 ∧ e.2 < s) : (l.map (·.2)).sum ≤ (cnt l : Int) * (s - 1) := by
  induction l with
  | nil => simp [cnt]
  | cons x r ih =>
    have hx := h x List.mem_cons_self
    have := ih (fun e he => h e (List.mem_cons_of_mem _ he))
    rw [List.map_cons, List.sum_cons]
    unfold cnt at this ⊢
    rw [List.filter_cons]
    by_cases c : 0 < x.2
    · rw [if_pos (decide_eq_true c), List.length_cons]
      have e : ((((r.filter fun e => decide (0 < e.2)).length + 1 : Nat) : Int) * (s - 1)) = ((r.filter fun e => decide (0 < e.2)).length : Int) * (s - 1) + (s - 1) := by
        rw [Int.natCast_add, Int.add_mul]; simp
      rw [e]
      omega
    · rw [if_neg (by simpa using c)]
      omega
/-- There are enough rests. -/
theorem lft_cnt (a s : Int) (ha : 0 ≤ a) (hs : 1 ≤ s) (l : List Int) (hl : ∀ w ∈ l, 0 ≤ w ∧ w ≤ s) (he : l.sum = s) : 0 ≤ lft a (spE a s l) ∧ (lft a (spE a s l)).toNat ≤ cnt (spE a s l) := by
  have h1 := spE_sum a s l
  have h2 := cnt_ge s hs (spE a s l) (fun e hm => by have := spE_mem ha hs hl e hm; exact ⟨this.2.2.1, this.2.2.2⟩)
  have h3 : 0 ≤ ((spE a s l).map (·.2)).sum := sum_le (t := 0) (fun w hm => by
    obtain ⟨e, hm2, rfl⟩ := List.mem_map.mp hm
    exact (spE_mem ha hs hl e hm2).2.2.1)
  rw [he] at h1
  have h4 : lft a (spE a s l) * s = ((spE a s l).map (·.2)).sum := by
    unfold lft
    rw [Int.sub_mul]
    omega
  have h5 : 0 ≤ lft a (spE a s l) := by
    rcases Int.lt_or_le (lft a (spE a s l)) 0 with h | h
    · have := Int.mul_neg_of_neg_of_pos h (show 0 < s by omega)
      omega
    · exact h
  refine ⟨h5, ?_⟩
  have h6 : lft a (spE a s l) * s ≤ (cnt (spE a s l) : Int) * s := by
    have : (cnt (spE a s l) : Int) * (s - 1) ≤ (cnt (spE a s l) : Int) * s := Int.mul_le_mul_of_nonneg_left (by omega) (by omega)
    omega
  have := Int.le_of_mul_le_mul_right h6 (show 0 < s by omega)
  omega
section
variable {α : Type}
def bumpT (m : Int) : List (α × Bool × (Int × Int)) → List (α × Bool × (Int × Int))
  | [] => []
  | x :: t => if x.2.2.2 = m then (x.1, x.2.1, (x.2.2.1 + 1, -1)) :: t else x :: bumpT m t
theorem bumpT_e (m : Int) (l : List (α × Bool × (Int × Int))) : (bumpT m l).map (·.2.2) = bump m (l.map (·.2.2)) := by
  induction l with
  | nil => rfl
  | cons x r ih =>
    rw [bumpT, List.map_cons, bump]
    split
    · rfl
    · rw [List.map_cons, ih]
theorem bumpT_a (m : Int) (l : List (α × Bool × (Int × Int))) : (bumpT m l).map (·.1) = l.map (·.1) := by
  induction l with
  | nil => rfl
  | cons x r ih =>
    rw [bumpT]
    split
    · rfl
    · rw [List.map_cons, ih, List.map_cons]
/-- Who has no weight has no part and no rest. -/
def Idle (l : List (α × Bool × (Int × Int))) : Prop := ∀ x ∈ l, x.2.1 = false → x.2.2 = (0, 0)
theorem bumpT_idle (m : Int) (hm : 0 < m) (l : List (α × Bool × (Int × Int))) (h : Idle l) : Idle (bumpT m l) ∧ (bumpT m l).filter (·.2.1) = bumpT m (l.filter (·.2.1)) := by
  induction l with
  | nil => exact ⟨h, rfl⟩
  | cons x r ih =>
    obtain ⟨h1, h2⟩ := ih (fun y hy => h y (List.mem_cons_of_mem _ hy))
    have hx := h x List.mem_cons_self
    rw [bumpT]
    by_cases c : x.2.2.2 = m
    · rw [if_pos c]
      have hb : x.2.1 = true := by
        cases hb : x.2.1 with
        | true => rfl
        | false => rw [hx hb] at c; simp at c; omega
      refine ⟨fun y hy hf => ?_, ?_⟩
      · rcases List.mem_cons.mp hy with rfl | hy
        · rw [show (x.1, x.2.1, (x.2.2.1 + 1, (-1 : Int))).2.1 = x.2.1 from rfl, hb] at hf
          cases hf
        · exact h y (List.mem_cons_of_mem _ hy) hf
      · rw [List.filter_cons, if_pos (show (x.1, x.2.1, (x.2.2.1 + 1, (-1 : Int))).2.1 = true from hb), List.filter_cons, if_pos hb, bumpT, if_pos c]
    · rw [if_neg c]
      refine ⟨fun y hy hf => ?_, ?_⟩
      · rcases List.mem_cons.mp hy with rfl | hy
        · exact hx hf
        · exact h1 y hy hf
      · rw [List.filter_cons, List.filter_cons]
        cases hb : x.2.1 with
        | true => rw [if_pos rfl, if_pos rfl, bumpT, if_neg c, h2]
        | false => rw [if_neg (by decide), if_neg (by decide), h2]
theorem idle_mxr (l : List (α × Bool × (Int × Int))) (h : Idle l) (hc : 0 < cnt (l.map (·.2.2))) : mxr ((l.filter (·.2.1)).map (·.2.2)) = mxr (l.map (·.2.2)) := by
  obtain ⟨h1, e, he, h2⟩ := mxr_mem _ hc
  refine mxr_of (fun y hy => ?_) ?_ (by omega)
  · obtain ⟨x, hx, rfl⟩ := List.mem_map.mp hy
    exact (mxr_ge _).2 _ (List.mem_map.mpr ⟨x, (List.mem_filter.mp hx).1, rfl⟩)
  · obtain ⟨x, hx, rfl⟩ := List.mem_map.mp he
    refine ⟨x.2.2, List.mem_map.mpr ⟨x, List.mem_filter.mpr ⟨hx, ?_⟩, rfl⟩, h2⟩
    cases hb : x.2.1 with
    | true => rfl
    | false => rw [h x hx hb] at h2; simp at h2; omega
/-- What goes round goes round among those who have a weight. -/
theorem spG_idle (n : Nat) : ∀ l : List (α × Bool × (Int × Int)), Idle l → n ≤ cnt (l.map (·.2.2)) → ∃ l' : List (α × Bool × (Int × Int)), Idle l' ∧ l'.map (·.2.2) = spG n (l.map (·.2.2)) ∧ l'.map (·.1) = l.map (·.1) ∧ (l'.filter (·.2.1)).map (·.2.2) = spG n ((l.filter (·.2.1)).map (·.2.2)) ∧ (l'.filter (·.2.1)).map (·.1) = (l.filter (·.2.1)).map (·.1) := by
  induction n with
  | zero => intro l h _; exact ⟨l, h, rfl, rfl, rfl, rfl⟩
  | succ n ih =>
    intro l h hc
    obtain ⟨h1, e, he, h2⟩ := mxr_mem _ (show 0 < cnt (l.map (·.2.2)) by omega)
    obtain ⟨h3, h4⟩ := bumpT_idle _ h1 l h
    have h5 := (bump_facts _ h1 (l.map (·.2.2)) ⟨e, he, h2⟩).1
    obtain ⟨l', k1, k2, k3, k4, k5⟩ := ih (bumpT (mxr (l.map (·.2.2))) l) h3 (by rw [bumpT_e]; omega)
    refine ⟨l', k1, ?_, ?_, ?_, ?_⟩
    · rw [k2, bumpT_e]; rfl
    · rw [k3, bumpT_a]
    · rw [k4, h4, bumpT_e, spG, idle_mxr l h (by omega)]
    · rw [k5, h4, bumpT_a]
end
/-- The first position of a series. -/
def fdV (s : S25) : List S27 → ByteArray × Int × Int × Int × Int × Int
  | [] => (s.f0, s.f1, s.f2, s.f3, 0, 0)
  | p :: r => if eqD25 p.f0.f0 s.f0 p.f0.f1 s.f1 p.f0.f2 s.f2 p.f0.f3 s.f3 = true then (p.f0.f0, p.f0.f1, p.f0.f2, p.f0.f3, p.f1, p.f2) else fdV s r
theorem idxOf_spec {α : Type} (q : α → Bool) (l : List α) : ∀ i : Int, 0 ≤ i → (idxOf q l i = -1 ∧ ∀ x ∈ l, q x = false) ∨ ∃ j : Nat, ∃ h : j < l.length, idxOf q l i = i + j ∧ q l[j] = true ∧ ∀ n (hn : n < j), q (l[n]'(by omega)) = false := by
  induction l with
  | nil => intro i _; exact .inl ⟨rfl, fun x h => by cases h⟩
  | cons x r ih =>
    intro i hi
    rw [idxOf]
    by_cases h : q x = true
    · rw [if_pos h]
      exact .inr ⟨0, by simp, by simp, h, fun n hn => by omega⟩
    · rw [if_neg h]
      rcases ih (i + 1) (by omega) with ⟨h1, h2⟩ | ⟨j, hj, h1, h2, h3⟩
      · refine .inl ⟨h1, fun y hy => ?_⟩
        rcases List.mem_cons.mp hy with rfl | hy
        · simpa using h
        · exact h2 y hy
      · refine .inr ⟨j + 1, by simpa using hj, by rw [h1]; omega, h2, fun n hn => ?_⟩
        cases n with
        | zero => simpa using h
        | succ n => exact h3 n (by omega)
theorem fdV_none (s : S25) (l : List S27) (h : ∀ x ∈ l, position_place.q s.f0 s.f1 s.f2 s.f3 x = false) : fdV s l = (s.f0, s.f1, s.f2, s.f3, 0, 0) := by
  induction l with
  | nil => rfl
  | cons x r ih =>
    rw [fdV, if_neg (by have := h x List.mem_cons_self; rw [position_place.q] at this; rw [this]; decide)]
    exact ih (fun y hy => h y (List.mem_cons_of_mem _ hy))
theorem fdV_at (s : S25) (l : List S27) : ∀ j, (h : j < l.length) → position_place.q s.f0 s.f1 s.f2 s.f3 l[j] = true → (∀ n (hn : n < j), position_place.q s.f0 s.f1 s.f2 s.f3 (l[n]'(by omega)) = false) → fdV s l = (l[j].f0.f0, l[j].f0.f1, l[j].f0.f2, l[j].f0.f3, l[j].f1, l[j].f2) := by
  induction l with
  | nil => intro j h; cases h
  | cons x r ih =>
    intro j h hq hn
    cases j with
    | zero =>
      have hq2 : eqD25 x.f0.f0 s.f0 x.f0.f1 s.f1 x.f0.f2 s.f2 x.f0.f3 s.f3 = true := hq
      rw [fdV, if_pos hq2]
      rfl
    | succ j =>
      rw [fdV, if_neg (by have := hn 0 (by omega); simp only [List.getElem_cons_zero, position_place.q] at this; rw [this]; decide)]
      exact ih j (by simpa using h) hq (fun n hn2 => hn (n + 1) (by omega))
theorem fd_some (s : S25) (l : List S27) : position_Find.f l s.f0 s.f1 s.f2 s.f3 = some (fdV s l) := by
  simp only [position_Find.f, position_place.f, Option.bind_some]
  rcases idxOf_spec (position_place.q s.f0 s.f1 s.f2 s.f3) l 0 (Int.le_refl _) with ⟨h1, h2⟩ | ⟨j, hj, h1, h2, h3⟩
  · rw [h1, if_neg (by decide), fdV_none s l h2]
  · rw [h1, fdV_at s l j hj h2 h3, Int.zero_add, if_pos (by omega), if_pos (by omega), if_pos (by omega)]
    simp [rd_T27, hj]
theorem fdr_loop (s : S25) (l : List S27) (hl : l.length ≤ 9223372036854775806) (n : Nat) : ∀ i : Nat, l.length - i = n → i ≤ l.length → Ev (fun k => contangoref15_Find.l0 k l (i : Int) s.f0 s.f1 s.f2 s.f3) (fdV s (l.drop i)) := by
  induction n with
  | zero =>
    intro i hi hle
    refine Ev.shift ?_
    simp only [contangoref15_Find.l0]
    rw [List.drop_eq_nil_of_le (by omega)]
    exact Ev.neg (by omega) (Ev.val _)
  | succ n ih =>
    intro i hi hle
    have hlt : i < l.length := by omega
    have hw : wrap64 ((i : Int) + 1) = ((i + 1 : Nat) : Int) := by unfold wrap64; omega
    have hr : rd_T27 l (i : Int) = l[i] := by simp [rd_T27, hlt]
    refine Ev.shift ?_
    simp only [contangoref15_Find.l0, hr, hw]
    rw [List.drop_eq_getElem_cons hlt, fdV]
    exact Ev.pos (by omega) (Ev.pos (by omega) (Ev.both (fun _ => Ev.val _) (fun _ => ih (i + 1) (by omega) (by omega))))
theorem fdr_ev (s : S25) (l : List S27) (hl : l.length ≤ 9223372036854775806) : Ev (fun k => contangoref15_Find.f k l s.f0 s.f1 s.f2 s.f3) (fdV s l) := by
  simp only [contangoref15_Find.f]
  exact fdr_loop s l hl _ 0 rfl (by omega)
/-- What is amiss with holdings. -/
def hdC : List S47 → Int
  | [] => 0
  | h :: r => if posC h.f1 = 0 then hdC r else posC h.f1
def hdsC (l : List S47) : Int := if l.length > 1024 then 8 else hdC l
theorem rd_hd (l : List S47) (i : Nat) (h : i < l.length) : rd_T47 l (i : Int) = l[i] := by simp [rd_T47, h]
theorem hdC_loop (l : List S47) (hl : l.length ≤ 1024) (n : Nat) : ∀ i : Nat, l.length - i = n → i ≤ l.length → Ev (fun k => expiry_check.l0 k l (l.length : Int) (i : Int)) (hdC (l.drop i)) := by
  induction n with
  | zero =>
    intro i hi hle
    refine Ev.shift ?_
    simp only [expiry_check.l0]
    rw [List.drop_eq_nil_of_le (by omega)]
    exact Ev.neg (by omega) (Ev.val _)
  | succ n ih =>
    intro i hi hle
    have hlt : i < l.length := by omega
    have hw : wrap64 ((i : Int) + 1) = ((i + 1 : Nat) : Int) := by unfold wrap64; omega
    refine Ev.shift ?_
    simp only [expiry_check.l0, rd_hd l i hlt, hw]
    rw [List.drop_eq_getElem_cons hlt, hdC]
    exact Ev.pos (by omega) (Ev.pos (by omega) (Ev.pos (by omega) (Ev.bind (posC_ev _) (Ev.both (fun _ => ih (i + 1) (by omega) (by omega)) (fun _ => Ev.val _)))))
theorem hdsC_ev (l : List S47) : Ev (fun k => expiry_check.f k l) (hdsC l) := by
  simp only [expiry_check.f]
  unfold hdsC
  by_cases h : l.length > 1024
  · rw [if_pos h]; exact Ev.pos (by omega) (Ev.val _)
  · rw [if_neg h]
    exact Ev.neg (by omega) (hdC_loop l (by omega) _ 0 rfl (by omega))
/-- Who has how many lots of a side. -/
def sdV (p : Int → Int → Int) (s : S25) (h : S47) : Int := p (fdV s h.f1).2.2.2.2.1 (fdV s h.f1).2.2.2.2.2
def sdL (p : Int → Int → Int) (s : S25) : List S47 → List S49
  | [] => []
  | h :: r => if 0 < sdV p s h then ⟨h.f0, sdV p s h⟩ :: sdL p s r else sdL p s r
theorem sides_some (p : Int → Int → Int) (s : S25) (l : List S47) : sides_go p s.f0 s.f1 s.f2 s.f3 l = some (sdL p s l) := by
  induction l with
  | nil => rfl
  | cons h r ih => rw [sides_go, fd_some, ih]; rfl
theorem hdsC_len {l : List S47} (h : hdsC l = 0) : l.length ≤ 1024 := by
  unfold hdsC at h
  by_cases c : l.length > 1024
  · rw [if_pos c] at h; cases h
  · omega
theorem ends_ev (a : ByteArray) (b c d u : Int) : Ev (fun k => option_Ends.f k a b c d u) (decide (iv b d u > 0)) := by
  simp only [option_Ends.f]
  exact Ev.bind (intr_ev a b c d u) (Ev.val _)
def exV (s : S25) (l : List S47) (u : Int) : List S49 × Int :=
  if hdsC l = 0 then (if iv s.f1 s.f3 u > 0 then (sdL (fun a _ => a) s l, 0) else ([], 0)) else ([], hdsC l)
theorem exV_ev (s : S25) (l : List S47) (u : Int) : Ev (fun k => expiry_Exercised.f k l s.f0 s.f1 s.f2 s.f3 u) (exV s l u) := by
  simp only [expiry_Exercised.f]
  refine Ev.bind (hdsC_ev l) ?_
  unfold exV
  refine Ev.both (fun h0 => ?_) (fun _ => Ev.val _)
  refine Ev.bind (ends_ev _ _ _ _ _) ?_
  simp only [decide_eq_true_eq]
  refine Ev.both (fun _ => ?_) (fun _ => Ev.val _)
  refine Ev.pos (by have := hdsC_len h0; omega) ?_
  rw [sides_some]
  exact Ev.val _
/-- The lots together. -/
theorem asum (t : List S49) : ∀ a, expiry_Assign.sum t a = t.foldl (fun a x => wrap64 (a + x.f1)) a := by
  induction t with
  | nil => intro a; rfl
  | cons x r ih => intro a; rw [expiry_Assign.sum, ih]; rfl
def outL : List S44 → List Int → List S49
  | a :: r, p :: ps => if 0 < p then ⟨a, p⟩ :: outL r ps else outL r ps
  | _, _ => []
theorem aout (ps : List Int) (t : List S49) : ∀ (i : Nat) (o : List S49), i + t.length ≤ ps.length → expiry_Assign.out ps t i o = some (o ++ outL (t.map (·.f0)) (ps.drop i)) := by
  induction t with
  | nil => intro i o _; simp [expiry_Assign.out, outL]
  | cons x r ih =>
    intro i o h
    rw [List.length_cons] at h
    have hlt : i < ps.length := by omega
    rw [expiry_Assign.out, if_pos hlt, ih (i + 1) _ (by omega), List.map_cons, List.drop_eq_getElem_cons hlt, outL, show rd ps (i : Int) = ps[i] by simp [rd, hlt]]
    by_cases c : 0 < ps[i]
    · rw [if_pos c, if_pos c]; simp
    · rw [if_neg c, if_neg c]
/-- To whom lots are assigned. -/
def asV (s : S25) (l : List S47) (n : Int) : List S49 × Int :=
  if hdsC l = 0 then (if 0 ≤ n ∧ n ≤ 1048576 then (if ((sdL (fun _ x => x) s l).map (·.f1)).sum < n then ([], 30) else if n = 0 then ([], 0) else (if (spV n ((sdL (fun _ x => x) s l).map (·.f1))).2 = 0 then (outL ((sdL (fun _ x => x) s l).map (·.f0)) (spV n ((sdL (fun _ x => x) s l).map (·.f1))).1, 0) else ([], (spV n ((sdL (fun _ x => x) s l).map (·.f1))).2))) else ([], 18)) else ([], hdsC l)
theorem sdL_bound (p : Int → Int → Int) (s : S25) (B : Int) (l : List S47) (h : ∀ x ∈ l, sdV p s x ≤ B) (hB : 0 ≤ B) : (sdL p s l).length ≤ l.length ∧ (∀ y ∈ (sdL p s l).map (·.f1), 0 < y ∧ y ≤ B) ∧ 0 ≤ ((sdL p s l).map (·.f1)).sum ∧ ((sdL p s l).map (·.f1)).sum ≤ B * l.length := by
  induction l with
  | nil => exact ⟨Nat.le_refl _, fun y hy => (by cases hy), by simp [sdL], by simp [sdL]⟩
  | cons x r ih =>
    obtain ⟨h1, h2, h3, h4⟩ := ih (fun y hy => h y (List.mem_cons_of_mem _ hy))
    have hx := h x List.mem_cons_self
    have e : B * ((x :: r).length : Nat) = B * (r.length : Int) + B := by rw [List.length_cons, Int.natCast_add, Int.mul_add]; simp
    rw [sdL, e]
    split
    · refine ⟨by simp; omega, fun y hy => ?_, by simp only [List.map_cons, List.sum_cons]; omega, by simp only [List.map_cons, List.sum_cons]; omega⟩
      rw [List.map_cons] at hy
      rcases List.mem_cons.mp hy with rfl | hy
      · exact ⟨by assumption, hx⟩
      · exact h2 y hy
    · exact ⟨by simp; omega, h2, h3, by omega⟩
theorem fd_bound (s : S25) (l : List S27) (h : ∀ p ∈ l, 0 ≤ p.f1 ∧ p.f1 ≤ 1048576 ∧ 0 ≤ p.f2 ∧ p.f2 ≤ 1048576) : 0 ≤ (fdV s l).2.2.2.2.1 ∧ (fdV s l).2.2.2.2.1 ≤ 1048576 ∧ 0 ≤ (fdV s l).2.2.2.2.2 ∧ (fdV s l).2.2.2.2.2 ≤ 1048576 := by
  induction l with
  | nil => exact ⟨Int.le_refl _, (by decide : (0 : Int) ≤ 1048576), Int.le_refl _, (by decide : (0 : Int) ≤ 1048576)⟩
  | cons p r ih =>
    rw [fdV]
    split
    · exact h p List.mem_cons_self
    · exact ih (fun y hy => h y (List.mem_cons_of_mem _ hy))
theorem posC_bound {l : List S27} (h : posC l = 0) : ∀ p ∈ l, 0 ≤ p.f1 ∧ p.f1 ≤ 1048576 ∧ 0 ≤ p.f2 ∧ p.f2 ≤ 1048576 := by
  unfold posC at h
  by_cases c : l.length > 128
  · rw [if_pos c] at h; cases h
  · rw [if_neg c] at h
    have key : ∀ (l : List S27) (q : Option S27), scan posF q l = 0 → ∀ p ∈ l, 0 ≤ p.f1 ∧ p.f1 ≤ 1048576 ∧ 0 ≤ p.f2 ∧ p.f2 ≤ 1048576 := by
      intro l
      induction l with
      | nil => intro q _ p hp; cases hp
      | cons x r ih =>
        intro q hq p hp
        rw [scan_cons] at hq
        by_cases cx : posF q x = 0
        · rw [if_pos cx] at hq
          rcases List.mem_cons.mp hp with rfl | hp
          · unfold posF at cx
            have hne : ∀ (c : Prop) [Decidable c], (if c then (19 : Int) else 18) ≠ 0 := by intro c _; split <;> decide
            by_cases c2 : 0 ≤ p.f1 ∧ p.f1 ≤ 1048576 ∧ 0 ≤ p.f2 ∧ p.f2 ≤ 1048576 ∧ ¬ (p.f1 = 0 ∧ p.f2 = 0)
            · exact ⟨c2.1, c2.2.1, c2.2.2.1, c2.2.2.2.1⟩
            · rw [if_neg c2] at cx
              exact absurd cx (hne _)
          · exact ih _ hq p hp
        · rw [if_neg cx] at hq
          exact absurd hq cx
    exact key l none h
theorem hdsC_bound {l : List S47} (h : hdsC l = 0) : ∀ x ∈ l, ∀ p ∈ x.f1, 0 ≤ p.f1 ∧ p.f1 ≤ 1048576 ∧ 0 ≤ p.f2 ∧ p.f2 ≤ 1048576 := by
  have hl := hdsC_len h
  unfold hdsC at h
  rw [if_neg (by omega)] at h
  clear hl
  induction l with
  | nil => intro x hx; cases hx
  | cons y r ih =>
    intro x hx
    rw [hdC] at h
    by_cases c : posC y.f1 = 0
    · rw [if_pos c] at h
      rcases List.mem_cons.mp hx with rfl | hx
      · exact posC_bound c
      · exact ih h x hx
    · rw [if_neg c] at h
      exact absurd h c
theorem sd_short {l : List S47} (h : hdsC l = 0) (s : S25) : ∀ x ∈ l, 0 ≤ sdV (fun _ y => y) s x ∧ sdV (fun _ y => y) s x ≤ 1048576 := by
  intro x hx
  have := fd_bound s x.f1 (hdsC_bound h x hx)
  exact ⟨this.2.2.1, this.2.2.2⟩
theorem sumW_eq (t : List S49) : ∀ (a : Int), 0 ≤ a → (∀ y ∈ t.map (·.f1), 0 < y ∧ y ≤ 1048576) → a + 1048576 * t.length ≤ 9223372036854775807 → t.foldl (fun a x => wrap64 (a + x.f1)) a = a + (t.map (·.f1)).sum := by
  induction t with
  | nil => intro a _ _ _; simp
  | cons x r ih =>
    intro a h0 h1 h2
    have hx := h1 x.f1 (by simp)
    rw [List.length_cons, Int.natCast_add] at h2
    rw [List.foldl_cons, wrap_small (by omega) (by omega), ih (a + x.f1) (by omega) (fun y hy => h1 y (by rw [List.map_cons]; exact List.mem_cons_of_mem _ hy)) (by omega), List.map_cons, List.sum_cons]
    omega
theorem spV_length (a : Int) (l : List Int) (h : (spV a l).2 = 0) : (spV a l).1.length = l.length := by
  unfold spV at h ⊢
  by_cases c0 : 0 ≤ a ∧ a ≤ 1152921504606846976
  case neg => rw [if_neg c0] at h; cases h
  rw [if_pos c0] at h ⊢
  by_cases c1 : l.length ≤ 1024
  case neg => rw [if_neg c1] at h; cases h
  rw [if_pos c1] at h ⊢
  cases hw : wgt 0 l with
  | none => rw [hw] at h; cases h
  | some s =>
    rw [hw] at h
    simp only at h ⊢
    by_cases hs : s = 0
    · rw [if_pos hs] at h; cases h
    · rw [if_neg hs]
      simp [spG_length, spE]
theorem asV_ev (s : S25) (l : List S47) (n : Int) : Ev (fun k => expiry_Assign.f k l s.f0 s.f1 s.f2 s.f3 n) (asV s l n) := by
  simp only [expiry_Assign.f, elots_some, Option.bind_some, decide_eq_true_eq]
  refine Ev.bind (hdsC_ev l) ?_
  unfold asV
  refine Ev.both (fun h0 => ?_) (fun _ => Ev.val _)
  refine Ev.both (fun h1 => ?_) (fun _ => Ev.val _)
  have hl := hdsC_len h0
  refine Ev.pos (by omega) ?_
  rw [sides_some]
  simp only [Option.bind_some]
  rw [asum]
  obtain ⟨b1, b2, b3, b4⟩ := sdL_bound (fun _ x => x) s 1048576 l (fun x hx => (sd_short h0 s x hx).2) (by decide)
  rw [sumW_eq _ 0 (Int.le_refl _) b2 (by omega), Int.zero_add]
  refine Ev.both (fun _ => Ev.val _) (fun _ => Ev.both (fun _ => Ev.val _) (fun _ => ?_))
  refine Ev.bind (spV_ev n _) ?_
  refine Ev.both (fun h5 => ?_) (fun _ => Ev.val _)
  rw [aout _ _ 0 [] (by rw [spV_length _ _ h5]; simp)]
  simp only [Option.bind_some, List.nil_append, List.drop_zero]
  exact Ev.val _
/-- Among all, those without lots too. -/
def full (a s : Int) (l : List S47) (ks : List Int) : List (S44 × Bool × (Int × Int)) := (l.zip ks).map fun x => (x.1.f0, decide (0 < x.2), (a * x.2 / s, a * x.2 % s))
def shorts (s : S25) (l : List S47) : List Int := l.map (sdV (fun _ y => y) s)
theorem shorts_sdL (s : S25) (l : List S47) (a t : Int) (h : ∀ x ∈ l, 0 ≤ sdV (fun _ y => y) s x) :
    ((full a t l (shorts s l)).filter (·.2.1)).map (·.2.2) = spE a t ((sdL (fun _ y => y) s l).map (·.f1)) ∧ ((full a t l (shorts s l)).filter (·.2.1)).map (·.1) = (sdL (fun _ y => y) s l).map (·.f0) ∧
    (full a t l (shorts s l)).map (·.2.2) = spE a t (shorts s l) ∧ (full a t l (shorts s l)).map (·.1) = l.map (·.f0) ∧ Idle (full a t l (shorts s l)) ∧ (shorts s l).sum = ((sdL (fun _ y => y) s l).map (·.f1)).sum := by
  induction l with
  | nil => exact ⟨rfl, rfl, rfl, rfl, fun x hx => (by cases hx), rfl⟩
  | cons x r ih =>
    obtain ⟨h1, h2, h3, h4, h5, h6⟩ := ih (fun y hy => h y (List.mem_cons_of_mem _ hy))
    have hx := h x List.mem_cons_self
    have e : full a t (x :: r) (shorts s (x :: r)) = (x.f0, decide (0 < sdV (fun _ y => y) s x), (a * sdV (fun _ y => y) s x / t, a * sdV (fun _ y => y) s x % t)) :: full a t r (shorts s r) := rfl
    have e2 : shorts s (x :: r) = sdV (fun _ y => y) s x :: shorts s r := rfl
    have e3 : sdL (fun _ y => y) s (x :: r) = if 0 < sdV (fun _ y => y) s x then ⟨x.f0, sdV (fun _ y => y) s x⟩ :: sdL (fun _ y => y) s r else sdL (fun _ y => y) s r := rfl
    rw [e, e3]
    refine ⟨?_, ?_, ?_, ?_, ?_, ?_⟩
    · rw [List.filter_cons]
      by_cases c : 0 < sdV (fun _ y => y) s x
      · rw [if_pos (decide_eq_true c), if_pos c, List.map_cons, h1]; rfl
      · rw [if_neg (by simpa using c), if_neg c, h1]
    · rw [List.filter_cons]
      by_cases c : 0 < sdV (fun _ y => y) s x
      · rw [if_pos (decide_eq_true c), if_pos c, List.map_cons, h2]; rfl
      · rw [if_neg (by simpa using c), if_neg c, h2]
    · rw [List.map_cons, h3, e2]; rfl
    · rw [List.map_cons, h4]; rfl
    · intro y hy hf
      rcases List.mem_cons.mp hy with rfl | hy
      · have c : ¬ 0 < sdV (fun _ y => y) s x := by simpa using hf
        have : sdV (fun _ y => y) s x = 0 := by omega
        show (a * sdV (fun _ y => y) s x / t, a * sdV (fun _ y => y) s x % t) = (0, 0)
        rw [this, Int.mul_zero, Int.zero_ediv, Int.zero_emod]
      · exact h5 y hy hf
    · rw [e2, List.sum_cons, h6]
      by_cases c : 0 < sdV (fun _ y => y) s x
      · rw [if_pos c, List.map_cons, List.sum_cons]
      · rw [if_neg c]; omega
theorem wgt_of (l : List Int) : ∀ a, 0 ≤ a → (∀ w ∈ l, 0 ≤ w) → a + l.sum ≤ 1152921504606846976 → wgt a l = some (a + l.sum) := by
  induction l with
  | nil => intro a _ _ _; simp [wgt]
  | cons x r ih =>
    intro a h0 h1 h2
    rw [List.sum_cons] at h2
    have hx := h1 x List.mem_cons_self
    have hr : 0 ≤ r.sum := sum_le (t := 0) (fun w hw => h1 w (List.mem_cons_of_mem _ hw))
    rw [wgt, if_pos ⟨hx, by omega⟩, ih (a + x) (by omega) (fun w hw => h1 w (List.mem_cons_of_mem _ hw)) (by omega), List.sum_cons, Int.add_assoc]
theorem spV_val (a s : Int) (l : List Int) (ha : 0 ≤ a ∧ a ≤ 1152921504606846976) (hl : l.length ≤ 1024) (hw : ∀ w ∈ l, 0 ≤ w) (hs : l.sum = s) (hs1 : 1 ≤ s ∧ s ≤ 1152921504606846976) : spV a l = ((spG (lft a (spE a s l)).toNat (spE a s l)).map (·.1), 0) := by
  unfold spV
  rw [if_pos ha, if_pos hl, wgt_of l 0 (Int.le_refl _) hw (by omega), Int.zero_add, hs]
  simp only
  rw [if_neg (by omega)]
theorem outL_idle (l : List (S44 × Bool × (Int × Int))) (h : Idle l) : outL (l.map (·.1)) (l.map (·.2.2.1)) = outL ((l.filter (·.2.1)).map (·.1)) ((l.filter (·.2.1)).map (·.2.2.1)) := by
  induction l with
  | nil => rfl
  | cons x r ih =>
    have hx := h x List.mem_cons_self
    have hr := ih (fun y hy => h y (List.mem_cons_of_mem _ hy))
    rw [List.map_cons, List.map_cons, outL, List.filter_cons]
    cases hb : x.2.1 with
    | true => rw [if_pos rfl, List.map_cons, List.map_cons, outL, hr]
    | false =>
      have e0 : ¬ 0 < x.2.2.1 := by rw [hx hb]; decide
      rw [if_neg e0, if_neg (by decide), hr]
/-- Parted among all or among those who have some: the same. -/
theorem as_full (s : S25) (l : List S47) (n : Int) (hl : l.length ≤ 1024) (h : ∀ x ∈ l, 0 ≤ sdV (fun _ y => y) s x ∧ sdV (fun _ y => y) s x ≤ 1048576) (hn : 1 ≤ n ∧ n ≤ 1048576) (hs : n ≤ (shorts s l).sum) :
    (spV n (shorts s l)).2 = 0 ∧ (spV n ((sdL (fun _ y => y) s l).map (·.f1))).2 = 0 ∧ (spV n (shorts s l)).1.length = l.length ∧ outL (l.map (·.f0)) (spV n (shorts s l)).1 = outL ((sdL (fun _ y => y) s l).map (·.f0)) (spV n ((sdL (fun _ y => y) s l).map (·.f1))).1 := by
  obtain ⟨b1, b2, b3, b4⟩ := sdL_bound (fun _ x => x) s 1048576 l (fun x hx => (h x hx).2) (by decide)
  obtain ⟨h1, h2, h3, h4, h5, h6⟩ := shorts_sdL s l n (shorts s l).sum (fun x hx => (h x hx).1)
  have hS : 1 ≤ (shorts s l).sum ∧ (shorts s l).sum ≤ 1152921504606846976 := ⟨by omega, by omega⟩
  have hw : ∀ w ∈ shorts s l, 0 ≤ w ∧ w ≤ (shorts s l).sum := by
    obtain ⟨_, hw, _⟩ := wgt_ok (shorts s l) 0 (shorts s l).sum (by decide) (by decide) (by
      have := wgt_of (shorts s l) 0 (Int.le_refl _) (fun w hw => by
        obtain ⟨x, hx, rfl⟩ := List.mem_map.mp hw
        exact (h x hx).1) (by omega)
      rwa [Int.zero_add] at this)
    intro w hm
    have := hw w hm
    omega
  have e1 := spV_val n (shorts s l).sum (shorts s l) ⟨by omega, by omega⟩ (by simpa [shorts] using hl) (fun w hm => (hw w hm).1) rfl hS
  have e2 := spV_val n (shorts s l).sum ((sdL (fun _ y => y) s l).map (·.f1)) ⟨by omega, by omega⟩ (by rw [List.length_map]; omega) (fun w hm => Int.le_of_lt (b2 w hm).1) h6.symm hS
  obtain ⟨_, hc⟩ := lft_cnt n (shorts s l).sum (by omega) hS.1 (shorts s l) hw rfl
  have hlf : lft n (spE n (shorts s l).sum ((sdL (fun _ y => y) s l).map (·.f1))) = lft n (spE n (shorts s l).sum (shorts s l)) := by
    rw [← h1, ← h3]
    unfold lft
    congr 1
    have key : ∀ L : List (S44 × Bool × (Int × Int)), Idle L → (((L.filter (·.2.1)).map (·.2.2)).map (·.1)).sum = ((L.map (·.2.2)).map (·.1)).sum := by
      intro L hL
      induction L with
      | nil => rfl
      | cons y r ih =>
        have hy := hL y List.mem_cons_self
        have hr := ih (fun z hz => hL z (List.mem_cons_of_mem _ hz))
        rw [List.filter_cons]
        cases hb : y.2.1 with
        | true => rw [if_pos rfl, List.map_cons, List.map_cons, List.map_cons, List.map_cons, List.sum_cons, List.sum_cons, hr]
        | false =>
          rw [if_neg (by decide), hr, List.map_cons, List.map_cons, List.sum_cons, hy hb]
          simp
    exact key _ h5
  obtain ⟨L, k1, k2, k3, k4, k5⟩ := spG_idle (lft n (spE n (shorts s l).sum (shorts s l))).toNat (full n (shorts s l).sum l (shorts s l)) h5 (by rw [h3]; exact hc)
  rw [h3] at k2
  rw [h4] at k3
  rw [h1] at k4
  rw [h2] at k5
  refine ⟨by rw [e1], by rw [e2], by rw [e1]; simp [spG_length, spE, shorts], ?_⟩
  rw [e1, e2, hlf]
  simp only
  rw [← k2, ← k4, ← k3, ← k5, List.map_map, List.map_map]
  exact outL_idle L k1
theorem goes_true : contangolaw51_goes.f 200 = some true := by decide +kernel
theorem goes_ev : Ev (fun k => contangolaw51_goes.f k) true := Ev.of goes_true (fun k => contangolaw51_goes.mono k)
theorem and32 (n : Int) : Go.bits .and .i64 n 4294967295 = n % 4294967296 := by
  have h127 : (BitVec.ofInt 64 4294967295).toNat = 2 ^ 32 - 1 := by decide
  have key : (BitVec.ofInt 64 n &&& BitVec.ofInt 64 4294967295).toNat = (n % ((2 ^ 64 : Nat) : Int)).toNat % 2 ^ 32 := by
    rw [BitVec.toNat_and, BitVec.toNat_ofInt, h127, Nat.and_two_pow_sub_one_eq_mod]
  show IntKind.i64.wrap ((BitVec.ofInt 64 n &&& BitVec.ofInt 64 4294967295).toNat : Nat) = n % 4294967296
  rw [key, IntKind.wrap_i64]
  omega
/-- Is a number money? -/
def fitB (n : Int) : Bool := decide (-1152921504606846976 ≤ n ∧ n ≤ 1152921504606846976)
def sumI (l : List Int) : Int := l.foldr (· + ·) 0
/-- All together, or why that is not told. -/
def smV (l : List Int) (s : Int) : Int × Int := if l.all fitB = true then (if fitB (s + sumI l) = true then (s + sumI l, 0) else (0, 3)) else (0, 2)
theorem fits_some (n : Int) : cents_Fits.f n = some (fitB n) := by
  unfold cents_Fits.f fitB
  by_cases h : n ≥ -1152921504606846976
  · rw [if_pos h]
    congr 1
    exact decide_eq_decide.mpr ⟨fun h2 => ⟨h, h2⟩, fun h2 => h2.2⟩
  · rw [if_neg h]
    congr 1
    exact (decide_eq_false (by omega)).symm
theorem fitting_some (n : Int) : cents_fitting.f n = some (if fitB n = true then (n, 0) else (0, 3)) := by
  unfold cents_fitting.f
  rw [fits_some]
  simp only [Option.bind_some]
  split <;> rfl
theorem sumEnd (hi lo : Int) (h1 : -1152921504606846976 ≤ hi ∧ hi ≤ 1152921504606846976) (h2 : 0 ≤ lo ∧ lo ≤ 1152921504606846976) :
    (if (wrap64 (hi + (lo / 4294967296))) < (-268435456) then (some ((0 : Int), (3 : Int))) else (if (wrap64 (hi + (lo / 4294967296))) > 268435456 then (some (0, 3)) else ((cents_fitting.f (wrap64 ((wrap64 ((wrap64 (hi + (lo / 4294967296))) * 4294967296)) + (Go.bits .and .i64 lo 4294967295)))).bind fun bt => (some (bt.1, bt.2))))) = some (if fitB (hi * 4294967296 + lo) = true then (hi * 4294967296 + lo, 0) else (0, 3)) := by
  have e1 : wrap64 (hi + lo / 4294967296) = hi + lo / 4294967296 := wrap_small (by omega) (by omega)
  rw [e1, and32]
  by_cases c1 : hi + lo / 4294967296 < -268435456
  · rw [if_pos c1, if_neg]
    unfold fitB
    simp only [decide_eq_true_eq]
    omega
  · rw [if_neg c1]
    by_cases c2 : hi + lo / 4294967296 > 268435456
    · rw [if_pos c2, if_neg]
      unfold fitB
      simp only [decide_eq_true_eq]
      omega
    · rw [if_neg c2]
      have e2 : wrap64 ((hi + lo / 4294967296) * 4294967296) = (hi + lo / 4294967296) * 4294967296 := wrap_small (by omega) (by omega)
      have e3 : wrap64 ((hi + lo / 4294967296) * 4294967296 + lo % 4294967296) = hi * 4294967296 + lo := by
        rw [wrap_small (by omega) (by omega)]
        omega
      rw [e2, e3, fitting_some]
      rfl
theorem sumL (l : List Int) (hl : l.length ≤ 1000000) (n : Nat) : ∀ (i : Nat) (hi lo : Int), l.length - i = n → i ≤ l.length → -(268435456 * (i : Int)) ≤ hi → hi ≤ 268435456 * (i : Int) → 0 ≤ lo → lo ≤ 4294967296 * (i : Int) →
    Ev (fun k => cents_Sum.l0 k l hi lo (l.length : Int) (i : Int)) (smV (l.drop i) (hi * 4294967296 + lo)) := by
  induction n with
  | zero =>
    intro i hi lo hd hle h1 h2 h3 h4
    refine Ev.shift ?_
    simp only [cents_Sum.l0]
    rw [List.drop_eq_nil_of_le (by omega)]
    refine Ev.neg (by omega) ?_
    rw [sumEnd hi lo (by omega) (by omega)]
    exact Ev.valOf (by simp [smV, sumI])
  | succ n ih =>
    intro i hi lo hd hle h1 h2 h3 h4
    have hlt : i < l.length := by omega
    have hw : wrap64 ((i : Int) + 1) = ((i + 1 : Nat) : Int) := by unfold wrap64; omega
    refine Ev.shift ?_
    simp only [cents_Sum.l0, hw]
    have hr : rd l (i : Int) = l[i] := by simp [rd, List.getD_eq_getElem?_getD, hlt]
    rw [hr, List.drop_eq_getElem_cons hlt]
    refine Ev.pos (by omega) (Ev.pos (by omega) (Ev.pos (by omega) ?_))
    rw [fits_some, and32]
    simp only [Option.bind_some]
    by_cases hf : fitB l[i] = true
    · refine Ev.pos hf ?_
      have hf2 := hf
      unfold fitB at hf2
      simp only [decide_eq_true_eq] at hf2
      have e1 : wrap64 (hi + l[i] / 4294967296) = hi + l[i] / 4294967296 := wrap_small (by omega) (by omega)
      have e2 : wrap64 (lo + l[i] % 4294967296) = lo + l[i] % 4294967296 := wrap_small (by omega) (by omega)
      rw [e1, e2]
      have h := ih (i + 1) (hi + l[i] / 4294967296) (lo + l[i] % 4294967296) (by omega) (by omega) (by omega) (by omega) (by omega) (by omega)
      have e3 : smV (l[i] :: l.drop (i + 1)) (hi * 4294967296 + lo) = smV (l.drop (i + 1)) ((hi + l[i] / 4294967296) * 4294967296 + (lo + l[i] % 4294967296)) := by
        unfold smV
        rw [List.all_cons, hf, Bool.true_and]
        have e4 : hi * 4294967296 + lo + sumI (l[i] :: l.drop (i + 1)) = (hi + l[i] / 4294967296) * 4294967296 + (lo + l[i] % 4294967296) + sumI (l.drop (i + 1)) := by
          have : sumI (l[i] :: l.drop (i + 1)) = l[i] + sumI (l.drop (i + 1)) := rfl
          rw [this]
          omega
        rw [e4]
      rw [e3]
      exact h
    · have e : smV (l[i] :: l.drop (i + 1)) (hi * 4294967296 + lo) = (0, 2) := by
        unfold smV
        rw [List.all_cons, Bool.eq_false_iff.mpr hf, Bool.false_and]
        rfl
      rw [e]
      exact Ev.neg hf (Ev.val _)
/-- The sum of numbers of money, or why it is not told. -/
def sm (l : List Int) : Int × Int := smV l 0
theorem sm_ev (l : List Int) (hl : l.length ≤ 1000000) : Ev (fun k => cents_Sum.f k l) (sm l) := by
  simp only [cents_Sum.f]
  exact sumL l hl l.length 0 0 0 (by omega) (by omega) (by omega) (by omega) (by omega) (by omega)
open Go.Proofs.YtoejllkjhaeeeaaHand (put)
/-- One's position in a series. -/
def fdP (s : S25) (l : List S27) : S27 := ⟨⟨(fdV s l).1, (fdV s l).2.1, (fdV s l).2.2.1, (fdV s l).2.2.2.1⟩, (fdV s l).2.2.2.2.1, (fdV s l).2.2.2.2.2⟩
/-- What one gets. -/
def czV (p : S23) (s : S25) (u : Int) (h : S47) : Int × Int := csV p s (fdP s h.f1) u
theorem czV_val (p : S23) (s : S25) (u : Int) (h : S47) (hz : (czV p s u h).2 = 0) : (czV p s u h).1 = iv s.f1 s.f3 u * p.f2 * ((fdV s h.f1).2.2.2.2.1 - (fdV s h.f1).2.2.2.2.2) := by
  unfold czV csV at hz ⊢
  split at hz
  case isFalse c => exact absurd hz c
  case isTrue c =>
    rw [if_pos c]
    split at hz
    case isFalse => cases hz
    case isTrue c1 =>
      rw [if_pos c1]
      split at hz
      case isFalse => cases hz
      case isTrue c2 =>
        rw [if_pos c2]
        unfold vl at hz ⊢
        split at hz
        case isFalse c3 => exact absurd hz c3
        case isTrue c3 =>
          rw [if_pos c3]
          split at hz
          case isFalse => cases hz
          case isTrue c4 =>
            rw [if_pos c4]
            split at hz
            case isFalse => cases hz
            case isTrue c5 => rw [if_pos c5]; rfl
/-- All that the groups hold. -/
def gsum (m : List (ByteArray × List Int)) : Int := (m.map (fun x => x.2.sum)).sum
def gcnt (m : List (ByteArray × List Int)) : Nat := (m.map (fun x => x.2.length)).sum
theorem isum_append (a b : List Int) : (a ++ b).sum = a.sum + b.sum := by
  induction a with
  | nil => simp
  | cons x r ih => rw [List.cons_append, List.sum_cons, List.sum_cons, ih]; omega
theorem put_gsum (a : ByteArray) (y : Int) (m : List (ByteArray × List Int)) : gsum (put strQ a ((Go.Proofs.YtoejllkjhaeeeaaHand.look strQ m a).getD [] ++ [y]) m) = gsum m + y ∧ gcnt (put strQ a ((Go.Proofs.YtoejllkjhaeeeaaHand.look strQ m a).getD [] ++ [y]) m) = gcnt m + 1 := by
  induction m with
  | nil => simp [gsum, gcnt, put, Go.Proofs.YtoejllkjhaeeeaaHand.look_nil]
  | cons p r ih =>
    rw [Go.Proofs.YtoejllkjhaeeeaaHand.look_cons, put]
    by_cases h : strQ p.1 a = true
    · rw [if_pos h, if_pos h]
      simp only [gsum, gcnt, Option.getD_some, List.map_cons, List.sum_cons, isum_append, List.length_append, List.sum_nil, List.length_cons, List.length_nil]
      omega
    · rw [if_neg h, if_neg h]
      obtain ⟨i1, i2⟩ := ih
      simp only [gsum, gcnt, List.map_cons, List.sum_cons] at i1 i2 ⊢
      rw [i1, i2]
      omega
theorem put_mem {a : ByteArray} {v : List Int} {m : List (ByteArray × List Int)} : ∀ x ∈ put strQ a v m, x ∈ m ∨ x = (a, v) := by
  induction m with
  | nil => intro x hx; rw [put] at hx; exact .inr (List.mem_singleton.mp hx)
  | cons p r ih =>
    intro x hx
    rw [put] at hx
    by_cases h : strQ p.1 a = true
    · rw [if_pos h] at hx
      rcases List.mem_cons.mp hx with e | hx
      · exact .inr (by rw [e, (strQ_iff _ _).mp h])
      · exact .inl (List.mem_cons_of_mem _ hx)
    · rw [if_neg h] at hx
      rcases List.mem_cons.mp hx with e | hx
      · exact .inl (by rw [e]; exact List.mem_cons_self)
      · rcases ih x hx with h1 | h1
        · exact .inl (List.mem_cons_of_mem _ h1)
        · exact .inr h1
theorem look_cnt (a : ByteArray) (m : List (ByteArray × List Int)) : ((Go.Proofs.YtoejllkjhaeeeaaHand.look strQ m a).getD []).length ≤ gcnt m := by
  induction m with
  | nil => simp [Go.Proofs.YtoejllkjhaeeeaaHand.look_nil]
  | cons p r ih =>
    rw [Go.Proofs.YtoejllkjhaeeeaaHand.look_cons]
    simp only [gcnt, List.map_cons, List.sum_cons] at ih ⊢
    split
    · simp
    · omega
/-- The groups so far. -/
def GOk (n : Nat) (m : List (ByteArray × List Int)) : Prop := (m.map (·.1)).Nodup ∧ gcnt m ≤ n ∧ m.length ≤ n ∧ ∀ x ∈ m, x.1.size ≤ 9223372036854775807
theorem GOk_put {n : Nat} {m : List (ByteArray × List Int)} (h : GOk n m) (a : ByteArray) (ha : a.size ≤ 9223372036854775807) (y : Int) : GOk (n + 1) (put strQ a ((Go.Proofs.YtoejllkjhaeeeaaHand.look strQ m a).getD [] ++ [y]) m) := by
  obtain ⟨h1, h2, h3, h4⟩ := h
  have hk := Go.Proofs.YtoejllkjhaeeeaaHand.put_keys (q := strQ) (a := a) (m := m) ((Go.Proofs.YtoejllkjhaeeeaaHand.look strQ m a).getD [] ++ [y])
  refine ⟨?_, ?_, ?_, ?_⟩
  · rw [hk]
    cases hl : Go.Proofs.YtoejllkjhaeeeaaHand.look strQ m a with
    | some v => exact h1
    | none =>
      rw [if_neg (by decide)]
      refine List.nodup_append.mpr ⟨h1, by simp, ?_⟩
      intro b hb c hc e
      obtain ⟨x, hx, rfl⟩ := List.mem_map.mp hb
      have hn := Go.Proofs.YtoejllkjhaeeeaaHand.look_none hl x hx
      rw [List.mem_singleton.mp hc] at e
      rw [(strQ_iff _ _).mpr e] at hn
      cases hn
  · rw [(put_gsum a y m).2]; omega
  · have := congrArg List.length hk
    rw [List.length_map] at this
    rw [this]
    split <;> simp <;> omega
  · intro x hx
    rcases put_mem x hx with h5 | h5
    · exact h4 x h5
    · rw [h5]; exact ha
theorem pos_find_some (s : S25) (l : List S27) : position_Find.f l s.f0 s.f1 s.f2 s.f3 = some (fdV s l) := fd_some s l
theorem flgo_ev (p : S23) (s : S25) (u : Int) (l : List S47) (hs : ∀ h ∈ l, h.f0.f0.size ≤ 9223372036854775807) : ∀ (n : Nat) (m : List (ByteArray × List Int)), GOk n m → n + l.length ≤ 100000 →
    ∃ m' e, Ev (fun k => expiry_Flows.go k p.f0 p.f1 p.f2 p.f3 p.f4 p.f5 p.f6 s.f0 s.f1 s.f2 s.f3 u l m) (m', e) ∧ (e = 0 → GOk (n + l.length) m' ∧ (∀ h ∈ l, (czV p s u h).2 = 0) ∧ gsum m' = gsum m + (l.map (fun h => (czV p s u h).1)).sum) := by
  induction l with
  | nil =>
    intro n m hm _
    refine ⟨m, 0, ?_, fun _ => ⟨hm, fun h hh => (by cases hh), by simp⟩⟩
    simp only [expiry_Flows.go]
    exact Ev.val _
  | cons h r ih =>
    intro n m hm hn
    rw [List.length_cons] at hn
    by_cases h0 : posC h.f1 = 0
    case neg =>
      refine ⟨[], posC h.f1, ?_, fun e => absurd e h0⟩
      simp only [expiry_Flows.go]
      exact Ev.bind (posC_ev h.f1) (Ev.neg h0 (Ev.val _))
    by_cases h1 : (czV p s u h).2 = 0
    case neg =>
      refine ⟨[], (czV p s u h).2, ?_, fun e => absurd e h1⟩
      simp only [expiry_Flows.go, fd_some, Option.bind_some]
      exact Ev.bind (posC_ev h.f1) (Ev.pos h0 (Ev.bind (csV_ev p s (fdP s h.f1) u) (Ev.neg h1 (Ev.val _))))
    have hsz := hs h List.mem_cons_self
    obtain ⟨m', e, hE, hK⟩ := ih (fun x hx => hs x (List.mem_cons_of_mem _ hx)) (n + 1) _ (GOk_put hm h.f0.f0 hsz (czV p s u h).1) (by omega)
    refine ⟨m', e, ?_, fun he => ?_⟩
    · simp only [expiry_Flows.go, fd_some, Option.bind_some]
      have hc := look_cnt h.f0.f0 m
      have hm2 := hm.2.1
      exact Ev.bind (posC_ev h.f1) (Ev.pos h0 (Ev.bind (csV_ev p s (fdP s h.f1) u) (Ev.pos h1 (Ev.pos hsz (Ev.pos (by omega) hE)))))
    · obtain ⟨k1, k2, k3⟩ := hK he
      refine ⟨by rw [List.length_cons, Nat.add_comm r.length 1, ← Nat.add_assoc]; exact k1, fun x hx => ?_, ?_⟩
      · rcases List.mem_cons.mp hx with e | hx
        · rw [e]; exact h1
        · exact k2 x hx
      · rw [k3, (put_gsum _ _ _).1, List.map_cons, List.sum_cons]
        omega
theorem sm_val {l : List Int} (h : (sm l).2 = 0) : (sm l).1 = l.sum := by
  have e : sumI l = l.sum := rfl
  unfold sm smV at h ⊢
  split at h
  case isFalse => cases h
  case isTrue c =>
    rw [if_pos c]
    split at h
    case isFalse => cases h
    case isTrue c2 => rw [if_pos c2, e]; simp
theorem flout_ev (mm : List (ByteArray × List Int)) (cur : Int) (hc : ∀ s, ((Go.Proofs.YtoejllkjhaeeeaaHand.look strQ mm s).getD []).length ≤ 1000000) (L : List ByteArray) (hs : ∀ s ∈ L, s.size ≤ 9223372036854775807) : ∀ t : List S58, t.length + L.length ≤ 100000 →
    ∃ t' e, Ev (fun k => expiry_Flows.out k mm cur L t) (t', e) ∧ t'.length ≤ 100000 ∧ (e = 0 → (t'.map (·.f2)).sum = (t.map (·.f2)).sum + (L.map (fun s => ((Go.Proofs.YtoejllkjhaeeeaaHand.look strQ mm s).getD []).sum)).sum) := by
  induction L with
  | nil =>
    intro t ht
    refine ⟨t, 0, ?_, by rw [List.length_nil] at ht; omega, fun _ => by simp⟩
    simp only [expiry_Flows.out]
    exact Ev.val _
  | cons s r ih =>
    intro t ht
    rw [List.length_cons] at ht
    have hsz := hs s List.mem_cons_self
    have hr := ih (fun x hx => hs x (List.mem_cons_of_mem _ hx))
    by_cases h0 : (sm ((Go.Proofs.YtoejllkjhaeeeaaHand.look strQ mm s).getD [])).2 = 0
    case neg =>
      refine ⟨[], _, ?_, Nat.zero_le _, fun e => absurd e h0⟩
      simp only [expiry_Flows.out]
      exact Ev.pos hsz (Ev.bind (sm_ev _ (hc s)) (Ev.neg h0 (Ev.val _)))
    have hv := sm_val h0
    by_cases h1 : (sm ((Go.Proofs.YtoejllkjhaeeeaaHand.look strQ mm s).getD [])).1 = 0
    · obtain ⟨t', e, hE, hT, hK⟩ := hr t (by omega)
      refine ⟨t', e, ?_, hT, fun he => ?_⟩
      · simp only [expiry_Flows.out]
        exact Ev.pos hsz (Ev.bind (sm_ev _ (hc s)) (Ev.pos h0 (Ev.pos h1 hE)))
      · rw [hK he, List.map_cons, List.sum_cons, ← hv, h1]
        omega
    · obtain ⟨t', e, hE, hT, hK⟩ := hr (t ++ [⟨s, cur, (sm ((Go.Proofs.YtoejllkjhaeeeaaHand.look strQ mm s).getD [])).1, 3⟩]) (by rw [List.length_append, List.length_singleton]; omega)
      refine ⟨t', e, ?_, hT, fun he => ?_⟩
      · simp only [expiry_Flows.out]
        exact Ev.pos hsz (Ev.bind (sm_ev _ (hc s)) (Ev.pos h0 (Ev.neg h1 (Ev.pos (by omega) hE))))
      · rw [hK he, List.map_cons, List.sum_cons, ← hv, List.map_append, isum_append, List.map_cons, List.map_nil, List.sum_cons, List.sum_nil]
        dsimp only
        omega
theorem perm_isum {a b : List Int} (h : a.Perm b) : a.sum = b.sum := by
  induction h with
  | nil => rfl
  | cons x _ ih => rw [List.sum_cons, List.sum_cons, ih]
  | swap x y l => simp only [List.sum_cons]; omega
  | trans _ _ h1 h2 => rw [h1, h2]
theorem keys_gsum (m : List (ByteArray × List Int)) (h : (m.map (·.1)).Nodup) : ((m.map (·.1)).map (fun s => ((Go.Proofs.YtoejllkjhaeeeaaHand.look strQ m s).getD []).sum)).sum = gsum m := by
  induction m with
  | nil => rfl
  | cons p r ih =>
    rw [List.map_cons, List.nodup_cons] at h
    rw [List.map_cons, List.map_cons, List.sum_cons, Go.Proofs.YtoejllkjhaeeeaaHand.look_cons, if_pos ((strQ_iff _ _).mpr rfl), gsum, List.map_cons, List.sum_cons, ← gsum, ← ih h.2]
    congr 1
    congr 1
    refine List.map_congr_left fun s hs => ?_
    rw [Go.Proofs.YtoejllkjhaeeeaaHand.look_cons, if_neg (fun e => h.1 (by rw [(strQ_iff _ _).mp e]; exact hs))]
/-- What the program's flows come to. -/
theorem flows_sum (p : S23) (s : S25) (u : Int) (l : List S47) (hs : ∀ h ∈ l, h.f0.f0.size ≤ 9223372036854775807) :
    ∃ R, Ev (fun k => expiry_Flows.f k p.f0 p.f1 p.f2 p.f3 p.f4 p.f5 p.f6 l s.f0 s.f1 s.f2 s.f3 u) R ∧ R.1.length ≤ 100000 ∧ (R.2 = 0 → (∀ h ∈ l, (czV p s u h).2 = 0) ∧ (R.1.map (·.f2)).sum = (l.map (fun h => (czV p s u h).1)).sum) := by
  simp only [expiry_Flows.f]
  by_cases hl : l.length > 1024
  · exact ⟨_, Ev.pos hl (Ev.val _), Nat.zero_le _, fun h => by cases h⟩
  obtain ⟨m, e, hE, hK⟩ := flgo_ev p s u l hs 0 [] ⟨List.nodup_nil, Nat.le_refl _, Nat.le_refl _, fun x hx => (by cases hx)⟩ (by omega)
  by_cases he : e = 0
  case neg => exact ⟨_, Ev.neg hl (Ev.bind hE (Ev.neg he (Ev.val _))), Nat.zero_le _, fun h => absurd h he⟩
  obtain ⟨⟨k1, k2, k3, k4⟩, k5, k6⟩ := hK he
  have hp := sortS_perm (m.map (·.1))
  have hlen : (sortS (m.map (·.1))).length = m.length := by rw [hp.length_eq, List.length_map]
  obtain ⟨t, e2, hE2, hT2, hK2⟩ := flout_ev m p.f1 (fun s => by have := look_cnt s m; omega) (sortS (m.map (·.1))) (fun s hs => by
    obtain ⟨x, hx, rfl⟩ := List.mem_map.mp (hp.mem_iff.mp hs)
    exact k4 x hx) [] (by rw [List.length_nil, hlen]; omega)
  refine ⟨(t, e2), Ev.neg hl (Ev.bind hE (Ev.pos he (Ev.pos (by show m.length ≤ 1000000; omega) hE2))), hT2, fun h => ⟨k5, ?_⟩⟩
  rw [hK2 h, perm_isum (hp.map _), keys_gsum m k1, k6]
  simp [gsum]
/-- Sums that wrap. -/
def wsum (l : List Int) (a : Int) : Int := l.foldl (fun a x => wrap64 (a + x)) a
theorem w00 : wrap64 0 = 0 := by unfold wrap64; omega
theorem wsum_eq (l : List Int) : ∀ a, wrap64 a = a → wsum l a = wrap64 (a + l.sum) := by
  induction l with
  | nil => intro a h; simp only [wsum, List.foldl_nil, List.sum_nil, Int.add_zero]; exact h.symm
  | cons x r ih =>
    intro a h
    have h1 := ih (wrap64 (a + x)) (by unfold wrap64; omega)
    rw [wsum, List.foldl_cons, ← wsum, h1, List.sum_cons]
    generalize r.sum = t
    clear ih h1 h
    unfold wrap64
    omega
theorem z_l0 (p : S23) (s : S25) (u n : Int) (l : List S47) (hl : l.length ≤ 40) (hp : ∀ x ∈ l, x.f1.length ≤ 9223372036854775806) {R : Bool} (m : Nat) : ∀ (i : Nat) (a b : Int), l.length - i = m → i ≤ l.length →
    Ev (fun k => contangolaw51_ExpiryZero.l0 k l (wsum ((l.drop i).map (fun h => (fdV s h.f1).2.2.2.2.1)) a) (wsum ((l.drop i).map (fun h => (fdV s h.f1).2.2.2.2.2)) b) (l.length : Int) p.f0 p.f1 p.f2 p.f3 p.f4 p.f5 p.f6 s.f0 s.f1 s.f2 s.f3 u n) R → Ev (fun k => contangolaw51_ExpiryZero.l0 k l a b (i : Int) p.f0 p.f1 p.f2 p.f3 p.f4 p.f5 p.f6 s.f0 s.f1 s.f2 s.f3 u n) R := by
  induction m with
  | zero =>
    intro i a b hi hle h
    rw [List.drop_eq_nil_of_le (by omega)] at h
    rw [show (i : Int) = (l.length : Int) by omega]
    exact h
  | succ m ih =>
    intro i a b hi hle h
    have hlt : i < l.length := by omega
    have hw : wrap64 ((i : Int) + 1) = ((i + 1 : Nat) : Int) := by unfold wrap64; omega
    rw [List.drop_eq_getElem_cons hlt] at h
    refine Ev.shift ?_
    simp only [contangolaw51_ExpiryZero.l0, hw, rd_hd l i hlt]
    refine Ev.pos (by omega) (Ev.pos (by omega) (Ev.bind (fdr_ev s _ (hp _ (List.getElem_mem hlt))) ?_))
    exact ih (i + 1) _ _ (by omega) (by omega) h
theorem rd_fl (l : List S58) (i : Nat) (h : i < l.length) : rd_T58 l (i : Int) = l[i] := by simp [rd_T58, h]
theorem rd_pt (l : List S49) (i : Nat) (h : i < l.length) : rd_T49 l (i : Int) = l[i] := by simp [rd_T49, h]
theorem z_l1 (s : S25) (u n : Int) (l : List S47) (x7 : Int) (F : List S58) (hF : F.length ≤ 1000000) (E : List S49) {R : Bool} (m : Nat) : ∀ (i : Nat) (a : Int), F.length - i = m → i ≤ F.length →
    Ev (fun k => contangolaw51_ExpiryZero.l2 k l x7 E (wsum ((F.drop i).map (·.f2)) a) 0 0 s.f0 s.f1 s.f2 s.f3 u n) R → Ev (fun k => contangolaw51_ExpiryZero.l1 k l x7 F E a 0 (i : Int) s.f0 s.f1 s.f2 s.f3 u n) R := by
  induction m with
  | zero =>
    intro i a hi hle h
    rw [List.drop_eq_nil_of_le (by omega)] at h
    refine Ev.shift ?_
    simp only [contangolaw51_ExpiryZero.l1]
    exact Ev.neg (by omega) h
  | succ m ih =>
    intro i a hi hle h
    have hlt : i < F.length := by omega
    have hw : wrap64 ((i : Int) + 1) = ((i + 1 : Nat) : Int) := by unfold wrap64; omega
    rw [List.drop_eq_getElem_cons hlt] at h
    refine Ev.shift ?_
    simp only [contangolaw51_ExpiryZero.l1, hw, rd_fl F i hlt]
    exact Ev.pos (by omega) (Ev.pos (by omega) (ih (i + 1) _ (by omega) (by omega) h))
theorem z_l2 (s : S25) (u n : Int) (l : List S47) (x7 c : Int) (E : List S49) (hE : E.length ≤ 1000000) {R : Bool} (m : Nat) : ∀ (i : Nat) (a : Int), E.length - i = m → i ≤ E.length →
    Ev (fun k => contangolaw51_ExpiryZero.l2 k l x7 E c (wsum ((E.drop i).map (·.f1)) a) (E.length : Int) s.f0 s.f1 s.f2 s.f3 u n) R → Ev (fun k => contangolaw51_ExpiryZero.l2 k l x7 E c a (i : Int) s.f0 s.f1 s.f2 s.f3 u n) R := by
  induction m with
  | zero =>
    intro i a hi hle h
    rw [List.drop_eq_nil_of_le (by omega)] at h
    rw [show (i : Int) = (E.length : Int) by omega]
    exact h
  | succ m ih =>
    intro i a hi hle h
    have hlt : i < E.length := by omega
    have hw : wrap64 ((i : Int) + 1) = ((i + 1 : Nat) : Int) := by unfold wrap64; omega
    rw [List.drop_eq_getElem_cons hlt] at h
    refine Ev.shift ?_
    simp only [contangolaw51_ExpiryZero.l2, hw, rd_pt E i hlt]
    exact Ev.pos (by omega) (Ev.pos (by omega) (ih (i + 1) _ (by omega) (by omega) h))
/-- Those with none add nothing. -/
theorem sdL_sum (q : Int → Int → Int) (s : S25) (l : List S47) (h : ∀ x ∈ l, 0 ≤ sdV q s x) : ((sdL q s l).map (·.f1)).sum = (l.map (sdV q s)).sum := by
  induction l with
  | nil => rfl
  | cons x r ih =>
    have hx := h x List.mem_cons_self
    have hr := ih (fun y hy => h y (List.mem_cons_of_mem _ hy))
    rw [sdL, List.map_cons, List.sum_cons]
    split
    · rw [List.map_cons, List.sum_cons, hr]
    · rw [hr]
      omega
theorem nets_sum (K : Int) (a b : S47 → Int) (l : List S47) : (l.map (fun h => K * (a h - b h))).sum = K * ((l.map a).sum - (l.map b).sum) := by
  induction l with
  | nil => simp
  | cons x r ih =>
    simp only [List.map_cons, List.sum_cons, ih]
    rw [← Int.mul_add]
    congr 1
    omega
theorem sum_within (l : List Int) (h : ∀ x ∈ l, 0 ≤ x ∧ x ≤ 1048576) : 0 ≤ l.sum ∧ l.sum ≤ 1048576 * (l.length : Int) := by
  induction l with
  | nil => simp
  | cons x r ih =>
    have h1 := h x List.mem_cons_self
    have h2 := ih (fun y hy => h y (List.mem_cons_of_mem _ hy))
    rw [List.sum_cons, List.length_cons, Int.natCast_add]
    omega
theorem ExpiryZero : contangolaw51_ExpiryZero.Said := by
  intro p l x _ hok _ _ hsl _
  refine Ev.get ?_
  have hp : ∀ y ∈ l, y.f1.length ≤ 9223372036854775806 := fun y hy => by have := (hsl.2 y hy).2.1; omega
  have hn : ∀ h ∈ l, h.f0.f0.size ≤ 9223372036854775807 := fun y hy => (hok.2 y hy).1.1
  simp only [contangolaw51_ExpiryZero.f]
  by_cases hl : l.length ≤ 40
  case neg => exact Ev.pos (by omega) (Ev.bind goes_ev (Ev.val _))
  refine Ev.neg (by omega) (z_l0 p x.f0 x.f1 x.f2 l hl hp _ 0 0 0 rfl (by omega) ?_)
  rw [List.drop_zero]
  refine Ev.shift ?_
  obtain ⟨F, hF, hFl, hK⟩ := flows_sum p x.f0 x.f1 l hn
  simp only [contangolaw51_ExpiryZero.l0]
  refine Ev.neg (by omega) (Ev.bind hF (Ev.bind (exV_ev x.f0 l x.f1) ?_))
  have hj : ∀ A, Ev (fun k => contangolaw51_ExpiryZero.j1 k l A F.1 (exV x.f0 l x.f1).1 true x.f0.f0 x.f0.f1 x.f0.f2 x.f0.f3 x.f1 x.f2) true := by
    intro A
    refine Ev.shift ?_
    simp only [contangolaw51_ExpiryZero.j1]
    exact Ev.pos (by trivial) (Ev.bind goes_ev (Ev.val _))
  refine Ev.ite (fun hAB => Ev.ite (fun hF0 => ?_) (fun _ => hj _)) (fun _ => hj _)
  by_cases hE : (exV x.f0 l x.f1).2 = 0
  case neg =>
    rw [show ((exV x.f0 l x.f1).2 != 0) = true by simpa using hE]
    exact hj _
  rw [show ((exV x.f0 l x.f1).2 != 0) = false by rw [hE]; rfl]
  have c0 : hdsC l = 0 := by
    unfold exV at hE
    split at hE
    · assumption
    · exact hE
  have hb := fun y (hy : y ∈ l) => fd_bound x.f0 y.f1 (hdsC_bound c0 y hy)
  obtain ⟨a1, a2⟩ := sum_within (l.map (fun h => (fdV x.f0 h.f1).2.2.2.2.1)) (fun z hz => by
    obtain ⟨y, hy, rfl⟩ := List.mem_map.mp hz
    exact ⟨(hb y hy).1, (hb y hy).2.1⟩)
  obtain ⟨b1, b2⟩ := sum_within (l.map (fun h => (fdV x.f0 h.f1).2.2.2.2.2)) (fun z hz => by
    obtain ⟨y, hy, rfl⟩ := List.mem_map.mp hz
    exact (hb y hy).2.2)
  rw [List.length_map] at a2 b2
  rw [wsum_eq _ 0 w00, wsum_eq _ 0 w00] at hAB
  rw [wsum_eq _ 0 w00]
  obtain ⟨k1, k2⟩ := hK hF0
  have hk : (l.map (fun h => (czV p x.f0 x.f1 h).1)).sum = (l.map (fun h => iv x.f0.f1 x.f0.f3 x.f1 * p.f2 * ((fdV x.f0 h.f1).2.2.2.2.1 - (fdV x.f0 h.f1).2.2.2.2.2))).sum := by
    congr 1
    exact List.map_congr_left fun h hh => czV_val p x.f0 x.f1 h (k1 h hh)
  rw [hk, nets_sum] at k2
  have hlong : (l.map (sdV (fun a _ => a) x.f0)).sum = (l.map (fun h => (fdV x.f0 h.f1).2.2.2.2.1)).sum := rfl
  have hshort : ((sdL (fun _ y => y) x.f0 l).map (·.f1)).sum = (l.map (fun h => (fdV x.f0 h.f1).2.2.2.2.2)).sum := sdL_sum _ _ _ (fun y hy => (hb y hy).2.2.1)
  have hsl2 := sdL_sum (fun a _ => a) x.f0 l (fun y hy => (hb y hy).1)
  rw [hlong] at hsl2
  have hlen := (sdL_bound (fun a _ => a) x.f0 1048576 l (fun y hy => (hb y hy).2.1) (by decide)).1
  obtain ⟨SA, eA⟩ : ∃ SA, (l.map (fun h => (fdV x.f0 h.f1).2.2.2.2.1)).sum = SA := ⟨_, rfl⟩
  obtain ⟨SB, eB⟩ : ∃ SB, (l.map (fun h => (fdV x.f0 h.f1).2.2.2.2.2)).sum = SB := ⟨_, rfl⟩
  rw [eA] at hAB a1 a2 k2 hsl2
  rw [eB] at hAB b1 b2 k2 hshort
  rw [eA]
  have hl2 : (l.length : Int) ≤ 40 := by clear hAB hb hK; omega
  have wA : wrap64 (0 + SA) = SA := by
    clear hAB hb hK k1 k2 hk hsl2 hshort
    rw [Int.zero_add]
    exact wrap_small (by omega) (by omega)
  have wB : wrap64 (0 + SB) = SB := by
    clear hAB hb hK k1 k2 hk hsl2 hshort
    rw [Int.zero_add]
    exact wrap_small (by omega) (by omega)
  rw [wA, wB] at hAB
  rw [wA]
  subst hAB
  rw [Int.sub_self, Int.mul_zero] at k2
  have hex : (exV x.f0 l x.f1).1.length ≤ 1000000 ∧ (((exV x.f0 l x.f1).1.map (·.f1)).sum = 0 ∨ ((exV x.f0 l x.f1).1.map (·.f1)).sum = SA) := by
    unfold exV
    rw [if_pos c0]
    split
    · exact ⟨Nat.le_trans hlen (Nat.le_trans hl (by decide)), .inr hsl2⟩
    · exact ⟨Nat.zero_le _, .inl rfl⟩
  refine Ev.shift ?_
  simp only [contangolaw51_ExpiryZero.j1]
  refine Ev.neg (by decide) (z_l1 x.f0 x.f1 x.f2 l SA F.1 (by omega) _ _ 0 0 rfl (Nat.zero_le _) (z_l2 x.f0 x.f1 x.f2 l SA _ _ hex.1 _ 0 0 rfl (Nat.zero_le _) ?_))
  rw [List.drop_zero, List.drop_zero, wsum_eq _ 0 w00, wsum_eq _ 0 w00, k2]
  obtain ⟨N, eN⟩ : ∃ N, ((exV x.f0 l x.f1).1.map (·.f1)).sum = N := ⟨_, rfl⟩
  rw [eN] at hex ⊢
  obtain ⟨hx1, hN⟩ := hex
  have hN2 : 0 ≤ N ∧ N ≤ SA := by rcases hN with h | h <;> (rw [h]; exact ⟨by omega, by omega⟩)
  have wN : wrap64 (0 + N) = N := by
    clear hb k1 hK hk hsl2 hshort k2 eA eB eN
    rw [Int.zero_add]
    exact wrap_small (by omega) (by omega)
  rw [wN, show wrap64 (0 + 0) = (0 : Int) from w00]
  have has : (N ≤ 1048576 → (asV x.f0 l N).2 = 0) ∧ (N > 1048576 → (asV x.f0 l N).2 = 18) := by
    refine ⟨fun h1 => ?_, fun h1 => ?_⟩
    · unfold asV
      rw [if_pos c0, if_pos ⟨hN2.1, h1⟩, if_neg (by rw [hshort]; exact Int.not_lt.mpr hN2.2)]
      by_cases h0 : N = 0
      · rw [if_pos h0]
      · rw [if_neg h0]
        have hn1 : 1 ≤ N ∧ N ≤ 1048576 := ⟨by clear hb k1 hK hk hsl2 hshort k2 eA eB eN hN; omega, h1⟩
        have := (as_full x.f0 l N (by omega) (sd_short c0 x.f0) hn1 (by rw [show (shorts x.f0 l).sum = SA from eB]; exact hN2.2)).2.1
        rw [if_pos this]
    · unfold asV
      rw [if_pos c0, if_neg (fun h => absurd h.2 (Int.not_le.mpr h1))]
  refine Ev.shift ?_
  simp only [contangolaw51_ExpiryZero.l2]
  refine Ev.neg (by omega) (Ev.bind (asV_ev x.f0 l N) (Ev.pos trivial ?_))
  have fin : Ev (fun k => if (asV x.f0 l N).2 = 0 then ((contangolaw51_goes.f k).bind fun t => some t) else (if N > 1048576 then (if (asV x.f0 l N).2 = 18 then ((contangolaw51_goes.f k).bind fun t => some t) else some false) else some false)) true := by
    refine Ev.ite (fun _ => Ev.bind goes_ev (Ev.val _)) (fun h0 => ?_)
    by_cases h1 : N > 1048576
    · exact Ev.pos h1 (Ev.pos (has.2 h1) (Ev.bind goes_ev (Ev.val _)))
    · exact absurd (has.1 (Int.not_lt.mp h1)) h0
  by_cases h0 : N = 0
  · exact Ev.pos h0 fin
  · refine Ev.neg h0 (Ev.pos ?_ fin)
    rcases hN with h | h
    · exact absurd h h0
    · exact h
end Go.Proofs.Ytoejllkjhaeeeaa.Pure
