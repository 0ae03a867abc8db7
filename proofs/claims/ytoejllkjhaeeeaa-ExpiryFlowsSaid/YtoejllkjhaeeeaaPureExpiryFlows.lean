/- What members get at an expiry, and which positions are left on a day, is what the document says: the law, as a statement over numbers and lists. -/
import Derived.Test.YtoejllkjhaeeeaaArgExpiryFlows
namespace Go.Proofs.Ytoejllkjhaeeeaa.Pure
set_option linter.unusedSimpArgs false
set_option linter.unusedVariables false
open Go.RowKit Go.Proofs.Ytoejllkjhaeeeaa.PExpiryFlows Go.Proofs.Ytoejllkjhaeeeaa.Opens Go.Proofs.YtoejllkjhaeeeaaW.PrintWords Go.Proofs.YtoejllkjhaeeeaaW.PrintLast
/-- Comes to r, at all large numbers of rounds. -/
def Ev {α : Type} (g : Nat → Option α) (r : α) : Prop := ∃ K, ∀ k, K ≤ k → g k = some r
theorem Ev.shift {α : Type} {g : Nat → Option α} {r : α} (h : Ev (fun k => g (k + 1)) r) : Ev g r := by
  obtain ⟨K, h⟩ := h
  refine ⟨K + 1, fun k hk => ?_⟩
  obtain ⟨m, rfl⟩ : ∃ m, k = m + 1 := ⟨k - 1, by omega⟩
  exact h m (by omega)
theorem Ev.val {α : Type} (r : α) : Ev (fun _ => some r) r := ⟨0, fun _ _ => rfl⟩
theorem Ev.bind {α β : Type} {g : Nat → Option α} {f : Nat → α → Option β} {x : α} {r : β} (h : Ev g x) (h' : Ev (fun k => f k x) r) : Ev (fun k => (g k).bind (f k)) r := by
  obtain ⟨K, h⟩ := h
  obtain ⟨K', h'⟩ := h'
  exact ⟨max K K', fun k hk => by show (g k).bind (f k) = some r; rw [h k (by omega)]; exact h' k (by omega)⟩
theorem Ev.get {α : Type} {g : Nat → Option α} {r : α} (h : Ev g r) : ∃ k, g k = some r := by
  obtain ⟨K, h⟩ := h
  exact ⟨K, h K (Nat.le_refl _)⟩
theorem Ev.of {α : Type} {g : Nat → Option α} {r : α} {k0 : Nat} (h : g k0 = some r) (hm : ∀ k, LeO (g k) (g (k + 1))) : Ev g r := ⟨k0, fun _ hk => at_rounds hm hk h⟩
theorem Ev.pos {α : Type} {c : Prop} [Decidable c] {a b : Nat → Option α} {r : α} (hc : c) (h : Ev a r) : Ev (fun k => if c then a k else b k) r := by
  obtain ⟨K, h⟩ := h
  exact ⟨K, fun k hk => by show (if c then a k else b k) = some r; rw [if_pos hc]; exact h k hk⟩
theorem Ev.neg {α : Type} {c : Prop} [Decidable c] {a b : Nat → Option α} {r : α} (hc : ¬ c) (h : Ev b r) : Ev (fun k => if c then a k else b k) r := by
  obtain ⟨K, h⟩ := h
  exact ⟨K, fun k hk => by show (if c then a k else b k) = some r; rw [if_neg hc]; exact h k hk⟩
/-- Both ways, each where it is taken. -/
theorem Ev.ite {α : Type} {c : Prop} [Decidable c] {a b : Nat → Option α} {r : α} (h : c → Ev a r) (h' : ¬ c → Ev b r) : Ev (fun k => if c then a k else b k) r := by
  by_cases hc : c
  · exact Ev.pos hc (h hc)
  · exact Ev.neg hc (h' hc)
theorem wrap_small {n : Int} (h0 : -9223372036854775808 ≤ n) (h1 : n ≤ 9223372036854775807) : wrap64 n = n := by unfold wrap64; omega
/-- Both ways, each with its own end. -/
theorem Ev.both {α : Type} {c : Prop} [Decidable c] {a b : Nat → Option α} {r s : α} (h : c → Ev a r) (h' : ¬ c → Ev b s) : Ev (fun k => if c then a k else b k) (if c then r else s) := by
  by_cases hc : c
  · rw [if_pos hc]; exact Ev.pos hc (h hc)
  · rw [if_neg hc]; exact Ev.neg hc (h' hc)
theorem Ev.valOf {α : Type} {r s : α} (h : s = r) : Ev (fun _ => some r) s := by subst h; exact Ev.val _
/-- The first fault of a list, each element looked at beside the one ahead of it. -/
def scan {α : Type} (f : Option α → α → Int) : Option α → List α → Int
  | _, [] => 0
  | q, p :: r => if f q p = 0 then scan f (some p) r else f q p
/-- The element ahead of a place. -/
def prevAt {α : Type} (l : List α) (i : Nat) : Option α := if i = 0 then none else l[i - 1]?
theorem prevAt_succ {α : Type} (l : List α) (i : Nat) (h : i < l.length) : prevAt l (i + 1) = some l[i] := by
  simp [prevAt, h]
theorem prevAt_pos {α : Type} (l : List α) (i : Nat) (h0 : 0 < i) (h : i - 1 < l.length) : prevAt l i = some l[i - 1] := by
  rw [prevAt, if_neg (by omega), List.getElem?_eq_getElem h]
theorem scan_cons {α : Type} (f : Option α → α → Int) (q : Option α) (p : α) (r : List α) : scan f q (p :: r) = if f q p = 0 then scan f (some p) r else f q p := rfl
def letB (c : Int) : Bool := decide (97 ≤ c) && decide (c ≤ 122)
def digB (c : Int) : Bool := decide (48 ≤ c) && decide (c ≤ 57)
/-- From place i on, d letters or digits. -/
def restB (s : ByteArray) : Nat → Nat → Bool
  | 0, _ => true
  | d + 1, i => (letB (bt s i) || digB (bt s i)) && restB s d (i + 1)
/-- Is a text a name? -/
def nameB (s : ByteArray) : Bool := decide (0 < s.size) && decide (s.size ≤ 12) && letB (bt s 0) && restB s s.size 0
theorem letter_some (c : Int) : words_letter.f c = some (letB c) := by
  unfold words_letter.f letB
  split <;> rename_i h <;> simp [h]
theorem digit_some (c : Int) : words_digit.f c = some (digB c) := by
  unfold words_digit.f digB
  split <;> rename_i h <;> simp [h]
theorem toList_nil (s : ByteArray) : s.toList = [] ↔ s.size = 0 := by
  rw [ByteArray.toList_eq]
  constructor
  · intro h
    have := congrArg List.length h
    simpa using this
  · intro h
    apply List.eq_nil_of_length_eq_zero
    simpa using h
theorem words_Name_loop (s : ByteArray) (hs : s.size ≤ 12) (d : Nat) : ∀ (k i : Nat), s.size - i = d → i ≤ s.size → d < k → words_Name.l0 k s (s.size : Int) i = some (restB s d i) := by
  induction d with
  | zero =>
    intro k i hd hi hk
    obtain ⟨k, rfl⟩ : ∃ m, k = m + 1 := ⟨k - 1, by omega⟩
    simp only [words_Name.l0]
    rw [if_neg (by omega)]
    rfl
  | succ d ih =>
    intro k i hd hi hk
    obtain ⟨k, rfl⟩ : ∃ m, k = m + 1 := ⟨k - 1, by omega⟩
    have hw : wrap64 ((i : Int) + 1) = ((i + 1 : Nat) : Int) := by unfold wrap64; omega
    simp only [words_Name.l0]
    rw [if_pos (by omega), if_pos (by omega), if_pos (by omega), letter_some, digit_some, hw, ih k (i + 1) (by omega) (by omega) (by omega)]
    simp only [Option.bind_some, restB]
    cases letB (bt s i) <;> cases digB (bt s i) <;> simp
theorem words_Name_some (s : ByteArray) : words_Name.f 20 s = some (nameB s) := by
  unfold words_Name.f nameB
  by_cases h0 : s.size = 0
  · rw [if_pos ((toList_nil s).mpr h0)]
    simp [words_Name.j0, h0]
  · rw [if_neg (fun h => h0 ((toList_nil s).mp h))]
    by_cases h1 : (s.size : Int) > 12
    · rw [if_pos h1]
      have : ¬ s.size ≤ 12 := by omega
      simp [words_Name.j0, this]
    · rw [if_neg h1, if_pos (by omega), letter_some]
      have h2 : s.size ≤ 12 := by omega
      have h3 : 0 < s.size := by omega
      simp only [Option.bind_some, h2, h3, decide_true, Bool.true_and]
      have hl := words_Name_loop s h2 s.size 19 0 (by omega) (by omega) (by omega)
      cases letB (bt s 0)
      · simp [words_Name.j0]
      · simp only [words_Name.j0, Bool.not_true, Bool.false_eq_true, if_false]
        rw [Bool.true_and]
        exact hl
theorem refName_loop (s : ByteArray) (hs : s.size ≤ 9223372036854775806) (d : Nat) : ∀ i : Nat, 1 ≤ i → s.size - i = d → i ≤ s.size → Ev (fun k => contangoref03_Name.l0 k s i) (restB s d i && decide (0 < s.size) && decide (s.size ≤ 12)) := by
  induction d with
  | zero =>
    intro i h1 hd hi
    refine Ev.shift ?_
    simp only [contangoref03_Name.l0]
    refine Ev.neg (by omega) (Ev.pos (by omega) ?_)
    have e1 : decide ((s.size : Int) ≤ 12) = decide (s.size ≤ 12) := decide_eq_decide.mpr (by omega)
    have e2 : decide (0 < s.size) = true := decide_eq_true (by omega)
    rw [e1, e2]
    exact Ev.val _
  | succ d ih =>
    intro i h1 hd hi
    refine Ev.shift ?_
    simp only [contangoref03_Name.l0]
    have hw : wrap64 ((i : Int) + 1) = ((i + 1 : Nat) : Int) := by unfold wrap64; omega
    have h := ih (i + 1) (by omega) (by omega) (by omega)
    rw [hw]
    refine Ev.pos (by omega) (Ev.pos (by omega) ?_)
    simp only [restB, letB, digB]
    by_cases c1 : 97 ≤ bt s i
    · by_cases c2 : bt s i ≤ 122
      · simpa [c1, c2] using h
      · have c3 : ¬ bt s i < 48 := by omega
        have c4 : 57 < bt s i := by omega
        have c5 : ¬ bt s i ≤ 57 := by omega
        have c6 : ¬ (i : Int) = 0 := by omega
        simp only [c1, c2, c3, c4, c5, c6, ge_iff_le, gt_iff_lt, if_true, if_false, decide_true, decide_false, Bool.and_false, Bool.or_false, Bool.false_and]
        exact Ev.val _
    · by_cases c3 : bt s i < 48
      · have c6 : ¬ (i : Int) = 0 := by omega
        have c7 : ¬ 48 ≤ bt s i := by omega
        simp only [c1, c3, c6, c7, ge_iff_le, gt_iff_lt, if_true, if_false, decide_false, Bool.false_and, Bool.or_false]
        exact Ev.val _
      · have c6 : ¬ (i : Int) = 0 := by omega
        have c7 : 48 ≤ bt s i := by omega
        by_cases c4 : 57 < bt s i
        · have c5 : ¬ bt s i ≤ 57 := by omega
          simp only [c1, c3, c4, c5, c6, c7, ge_iff_le, gt_iff_lt, if_true, if_false, decide_true, decide_false, Bool.and_false, Bool.false_and, Bool.or_false]
          exact Ev.val _
        · have c5 : bt s i ≤ 57 := by omega
          simp only [c1, c3, c4, c5, c6, c7, ge_iff_le, gt_iff_lt, if_true, if_false, decide_true, decide_false, Bool.and_true, Bool.false_and, Bool.true_and, Bool.false_or]
          exact h
/-- What the document says of a name is what the code says. -/
theorem refName (s : ByteArray) (hs : s.size ≤ 9223372036854775806) : Ev (fun k => contangoref03_Name.f k s) (nameB s) := by
  simp only [contangoref03_Name.f]
  refine Ev.shift ?_
  simp only [contangoref03_Name.l0]
  by_cases h0 : s.size = 0
  · refine Ev.neg (by omega) (Ev.neg (by omega) ?_)
    have : nameB s = false := by simp [nameB, h0]
    rw [this]
    exact Ev.val _
  · have hw : wrap64 ((0 : Int) + 1) = ((1 : Nat) : Int) := by unfold wrap64; omega
    have h := refName_loop s hs (s.size - 1) 1 (by omega) (by omega) (by omega)
    refine Ev.pos (by omega) (Ev.pos (by omega) ?_)
    rw [hw]
    have hd : decide (0 < s.size) = true := decide_eq_true (by omega)
    obtain ⟨d, hdd⟩ : ∃ d, s.size = d + 1 := ⟨s.size - 1, by omega⟩
    have hn : nameB s = (letB (bt s 0) && (restB s (s.size - 1) 1 && decide (0 < s.size) && decide (s.size ≤ 12))) := by
      rw [hd]
      simp only [nameB, hd]
      rw [show restB s s.size 0 = ((letB (bt s 0) || digB (bt s 0)) && restB s (s.size - 1) 1) from by rw [hdd]; rfl]
      cases letB (bt s 0) <;> cases decide (s.size ≤ 12) <;> cases restB s (s.size - 1) 1 <;> simp
    rw [hn]
    simp only [letB]
    by_cases c1 : 97 ≤ bt s 0
    · by_cases c2 : bt s 0 ≤ 122
      · simp only [c1, c2, ge_iff_le, if_true, decide_true, Bool.true_and]
        exact h
      · simp only [c1, c2, ge_iff_le, if_true, if_false, decide_true, decide_false, Bool.and_false, Bool.false_and]
        exact Ev.val _
    · simp only [c1, ge_iff_le, if_true, if_false, decide_false, Bool.false_and]
      exact Ev.val _
theorem less_irrefl (a : List UInt8) : Op.bytesLess a a = false := by
  induction a with
  | nil => rfl
  | cons x r ih =>
    have h : ¬ x < x := fun h => by have := UInt8.lt_iff_toNat_lt.mp h; omega
    simp [Op.bytesLess, ih, h]
theorem less_trans (a : List UInt8) : ∀ b c : List UInt8, Op.bytesLess a b = true → Op.bytesLess b c = true → Op.bytesLess a c = true := by
  induction a with
  | nil =>
    intro b c h1 h2
    cases c with
    | nil => cases b <;> simp [Op.bytesLess] at h2
    | cons z c => rfl
  | cons x a ih =>
    intro b c h1 h2
    cases b with
    | nil => simp [Op.bytesLess] at h1
    | cons y b =>
      cases c with
      | nil => simp [Op.bytesLess] at h2
      | cons z c =>
        simp only [Op.bytesLess, Bool.or_eq_true, decide_eq_true_eq, Bool.and_eq_true, beq_iff_eq, UInt8.lt_iff_toNat_lt] at h1 h2 ⊢
        rcases h1 with h1 | ⟨rfl, h1⟩
        · rcases h2 with h2 | ⟨rfl, h2⟩
          · exact Or.inl (by omega)
          · exact Or.inl h1
        · rcases h2 with h2 | ⟨rfl, h2⟩
          · exact Or.inl h2
          · exact Or.inr ⟨rfl, ih _ _ h1 h2⟩
theorem less_flip {a b : List UInt8} (h : ¬ Op.bytesLess a b = true) (hne : b ≠ a) : Op.bytesLess b a = true := by
  have := Go.Proofs.YtoejllkjhaeeeaaHand.bytesLess_flip b a
  have h' : Op.bytesLess a b = false := by simpa using h
  rw [h', beq_eq_false_iff_ne.mpr hne] at this
  simpa using this
theorem less_ne {a b : List UInt8} (h : Op.bytesLess a b = true) : a ≠ b := by
  intro e
  subst e
  rw [less_irrefl] at h
  cases h
/-- The order of numbers, as a number. -/
def cmpI (a b : Int) : Int := if a < b then -1 else if a > b then 1 else 0
/-- The order of series, as a number. -/
def cmpS (a b : S25) : Int := if Op.bytesLess a.f0.toList b.f0.toList = true then -1 else if Op.bytesLess b.f0.toList a.f0.toList = true then 1 else if a.f2 = b.f2 then (if a.f1 = b.f1 then cmpI a.f3 b.f3 else cmpI a.f1 b.f1) else cmpI a.f2 b.f2
theorem cmp_int (a b : Int) : cmp_Compare_int.f a b = some (cmpI a b) := by
  unfold cmp_Compare_int.f cmp_isNaN_int.f cmpI
  simp only [Option.bind_some, bne_self_eq_false, Bool.false_eq_true, if_false]
  split
  · rfl
  · split <;> rfl
theorem cmp_str (a b : ByteArray) : cmp_Compare_string.f a b = some (if Op.bytesLess a.toList b.toList = true then -1 else if Op.bytesLess b.toList a.toList = true then 1 else 0) := by
  unfold cmp_Compare_string.f cmp_isNaN_string.f
  simp only [Option.bind_some, bne_self_eq_false, Bool.false_eq_true, if_false]
  split
  · rfl
  · split <;> rfl
theorem cmpI_self (a : Int) : cmpI a a = 0 := by unfold cmpI; rw [if_neg (by omega), if_neg (by omega)]
theorem cmp_ser (a b : S25) : series_Compare.f a.f0 a.f1 a.f2 a.f3 b.f0 b.f1 b.f2 b.f3 = some (cmpS a b) := by
  unfold series_Compare.f
  by_cases h : (eqD25 a.f0 b.f0 a.f1 b.f1 a.f2 b.f2 a.f3 b.f3) = true
  · rw [if_pos h]
    unfold eqD25 at h
    simp only [Bool.and_eq_true, beq_iff_eq] at h
    obtain ⟨h1, h2, h3, h4⟩ := h
    unfold cmpS
    rw [h1, h2, h3, h4, less_irrefl]
    simp [cmpI_self]
  · rw [if_neg h]
    by_cases h1 : a.f0.toList = b.f0.toList
    · rw [if_pos h1]
      unfold cmpS
      rw [h1, less_irrefl]
      simp only [cmp_int, Option.bind_some, Bool.false_eq_true, if_false]
      split
      · split <;> rfl
      · rfl
    · rw [if_neg h1, cmp_str]
      unfold cmpS
      by_cases h2 : Op.bytesLess a.f0.toList b.f0.toList = true
      · rw [if_pos h2, if_pos h2]; rfl
      · rw [if_neg h2, if_neg h2, if_pos (less_flip h2 (fun e => h1 e.symm)), if_pos (less_flip h2 (fun e => h1 e.symm))]; rfl
/-- What is amiss with a product. -/
def prC (p : S23) : Int :=
  if nameB p.f0 = true then (if 0 ≤ p.f1 ∧ p.f1 ≤ 7 then (if 1 ≤ p.f2 ∧ p.f2 ≤ 4096 then (if 1 ≤ p.f3 ∧ p.f3 ≤ 16777216 then (if -16777216 ≤ p.f4 ∧ p.f4 ≤ 16777216 ∧ -16777216 ≤ p.f5 ∧ p.f5 ≤ 16777216 ∧ p.f4 ≤ p.f5 ∧ Int.tmod p.f4 p.f3 = 0 ∧ Int.tmod p.f5 p.f3 = 0 then 0 else 17) else 16) else 2) else 25) else 10
theorem within_some (n m : Int) (h0 : 0 ≤ m) (h1 : m ≤ 1000000000) : product_within.f n m = some (decide (-m ≤ n ∧ n ≤ m)) := by
  unfold product_within.f
  have hw : wrap64 (-m) = -m := by unfold wrap64; omega
  rw [hw]
  by_cases h : n ≥ -m
  · rw [if_pos h]
    congr 1
    exact decide_eq_decide.mpr ⟨fun h2 => ⟨h, h2⟩, fun h2 => h2.2⟩
  · rw [if_neg h]
    congr 1
    exact (decide_eq_false (by omega)).symm
theorem prC_ev (p : S23) : Ev (fun k => product_Check.f k p.f0 p.f1 p.f2 p.f3 p.f4 p.f5 p.f6) (prC p) := by
  have h3 : Ev (fun k => product_Check.j3 k (if p.f3 < 1 then true else decide (p.f3 > 16777216)) p.f0 p.f1 p.f2 p.f3 p.f4 p.f5 p.f6) (if 1 ≤ p.f3 ∧ p.f3 ≤ 16777216 then (if -16777216 ≤ p.f4 ∧ p.f4 ≤ 16777216 ∧ -16777216 ≤ p.f5 ∧ p.f5 ≤ 16777216 ∧ p.f4 ≤ p.f5 ∧ Int.tmod p.f4 p.f3 = 0 ∧ Int.tmod p.f5 p.f3 = 0 then 0 else 17) else 16) := by
    refine Ev.shift ?_
    simp only [product_Check.j3, within_some _ 16777216 (by omega) (by omega), Option.bind_some, decide_eq_true_eq]
    by_cases c : 1 ≤ p.f3 ∧ p.f3 ≤ 16777216
    · rw [if_pos c, if_neg (by omega : ¬ p.f3 < 1), decide_eq_false (by omega : ¬ p.f3 > 16777216)]
      refine Ev.neg (by decide) ?_
      by_cases hG : -16777216 ≤ p.f4 ∧ p.f4 ≤ 16777216 ∧ -16777216 ≤ p.f5 ∧ p.f5 ≤ 16777216 ∧ p.f4 ≤ p.f5 ∧ Int.tmod p.f4 p.f3 = 0 ∧ Int.tmod p.f5 p.f3 = 0
      · rw [if_pos hG]
        obtain ⟨g1, g2, g3, g4, g5, g6, g7⟩ := hG
        exact Ev.pos ⟨g1, g2⟩ (Ev.pos ⟨g3, g4⟩ (Ev.neg (by omega) (Ev.neg (by omega) (Ev.pos g6 (Ev.pos g7 (Ev.val _))))))
      · rw [if_neg hG]
        refine Ev.ite (fun c1 => Ev.ite (fun c2 => Ev.ite (fun c3 => Ev.val _) (fun c3 => Ev.neg (by omega) (Ev.ite (fun c4 => Ev.neg (fun c5 => ?_) (Ev.val _)) (fun c4 => Ev.val _)))) (fun c2 => Ev.val _)) (fun c1 => Ev.val _)
        exact hG ⟨c1.1, c1.2, c2.1, c2.2, by omega, c4, c5⟩
    · rw [if_neg c]
      have e : (if p.f3 < 1 then true else decide (p.f3 > 16777216)) = true := by
        split
        · rfl
        · exact decide_eq_true (by omega)
      rw [e]
      exact Ev.pos rfl (Ev.val _)
  have h2 : Ev (fun k => product_Check.j2 k (if p.f2 < 1 then true else decide (p.f2 > 4096)) p.f0 p.f1 p.f2 p.f3 p.f4 p.f5 p.f6) (if 1 ≤ p.f2 ∧ p.f2 ≤ 4096 then (if 1 ≤ p.f3 ∧ p.f3 ≤ 16777216 then (if -16777216 ≤ p.f4 ∧ p.f4 ≤ 16777216 ∧ -16777216 ≤ p.f5 ∧ p.f5 ≤ 16777216 ∧ p.f4 ≤ p.f5 ∧ Int.tmod p.f4 p.f3 = 0 ∧ Int.tmod p.f5 p.f3 = 0 then 0 else 17) else 16) else 2) := by
    refine Ev.shift ?_
    simp only [product_Check.j2]
    by_cases c : 1 ≤ p.f2 ∧ p.f2 ≤ 4096
    · rw [if_pos c, if_neg (by omega : ¬ p.f2 < 1), decide_eq_false (by omega : ¬ p.f2 > 4096)]
      refine Ev.neg (by decide) (Ev.ite (fun h => ?_) (fun h => ?_))
      · rw [if_pos h] at h3; exact h3
      · rw [if_neg h] at h3; exact h3
    · rw [if_neg c]
      have e : (if p.f2 < 1 then true else decide (p.f2 > 4096)) = true := by
        split
        · rfl
        · exact decide_eq_true (by omega)
      rw [e]
      exact Ev.pos rfl (Ev.val _)
  have h1 : Ev (fun k => product_Check.j1 k (if p.f1 < 0 then true else decide (p.f1 ≥ 8)) p.f0 p.f1 p.f2 p.f3 p.f4 p.f5 p.f6) (if 0 ≤ p.f1 ∧ p.f1 ≤ 7 then (if 1 ≤ p.f2 ∧ p.f2 ≤ 4096 then (if 1 ≤ p.f3 ∧ p.f3 ≤ 16777216 then (if -16777216 ≤ p.f4 ∧ p.f4 ≤ 16777216 ∧ -16777216 ≤ p.f5 ∧ p.f5 ≤ 16777216 ∧ p.f4 ≤ p.f5 ∧ Int.tmod p.f4 p.f3 = 0 ∧ Int.tmod p.f5 p.f3 = 0 then 0 else 17) else 16) else 2) else 25) := by
    refine Ev.shift ?_
    simp only [product_Check.j1]
    by_cases c : 0 ≤ p.f1 ∧ p.f1 ≤ 7
    · rw [if_pos c, if_neg (by omega : ¬ p.f1 < 0), decide_eq_false (by omega : ¬ p.f1 ≥ 8)]
      refine Ev.neg (by decide) (Ev.ite (fun h => ?_) (fun h => ?_))
      · rw [if_pos h] at h2; exact h2
      · rw [if_neg h] at h2; exact h2
    · rw [if_neg c]
      have e : (if p.f1 < 0 then true else decide (p.f1 ≥ 8)) = true := by
        split
        · rfl
        · exact decide_eq_true (by omega)
      rw [e]
      exact Ev.pos rfl (Ev.val _)
  have h0 : Ev (fun k => product_Check.j0 k (!nameB p.f0) p.f0 p.f1 p.f2 p.f3 p.f4 p.f5 p.f6) (prC p) := by
    refine Ev.shift ?_
    simp only [product_Check.j0]
    unfold prC
    cases nameB p.f0 with
    | false => exact Ev.pos rfl (Ev.val _)
    | true =>
      rw [if_pos rfl]
      refine Ev.neg (by decide) (Ev.ite (fun h => ?_) (fun h => ?_))
      · rw [if_pos h] at h1; exact h1
      · rw [if_neg h] at h1; exact h1
  simp only [product_Check.f]
  refine Ev.ite (fun h => ?_) (fun _ => Ev.bind (Ev.of (words_Name_some p.f0) (fun k => words_Name.mono _ k)) h0)
  have hn : nameB p.f0 = false := by
    unfold eqD23 at h
    simp only [Bool.and_eq_true, beq_iff_eq] at h
    have hs : p.f0.size = 0 := (toList_nil p.f0).mp (h.1.trans ((toList_nil _).mpr rfl))
    simp [nameB, hs]
  rw [hn] at h0
  exact h0
theorem mul_within {a b A B : Int} (h1 : -A ≤ a) (h2 : a ≤ A) (h3 : -B ≤ b) (h4 : b ≤ B) : -(A * B) ≤ a * b ∧ a * b ≤ A * B := by
  have h : (a * b).natAbs ≤ (A * B).natAbs := by
    rw [Int.natAbs_mul, Int.natAbs_mul]
    exact Nat.mul_le_mul (by omega) (by omega)
  have hp : 0 ≤ A * B := Int.mul_nonneg (by omega) (by omega)
  omega
/-- What lots are worth at a price, and what is amiss. -/
def vl (p : S23) (pr q : Int) : Int × Int :=
  if prC p = 0 then (if -33554432 ≤ pr ∧ pr ≤ 33554432 then (if -1048576 ≤ q ∧ q ≤ 1048576 then (pr * p.f2 * q, 0) else (0, 18)) else (0, 17)) else (0, prC p)
theorem prC_zero {p : S23} (h : prC p = 0) : (0 ≤ p.f1 ∧ p.f1 ≤ 7) ∧ (1 ≤ p.f2 ∧ p.f2 ≤ 4096) := by
  unfold prC at h
  by_cases c0 : nameB p.f0 = true
  case neg => rw [if_neg c0] at h; cases h
  rw [if_pos c0] at h
  by_cases c1 : 0 ≤ p.f1 ∧ p.f1 ≤ 7
  case neg => rw [if_neg c1] at h; cases h
  rw [if_pos c1] at h
  by_cases c2 : 1 ≤ p.f2 ∧ p.f2 ≤ 4096
  case neg => rw [if_neg c2] at h; cases h
  exact ⟨c1, c2⟩
theorem vl_ev (p : S23) (pr q : Int) : Ev (fun k => product_Value.f k p.f0 p.f1 p.f2 p.f3 p.f4 p.f5 p.f6 pr q) (vl p pr q) := by
  simp only [product_Value.f, within_some _ 33554432 (by omega) (by omega), within_some _ 1048576 (by omega) (by omega), Option.bind_some, decide_eq_true_eq]
  refine Ev.bind (prC_ev p) ?_
  unfold vl
  refine Ev.both (fun h0 => Ev.both (fun h1 => Ev.both (fun h2 => ?_) (fun _ => Ev.val _)) (fun _ => Ev.val _)) (fun _ => Ev.val _)
  have hm := (prC_zero h0).2
  have b1 := mul_within (a := pr) (b := p.f2) (A := 33554432) (B := 4096) h1.1 h1.2 (by omega) (by omega)
  have b2 := mul_within (a := pr * p.f2) (b := q) (A := 137438953472) (B := 1048576) (by omega) (by omega) (by omega) (by omega)
  rw [wrap_small (n := pr * p.f2) (by omega) (by omega), wrap_small (by omega) (by omega)]
  exact Ev.val _
theorem withinr_some (n lo hi : Int) : contangoref09_within.f n lo hi = some (decide (lo ≤ n ∧ n ≤ hi)) := by
  unfold contangoref09_within.f
  by_cases h : n ≥ lo
  · rw [if_pos h]
    congr 1
    exact decide_eq_decide.mpr ⟨fun h2 => ⟨h, h2⟩, fun h2 => h2.2⟩
  · rw [if_neg h]
    congr 1
    exact (decide_eq_false (by omega)).symm
theorem prCr_ev (p : S23) (hs : p.f0.size ≤ 9223372036854775806) : Ev (fun k => contangoref09_Check.f k p.f0 p.f1 p.f2 p.f3 p.f4 p.f5 p.f6) (prC p) := by
  simp only [contangoref09_Check.f, withinr_some, Option.bind_some, decide_eq_true_eq]
  refine Ev.bind (refName p.f0 hs) ?_
  unfold prC
  refine Ev.both (fun _ => Ev.both (fun _ => Ev.both (fun _ => Ev.both (fun c => ?_) (fun _ => Ev.val _)) (fun _ => Ev.val _)) (fun _ => Ev.val _)) (fun _ => Ev.val _)
  by_cases hG : -16777216 ≤ p.f4 ∧ p.f4 ≤ 16777216 ∧ -16777216 ≤ p.f5 ∧ p.f5 ≤ 16777216 ∧ p.f4 ≤ p.f5 ∧ Int.tmod p.f4 p.f3 = 0 ∧ Int.tmod p.f5 p.f3 = 0
  · rw [if_pos hG]
    obtain ⟨g1, g2, g3, g4, g5, g6, g7⟩ := hG
    exact Ev.pos ⟨g1, g2⟩ (Ev.pos ⟨g3, g4⟩ (Ev.neg (by omega) (Ev.neg (by omega) (Ev.pos g6 (Ev.pos g7 (Ev.val _))))))
  · rw [if_neg hG]
    refine Ev.ite (fun c1 => Ev.ite (fun c2 => Ev.ite (fun c3 => Ev.val _) (fun c3 => Ev.neg (by omega) (Ev.ite (fun c4 => Ev.neg (fun c5 => ?_) (Ev.val _)) (fun c4 => Ev.val _)))) (fun c2 => Ev.val _)) (fun c1 => Ev.val _)
    exact hG ⟨c1.1, c1.2, c2.1, c2.2, by omega, c4, c5⟩
theorem vlr_ev (p : S23) (pr q : Int) (hs : p.f0.size ≤ 9223372036854775806) : Ev (fun k => contangoref09_Value.f k p.f0 p.f1 p.f2 p.f3 p.f4 p.f5 p.f6 pr q) (vl p pr q) := by
  simp only [contangoref09_Value.f, withinr_some, Option.bind_some, decide_eq_true_eq]
  refine Ev.bind (prCr_ev p hs) ?_
  unfold vl
  refine Ev.both (fun h0 => Ev.both (fun h1 => Ev.both (fun h2 => ?_) (fun _ => Ev.val _)) (fun _ => Ev.val _)) (fun _ => Ev.val _)
  have hm := (prC_zero h0).2
  have b1 := mul_within (a := pr) (b := p.f2) (A := 33554432) (B := 4096) h1.1 h1.2 (by omega) (by omega)
  have b2 := mul_within (a := pr * p.f2) (b := q) (A := 137438953472) (B := 1048576) (by omega) (by omega) (by omega) (by omega)
  rw [wrap_small (n := pr * p.f2) (by omega) (by omega), wrap_small (by omega) (by omega)]
  exact Ev.val _
def cl (a : Int) : Int := if a < -33554432 then -33554432 else if a > 33554432 then 33554432 else a
theorem cl_le (a : Int) : -33554432 ≤ cl a ∧ cl a ≤ 33554432 := by unfold cl; (repeat' split) <;> omega
theorem clamp_ev (a : Int) : Ev (fun k => cents_Clamp.f k a (-33554432) 33554432) (cl a) := by
  refine Ev.shift ?_
  simp only [cents_Clamp.f, cents_Clamp.j0]
  refine Ev.neg (by omega) ?_
  unfold cl
  simp only [decide_eq_true_eq]
  exact Ev.both (fun _ => Ev.val _) (fun _ => Ev.both (fun _ => Ev.val _) (fun _ => Ev.val _))
/-- What exercising is worth. -/
def iv (kd st un : Int) : Int := if kd = 3 then mx (cl st - cl un) 0 else if kd = 2 then mx (cl un - cl st) 0 else 0
theorem intr_ev (a : ByteArray) (b c d u : Int) : Ev (fun k => option_Intrinsic.f k a b c d u) (iv b d u) := by
  have h1 := cl_le u
  have h2 := cl_le d
  simp only [option_Intrinsic.f]
  refine Ev.bind (clamp_ev u) (Ev.bind (clamp_ev d) ?_)
  have e1 : wrap64 (cl u - cl d) = cl u - cl d := wrap_small (by omega) (by omega)
  have e2 : wrap64 (-(cl u - cl d)) = cl d - cl u := by rw [wrap_small (by omega) (by omega)]; omega
  rw [e1, e2]
  unfold iv
  exact Ev.both (fun _ => Ev.val _) (fun _ => Ev.both (fun _ => Ev.val _) (fun _ => Ev.val _))
theorem clampr_ev (a : Int) : Ev (fun k => contangoref01_Clamp.f k a (-33554432) 33554432) (cl a) := by
  refine Ev.shift ?_
  simp only [contangoref01_Clamp.f, contangoref01_Clamp.j0]
  refine Ev.neg (by omega) ?_
  unfold cl
  simp only [decide_eq_true_eq]
  exact Ev.both (fun _ => Ev.val _) (fun _ => Ev.both (fun _ => Ev.val _) (fun _ => Ev.val _))
theorem held_ev (a : Int) : Ev (fun k => contangoref21_held.f k a) (cl a) := by
  simp only [contangoref21_held.f]
  exact Ev.bind (clampr_ev a) (Ev.val _)
theorem intrr_ev (a : ByteArray) (b c d u : Int) : Ev (fun k => contangoref21_Intrinsic.f k a b c d u) (iv b d u) := by
  have h1 := cl_le u
  have h2 := cl_le d
  have e1 : wrap64 (cl u - cl d) = cl u - cl d := wrap_small (by omega) (by omega)
  have e2 : wrap64 (cl d - cl u) = cl d - cl u := wrap_small (by omega) (by omega)
  simp only [contangoref21_Intrinsic.f]
  unfold iv
  refine Ev.ite (fun hb => ?_) (fun hb => ?_)
  · refine Ev.bind (held_ev u) (Ev.bind (held_ev d) (Ev.shift ?_))
    simp only [contangoref21_Intrinsic.j0]
    rw [e1, if_neg (by omega), if_pos hb]
    exact Ev.neg (by omega) (Ev.val _)
  · refine Ev.shift ?_
    simp only [contangoref21_Intrinsic.j0]
    refine Ev.both (fun _ => Ev.bind (held_ev d) (Ev.bind (held_ev u) ?_)) (fun _ => ?_)
    · rw [e2]; exact Ev.val _
    · rw [if_neg hb]; exact Ev.val _
theorem elots_some (n : Int) : expiry_lots.f n = some (decide (0 ≤ n ∧ n ≤ 1048576)) := by
  unfold expiry_lots.f
  by_cases h : n ≥ 0
  · rw [if_pos h]
    congr 1
    exact decide_eq_decide.mpr ⟨fun h2 => ⟨h, h2⟩, fun h2 => h2.2⟩
  · rw [if_neg h]
    congr 1
    exact (decide_eq_false (by omega)).symm
/-- What is amiss with a position, beside the one ahead of it. -/
def posF (q : Option S27) (p : S27) : Int :=
  if (match q with | none => false | some q => decide (cmpS q.f0 p.f0 ≥ 0)) = true then 19 else if 0 ≤ p.f1 ∧ p.f1 ≤ 1048576 ∧ 0 ≤ p.f2 ∧ p.f2 ≤ 1048576 ∧ ¬ (p.f1 = 0 ∧ p.f2 = 0) then 0 else 18
/-- What is amiss with positions. -/
def posC (l : List S27) : Int := if l.length > 128 then 8 else scan posF none l
theorem lots_some (n : Int) : position_lots.f n = some (decide (0 ≤ n ∧ n ≤ 1048576)) := by
  unfold position_lots.f
  by_cases h : n ≥ 0
  · rw [if_pos h]
    congr 1
    exact decide_eq_decide.mpr ⟨fun h2 => ⟨h, h2⟩, fun h2 => h2.2⟩
  · rw [if_neg h]
    congr 1
    exact (decide_eq_false (by omega)).symm
theorem posJ (l : List S27) (i : Nat) (b : Bool) (p : S27) (rest : Int)
    (h : Ev (fun k => position_Check.l0 k l l (l.length : Int) (wrap64 ((i : Int) + 1))) rest) :
    Ev (fun k => position_Check.j1 k l l (l.length : Int) (i : Int) b p.f0.f0 p.f0.f1 p.f0.f2 p.f0.f3 p.f1 p.f2) (if b = true then 19 else if 0 ≤ p.f1 ∧ p.f1 ≤ 1048576 ∧ 0 ≤ p.f2 ∧ p.f2 ≤ 1048576 ∧ ¬ (p.f1 = 0 ∧ p.f2 = 0) then rest else 18) := by
  refine Ev.shift ?_
  simp only [position_Check.j1, lots_some, Option.bind_some, decide_eq_true_eq]
  refine Ev.both (fun _ => Ev.val _) (fun _ => ?_)
  by_cases h1 : 0 ≤ p.f1 ∧ p.f1 ≤ 1048576
  · refine Ev.pos h1 ?_
    by_cases h2 : 0 ≤ p.f2 ∧ p.f2 ≤ 1048576
    · refine Ev.pos h2 ?_
      by_cases h3 : p.f1 = 0
      · refine Ev.pos h3 ?_
        by_cases h4 : p.f2 = 0
        · rw [if_neg (by omega)]
          exact Ev.pos h4 (Ev.val _)
        · rw [if_pos (by omega)]
          exact Ev.neg h4 h
      · rw [if_pos (by omega)]
        exact Ev.neg h3 h
    · rw [if_neg (by omega)]
      exact Ev.neg h2 (Ev.val _)
  · rw [if_neg (by omega)]
    exact Ev.neg h1 (Ev.val _)
theorem posOne (b : Bool) (c : Prop) [Decidable c] (a : Int) : (if (if b = true then (19 : Int) else if c then 0 else 18) = 0 then a else (if b = true then 19 else if c then 0 else 18)) = (if b = true then 19 else if c then a else 18) := by
  cases b <;> by_cases hc : c <;> simp [hc]
theorem rd_pos (l : List S27) (i : Nat) (h : i < l.length) : rd_T27 l (i : Int) = l[i] := by simp [rd_T27, h]
theorem posL (l : List S27) (hl : l.length ≤ 128) (n : Nat) : ∀ i : Nat, l.length - i = n → i ≤ l.length →
    Ev (fun k => position_Check.l0 k l l (l.length : Int) (i : Int)) (scan posF (prevAt l i) (l.drop i)) := by
  induction n with
  | zero =>
    intro i hi hle
    refine Ev.shift ?_
    simp only [position_Check.l0]
    rw [List.drop_eq_nil_of_le (by omega)]
    exact Ev.neg (by omega) (Ev.val _)
  | succ n ih =>
    intro i hi hle
    have hlt : i < l.length := by omega
    have hw : wrap64 ((i : Int) + 1) = ((i + 1 : Nat) : Int) := by unfold wrap64; omega
    have ih2 := ih (i + 1) (by omega) (by omega)
    rw [prevAt_succ l i hlt] at ih2
    refine Ev.shift ?_
    simp only [position_Check.l0, rd_pos l i hlt]
    rw [List.drop_eq_getElem_cons hlt, scan_cons]
    refine Ev.pos (by omega) (Ev.pos (by omega) (Ev.pos (by omega) ?_))
    by_cases h0 : i = 0
    · subst h0
      refine Ev.neg (by omega) ?_
      have hj := posJ l 0 false l[0] (scan posF (some l[0]) (l.drop (0 + 1))) (by rw [hw]; exact ih2)
      have e : (if posF (prevAt l 0) l[0] = 0 then scan posF (some l[0]) (l.drop (0 + 1)) else posF (prevAt l 0) l[0]) = _ := posOne false _ (scan posF (some l[0]) (l.drop (0 + 1)))
      rw [e]
      exact hj
    · have hw2 : wrap64 ((i : Int) - 1) = ((i - 1 : Nat) : Int) := by unfold wrap64; omega
      simp only [hw2]
      refine Ev.pos (by omega) (Ev.pos (by omega) (Ev.pos (by omega) ?_))
      rw [rd_pos l (i - 1) (by omega), cmp_ser]
      simp only [Option.bind_some]
      have hj := posJ l i (decide (cmpS l[i - 1].f0 l[i].f0 ≥ 0)) l[i] (scan posF (some l[i]) (l.drop (i + 1))) (by rw [hw]; exact ih2)
      have e : (if posF (prevAt l i) l[i] = 0 then scan posF (some l[i]) (l.drop (i + 1)) else posF (prevAt l i) l[i]) = (if decide (cmpS l[i - 1].f0 l[i].f0 ≥ 0) = true then 19 else if 0 ≤ l[i].f1 ∧ l[i].f1 ≤ 1048576 ∧ 0 ≤ l[i].f2 ∧ l[i].f2 ≤ 1048576 ∧ ¬ (l[i].f1 = 0 ∧ l[i].f2 = 0) then scan posF (some l[i]) (l.drop (i + 1)) else 18) := by
        rw [prevAt_pos l i (by omega) (by omega)]
        exact posOne (decide (cmpS l[i - 1].f0 l[i].f0 ≥ 0)) _ (scan posF (some l[i]) (l.drop (i + 1)))
      rw [e]
      exact hj
theorem posC_ev (l : List S27) : Ev (fun k => position_Check.f k l) (posC l) := by
  simp only [position_Check.f]
  unfold posC
  by_cases h : l.length > 128
  · rw [if_pos h]
    exact Ev.pos (by omega) (Ev.val _)
  · rw [if_neg h]
    exact Ev.neg (by omega) (posL l (by omega) l.length 0 (by omega) (by omega))
theorem order_some (a b : Int) : contangoref10_order.f a b = some (cmpI a b) := by
  unfold contangoref10_order.f cmpI
  split
  · rfl
  · split <;> rfl
theorem cmpr_ser (a b : S25) : contangoref10_Compare.f a.f0 a.f1 a.f2 a.f3 b.f0 b.f1 b.f2 b.f3 = some (cmpS a b) := by
  unfold contangoref10_Compare.f cmpS
  simp only [order_some, Option.bind_some]
  split
  · rfl
  · split
    · rfl
    · split
      · split <;> rfl
      · rfl
theorem lotsr_some (n : Int) : contangoref15_lots.f n = some (decide (0 ≤ n ∧ n ≤ 1048576)) := by
  unfold contangoref15_lots.f
  by_cases h : n ≥ 0
  · rw [if_pos h]
    congr 1
    exact decide_eq_decide.mpr ⟨fun h2 => ⟨h, h2⟩, fun h2 => h2.2⟩
  · rw [if_neg h]
    congr 1
    exact (decide_eq_false (by omega)).symm
theorem posrJ (l : List S27) (i : Nat) (hi : i < l.length) (b : Bool) (rest : Int)
    (h : Ev (fun k => contangoref15_Check.l0 k l (wrap64 ((i : Int) + 1))) rest) :
    Ev (fun k => contangoref15_Check.j1 k l (i : Int) b) (if b = true then 19 else if 0 ≤ l[i].f1 ∧ l[i].f1 ≤ 1048576 ∧ 0 ≤ l[i].f2 ∧ l[i].f2 ≤ 1048576 ∧ ¬ (l[i].f1 = 0 ∧ l[i].f2 = 0) then rest else 18) := by
  refine Ev.shift ?_
  simp only [contangoref15_Check.j1, lotsr_some, Option.bind_some, decide_eq_true_eq, rd_pos l i hi]
  refine Ev.both (fun _ => Ev.val _) (fun _ => Ev.pos (by omega) (Ev.pos (by omega) ?_))
  by_cases h1 : 0 ≤ l[i].f1 ∧ l[i].f1 ≤ 1048576
  · refine Ev.pos h1 ?_
    by_cases h2 : 0 ≤ l[i].f2 ∧ l[i].f2 ≤ 1048576
    · refine Ev.pos h2 ?_
      have hw : wrap64 (l[i].f1 + l[i].f2) = l[i].f1 + l[i].f2 := wrap_small (by omega) (by omega)
      rw [hw]
      by_cases h3 : l[i].f1 + l[i].f2 = 0
      · rw [if_neg (by omega)]
        exact Ev.pos h3 (Ev.val _)
      · rw [if_pos (by omega)]
        exact Ev.neg h3 h
    · rw [if_neg (by omega)]
      exact Ev.neg h2 (Ev.val _)
  · rw [if_neg (by omega)]
    exact Ev.neg h1 (Ev.val _)
theorem posrL (l : List S27) (hl : l.length ≤ 128) (n : Nat) : ∀ i : Nat, l.length - i = n → i ≤ l.length →
    Ev (fun k => contangoref15_Check.l0 k l (i : Int)) (scan posF (prevAt l i) (l.drop i)) := by
  induction n with
  | zero =>
    intro i hi hle
    refine Ev.shift ?_
    simp only [contangoref15_Check.l0]
    rw [List.drop_eq_nil_of_le (by omega)]
    exact Ev.neg (by omega) (Ev.val _)
  | succ n ih =>
    intro i hi hle
    have hlt : i < l.length := by omega
    have hw : wrap64 ((i : Int) + 1) = ((i + 1 : Nat) : Int) := by unfold wrap64; omega
    have ih2 := ih (i + 1) (by omega) (by omega)
    rw [prevAt_succ l i hlt] at ih2
    refine Ev.shift ?_
    simp only [contangoref15_Check.l0, rd_pos l i hlt]
    rw [List.drop_eq_getElem_cons hlt, scan_cons]
    refine Ev.pos (by omega) ?_
    by_cases h0 : i = 0
    · subst h0
      refine Ev.neg (by omega) ?_
      have hj := posrJ l 0 hlt false (scan posF (some l[0]) (l.drop (0 + 1))) (by rw [hw]; exact ih2)
      have e : (if posF (prevAt l 0) l[0] = 0 then scan posF (some l[0]) (l.drop (0 + 1)) else posF (prevAt l 0) l[0]) = _ := posOne false _ (scan posF (some l[0]) (l.drop (0 + 1)))
      rw [e]
      exact hj
    · have hw2 : wrap64 ((i : Int) - 1) = ((i - 1 : Nat) : Int) := by unfold wrap64; omega
      simp only [hw2]
      refine Ev.pos (by omega) (Ev.pos (by omega) (Ev.pos (by omega) (Ev.pos (by omega) ?_)))
      rw [rd_pos l (i - 1) (by omega), cmpr_ser]
      simp only [Option.bind_some]
      have hj := posrJ l i hlt (decide (cmpS l[i - 1].f0 l[i].f0 ≥ 0)) (scan posF (some l[i]) (l.drop (i + 1))) (by rw [hw]; exact ih2)
      have e : (if posF (prevAt l i) l[i] = 0 then scan posF (some l[i]) (l.drop (i + 1)) else posF (prevAt l i) l[i]) = (if decide (cmpS l[i - 1].f0 l[i].f0 ≥ 0) = true then 19 else if 0 ≤ l[i].f1 ∧ l[i].f1 ≤ 1048576 ∧ 0 ≤ l[i].f2 ∧ l[i].f2 ≤ 1048576 ∧ ¬ (l[i].f1 = 0 ∧ l[i].f2 = 0) then scan posF (some l[i]) (l.drop (i + 1)) else 18) := by
        rw [prevAt_pos l i (by omega) (by omega)]
        exact posOne (decide (cmpS l[i - 1].f0 l[i].f0 ≥ 0)) _ (scan posF (some l[i]) (l.drop (i + 1)))
      rw [e]
      exact hj
theorem posCr_ev (l : List S27) : Ev (fun k => contangoref15_Check.f k l) (posC l) := by
  simp only [contangoref15_Check.f]
  unfold posC
  by_cases h : l.length > 128
  · rw [if_pos h]
    exact Ev.pos (by omega) (Ev.val _)
  · rw [if_neg h]
    exact Ev.neg (by omega) (posrL l (by omega) l.length 0 (by omega) (by omega))
/-- The first position of a series. -/
def fdV (s : S25) : List S27 → ByteArray × Int × Int × Int × Int × Int
  | [] => (s.f0, s.f1, s.f2, s.f3, 0, 0)
  | p :: r => if eqD25 p.f0.f0 s.f0 p.f0.f1 s.f1 p.f0.f2 s.f2 p.f0.f3 s.f3 = true then (p.f0.f0, p.f0.f1, p.f0.f2, p.f0.f3, p.f1, p.f2) else fdV s r
theorem idxOf_spec {α : Type} (q : α → Bool) (l : List α) : ∀ i : Int, 0 ≤ i → (idxOf q l i = -1 ∧ ∀ x ∈ l, q x = false) ∨ ∃ j : Nat, ∃ h : j < l.length, idxOf q l i = i + j ∧ q l[j] = true ∧ ∀ n (hn : n < j), q (l[n]'(by omega)) = false := by
  induction l with
  | nil => intro i _; exact .inl ⟨rfl, fun x h => by cases h⟩
  | cons x r ih =>
    intro i hi
    rw [idxOf]
    by_cases h : q x = true
    · rw [if_pos h]
      exact .inr ⟨0, by simp, by simp, h, fun n hn => by omega⟩
    · rw [if_neg h]
      rcases ih (i + 1) (by omega) with ⟨h1, h2⟩ | ⟨j, hj, h1, h2, h3⟩
      · refine .inl ⟨h1, fun y hy => ?_⟩
        rcases List.mem_cons.mp hy with rfl | hy
        · simpa using h
        · exact h2 y hy
      · refine .inr ⟨j + 1, by simpa using hj, by rw [h1]; omega, h2, fun n hn => ?_⟩
        cases n with
        | zero => simpa using h
        | succ n => exact h3 n (by omega)
theorem fdV_none (s : S25) (l : List S27) (h : ∀ x ∈ l, position_place.q s.f0 s.f1 s.f2 s.f3 x = false) : fdV s l = (s.f0, s.f1, s.f2, s.f3, 0, 0) := by
  induction l with
  | nil => rfl
  | cons x r ih =>
    rw [fdV, if_neg (by have := h x List.mem_cons_self; rw [position_place.q] at this; rw [this]; decide)]
    exact ih (fun y hy => h y (List.mem_cons_of_mem _ hy))
theorem fdV_at (s : S25) (l : List S27) : ∀ j, (h : j < l.length) → position_place.q s.f0 s.f1 s.f2 s.f3 l[j] = true → (∀ n (hn : n < j), position_place.q s.f0 s.f1 s.f2 s.f3 (l[n]'(by omega)) = false) → fdV s l = (l[j].f0.f0, l[j].f0.f1, l[j].f0.f2, l[j].f0.f3, l[j].f1, l[j].f2) := by
  induction l with
  | nil => intro j h; cases h
  | cons x r ih =>
    intro j h hq hn
    cases j with
    | zero =>
      have hq2 : eqD25 x.f0.f0 s.f0 x.f0.f1 s.f1 x.f0.f2 s.f2 x.f0.f3 s.f3 = true := hq
      rw [fdV, if_pos hq2]
      rfl
    | succ j =>
      rw [fdV, if_neg (by have := hn 0 (by omega); simp only [List.getElem_cons_zero, position_place.q] at this; rw [this]; decide)]
      exact ih j (by simpa using h) hq (fun n hn2 => hn (n + 1) (by omega))
theorem fd_some (s : S25) (l : List S27) : position_Find.f l s.f0 s.f1 s.f2 s.f3 = some (fdV s l) := by
  simp only [position_Find.f, position_place.f, Option.bind_some]
  rcases idxOf_spec (position_place.q s.f0 s.f1 s.f2 s.f3) l 0 (Int.le_refl _) with ⟨h1, h2⟩ | ⟨j, hj, h1, h2, h3⟩
  · rw [h1, if_neg (by decide), fdV_none s l h2]
  · rw [h1, fdV_at s l j hj h2 h3, Int.zero_add, if_pos (by omega), if_pos (by omega), if_pos (by omega)]
    simp [rd_T27, hj]
theorem fdr_loop (s : S25) (l : List S27) (hl : l.length ≤ 9223372036854775806) (n : Nat) : ∀ i : Nat, l.length - i = n → i ≤ l.length → Ev (fun k => contangoref15_Find.l0 k l (i : Int) s.f0 s.f1 s.f2 s.f3) (fdV s (l.drop i)) := by
  induction n with
  | zero =>
    intro i hi hle
    refine Ev.shift ?_
    simp only [contangoref15_Find.l0]
    rw [List.drop_eq_nil_of_le (by omega)]
    exact Ev.neg (by omega) (Ev.val _)
  | succ n ih =>
    intro i hi hle
    have hlt : i < l.length := by omega
    have hw : wrap64 ((i : Int) + 1) = ((i + 1 : Nat) : Int) := by unfold wrap64; omega
    have hr : rd_T27 l (i : Int) = l[i] := by simp [rd_T27, hlt]
    refine Ev.shift ?_
    simp only [contangoref15_Find.l0, hr, hw]
    rw [List.drop_eq_getElem_cons hlt, fdV]
    exact Ev.pos (by omega) (Ev.pos (by omega) (Ev.both (fun _ => Ev.val _) (fun _ => ih (i + 1) (by omega) (by omega))))
theorem fdr_ev (s : S25) (l : List S27) (hl : l.length ≤ 9223372036854775806) : Ev (fun k => contangoref15_Find.f k l s.f0 s.f1 s.f2 s.f3) (fdV s l) := by
  simp only [contangoref15_Find.f]
  exact fdr_loop s l hl _ 0 rfl (by omega)
/-- What is amiss with a price. -/
def prP (p : S23) (u : Int) : Int := if prC p = 0 then (if p.f4 ≤ u ∧ u ≤ p.f5 then (if Int.tmod u p.f3 = 0 then 0 else 16) else 17) else prC p
theorem prC_tick {p : S23} (h : prC p = 0) : 1 ≤ p.f3 := by
  unfold prC at h
  by_cases c0 : nameB p.f0 = true
  case neg => rw [if_neg c0] at h; cases h
  rw [if_pos c0] at h
  by_cases c1 : 0 ≤ p.f1 ∧ p.f1 ≤ 7
  case neg => rw [if_neg c1] at h; cases h
  rw [if_pos c1] at h
  by_cases c2 : 1 ≤ p.f2 ∧ p.f2 ≤ 4096
  case neg => rw [if_neg c2] at h; cases h
  rw [if_pos c2] at h
  by_cases c3 : 1 ≤ p.f3 ∧ p.f3 ≤ 16777216
  case neg => rw [if_neg c3] at h; cases h
  exact c3.1
theorem prP_ev (p : S23) (u : Int) : Ev (fun k => product_Price.f k p.f0 p.f1 p.f2 p.f3 p.f4 p.f5 p.f6 u) (prP p u) := by
  simp only [product_Price.f]
  refine Ev.bind (prC_ev p) ?_
  unfold prP
  refine Ev.both (fun h0 => ?_) (fun _ => Ev.val _)
  have ht := prC_tick h0
  by_cases h1 : u < p.f4
  · rw [if_neg (by omega : ¬ (p.f4 ≤ u ∧ u ≤ p.f5))]
    refine Ev.pos h1 (Ev.shift ?_)
    simp only [product_Price.j0]
    exact Ev.pos (by trivial) (Ev.val _)
  · refine Ev.neg h1 (Ev.shift ?_)
    simp only [product_Price.j0, decide_eq_true_eq]
    by_cases h2 : u > p.f5
    · rw [if_neg (by omega : ¬ (p.f4 ≤ u ∧ u ≤ p.f5))]
      exact Ev.pos h2 (Ev.val _)
    · rw [if_pos (by omega : p.f4 ≤ u ∧ u ≤ p.f5)]
      exact Ev.neg h2 (Ev.neg (by omega) (Ev.both (fun _ => Ev.val _) (fun _ => Ev.val _)))
/-- What an account gets. -/
def csV (p : S23) (s : S25) (l : S27) (u : Int) : Int × Int :=
  if prP p u = 0 then (if eqD25 l.f0.f0 s.f0 l.f0.f1 s.f1 l.f0.f2 s.f2 l.f0.f3 s.f3 = true ∧ (s.f0.toList != p.f0.toList) = false then (if 0 ≤ l.f1 ∧ l.f1 ≤ 1048576 ∧ 0 ≤ l.f2 ∧ l.f2 ≤ 1048576 then vl p (iv s.f1 s.f3 u) (l.f1 - l.f2) else (0, 18)) else (0, 19)) else (0, prP p u)
theorem csV_ev (p : S23) (s : S25) (l : S27) (u : Int) : Ev (fun k => expiry_Cash.f k p.f0 p.f1 p.f2 p.f3 p.f4 p.f5 p.f6 s.f0 s.f1 s.f2 s.f3 l.f0.f0 l.f0.f1 l.f0.f2 l.f0.f3 l.f1 l.f2 u) (csV p s l u) := by
  simp only [expiry_Cash.f]
  refine Ev.bind (prP_ev p u) ?_
  unfold csV
  refine Ev.both (fun h0 => ?_) (fun _ => Ev.val _)
  have hj : ∀ b : Bool, Ev (fun k => expiry_Cash.j0 k u b p.f0 p.f1 p.f2 p.f3 p.f4 p.f5 p.f6 s.f0 s.f1 s.f2 s.f3 l.f0.f0 l.f0.f1 l.f0.f2 l.f0.f3 l.f1 l.f2) (if b = false then (if 0 ≤ l.f1 ∧ l.f1 ≤ 1048576 ∧ 0 ≤ l.f2 ∧ l.f2 ≤ 1048576 then vl p (iv s.f1 s.f3 u) (l.f1 - l.f2) else (0, 18)) else (0, 19)) := by
    intro b
    refine Ev.shift ?_
    simp only [expiry_Cash.j0]
    cases b with
    | true => exact Ev.pos (by trivial) (Ev.val _)
    | false =>
      rw [if_pos rfl]
      refine Ev.neg (by decide) ?_
      simp only [elots_some, Option.bind_some, decide_eq_true_eq]
      have hb : Ev (fun k => expiry_Cash.j1 k u true p.f0 p.f1 p.f2 p.f3 p.f4 p.f5 p.f6 s.f0 s.f1 s.f2 s.f3 l.f0.f0 l.f0.f1 l.f0.f2 l.f0.f3 l.f1 l.f2) (0, 18) := by
        refine Ev.shift ?_
        simp only [expiry_Cash.j1]
        exact Ev.pos (by trivial) (Ev.val _)
      by_cases c1 : 0 ≤ l.f1 ∧ l.f1 ≤ 1048576
      · refine Ev.pos c1 ?_
        by_cases c2 : 0 ≤ l.f2 ∧ l.f2 ≤ 1048576
        · rw [if_pos (by omega), decide_eq_true c2]
          refine Ev.shift ?_
          simp only [expiry_Cash.j1, position_Net.f, Option.bind_some]
          refine Ev.neg (by decide) (Ev.bind (intr_ev _ _ _ _ _) ?_)
          rw [wrap_small (n := l.f1 - l.f2) (by omega) (by omega)]
          exact Ev.bind (vl_ev p _ _) (Ev.val _)
        · rw [if_neg (by omega), decide_eq_false c2]
          exact hb
      · rw [if_neg (by omega)]
        exact Ev.neg c1 hb
  by_cases he : eqD25 l.f0.f0 s.f0 l.f0.f1 s.f1 l.f0.f2 s.f2 l.f0.f3 s.f3 = true
  · refine Ev.pos he ?_
    have := hj (s.f0.toList != p.f0.toList)
    by_cases hb : (s.f0.toList != p.f0.toList) = false
    · rw [if_pos hb] at this
      rw [if_pos ⟨he, hb⟩]
      exact this
    · rw [if_neg hb] at this
      rw [if_neg (fun h => hb h.2)]
      exact this
  · refine Ev.neg he ?_
    rw [if_neg (fun h => he h.1)]
    exact hj true
theorem prPr_ev (p : S23) (u : Int) (hs : p.f0.size ≤ 9223372036854775806) : Ev (fun k => contangoref09_Price.f k p.f0 p.f1 p.f2 p.f3 p.f4 p.f5 p.f6 u) (prP p u) := by
  simp only [contangoref09_Price.f, withinr_some, Option.bind_some, decide_eq_true_eq]
  refine Ev.bind (prCr_ev p hs) ?_
  unfold prP
  refine Ev.both (fun h0 => ?_) (fun _ => Ev.val _)
  have ht := prC_tick h0
  exact Ev.both (fun _ => Ev.neg (by omega) (Ev.both (fun _ => Ev.val _) (fun _ => Ev.val _))) (fun _ => Ev.val _)
theorem csVr_ev (p : S23) (s : S25) (l : S27) (u : Int) (hs : p.f0.size ≤ 9223372036854775806) : Ev (fun k => contangoref51_Cash.f k p.f0 p.f1 p.f2 p.f3 p.f4 p.f5 p.f6 s.f0 s.f1 s.f2 s.f3 l.f0.f0 l.f0.f1 l.f0.f2 l.f0.f3 l.f1 l.f2 u) (csV p s l u) := by
  simp only [contangoref51_Cash.f]
  refine Ev.bind (prPr_ev p u hs) ?_
  unfold csV
  refine Ev.both (fun h0 => ?_) (fun _ => Ev.val _)
  have hj : ∀ b : Bool, Ev (fun k => contangoref51_Cash.j0 k u b p.f0 p.f1 p.f2 p.f3 p.f4 p.f5 p.f6 s.f0 s.f1 s.f2 s.f3 l.f0.f0 l.f0.f1 l.f0.f2 l.f0.f3 l.f1 l.f2) (if b = false then (if 0 ≤ l.f1 ∧ l.f1 ≤ 1048576 ∧ 0 ≤ l.f2 ∧ l.f2 ≤ 1048576 then vl p (iv s.f1 s.f3 u) (l.f1 - l.f2) else (0, 18)) else (0, 19)) := by
    intro b
    refine Ev.shift ?_
    simp only [contangoref51_Cash.j0]
    cases b with
    | true => exact Ev.pos (by trivial) (Ev.val _)
    | false =>
      rw [if_pos rfl]
      refine Ev.neg (by decide) ?_
      have hb : Ev (fun k => contangoref51_Cash.j1 k u true p.f0 p.f1 p.f2 p.f3 p.f4 p.f5 p.f6 s.f0 s.f1 s.f2 s.f3 l.f0.f0 l.f0.f1 l.f0.f2 l.f0.f3 l.f1 l.f2) (0, 18) := by
        refine Ev.shift ?_
        simp only [contangoref51_Cash.j1]
        exact Ev.pos (by trivial) (Ev.val _)
      by_cases c1 : 0 ≤ l.f1 ∧ l.f1 ≤ 1048576 ∧ 0 ≤ l.f2
      · refine Ev.neg (by omega) (Ev.neg (by omega) (Ev.neg (by omega) ?_))
        by_cases c2 : l.f2 > 1048576
        · rw [if_neg (by omega), decide_eq_true c2]
          exact hb
        · rw [if_pos (by omega), decide_eq_false c2]
          refine Ev.shift ?_
          simp only [contangoref51_Cash.j1]
          refine Ev.neg (by decide) (Ev.bind (intrr_ev _ _ _ _ _) ?_)
          rw [wrap_small (n := l.f1 - l.f2) (by omega) (by omega)]
          exact Ev.bind (vlr_ev p _ _ hs) (Ev.val _)
      · rw [if_neg (by omega)]
        exact Ev.ite (fun _ => hb) (fun _ => Ev.ite (fun _ => hb) (fun _ => Ev.ite (fun _ => hb) (fun _ => by omega)))
  by_cases he : eqD25 l.f0.f0 s.f0 l.f0.f1 s.f1 l.f0.f2 s.f2 l.f0.f3 s.f3 = true
  · refine Ev.pos he ?_
    have := hj (s.f0.toList != p.f0.toList)
    by_cases hb : (s.f0.toList != p.f0.toList) = false
    · rw [if_pos hb] at this
      rw [if_pos ⟨he, hb⟩]
      exact this
    · rw [if_neg hb] at this
      rw [if_neg (fun h => hb h.2)]
      exact this
  · refine Ev.neg he ?_
    rw [if_neg (fun h => he h.1)]
    exact hj true
theorem and32 (n : Int) : Go.bits .and .i64 n 4294967295 = n % 4294967296 := by
  have h127 : (BitVec.ofInt 64 4294967295).toNat = 2 ^ 32 - 1 := by decide
  have key : (BitVec.ofInt 64 n &&& BitVec.ofInt 64 4294967295).toNat = (n % ((2 ^ 64 : Nat) : Int)).toNat % 2 ^ 32 := by
    rw [BitVec.toNat_and, BitVec.toNat_ofInt, h127, Nat.and_two_pow_sub_one_eq_mod]
  show IntKind.i64.wrap ((BitVec.ofInt 64 n &&& BitVec.ofInt 64 4294967295).toNat : Nat) = n % 4294967296
  rw [key, IntKind.wrap_i64]
  omega
/-- Is a number money? -/
def fitB (n : Int) : Bool := decide (-1152921504606846976 ≤ n ∧ n ≤ 1152921504606846976)
def sumI (l : List Int) : Int := l.foldr (· + ·) 0
/-- All together, or why that is not told. -/
def smV (l : List Int) (s : Int) : Int × Int := if l.all fitB = true then (if fitB (s + sumI l) = true then (s + sumI l, 0) else (0, 3)) else (0, 2)
theorem fits_some (n : Int) : cents_Fits.f n = some (fitB n) := by
  unfold cents_Fits.f fitB
  by_cases h : n ≥ -1152921504606846976
  · rw [if_pos h]
    congr 1
    exact decide_eq_decide.mpr ⟨fun h2 => ⟨h, h2⟩, fun h2 => h2.2⟩
  · rw [if_neg h]
    congr 1
    exact (decide_eq_false (by omega)).symm
theorem fitting_some (n : Int) : cents_fitting.f n = some (if fitB n = true then (n, 0) else (0, 3)) := by
  unfold cents_fitting.f
  rw [fits_some]
  simp only [Option.bind_some]
  split <;> rfl
theorem sumEnd (hi lo : Int) (h1 : -1152921504606846976 ≤ hi ∧ hi ≤ 1152921504606846976) (h2 : 0 ≤ lo ∧ lo ≤ 1152921504606846976) :
    (if (wrap64 (hi + (lo / 4294967296))) < (-268435456) then (some ((0 : Int), (3 : Int))) else (if (wrap64 (hi + (lo / 4294967296))) > 268435456 then (some (0, 3)) else ((cents_fitting.f (wrap64 ((wrap64 ((wrap64 (hi + (lo / 4294967296))) * 4294967296)) + (Go.bits .and .i64 lo 4294967295)))).bind fun bt => (some (bt.1, bt.2))))) = some (if fitB (hi * 4294967296 + lo) = true then (hi * 4294967296 + lo, 0) else (0, 3)) := by
  have e1 : wrap64 (hi + lo / 4294967296) = hi + lo / 4294967296 := wrap_small (by omega) (by omega)
  rw [e1, and32]
  by_cases c1 : hi + lo / 4294967296 < -268435456
  · rw [if_pos c1, if_neg]
    unfold fitB
    simp only [decide_eq_true_eq]
    omega
  · rw [if_neg c1]
    by_cases c2 : hi + lo / 4294967296 > 268435456
    · rw [if_pos c2, if_neg]
      unfold fitB
      simp only [decide_eq_true_eq]
      omega
    · rw [if_neg c2]
      have e2 : wrap64 ((hi + lo / 4294967296) * 4294967296) = (hi + lo / 4294967296) * 4294967296 := wrap_small (by omega) (by omega)
      have e3 : wrap64 ((hi + lo / 4294967296) * 4294967296 + lo % 4294967296) = hi * 4294967296 + lo := by
        rw [wrap_small (by omega) (by omega)]
        omega
      rw [e2, e3, fitting_some]
      rfl
theorem sumL (l : List Int) (hl : l.length ≤ 1000000) (n : Nat) : ∀ (i : Nat) (hi lo : Int), l.length - i = n → i ≤ l.length → -(268435456 * (i : Int)) ≤ hi → hi ≤ 268435456 * (i : Int) → 0 ≤ lo → lo ≤ 4294967296 * (i : Int) →
    Ev (fun k => cents_Sum.l0 k l hi lo (l.length : Int) (i : Int)) (smV (l.drop i) (hi * 4294967296 + lo)) := by
  induction n with
  | zero =>
    intro i hi lo hd hle h1 h2 h3 h4
    refine Ev.shift ?_
    simp only [cents_Sum.l0]
    rw [List.drop_eq_nil_of_le (by omega)]
    refine Ev.neg (by omega) ?_
    rw [sumEnd hi lo (by omega) (by omega)]
    exact Ev.valOf (by simp [smV, sumI])
  | succ n ih =>
    intro i hi lo hd hle h1 h2 h3 h4
    have hlt : i < l.length := by omega
    have hw : wrap64 ((i : Int) + 1) = ((i + 1 : Nat) : Int) := by unfold wrap64; omega
    refine Ev.shift ?_
    simp only [cents_Sum.l0, hw]
    have hr : rd l (i : Int) = l[i] := by simp [rd, List.getD_eq_getElem?_getD, hlt]
    rw [hr, List.drop_eq_getElem_cons hlt]
    refine Ev.pos (by omega) (Ev.pos (by omega) (Ev.pos (by omega) ?_))
    rw [fits_some, and32]
    simp only [Option.bind_some]
    by_cases hf : fitB l[i] = true
    · refine Ev.pos hf ?_
      have hf2 := hf
      unfold fitB at hf2
      simp only [decide_eq_true_eq] at hf2
      have e1 : wrap64 (hi + l[i] / 4294967296) = hi + l[i] / 4294967296 := wrap_small (by omega) (by omega)
      have e2 : wrap64 (lo + l[i] % 4294967296) = lo + l[i] % 4294967296 := wrap_small (by omega) (by omega)
      rw [e1, e2]
      have h := ih (i + 1) (hi + l[i] / 4294967296) (lo + l[i] % 4294967296) (by omega) (by omega) (by omega) (by omega) (by omega) (by omega)
      have e3 : smV (l[i] :: l.drop (i + 1)) (hi * 4294967296 + lo) = smV (l.drop (i + 1)) ((hi + l[i] / 4294967296) * 4294967296 + (lo + l[i] % 4294967296)) := by
        unfold smV
        rw [List.all_cons, hf, Bool.true_and]
        have e4 : hi * 4294967296 + lo + sumI (l[i] :: l.drop (i + 1)) = (hi + l[i] / 4294967296) * 4294967296 + (lo + l[i] % 4294967296) + sumI (l.drop (i + 1)) := by
          have : sumI (l[i] :: l.drop (i + 1)) = l[i] + sumI (l.drop (i + 1)) := rfl
          rw [this]
          omega
        rw [e4]
      rw [e3]
      exact h
    · have e : smV (l[i] :: l.drop (i + 1)) (hi * 4294967296 + lo) = (0, 2) := by
        unfold smV
        rw [List.all_cons, Bool.eq_false_iff.mpr hf, Bool.false_and]
        rfl
      rw [e]
      exact Ev.neg hf (Ev.val _)
/-- The sum of numbers of money, or why it is not told. -/
def sm (l : List Int) : Int × Int := smV l 0
theorem sm_ev (l : List Int) (hl : l.length ≤ 1000000) : Ev (fun k => cents_Sum.f k l) (sm l) := by
  simp only [cents_Sum.f]
  exact sumL l hl l.length 0 0 0 (by omega) (by omega) (by omega) (by omega) (by omega) (by omega)
theorem tq (x : Int) : x = 1073741824 * x.tdiv 1073741824 + x.tmod 1073741824 ∧ -1073741824 < x.tmod 1073741824 ∧ x.tmod 1073741824 < 1073741824 := by
  by_cases h : 0 ≤ x
  · rw [Int.tdiv_eq_ediv_of_nonneg h, Int.tmod_eq_emod_of_nonneg h]
    omega
  · obtain ⟨y, rfl⟩ : ∃ y, x = -y := ⟨-x, by omega⟩
    rw [Int.neg_tdiv, Int.neg_tmod, Int.tdiv_eq_ediv_of_nonneg (by omega), Int.tmod_eq_emod_of_nonneg (by omega)]
    omega
theorem fitsr_some (n : Int) : contangoref01_Fits.f n = some (fitB n) := by
  unfold contangoref01_Fits.f fitB
  by_cases h : n ≥ -1152921504606846976
  · rw [if_pos h]
    congr 1
    exact decide_eq_decide.mpr ⟨fun h2 => ⟨h, h2⟩, fun h2 => h2.2⟩
  · rw [if_neg h]
    congr 1
    exact (decide_eq_false (by omega)).symm
theorem sumrL (l : List Int) (hl : l.length ≤ 1000000) (n : Nat) : ∀ (i : Nat) (hi lo : Int), l.length - i = n → i ≤ l.length → -(1073741825 * (i : Int)) ≤ hi → hi ≤ 1073741825 * (i : Int) → -(1073741824 * (i : Int)) ≤ lo → lo ≤ 1073741824 * (i : Int) →
    Ev (fun k => contangoref01_Sum.l0 k l hi lo (i : Int)) (smV (l.drop i) (hi * 1073741824 + lo)) := by
  induction n with
  | zero =>
    intro i hi lo hd hle h1 h2 h3 h4
    refine Ev.shift ?_
    simp only [contangoref01_Sum.l0]
    rw [List.drop_eq_nil_of_le (by omega)]
    refine Ev.neg (by omega) ?_
    have ht := tq lo
    generalize hq : lo.tdiv 1073741824 = q at *
    generalize hr : lo.tmod 1073741824 = r at *
    clear hq hr
    have e0 : wrap64 q = q := wrap_small (by omega) (by omega)
    have e1 : wrap64 (hi + q) = hi + q := wrap_small (by omega) (by omega)
    rw [e0, e1]
    have e : smV ([] : List Int) (hi * 1073741824 + lo) = if fitB (hi * 1073741824 + lo) = true then (hi * 1073741824 + lo, 0) else (0, 3) := by simp [smV, sumI]
    rw [e]
    by_cases c1 : hi + q < -1073741825
    · have hn : ¬ fitB (hi * 1073741824 + lo) = true := by unfold fitB; simp only [decide_eq_true_eq]; omega
      rw [if_neg hn]
      exact Ev.pos c1 (Ev.val _)
    · refine Ev.neg c1 ?_
      by_cases c2 : hi + q > 1073741825
      · have hn : ¬ fitB (hi * 1073741824 + lo) = true := by unfold fitB; simp only [decide_eq_true_eq]; omega
        rw [if_neg hn]
        exact Ev.pos c2 (Ev.val _)
      · refine Ev.neg c2 ?_
        have e2 : wrap64 ((hi + q) * 1073741824) = (hi + q) * 1073741824 := wrap_small (by omega) (by omega)
        have e3 : wrap64 ((hi + q) * 1073741824 + r) = hi * 1073741824 + lo := by
          rw [wrap_small (by omega) (by omega)]
          omega
        rw [e2, e3, fitsr_some]
        simp only [Option.bind_some]
        exact Ev.both (fun _ => Ev.val _) (fun _ => Ev.val _)
  | succ n ih =>
    intro i hi lo hd hle h1 h2 h3 h4
    have hlt : i < l.length := by omega
    have hw : wrap64 ((i : Int) + 1) = ((i + 1 : Nat) : Int) := by unfold wrap64; omega
    refine Ev.shift ?_
    simp only [contangoref01_Sum.l0, hw]
    have hr : rd l (i : Int) = l[i] := by simp [rd, List.getD_eq_getElem?_getD, hlt]
    rw [hr, List.drop_eq_getElem_cons hlt]
    refine Ev.pos (by omega) (Ev.pos (by omega) ?_)
    rw [fitsr_some]
    simp only [Option.bind_some]
    by_cases hf : fitB l[i] = true
    · refine Ev.pos hf ?_
      have hf2 := hf
      unfold fitB at hf2
      simp only [decide_eq_true_eq] at hf2
      have ht := tq l[i]
      generalize hq : l[i].tdiv 1073741824 = q at *
      generalize hr : l[i].tmod 1073741824 = r at *
      have e0 : wrap64 q = q := wrap_small (by omega) (by omega)
      have e1 : wrap64 (hi + q) = hi + q := wrap_small (by omega) (by omega)
      have e2 : wrap64 (lo + r) = lo + r := wrap_small (by omega) (by omega)
      rw [e0, e1, e2]
      have h := ih (i + 1) (hi + q) (lo + r) (by omega) (by omega) (by omega) (by omega) (by omega) (by omega)
      have e3 : smV (l[i] :: l.drop (i + 1)) (hi * 1073741824 + lo) = smV (l.drop (i + 1)) ((hi + q) * 1073741824 + (lo + r)) := by
        unfold smV
        rw [List.all_cons, hf, Bool.true_and]
        have e4 : hi * 1073741824 + lo + sumI (l[i] :: l.drop (i + 1)) = (hi + q) * 1073741824 + (lo + r) + sumI (l.drop (i + 1)) := by
          have : sumI (l[i] :: l.drop (i + 1)) = l[i] + sumI (l.drop (i + 1)) := rfl
          rw [this]
          omega
        rw [e4]
      rw [e3]
      exact h
    · have e : smV (l[i] :: l.drop (i + 1)) (hi * 1073741824 + lo) = (0, 2) := by
        unfold smV
        rw [List.all_cons, Bool.eq_false_iff.mpr hf, Bool.false_and]
        rfl
      rw [e]
      exact Ev.neg hf (Ev.val _)
theorem smr_ev (l : List Int) (hl : l.length ≤ 1000000) : Ev (fun k => contangoref01_Sum.f k l) (sm l) := by
  simp only [contangoref01_Sum.f]
  exact sumrL l hl l.length 0 0 0 (by omega) (by omega) (by omega) (by omega) (by omega) (by omega)
theorem ba_eq {a b : ByteArray} (h : a.toList = b.toList) : a = b := (strQ_iff a b).mp (by simp [strQ, h])
/-- Names that rise. -/
def SS (l : List ByteArray) : Prop := l.Pairwise (fun a b => Op.bytesLess a.toList b.toList = true)
/-- A name into names that rise. -/
def insU (x : ByteArray) : List ByteArray → List ByteArray
  | [] => [x]
  | y :: r => if strQ y x = true then y :: r else if Op.bytesLess x.toList y.toList = true then x :: y :: r else y :: insU x r
theorem insU_mem (x : ByteArray) (l : List ByteArray) : ∀ s, s ∈ insU x l ↔ s = x ∨ s ∈ l := by
  induction l with
  | nil => intro s; simp [insU]
  | cons y r ih =>
    intro s
    rw [insU]
    by_cases h : strQ y x = true
    · rw [if_pos h]
      have := (strQ_iff _ _).mp h
      refine ⟨.inr, fun h2 => h2.elim (fun e => ?_) id⟩
      rw [e, ← this]; simp
    · rw [if_neg h]
      split
      · simp
      · rw [List.mem_cons, ih, List.mem_cons]
        constructor
        · rintro (h1 | h1 | h1)
          · exact .inr (.inl h1)
          · exact .inl h1
          · exact .inr (.inr h1)
        · rintro (h1 | h1 | h1)
          · exact .inr (.inl h1)
          · exact .inl h1
          · exact .inr (.inr h1)
theorem insU_len (x : ByteArray) (l : List ByteArray) : (insU x l).length ≤ l.length + 1 := by
  induction l with
  | nil => exact Nat.le_refl 1
  | cons y r ih =>
    rw [insU]
    split
    · exact Nat.le_succ _
    · split
      · exact Nat.le_refl _
      · simp only [List.length_cons]; omega
theorem strQ_ne {x y : ByteArray} (h : ¬ strQ x y = true) : x.toList ≠ y.toList := fun e => h ((strQ_iff x y).mpr (ba_eq e))
theorem insU_sorted (x : ByteArray) (l : List ByteArray) (h : SS l) : SS (insU x l) := by
  induction l with
  | nil => exact List.pairwise_singleton _ _
  | cons y r ih =>
    have h' := List.pairwise_cons.mp h
    rw [insU]
    by_cases c : strQ y x = true
    · rw [if_pos c]; exact h
    · rw [if_neg c]
      by_cases d : Op.bytesLess x.toList y.toList = true
      · rw [if_pos d]
        refine List.pairwise_cons.mpr ⟨fun b hb => ?_, h⟩
        rcases List.mem_cons.mp hb with rfl | hb
        · exact d
        · exact less_trans _ _ _ d (h'.1 b hb)
      · rw [if_neg d]
        refine List.pairwise_cons.mpr ⟨fun b hb => ?_, ih h'.2⟩
        rcases (insU_mem x r b).mp hb with rfl | hb
        · exact less_flip d (strQ_ne c)
        · exact h'.1 b hb
theorem SS_nodup {l : List ByteArray} (h : SS l) : l.Nodup := List.Pairwise.imp (R := fun a b => Op.bytesLess a.toList b.toList = true) (fun {a b} (hab : Op.bytesLess a.toList b.toList = true) => fun (e : a = b) => less_ne hab (by rw [e])) (show List.Pairwise (fun a b => Op.bytesLess a.toList b.toList = true) l from h)
theorem SS_uniq {a b : List ByteArray} (ha : SS a) (hb : SS b) (h : ∀ s, s ∈ a ↔ s ∈ b) : a = b := by
  refine List.Perm.eq_of_pairwise (le := fun (a b : ByteArray) => Op.bytesLess a.toList b.toList = true) (fun x y _ _ h1 h2 => ?_) ha hb ((List.perm_ext_iff_of_nodup (SS_nodup ha) (SS_nodup hb)).mpr h)
  have := less_trans _ _ _ h1 h2
  rw [less_irrefl] at this
  cases this
theorem sortS_SS {l : List ByteArray} (h : l.Nodup) : SS (sortS l) := by
  have h1 := sortS_sorted l
  have h2 : (sortS l).Nodup := (sortS_perm l).nodup_iff.mpr h
  refine (List.Pairwise.and h1 h2).imp (fun {a b} hab => ?_)
  have h3 := (leS a b).mpr hab.1
  exact less_flip (by rw [h3]; decide) (fun e => hab.2 (ba_eq e))
open Go.Proofs.YtoejllkjhaeeeaaHand (put)
/-- One's position in a series. -/
def fdP (s : S25) (l : List S27) : S27 := ⟨⟨(fdV s l).1, (fdV s l).2.1, (fdV s l).2.2.1, (fdV s l).2.2.2.1⟩, (fdV s l).2.2.2.2.1, (fdV s l).2.2.2.2.2⟩
/-- What one gets. -/
def czV (p : S23) (s : S25) (u : Int) (h : S47) : Int × Int := csV p s (fdP s h.f1) u
/-- What a member's holdings get. -/
def vals (p : S23) (s : S25) (u : Int) (a : ByteArray) : List S47 → List Int
  | [] => []
  | h :: r => (if strQ h.f0.f0 a = true then [(czV p s u h).1] else []) ++ vals p s u a r
/-- The first holding that may not be, and why. -/
def ceV (p : S23) (s : S25) (u : Int) : List S47 → Int
  | [] => 0
  | h :: r => if posC h.f1 = 0 then (if (czV p s u h).2 = 0 then ceV p s u r else (czV p s u h).2) else posC h.f1
def nmH : List S47 → List ByteArray := List.map (fun h => h.f0.f0)
def NLf : List ByteArray → List ByteArray → List ByteArray
  | n, [] => n
  | n, s :: r => NLf (insU s n) r
theorem NLf_SS (l : List ByteArray) : ∀ n, SS n → SS (NLf n l) := by
  induction l with
  | nil => intro n h; exact h
  | cons s r ih => intro n h; exact ih _ (insU_sorted s _ h)
theorem NLf_mem (l : List ByteArray) (s : ByteArray) : ∀ n, s ∈ NLf n l ↔ s ∈ n ∨ s ∈ l := by
  induction l with
  | nil => intro n; simp [NLf]
  | cons a r ih =>
    intro n
    rw [NLf, ih, insU_mem, List.mem_cons]
    constructor
    · rintro ((h | h) | h)
      · exact .inr (.inl h)
      · exact .inl h
      · exact .inr (.inr h)
    · rintro (h | h | h)
      · exact .inl (.inr h)
      · exact .inl (.inl h)
      · exact .inr h
theorem NLf_len (l : List ByteArray) : ∀ n, (NLf n l).length ≤ n.length + l.length := by
  induction l with
  | nil => intro n; exact Nat.le_refl _
  | cons a r ih =>
    intro n
    have h1 := ih (insU a n)
    have h2 := insU_len a n
    rw [NLf, List.length_cons]
    omega
/-- The groups so far: whose what is. -/
structure GL (g : ByteArray → List Int) (A : ByteArray → Prop) (N : Nat) (m : List (ByteArray × List Int)) : Prop where
  at_ : ∀ a, (Go.Proofs.YtoejllkjhaeeeaaHand.look strQ m a).getD [] = g a
  nod : (m.map (·.1)).Nodup
  mem : ∀ a, a ∈ m.map (·.1) ↔ A a
  mln : m.length ≤ N
  len : ∀ a, (g a).length ≤ N
theorem look_isSome (a : ByteArray) (m : List (ByteArray × List Int)) : (Go.Proofs.YtoejllkjhaeeeaaHand.look strQ m a).isSome = true ↔ a ∈ m.map (·.1) := by
  induction m with
  | nil => simp [Go.Proofs.YtoejllkjhaeeeaaHand.look_nil]
  | cons p r ih =>
    rw [Go.Proofs.YtoejllkjhaeeeaaHand.look_cons, List.map_cons, List.mem_cons]
    by_cases c : strQ p.1 a = true
    · rw [if_pos c]
      exact ⟨fun _ => .inl ((strQ_iff _ _).mp c).symm, fun _ => rfl⟩
    · rw [if_neg c, ih]
      exact ⟨.inr, fun h => h.resolve_left (fun e => c ((strQ_iff _ _).mpr e.symm))⟩
theorem GL.step {g : ByteArray → List Int} {A : ByteArray → Prop} {N : Nat} {m : List (ByteArray × List Int)} (h : GL g A N m) (a : ByteArray) (y : Int) :
    GL (fun b => g b ++ if strQ a b = true then [y] else []) (fun b => A b ∨ b = a) (N + 1) (put strQ a ((Go.Proofs.YtoejllkjhaeeeaaHand.look strQ m a).getD [] ++ [y]) m) := by
  have hk := Go.Proofs.YtoejllkjhaeeeaaHand.put_keys (q := strQ) (a := a) (m := m) ((Go.Proofs.YtoejllkjhaeeeaaHand.look strQ m a).getD [] ++ [y])
  have hi := look_isSome a m
  refine ⟨fun b => ?_, ?_, fun b => ?_, ?_, fun b => ?_⟩
  · rw [Go.Proofs.YtoejllkjhaeeeaaHand.look_put _ _ strQ_iff]
    show _ = g b ++ if strQ a b = true then [y] else []
    by_cases c : strQ a b = true
    · rw [if_pos c, if_pos c, Option.getD_some, h.at_, (strQ_iff _ _).mp c]
    · rw [if_neg c, if_neg c, List.append_nil, h.at_]
  · rw [hk]
    by_cases c : (Go.Proofs.YtoejllkjhaeeeaaHand.look strQ m a).isSome = true
    · rw [if_pos c]; exact h.nod
    · rw [if_neg c]
      refine List.nodup_append.mpr ⟨h.nod, by simp, ?_⟩
      intro b hb d hd e
      rw [List.mem_singleton.mp hd] at e
      rw [e] at hb
      exact c (hi.mpr hb)
  · rw [hk]
    by_cases c : (Go.Proofs.YtoejllkjhaeeeaaHand.look strQ m a).isSome = true
    · rw [if_pos c, h.mem]
      exact ⟨.inl, fun h2 => h2.elim id (fun e => by rw [e]; exact (h.mem a).mp (hi.mp c))⟩
    · rw [if_neg c, List.mem_append, List.mem_singleton, h.mem]
  · have h1 := congrArg List.length hk
    have h2 := h.mln
    rw [List.length_map] at h1
    rw [h1]
    split
    · rw [List.length_map]; omega
    · rw [List.length_append, List.length_map, List.length_singleton]; omega
  · have h2 := h.len b
    show (g b ++ if strQ a b = true then [y] else []).length ≤ N + 1
    rw [List.length_append]
    split
    · rw [List.length_singleton]; omega
    · rw [List.length_nil]; omega
theorem GL.same {g g' : ByteArray → List Int} {A A' : ByteArray → Prop} {N : Nat} {m : List (ByteArray × List Int)} (h : GL g A N m) (hg : ∀ a, g a = g' a) (hA : ∀ a, A a ↔ A' a) : GL g' A' N m :=
  ⟨fun a => (h.at_ a).trans (hg a), h.nod, fun a => (h.mem a).trans (hA a), h.mln, fun a => by rw [← hg a]; exact h.len a⟩
theorem egl_ev (p : S23) (s : S25) (u : Int) (l : List S47) (hs : ∀ h ∈ l, h.f0.f0.size ≤ 9223372036854775807) : ∀ (g : ByteArray → List Int) (A : ByteArray → Prop) (N : Nat) (m : List (ByteArray × List Int)), GL g A N m → N + l.length ≤ 100000 →
    ∃ m', Ev (fun k => expiry_Flows.go k p.f0 p.f1 p.f2 p.f3 p.f4 p.f5 p.f6 s.f0 s.f1 s.f2 s.f3 u l m) (m', ceV p s u l) ∧ (ceV p s u l = 0 → GL (fun a => g a ++ vals p s u a l) (fun a => A a ∨ a ∈ nmH l) (N + l.length) m') ∧ (ceV p s u l ≠ 0 → m' = []) := by
  induction l with
  | nil =>
    intro g A N m h _
    refine ⟨m, ?_, fun _ => h.same (fun a => by rw [vals, List.append_nil]) (fun a => by simp [nmH]), fun hh => absurd rfl hh⟩
    simp only [expiry_Flows.go]
    exact Ev.val _
  | cons x r ih =>
    intro g A N m h hN
    rw [List.length_cons] at hN
    rw [ceV]
    by_cases h0 : posC x.f1 = 0
    case neg =>
      rw [if_neg h0]
      refine ⟨[], ?_, fun e => absurd e h0, fun _ => rfl⟩
      simp only [expiry_Flows.go]
      exact Ev.bind (posC_ev x.f1) (Ev.neg h0 (Ev.val _))
    rw [if_pos h0]
    by_cases h1 : (czV p s u x).2 = 0
    case neg =>
      rw [if_neg h1]
      refine ⟨[], ?_, fun e => absurd e h1, fun _ => rfl⟩
      simp only [expiry_Flows.go, fd_some, Option.bind_some]
      exact Ev.bind (posC_ev x.f1) (Ev.pos h0 (Ev.bind (csV_ev p s (fdP s x.f1) u) (Ev.neg h1 (Ev.val _))))
    rw [if_pos h1]
    have hsz := hs x List.mem_cons_self
    obtain ⟨m', hE, hK, hK2⟩ := ih (fun y hy => hs y (List.mem_cons_of_mem _ hy)) _ _ (N + 1) _ (h.step x.f0.f0 (czV p s u x).1) (by omega)
    refine ⟨m', ?_, fun he => ?_, hK2⟩
    · simp only [expiry_Flows.go, fd_some, Option.bind_some]
      have hc := h.len x.f0.f0
      rw [← h.at_] at hc
      exact Ev.bind (posC_ev x.f1) (Ev.pos h0 (Ev.bind (csV_ev p s (fdP s x.f1) u) (Ev.pos h1 (Ev.pos hsz (Ev.pos (by omega) hE)))))
    · have := hK he
      rw [List.length_cons, show N + (r.length + 1) = N + 1 + r.length by omega]
      refine this.same (fun a => ?_) (fun a => ?_)
      · rw [vals, List.append_assoc]
      · rw [nmH, List.map_cons, List.mem_cons]
        constructor
        · rintro ((h | h) | h)
          · exact .inl h
          · exact .inr (.inl h)
          · exact .inr (.inr h)
        · rintro (h | h | h)
          · exact .inl (.inl h)
          · exact .inl (.inr h)
          · exact .inr h
/-- What members get, one behind the other. -/
def eoV (cur : Int) (g : ByteArray → List Int) : List ByteArray → List S58 → List S58 × Int
  | [], t => (t, 0)
  | s :: r, t => if (sm (g s)).2 = 0 then (if (sm (g s)).1 = 0 then eoV cur g r t else eoV cur g r (t ++ [⟨s, cur, (sm (g s)).1, 3⟩])) else ([], (sm (g s)).2)
theorem eout_ev {g : ByteArray → List Int} {A : ByteArray → Prop} {N : Nat} {m : List (ByteArray × List Int)} (h : GL g A N m) (hN : N ≤ 100000) (cur : Int) (l : List ByteArray) (hs : ∀ s ∈ l, s.size ≤ 9223372036854775807) : ∀ t : List S58, t.length + l.length ≤ 100000 →
    Ev (fun k => expiry_Flows.out k m cur l t) (eoV cur g l t) := by
  induction l with
  | nil => intro t _; simp only [expiry_Flows.out]; exact Ev.val _
  | cons s r ih =>
    intro t ht
    rw [List.length_cons] at ht
    have ih2 := ih (fun y hy => hs y (List.mem_cons_of_mem _ hy))
    have hl := h.len s
    have hE := sm_ev (g s) (by omega)
    rw [eoV]
    simp only [expiry_Flows.out, h.at_]
    refine Ev.pos (hs s List.mem_cons_self) (Ev.bind hE ?_)
    by_cases c0 : (sm (g s)).2 = 0
    case neg => rw [if_neg c0]; exact Ev.neg c0 (Ev.val _)
    rw [if_pos c0]
    refine Ev.pos c0 ?_
    by_cases c1 : (sm (g s)).1 = 0
    · rw [if_pos c1]; exact Ev.pos c1 (ih2 t (by omega))
    · rw [if_neg c1]
      exact Ev.neg c1 (Ev.pos (by omega) (ih2 _ (by rw [List.length_append, List.length_singleton]; omega)))
def efV (p : S23) (s : S25) (u : Int) (l : List S47) : List S58 × Int :=
  if l.length > 1024 then ([], 8) else if ceV p s u l = 0 then eoV p.f1 (fun a => vals p s u a l) (NLf [] (nmH l)) [] else ([], ceV p s u l)
theorem ef_ev (p : S23) (s : S25) (u : Int) (l : List S47) (hs : ∀ h ∈ l, h.f0.f0.size ≤ 9223372036854775807) : Ev (fun k => expiry_Flows.f k p.f0 p.f1 p.f2 p.f3 p.f4 p.f5 p.f6 l s.f0 s.f1 s.f2 s.f3 u) (efV p s u l) := by
  unfold efV
  simp only [expiry_Flows.f]
  by_cases hl : l.length > 1024
  · rw [if_pos hl]; exact Ev.pos hl (Ev.val _)
  rw [if_neg hl]
  have h0 : GL (fun _ => []) (fun _ => False) 0 [] := ⟨fun a => rfl, List.nodup_nil, fun a => by simp, Nat.le_refl _, fun a => Nat.le_refl _⟩
  obtain ⟨m', hE, hK, hK2⟩ := egl_ev p s u l hs _ _ 0 [] h0 (by omega)
  refine Ev.neg hl (Ev.bind hE ?_)
  by_cases c0 : ceV p s u l = 0
  case neg => rw [if_neg c0]; exact Ev.neg c0 (Ev.valOf (by rw [hK2 c0]))
  rw [if_pos c0]
  have gk := (hK c0).same (g' := fun a => vals p s u a l) (A' := fun a => a ∈ nmH l) (fun a => List.nil_append _) (fun a => by simp)
  have hn : sortS (m'.map (·.1)) = NLf [] (nmH l) := SS_uniq (sortS_SS gk.nod) (NLf_SS _ _ List.Pairwise.nil) (fun a => by
    rw [(sortS_perm _).mem_iff, NLf_mem, gk.mem]; simp)
  have hm := gk.mln
  have hln := NLf_len (nmH l) []
  rw [nmH, List.length_map, List.length_nil, ← nmH] at hln
  refine Ev.pos c0 (Ev.pos (show m'.length ≤ 1000000 by omega) ?_)
  show Ev (fun k => expiry_Flows.out k m' p.f1 (sortS (m'.map (·.1))) []) _
  rw [hn]
  exact eout_ev gk (by omega) p.f1 _ (fun a ha => by
    have ha2 := ((NLf_mem _ _ _).mp ha).resolve_left (by simp)
    obtain ⟨h, hh, rfl⟩ := List.mem_map.mp ha2
    exact hs h hh) [] (by rw [List.length_nil]; omega)
theorem succ_w (i n : Nat) (h : i < n) (hn : n ≤ 9223372036854775806) : wrap64 ((i : Int) + 1) = ((i + 1 : Nat) : Int) := by unfold wrap64; omega
theorem rd_nm (l : List ByteArray) (i : Nat) (h : i < l.length) : rdOf ByteArray.empty l (i : Int) = l[i] := by simp [rdOf, h]
theorem strQ_l (x y : ByteArray) : strQ x y = true ↔ x.toList = y.toList := by simp [strQ]
theorem withD (x : ByteArray) (l : List ByteArray) (hl : l.length ≤ 1000000) (n : Nat) : ∀ (i : Nat) (o : List ByteArray), l.length - i = n → i ≤ l.length → o.length = i + 1 → (∀ y ∈ l.drop i, y.toList ≠ x.toList) →
    Ev (fun k => contangoref51_with.l0 k l x o true (i : Int)) (o ++ l.drop i) := by
  induction n with
  | zero =>
    intro i o hi hle ho hy
    refine Ev.shift ?_
    simp only [contangoref51_with.l0]
    rw [List.drop_eq_nil_of_le (by omega), List.append_nil]
    exact Ev.neg (by omega) (Ev.pos (by trivial) (Ev.val _))
  | succ n ih =>
    intro i o hi hle ho hy
    have hlt : i < l.length := by omega
    rw [List.drop_eq_getElem_cons hlt] at hy ⊢
    refine Ev.shift ?_
    simp only [contangoref51_with.l0, rd_nm l i hlt, succ_w i l.length hlt (by omega)]
    refine Ev.pos (by omega) (Ev.pos (by omega) (Ev.neg (hy _ List.mem_cons_self) (Ev.pos (by trivial) (Ev.pos (by omega) ?_))))
    have := ih (i + 1) (o ++ [l[i]]) (by omega) (by omega) (by simp [ho]) (fun y h => hy y (List.mem_cons_of_mem _ h))
    rw [List.append_assoc] at this
    exact this
theorem withL (x : ByteArray) (l : List ByteArray) (hl : l.length ≤ 1000000) (hss : SS l) (n : Nat) : ∀ (i : Nat), l.length - i = n → i ≤ l.length →
    Ev (fun k => contangoref51_with.l0 k l x (l.take i) false (i : Int)) (l.take i ++ insU x (l.drop i)) := by
  induction n with
  | zero =>
    intro i hi hle
    refine Ev.shift ?_
    simp only [contangoref51_with.l0]
    rw [List.drop_eq_nil_of_le (by omega)]
    exact Ev.neg (by omega) (Ev.neg (by decide) (Ev.pos (by rw [List.length_take]; omega) (Ev.val _)))
  | succ n ih =>
    intro i hi hle
    have hlt : i < l.length := by omega
    have hsp : l.take i ++ l[i] :: l.drop (i + 1) = l := by rw [← List.drop_eq_getElem_cons hlt, List.take_append_drop]
    have hss2 : SS (l[i] :: l.drop (i + 1)) := by rw [← List.drop_eq_getElem_cons hlt]; exact hss.sublist (List.drop_sublist _ _)
    have hss3 := List.pairwise_cons.mp hss2
    have hlen : (l.take i).length = i := by rw [List.length_take]; omega
    rw [List.drop_eq_getElem_cons hlt, insU]
    refine Ev.shift ?_
    simp only [contangoref51_with.l0, rd_nm l i hlt, succ_w i l.length hlt (by omega)]
    refine Ev.pos (by omega) (Ev.pos (by omega) ?_)
    by_cases h : l[i].toList = x.toList
    · rw [if_pos ((strQ_l _ _).mpr h), hsp]
      exact Ev.pos h (Ev.val _)
    rw [if_neg (fun e => h ((strQ_l _ _).mp e))]
    refine Ev.neg h (Ev.neg (by decide) ?_)
    by_cases d : Op.bytesLess x.toList l[i].toList = true
    · rw [if_pos d]
      refine Ev.pos d (Ev.pos (by omega) ?_)
      simp only [Option.bind_some]
      refine Ev.pos (by simp; omega) ?_
      have := withD x l hl n (i + 1) ((l.take i ++ [x]) ++ [l[i]]) (by omega) (by omega) (by simp [hlen]) (fun y hy e => by
        have h1 := less_trans _ _ _ d (hss3.1 y hy)
        rw [e, less_irrefl] at h1
        cases h1)
      rw [show l.take i ++ x :: l[i] :: l.drop (i + 1) = (l.take i ++ [x] ++ [l[i]]) ++ l.drop (i + 1) by simp only [List.append_assoc, List.cons_append, List.nil_append]]
      exact this
    · rw [if_neg d]
      refine Ev.neg d (Ev.pos (by omega) ?_)
      have := ih (i + 1) (by omega) (by omega)
      rw [List.take_succ_eq_append_getElem hlt, List.append_assoc] at this
      exact this
theorem with_ev (x : ByteArray) (l : List ByteArray) (hl : l.length ≤ 1000000) (hss : SS l) : Ev (fun k => contangoref51_with.f k l x) (insU x l) := by
  have := withL x l hl hss l.length 0 (by omega) (by omega)
  rw [List.drop_zero] at this
  exact this
theorem cf_at (p : S23) (s : S25) (u : Int) (l : List S47) : ∀ i (h : i < l.length), ceV p s u l = 0 → (czV p s u l[i]).2 = 0 := by
  induction l with
  | nil => intro i h; exact absurd h (Nat.not_lt_zero _)
  | cons x r ih =>
    intro i h he
    rw [ceV] at he
    by_cases c0 : posC x.f1 = 0
    case neg => rw [if_neg c0] at he; exact absurd he c0
    rw [if_pos c0] at he
    by_cases c1 : (czV p s u x).2 = 0
    case neg => rw [if_neg c1] at he; exact absurd he c1
    rw [if_pos c1] at he
    cases i with
    | zero => exact c1
    | succ i => exact ih i (by rw [List.length_cons] at h; omega) he
theorem cz_fit {p : S23} {s : S25} {u : Int} {h : S47} (hz : (czV p s u h).2 = 0) : fitB (czV p s u h).1 = true := by
  unfold czV csV at hz ⊢
  split at hz
  case isFalse c => exact absurd hz c
  case isTrue c =>
    rw [if_pos c]
    split at hz
    case isFalse => cases hz
    case isTrue c1 =>
      rw [if_pos c1]
      split at hz
      case isFalse => cases hz
      case isTrue c2 =>
        rw [if_pos c2]
        unfold vl at hz ⊢
        split at hz
        case isFalse c3 => exact absurd hz c3
        case isTrue c3 =>
          rw [if_pos c3]
          split at hz
          case isFalse => cases hz
          case isTrue c4 =>
            rw [if_pos c4]
            split at hz
            case isFalse => cases hz
            case isTrue c5 =>
              rw [if_pos c5]
              have h2 := (prC_zero c3).2
              have a1 := mul_within (A := 33554432) (B := 4096) c4.1 c4.2 (by omega) h2.2
              have a2 := mul_within (A := 33554432 * 4096) (B := 1048576) a1.1 a1.2 c5.1 c5.2
              unfold fitB
              exact decide_eq_true (by omega)
theorem vals_fit (p : S23) (s : S25) (u : Int) (a : ByteArray) (l : List S47) (h : ceV p s u l = 0) : (vals p s u a l).all fitB = true := by
  induction l with
  | nil => rfl
  | cons x r ih =>
    have c1 := cf_at p s u (x :: r) 0 (Nat.succ_pos _) h
    have h2 : ceV p s u r = 0 := by
      rw [ceV] at h
      by_cases c0 : posC x.f1 = 0
      case neg => rw [if_neg c0] at h; exact absurd h c0
      rw [if_pos c0] at h
      have c1' : (czV p s u x).2 = 0 := c1
      rw [if_pos c1'] at h
      exact h
    rw [vals, List.all_append, ih h2, Bool.and_true]
    split
    · have := cz_fit (p := p) (s := s) (u := u) (h := x) c1
      simp [this]
    · rfl
theorem sm_err {l : List Int} (h : l.all fitB = true) : (sm l).2 = 0 ∨ sm l = (0, 3) := by
  unfold sm smV
  rw [if_pos h]
  split
  · exact .inl rfl
  · exact .inr rfl
theorem vals_len (p : S23) (s : S25) (u : Int) (a : ByteArray) (l : List S47) : (vals p s u a l).length ≤ l.length := by
  induction l with
  | nil => exact Nat.le_refl _
  | cons x r ih =>
    rw [vals, List.length_append, List.length_cons]
    split
    · rw [List.length_singleton]; omega
    · rw [List.length_nil]; omega
theorem rd_hd2 (l : List S47) (i : Nat) (h : i < l.length) : rd_T47 l (i : Int) = l[i] := by simp [rd_T47, h]
theorem fl2 (p : S23) (s : S25) (u : Int) (l : List S47) (hl : l.length ≤ 1024) (N : List ByteArray) (j : Nat) (hj : j < N.length) (t : List S58) (R : List S58 × Int) (n : Nat) : ∀ (i : Nat) (v : List Int), l.length - i = n → i ≤ l.length → v.length ≤ i →
    Ev (fun k => contangoref51_Flows.l2 k l (l.map (fun h => (czV p s u h).1)) N t (j : Int) (v ++ vals p s u N[j] (l.drop i)) (l.length : Int) p.f0 p.f1 p.f2 p.f3 p.f4 p.f5 p.f6) R →
    Ev (fun k => contangoref51_Flows.l2 k l (l.map (fun h => (czV p s u h).1)) N t (j : Int) v (i : Int) p.f0 p.f1 p.f2 p.f3 p.f4 p.f5 p.f6) R := by
  induction n with
  | zero =>
    intro i v hi hle hv h
    rw [show l.drop i = [] from List.drop_eq_nil_of_le (by omega), vals, List.append_nil] at h
    rwa [show (i : Int) = (l.length : Int) by omega]
  | succ n ih =>
    intro i v hi hle hv h
    have hlt : i < l.length := by omega
    rw [List.drop_eq_getElem_cons hlt, vals, ← List.append_assoc] at h
    have hrd : rd (l.map (fun h => (czV p s u h).1)) (i : Int) = (czV p s u l[i]).1 := by simp [rd, List.getD_eq_getElem?_getD, hlt]
    refine Ev.shift ?_
    simp only [contangoref51_Flows.l2, rd_hd2 l i hlt, rd_nm N j hj, succ_w i l.length hlt (by omega), hrd]
    refine Ev.pos (by omega) (Ev.pos (by omega) (Ev.pos (by omega) (Ev.pos (by omega) ?_)))
    by_cases c : l[i].f0.f0.toList = N[j].toList
    · rw [if_pos ((strQ_l _ _).mpr c)] at h
      exact Ev.pos c (Ev.pos (by rw [List.length_map]; omega) (Ev.pos (by omega) (ih (i + 1) _ (by omega) (by omega) (by rw [List.length_append, List.length_singleton]; omega) h)))
    · rw [if_neg (fun e => c ((strQ_l _ _).mp e)), List.append_nil] at h
      exact Ev.neg c (ih (i + 1) v (by omega) (by omega) (by omega) h)
theorem fl1 (p : S23) (s : S25) (u : Int) (l : List S47) (hl : l.length ≤ 1024) (hce : ceV p s u l = 0) (N : List ByteArray) (hN : N.length ≤ 1024) (n : Nat) : ∀ (j : Nat) (t : List S58), N.length - j = n → j ≤ N.length → t.length ≤ j →
    Ev (fun k => contangoref51_Flows.l1 k l (l.map (fun h => (czV p s u h).1)) N t (j : Int) p.f0 p.f1 p.f2 p.f3 p.f4 p.f5 p.f6) (eoV p.f1 (fun a => vals p s u a l) (N.drop j) t) := by
  induction n with
  | zero =>
    intro j t hj hle ht
    refine Ev.shift ?_
    simp only [contangoref51_Flows.l1]
    rw [show N.drop j = [] from List.drop_eq_nil_of_le (by omega), eoV]
    exact Ev.neg (by omega) (Ev.val _)
  | succ n ih =>
    intro j t hj hle ht
    have hlt : j < N.length := by omega
    refine Ev.shift ?_
    simp only [contangoref51_Flows.l1]
    refine Ev.pos (by omega) (fl2 p s u l hl N j hlt t _ l.length 0 [] (by omega) (by omega) (Nat.le_refl _) ?_)
    rw [List.nil_append, List.drop_zero, List.drop_eq_getElem_cons hlt, eoV]
    refine Ev.shift ?_
    simp only [contangoref51_Flows.l2, rd_nm N j hlt, succ_w j N.length hlt (by omega)]
    have hvl := vals_len p s u N[j] l
    refine Ev.neg (by omega) (Ev.bind (smr_ev _ (by omega)) ?_)
    rcases sm_err (vals_fit p s u N[j] l hce) with c0 | c0
    · rw [if_pos c0]
      refine Ev.pos c0 ?_
      by_cases c1 : (sm (vals p s u N[j] l)).1 = 0
      · rw [if_pos c1]
        exact Ev.pos c1 (ih (j + 1) t (by omega) (by omega) (by omega))
      · rw [if_neg c1]
        exact Ev.neg c1 (Ev.pos (by omega) (Ev.pos (by omega) (Ev.pos (by omega) (ih (j + 1) _ (by omega) (by omega) (by rw [List.length_append, List.length_singleton]; omega)))))
    · rw [c0]
      exact Ev.neg (by decide) (Ev.val _)
theorem fl0 (p : S23) (hsz : p.f0.size ≤ 9223372036854775806) (s : S25) (u : Int) (l : List S47) (hl : l.length ≤ 1024) (R : List S58 × Int) (n : Nat) : ∀ (i : Nat) (N : List ByteArray), l.length - i = n → i ≤ l.length → N.length ≤ i → SS N →
    (ceV p s u (l.drop i) = 0 → Ev (fun k => contangoref51_Flows.l1 k l (l.map (fun h => (czV p s u h).1)) (NLf N (nmH (l.drop i))) [] 0 p.f0 p.f1 p.f2 p.f3 p.f4 p.f5 p.f6) R) → (ceV p s u (l.drop i) ≠ 0 → R = ([], ceV p s u (l.drop i))) →
    Ev (fun k => contangoref51_Flows.l0 k l u ((l.take i).map (fun h => (czV p s u h).1)) N (i : Int) p.f0 p.f1 p.f2 p.f3 p.f4 p.f5 p.f6 s.f0 s.f1 s.f2 s.f3) R := by
  induction n with
  | zero =>
    intro i N hi hle hN hSS h h2
    rw [show l.drop i = [] from List.drop_eq_nil_of_le (by omega)] at h
    rw [show l.take i = l from List.take_of_length_le (by omega)]
    refine Ev.shift ?_
    simp only [contangoref51_Flows.l0]
    exact Ev.neg (by omega) (h rfl)
  | succ n ih =>
    intro i N hi hle hN hSS h h2
    have hlt : i < l.length := by omega
    rw [List.drop_eq_getElem_cons hlt, ceV] at h h2
    refine Ev.shift ?_
    simp only [contangoref51_Flows.l0, rd_hd2 l i hlt, succ_w i l.length hlt (by omega)]
    refine Ev.pos (by omega) (Ev.pos (by omega) (Ev.bind (posCr_ev _) ?_))
    by_cases c0 : posC l[i].f1 = 0
    case neg =>
      rw [if_neg c0] at h2
      rw [h2 c0]
      exact Ev.neg c0 (Ev.val _)
    rw [if_pos c0] at h h2
    have hpl : l[i].f1.length ≤ 128 := by
      unfold posC at c0
      by_cases c : l[i].f1.length > 128
      · rw [if_pos c] at c0; cases c0
      · omega
    refine Ev.pos c0 (Ev.bind (fdr_ev s _ (by omega)) (Ev.bind (csVr_ev p s (fdP s l[i].f1) u hsz) ?_))
    by_cases c1 : (czV p s u l[i]).2 = 0
    case neg =>
      rw [if_neg c1] at h2
      rw [h2 c1]
      exact Ev.neg c1 (Ev.val _)
    rw [if_pos c1] at h h2
    refine Ev.pos c1 (Ev.pos (by rw [List.length_map, List.length_take]; omega) (Ev.bind (with_ev l[i].f0.f0 N (by omega) hSS) ?_))
    have hq := insU_len l[i].f0.f0 N
    have := ih (i + 1) (insU l[i].f0.f0 N) (by omega) (by omega) (by omega) (insU_sorted _ _ hSS) h h2
    rw [List.take_succ_eq_append_getElem hlt, List.map_append] at this
    exact this
theorem efr_ev (p : S23) (hsz : p.f0.size ≤ 9223372036854775806) (s : S25) (u : Int) (l : List S47) : Ev (fun k => contangoref51_Flows.f k p.f0 p.f1 p.f2 p.f3 p.f4 p.f5 p.f6 l s.f0 s.f1 s.f2 s.f3 u) (efV p s u l) := by
  unfold efV
  simp only [contangoref51_Flows.f]
  by_cases hl : l.length > 1024
  · rw [if_pos hl]; exact Ev.pos (by omega) (Ev.val _)
  rw [if_neg hl]
  refine Ev.neg (by omega) (fl0 p hsz s u l (by omega) _ l.length 0 [] (by omega) (by omega) (Nat.le_refl _) List.Pairwise.nil (fun he => ?_) (fun he => ?_))
  · rw [List.drop_zero] at he ⊢
    rw [if_pos he]
    have hln := NLf_len (nmH l) []
    rw [nmH, List.length_map, List.length_nil, ← nmH] at hln
    have := fl1 p s u l (by omega) he (NLf [] (nmH l)) (by omega) (NLf [] (nmH l)).length 0 [] (by omega) (by omega) (Nat.le_refl _)
    rw [List.drop_zero] at this
    exact this
  · rw [List.drop_zero] at he ⊢
    rw [if_neg he]
/-- What lives on a day. -/
def lv (n : Int) (x : S27) : Bool := decide (x.f0.f2 ≥ n)
def drV (n : Int) : List S47 → List S47
  | [] => []
  | h :: r => if (h.f1.filter (lv n)).length = 0 then drV n r else ⟨h.f0, h.f1.filter (lv n)⟩ :: drV n r
theorem rd_ps (l : List S27) (i : Nat) (h : i < l.length) : rd_T27 l (i : Int) = l[i] := by simp [rd_T27, h]
theorem dp1 (n : Int) (t L : List S47) (i : Int) (h : S47) (hh : h.f1.length ≤ 2513169434915) (R : List S47) (m : Nat) : ∀ (j : Nat) (v : List S27), h.f1.length - j = m → j ≤ h.f1.length → v.length ≤ j →
    Ev (fun k => expiry_Drop.l1 k n t (v ++ (h.f1.drop j).filter (lv n)) L (L.length : Int) i h.f1 (h.f1.length : Int) (h.f1.length : Int) h.f0.f0 h.f0.f1 h.f1) R →
    Ev (fun k => expiry_Drop.l1 k n t v L (L.length : Int) i h.f1 (h.f1.length : Int) (j : Int) h.f0.f0 h.f0.f1 h.f1) R := by
  induction m with
  | zero =>
    intro j v hj hle hv hE
    rw [show h.f1.drop j = [] from List.drop_eq_nil_of_le (by omega), List.filter_nil, List.append_nil] at hE
    rwa [show (j : Int) = (h.f1.length : Int) by omega]
  | succ m ih =>
    intro j v hj hle hv hE
    have hlt : j < h.f1.length := by omega
    rw [List.drop_eq_getElem_cons hlt] at hE
    refine Ev.shift ?_
    simp only [expiry_Drop.l1, rd_ps h.f1 j hlt, succ_w j h.f1.length hlt (by omega), series_Live.f, Option.bind_some]
    refine Ev.pos (by omega) (Ev.pos (by omega) (Ev.pos (by omega) ?_))
    by_cases c : lv n h.f1[j] = true
    · rw [List.filter_cons_of_pos c, List.append_cons] at hE
      exact Ev.pos c (Ev.pos (by omega) (ih (j + 1) _ (by omega) (by omega) (by rw [List.length_append, List.length_singleton]; omega) hE))
    · rw [List.filter_cons_of_neg c] at hE
      exact Ev.neg c (ih (j + 1) v (by omega) (by omega) (by omega) hE)
theorem dp0 (n : Int) (L : List S47) (hL : L.length ≤ 2513169434915) (hp : ∀ h ∈ L, h.f1.length ≤ 2513169434915) (m : Nat) : ∀ (i : Nat) (t : List S47), L.length - i = m → i ≤ L.length → t.length ≤ i →
    Ev (fun k => expiry_Drop.l0 k n t L (L.length : Int) (i : Int)) (t ++ drV n (L.drop i)) := by
  induction m with
  | zero =>
    intro i t hi hle ht
    refine Ev.shift ?_
    simp only [expiry_Drop.l0]
    rw [show L.drop i = [] from List.drop_eq_nil_of_le (by omega), drV, List.append_nil]
    exact Ev.neg (by omega) (Ev.val _)
  | succ m ih =>
    intro i t hi hle ht
    have hlt : i < L.length := by omega
    have hpl := hp L[i] (List.getElem_mem hlt)
    refine Ev.shift ?_
    simp only [expiry_Drop.l0, rd_hd2 L i hlt]
    rw [List.drop_eq_getElem_cons hlt, drV]
    refine Ev.pos (by omega) (Ev.pos (by omega) (Ev.pos (by omega) ?_))
    refine dp1 n t L (i : Int) L[i] hpl _ L[i].f1.length 0 [] (by omega) (by omega) (Nat.le_refl _) ?_
    rw [List.nil_append, List.drop_zero]
    refine Ev.shift ?_
    simp only [expiry_Drop.l1, succ_w i L.length hlt (by omega)]
    refine Ev.neg (by omega) ?_
    by_cases c : (L[i].f1.filter (lv n)).length = 0
    · rw [if_pos c]
      exact Ev.neg (by omega) (ih (i + 1) t (by omega) (by omega) (by omega))
    · rw [if_neg c]
      have h3 := ih (i + 1) (t ++ [⟨L[i].f0, L[i].f1.filter (lv n)⟩]) (by omega) (by omega) (by rw [List.length_append, List.length_singleton]; omega)
      rw [List.append_assoc] at h3
      exact Ev.pos (by omega) (Ev.pos (by omega) h3)
theorem dr1 (n : Int) (t L : List S47) (hL : L.length ≤ 2513169434915) (i : Nat) (hi : i < L.length) (hh : L[i].f1.length ≤ 2513169434915) (R : List S47) (m : Nat) : ∀ (j : Nat) (v : List S27), L[i].f1.length - j = m → j ≤ L[i].f1.length → v.length ≤ j →
    Ev (fun k => contangoref51_Drop.l1 k L n t (i : Int) (L[i].f1.length : Int) L[i].f0.f0 L[i].f0.f1 (v ++ (L[i].f1.drop j).filter (lv n))) R →
    Ev (fun k => contangoref51_Drop.l1 k L n t (i : Int) (j : Int) L[i].f0.f0 L[i].f0.f1 v) R := by
  induction m with
  | zero =>
    intro j v hj hle hv hE
    rw [show L[i].f1.drop j = [] from List.drop_eq_nil_of_le (by omega), List.filter_nil, List.append_nil] at hE
    rwa [show (j : Int) = (L[i].f1.length : Int) by omega]
  | succ m ih =>
    intro j v hj hle hv hE
    have hlt : j < L[i].f1.length := by omega
    rw [List.drop_eq_getElem_cons hlt] at hE
    refine Ev.shift ?_
    simp only [contangoref51_Drop.l1, rd_hd2 L i hi, rd_ps L[i].f1 j hlt, succ_w j L[i].f1.length hlt (by omega), contangoref10_Live.f, Option.bind_some]
    refine Ev.pos (by omega) (Ev.pos (by omega) (Ev.pos (by omega) (Ev.pos (by omega) ?_)))
    by_cases c : lv n L[i].f1[j] = true
    · rw [List.filter_cons_of_pos c, List.append_cons] at hE
      exact Ev.pos c (Ev.pos (by omega) (ih (j + 1) _ (by omega) (by omega) (by rw [List.length_append, List.length_singleton]; omega) hE))
    · rw [List.filter_cons_of_neg c] at hE
      exact Ev.neg c (ih (j + 1) v (by omega) (by omega) (by omega) hE)
theorem dr0 (n : Int) (L : List S47) (hL : L.length ≤ 2513169434915) (hp : ∀ h ∈ L, h.f1.length ≤ 2513169434915) (m : Nat) : ∀ (i : Nat) (t : List S47), L.length - i = m → i ≤ L.length → t.length ≤ i →
    Ev (fun k => contangoref51_Drop.l0 k L n t (i : Int)) (t ++ drV n (L.drop i)) := by
  induction m with
  | zero =>
    intro i t hi hle ht
    refine Ev.shift ?_
    simp only [contangoref51_Drop.l0]
    rw [show L.drop i = [] from List.drop_eq_nil_of_le (by omega), drV, List.append_nil]
    exact Ev.neg (by omega) (Ev.val _)
  | succ m ih =>
    intro i t hi hle ht
    have hlt : i < L.length := by omega
    have hpl := hp L[i] (List.getElem_mem hlt)
    refine Ev.shift ?_
    simp only [contangoref51_Drop.l0, rd_hd2 L i hlt]
    rw [List.drop_eq_getElem_cons hlt, drV]
    refine Ev.pos (by omega) (Ev.pos (by omega) ?_)
    refine dr1 n t L hL i hlt hpl _ L[i].f1.length 0 [] (by omega) (by omega) (Nat.le_refl _) ?_
    rw [List.nil_append, List.drop_zero]
    refine Ev.shift ?_
    simp only [contangoref51_Drop.l1, rd_hd2 L i hlt, succ_w i L.length hlt (by omega)]
    refine Ev.pos (by omega) (Ev.pos (by omega) (Ev.neg (by omega) ?_))
    by_cases c : (L[i].f1.filter (lv n)).length = 0
    · rw [if_pos c]
      exact Ev.neg (by omega) (ih (i + 1) t (by omega) (by omega) (by omega))
    · rw [if_neg c]
      have h3 := ih (i + 1) (t ++ [⟨L[i].f0, L[i].f1.filter (lv n)⟩]) (by omega) (by omega) (by rw [List.length_append, List.length_singleton]; omega)
      rw [List.append_assoc] at h3
      exact Ev.pos (by omega) (Ev.pos (by omega) h3)
theorem same51L (l : List S58) (hl : l.length ≤ 100000) (n : Nat) : ∀ i : Nat, l.length - i = n → i ≤ l.length → Ev (fun k => contangoref51_Same.l0 k l l (i : Int)) true := by
  induction n with
  | zero =>
    intro i hi hle
    refine Ev.shift ?_
    simp only [contangoref51_Same.l0]
    refine Ev.neg (by omega) (Ev.shift ?_)
    simp only [contangoref51_Same.j1]
    exact Ev.neg (by decide) (Ev.valOf (by simp))
  | succ n ih =>
    intro i hi hle
    have hlt : i < l.length := by omega
    refine Ev.shift ?_
    simp only [contangoref51_Same.l0]
    refine Ev.pos (by omega) (Ev.shift ?_)
    rw [show decide ((i : Int) < (l.length : Int)) = true from decide_eq_true (by omega)]
    simp only [contangoref51_Same.j1, succ_w i l.length hlt (by omega)]
    exact Ev.pos trivial (Ev.pos (by omega) (Ev.pos (by omega) (Ev.pos (by omega) (Ev.pos (by simp [eqD58]) (ih (i + 1) (by omega) (by omega))))))
theorem psame15 (l : List S27) (hl : l.length ≤ 2513169434915) (n : Nat) : ∀ i : Nat, l.length - i = n → i ≤ l.length → Ev (fun k => contangoref15_Same.l0 k l l (i : Int)) true := by
  induction n with
  | zero =>
    intro i hi hle
    refine Ev.shift ?_
    simp only [contangoref15_Same.l0]
    refine Ev.neg (by omega) (Ev.shift ?_)
    simp only [contangoref15_Same.j1]
    exact Ev.neg (by decide) (Ev.valOf (by simp))
  | succ n ih =>
    intro i hi hle
    have hlt : i < l.length := by omega
    refine Ev.shift ?_
    simp only [contangoref15_Same.l0]
    refine Ev.pos (by omega) (Ev.shift ?_)
    rw [show decide ((i : Int) < (l.length : Int)) = true from decide_eq_true (by omega)]
    simp only [contangoref15_Same.j1, succ_w i l.length hlt (by omega)]
    exact Ev.pos trivial (Ev.pos (by omega) (Ev.pos (by omega) (Ev.pos (by omega) (Ev.pos (by simp [eqD27]) (ih (i + 1) (by omega) (by omega))))))
theorem hsame51L (l : List S47) (hl : l.length ≤ 2513169434915) (hp : ∀ h ∈ l, h.f1.length ≤ 2513169434915) (n : Nat) : ∀ i : Nat, l.length - i = n → i ≤ l.length → Ev (fun k => contangoref51_Holdings.l0 k l l (i : Int)) true := by
  induction n with
  | zero =>
    intro i hi hle
    refine Ev.shift ?_
    simp only [contangoref51_Holdings.l0]
    refine Ev.neg (by omega) (Ev.shift ?_)
    simp only [contangoref51_Holdings.j1]
    exact Ev.neg (by decide) (Ev.valOf (by simp))
  | succ n ih =>
    intro i hi hle
    have hlt : i < l.length := by omega
    have hpl := hp l[i] (List.getElem_mem hlt)
    refine Ev.shift ?_
    simp only [contangoref51_Holdings.l0]
    refine Ev.pos (by omega) (Ev.shift ?_)
    rw [show decide ((i : Int) < (l.length : Int)) = true from decide_eq_true (by omega)]
    simp only [contangoref51_Holdings.j1, succ_w i l.length hlt (by omega), rd_hd2 l i hlt]
    refine Ev.pos trivial (Ev.pos (by omega) (Ev.pos (by omega) (Ev.pos (by omega) (Ev.pos (by simp [eqD44]) ?_))))
    exact Ev.bind (by simp only [contangoref15_Same.f]; exact psame15 l[i].f1 hpl l[i].f1.length 0 (by omega) (by omega)) (Ev.pos rfl (ih (i + 1) (by omega) (by omega)))
theorem drV_ok (n : Int) (l : List S47) (hp : ∀ h ∈ l, h.f1.length ≤ 2513169434915) : (drV n l).length ≤ l.length ∧ ∀ h ∈ drV n l, h.f1.length ≤ 2513169434915 := by
  induction l with
  | nil => exact ⟨Nat.le_refl _, fun h hh => by cases hh⟩
  | cons x r ih =>
    obtain ⟨i1, i2⟩ := ih (fun h hh => hp h (List.mem_cons_of_mem _ hh))
    rw [drV, List.length_cons]
    split
    · exact ⟨by omega, i2⟩
    · refine ⟨by rw [List.length_cons]; omega, fun h hh => ?_⟩
      rcases List.mem_cons.mp hh with e | hh
      · rw [e]
        exact Nat.le_trans (List.length_filter_le _ _) (hp x List.mem_cons_self)
      · exact i2 h hh
theorem eoV_len (cur : Int) (g : ByteArray → List Int) (l : List ByteArray) : ∀ t, (eoV cur g l t).1.length ≤ t.length + l.length := by
  induction l with
  | nil => intro t; exact Nat.le_refl _
  | cons s r ih =>
    intro t
    rw [eoV, List.length_cons]
    split
    · split
      · have := ih t; omega
      · have := ih (t ++ [⟨s, cur, (sm (g s)).1, 3⟩])
        rw [List.length_append, List.length_singleton] at this
        omega
    · exact Nat.zero_le _
theorem efV_len (p : S23) (s : S25) (u : Int) (l : List S47) : (efV p s u l).1.length ≤ 1024 := by
  unfold efV
  split
  · exact Nat.zero_le _
  · split
    · have h1 := eoV_len p.f1 (fun a => vals p s u a l) (NLf [] (nmH l)) []
      have h2 := NLf_len (nmH l) []
      rw [nmH, List.length_map, List.length_nil, ← nmH] at h2
      rw [List.length_nil] at h1
      omega
    · exact Nat.zero_le _
theorem goes_true : contangolaw51_goes.f 200 = some true := by decide +kernel
theorem goes_ev : Ev (fun k => contangolaw51_goes.f k) true := Ev.of goes_true (fun k => contangolaw51_goes.mono k)
theorem ExpiryFlows : contangolaw51_ExpiryFlows.Said := by
  intro p l x _ ol _ hp hl _
  refine Ev.get ?_
  have hsz : p.f0.size ≤ 9223372036854775806 := by have := hp.1; omega
  have hlen : l.length ≤ 2513169434915 := by have := hl.1; omega
  have hpos : ∀ h ∈ l, h.f1.length ≤ 2513169434915 := fun h hh => by have := (hl.2 h hh).2.1; omega
  have hnm : ∀ h ∈ l, h.f0.f0.size ≤ 9223372036854775807 := fun h hh => (ol.2 h hh).1.1
  simp only [contangolaw51_ExpiryFlows.f]
  have hf : contangolaw51_few.f l = some (if (l.length : Int) ≤ 40 then true else decide ((l.length : Int) > 1024)) := by
    unfold contangolaw51_few.f
    split <;> rfl
  rw [hf]
  simp only [Option.bind_some]
  generalize (if (l.length : Int) ≤ 40 then true else decide ((l.length : Int) > 1024)) = b
  by_cases c : b = true
  · refine Ev.pos c ?_
    have hn := efV_len p x.f0 x.f1 l
    have hd := drV_ok x.f2 l hpos
    refine Ev.bind (ef_ev p x.f0 x.f1 l hnm) (Ev.bind (efr_ev p hsz x.f0 x.f1 l) (Ev.bind (by simp only [contangoref51_Same.f]; exact same51L (efV p x.f0 x.f1 l).1 (by omega) (efV p x.f0 x.f1 l).1.length 0 (by omega) (by omega)) (Ev.pos rfl (Ev.pos rfl ?_))))
    have h1 := dp0 x.f2 l hlen hpos l.length 0 [] (by omega) (by omega) (Nat.le_refl _)
    have h2 := dr0 x.f2 l hlen hpos l.length 0 [] (by omega) (by omega) (Nat.le_refl _)
    rw [List.drop_zero, List.nil_append] at h1 h2
    refine Ev.bind (by simp only [expiry_Drop.f]; exact h1) (Ev.bind (by simp only [contangoref51_Drop.f]; exact h2) (Ev.bind (by simp only [contangoref51_Holdings.f]; exact hsame51L (drV x.f2 l) (by omega) hd.2 (drV x.f2 l).length 0 (by omega) (by omega)) (Ev.pos rfl (Ev.bind goes_ev (Ev.val _)))))
  · exact Ev.neg c (Ev.bind goes_ev (Ev.val _))
end Go.Proofs.Ytoejllkjhaeeeaa.Pure
