/- What an account gets for a position that ends is what the document says: the law, as a statement over numbers and lists. -/
import Derived.Test.YtoejllkjhaeeeaaArgExpiryCash
namespace Go.Proofs.Ytoejllkjhaeeeaa.Pure
set_option linter.unusedSimpArgs false
set_option linter.unusedVariables false
open Go.RowKit Go.Proofs.Ytoejllkjhaeeeaa.PExpiryCash Go.Proofs.Ytoejllkjhaeeeaa.Opens Go.Proofs.YtoejllkjhaeeeaaW.PrintWords Go.Proofs.YtoejllkjhaeeeaaW.PrintLast
/-- Comes to r, at all large numbers of rounds. -/
def Ev {α : Type} (g : Nat → Option α) (r : α) : Prop := ∃ K, ∀ k, K ≤ k → g k = some r
theorem Ev.shift {α : Type} {g : Nat → Option α} {r : α} (h : Ev (fun k => g (k + 1)) r) : Ev g r := by
  obtain ⟨K, h⟩ := h
  refine ⟨K + 1, fun k hk => ?_⟩
  obtain ⟨m, rfl⟩ : ∃ m, k = m + 1 := ⟨k - 1, by omega⟩
  exact h m (by omega)
theorem Ev.val {α : Type} (r : α) : Ev (fun _ => some r) r := ⟨0, fun _ _ => rfl⟩
theorem Ev.bind {α β : Type} {g : Nat → Option α} {f : Nat → α → Option β} {x : α} {r : β} (h : Ev g x) (h' : Ev (fun k => f k x) r) : Ev (fun k => (g k).bind (f k)) r := by
  obtain ⟨K, h⟩ := h
  obtain ⟨K', h'⟩ := h'
  exact ⟨max K K', fun k hk => by show (g k).bind (f k) = some r; rw [h k (by omega)]; exact h' k (by omega)⟩
theorem Ev.get {α : Type} {g : Nat → Option α} {r : α} (h : Ev g r) : ∃ k, g k = some r := by
  obtain ⟨K, h⟩ := h
  exact ⟨K, h K (Nat.le_refl _)⟩
theorem Ev.of {α : Type} {g : Nat → Option α} {r : α} {k0 : Nat} (h : g k0 = some r) (hm : ∀ k, LeO (g k) (g (k + 1))) : Ev g r := ⟨k0, fun _ hk => at_rounds hm hk h⟩
theorem Ev.pos {α : Type} {c : Prop} [Decidable c] {a b : Nat → Option α} {r : α} (hc : c) (h : Ev a r) : Ev (fun k => if c then a k else b k) r := by
  obtain ⟨K, h⟩ := h
  exact ⟨K, fun k hk => by show (if c then a k else b k) = some r; rw [if_pos hc]; exact h k hk⟩
theorem Ev.neg {α : Type} {c : Prop} [Decidable c] {a b : Nat → Option α} {r : α} (hc : ¬ c) (h : Ev b r) : Ev (fun k => if c then a k else b k) r := by
  obtain ⟨K, h⟩ := h
  exact ⟨K, fun k hk => by show (if c then a k else b k) = some r; rw [if_neg hc]; exact h k hk⟩
/-- Both ways, each where it is taken. -/
theorem Ev.ite {α : Type} {c : Prop} [Decidable c] {a b : Nat → Option α} {r : α} (h : c → Ev a r) (h' : ¬ c → Ev b r) : Ev (fun k => if c then a k else b k) r := by
  by_cases hc : c
  · exact Ev.pos hc (h hc)
  · exact Ev.neg hc (h' hc)
theorem wrap_small {n : Int} (h0 : -9223372036854775808 ≤ n) (h1 : n ≤ 9223372036854775807) : wrap64 n = n := by unfold wrap64; omega
/-- Both ways, each with its own end. -/
theorem Ev.both {α : Type} {c : Prop} [Decidable c] {a b : Nat → Option α} {r s : α} (h : c → Ev a r) (h' : ¬ c → Ev b s) : Ev (fun k => if c then a k else b k) (if c then r else s) := by
  by_cases hc : c
  · rw [if_pos hc]; exact Ev.pos hc (h hc)
  · rw [if_neg hc]; exact Ev.neg hc (h' hc)
theorem Ev.valOf {α : Type} {r s : α} (h : s = r) : Ev (fun _ => some r) s := by subst h; exact Ev.val _
def letB (c : Int) : Bool := decide (97 ≤ c) && decide (c ≤ 122)
def digB (c : Int) : Bool := decide (48 ≤ c) && decide (c ≤ 57)
/-- From place i on, d letters or digits. -/
def restB (s : ByteArray) : Nat → Nat → Bool
  | 0, _ => true
  | d + 1, i => (letB (bt s i) || digB (bt s i)) && restB s d (i + 1)
/-- Is a text a name? -/
def nameB (s : ByteArray) : Bool := decide (0 < s.size) && decide (s.size ≤ 12) && letB (bt s 0) && restB s s.size 0
theorem letter_some (c : Int) : words_letter.f c = some (letB c) := by
  unfold words_letter.f letB
  split <;> rename_i h <;> simp [h]
theorem digit_some (c : Int) : words_digit.f c = some (digB c) := by
  unfold words_digit.f digB
  split <;> rename_i h <;> simp [h]
theorem toList_nil (s : ByteArray) : s.toList = [] ↔ s.size = 0 := by
  rw [ByteArray.toList_eq]
  constructor
  · intro h
    have := congrArg List.length h
    simpa using this
  · intro h
    apply List.eq_nil_of_length_eq_zero
    simpa using h
theorem words_Name_loop (s : ByteArray) (hs : s.size ≤ 12) (d : Nat) : ∀ (k i : Nat), s.size - i = d → i ≤ s.size → d < k → words_Name.l0 k s (s.size : Int) i = some (restB s d i) := by
  induction d with
  | zero =>
    intro k i hd hi hk
    obtain ⟨k, rfl⟩ : ∃ m, k = m + 1 := ⟨k - 1, by omega⟩
    simp only [words_Name.l0]
    rw [if_neg (by omega)]
    rfl
  | succ d ih =>
    intro k i hd hi hk
    obtain ⟨k, rfl⟩ : ∃ m, k = m + 1 := ⟨k - 1, by omega⟩
    have hw : wrap64 ((i : Int) + 1) = ((i + 1 : Nat) : Int) := by unfold wrap64; omega
    simp only [words_Name.l0]
    rw [if_pos (by omega), if_pos (by omega), if_pos (by omega), letter_some, digit_some, hw, ih k (i + 1) (by omega) (by omega) (by omega)]
    simp only [Option.bind_some, restB]
    cases letB (bt s i) <;> cases digB (bt s i) <;> simp
theorem words_Name_some (s : ByteArray) : words_Name.f 20 s = some (nameB s) := by
  unfold words_Name.f nameB
  by_cases h0 : s.size = 0
  · rw [if_pos ((toList_nil s).mpr h0)]
    simp [words_Name.j0, h0]
  · rw [if_neg (fun h => h0 ((toList_nil s).mp h))]
    by_cases h1 : (s.size : Int) > 12
    · rw [if_pos h1]
      have : ¬ s.size ≤ 12 := by omega
      simp [words_Name.j0, this]
    · rw [if_neg h1, if_pos (by omega), letter_some]
      have h2 : s.size ≤ 12 := by omega
      have h3 : 0 < s.size := by omega
      simp only [Option.bind_some, h2, h3, decide_true, Bool.true_and]
      have hl := words_Name_loop s h2 s.size 19 0 (by omega) (by omega) (by omega)
      cases letB (bt s 0)
      · simp [words_Name.j0]
      · simp only [words_Name.j0, Bool.not_true, Bool.false_eq_true, if_false]
        rw [Bool.true_and]
        exact hl
theorem refName_loop (s : ByteArray) (hs : s.size ≤ 9223372036854775806) (d : Nat) : ∀ i : Nat, 1 ≤ i → s.size - i = d → i ≤ s.size → Ev (fun k => contangoref03_Name.l0 k s i) (restB s d i && decide (0 < s.size) && decide (s.size ≤ 12)) := by
  induction d with
  | zero =>
    intro i h1 hd hi
    refine Ev.shift ?_
    simp only [contangoref03_Name.l0]
    refine Ev.neg (by omega) (Ev.pos (by omega) ?_)
    have e1 : decide ((s.size : Int) ≤ 12) = decide (s.size ≤ 12) := decide_eq_decide.mpr (by omega)
    have e2 : decide (0 < s.size) = true := decide_eq_true (by omega)
    rw [e1, e2]
    exact Ev.val _
  | succ d ih =>
    intro i h1 hd hi
    refine Ev.shift ?_
    simp only [contangoref03_Name.l0]
    have hw : wrap64 ((i : Int) + 1) = ((i + 1 : Nat) : Int) := by unfold wrap64; omega
    have h := ih (i + 1) (by omega) (by omega) (by omega)
    rw [hw]
    refine Ev.pos (by omega) (Ev.pos (by omega) ?_)
    simp only [restB, letB, digB]
    by_cases c1 : 97 ≤ bt s i
    · by_cases c2 : bt s i ≤ 122
      · simpa [c1, c2] using h
      · have c3 : ¬ bt s i < 48 := by omega
        have c4 : 57 < bt s i := by omega
        have c5 : ¬ bt s i ≤ 57 := by omega
        have c6 : ¬ (i : Int) = 0 := by omega
        simp only [c1, c2, c3, c4, c5, c6, ge_iff_le, gt_iff_lt, if_true, if_false, decide_true, decide_false, Bool.and_false, Bool.or_false, Bool.false_and]
        exact Ev.val _
    · by_cases c3 : bt s i < 48
      · have c6 : ¬ (i : Int) = 0 := by omega
        have c7 : ¬ 48 ≤ bt s i := by omega
        simp only [c1, c3, c6, c7, ge_iff_le, gt_iff_lt, if_true, if_false, decide_false, Bool.false_and, Bool.or_false]
        exact Ev.val _
      · have c6 : ¬ (i : Int) = 0 := by omega
        have c7 : 48 ≤ bt s i := by omega
        by_cases c4 : 57 < bt s i
        · have c5 : ¬ bt s i ≤ 57 := by omega
          simp only [c1, c3, c4, c5, c6, c7, ge_iff_le, gt_iff_lt, if_true, if_false, decide_true, decide_false, Bool.and_false, Bool.false_and, Bool.or_false]
          exact Ev.val _
        · have c5 : bt s i ≤ 57 := by omega
          simp only [c1, c3, c4, c5, c6, c7, ge_iff_le, gt_iff_lt, if_true, if_false, decide_true, decide_false, Bool.and_true, Bool.false_and, Bool.true_and, Bool.false_or]
          exact h
/-- What the document says of a name is what the code says. -/
theorem refName (s : ByteArray) (hs : s.size ≤ 9223372036854775806) : Ev (fun k => contangoref03_Name.f k s) (nameB s) := by
  simp only [contangoref03_Name.f]
  refine Ev.shift ?_
  simp only [contangoref03_Name.l0]
  by_cases h0 : s.size = 0
  · refine Ev.neg (by omega) (Ev.neg (by omega) ?_)
    have : nameB s = false := by simp [nameB, h0]
    rw [this]
    exact Ev.val _
  · have hw : wrap64 ((0 : Int) + 1) = ((1 : Nat) : Int) := by unfold wrap64; omega
    have h := refName_loop s hs (s.size - 1) 1 (by omega) (by omega) (by omega)
    refine Ev.pos (by omega) (Ev.pos (by omega) ?_)
    rw [hw]
    have hd : decide (0 < s.size) = true := decide_eq_true (by omega)
    obtain ⟨d, hdd⟩ : ∃ d, s.size = d + 1 := ⟨s.size - 1, by omega⟩
    have hn : nameB s = (letB (bt s 0) && (restB s (s.size - 1) 1 && decide (0 < s.size) && decide (s.size ≤ 12))) := by
      rw [hd]
      simp only [nameB, hd]
      rw [show restB s s.size 0 = ((letB (bt s 0) || digB (bt s 0)) && restB s (s.size - 1) 1) from by rw [hdd]; rfl]
      cases letB (bt s 0) <;> cases decide (s.size ≤ 12) <;> cases restB s (s.size - 1) 1 <;> simp
    rw [hn]
    simp only [letB]
    by_cases c1 : 97 ≤ bt s 0
    · by_cases c2 : bt s 0 ≤ 122
      · simp only [c1, c2, ge_iff_le, if_true, decide_true, Bool.true_and]
        exact h
      · simp only [c1, c2, ge_iff_le, if_true, if_false, decide_true, decide_false, Bool.and_false, Bool.false_and]
        exact Ev.val _
    · simp only [c1, ge_iff_le, if_true, if_false, decide_false, Bool.false_and]
      exact Ev.val _
/-- What is amiss with a product. -/
def prC (p : S23) : Int :=
  if nameB p.f0 = true then (if 0 ≤ p.f1 ∧ p.f1 ≤ 7 then (if 1 ≤ p.f2 ∧ p.f2 ≤ 4096 then (if 1 ≤ p.f3 ∧ p.f3 ≤ 16777216 then (if -16777216 ≤ p.f4 ∧ p.f4 ≤ 16777216 ∧ -16777216 ≤ p.f5 ∧ p.f5 ≤ 16777216 ∧ p.f4 ≤ p.f5 ∧ Int.tmod p.f4 p.f3 = 0 ∧ Int.tmod p.f5 p.f3 = 0 then 0 else 17) else 16) else 2) else 25) else 10
theorem within_some (n m : Int) (h0 : 0 ≤ m) (h1 : m ≤ 1000000000) : product_within.f n m = some (decide (-m ≤ n ∧ n ≤ m)) := by
  unfold product_within.f
  have hw : wrap64 (-m) = -m := by unfold wrap64; omega
  rw [hw]
  by_cases h : n ≥ -m
  · rw [if_pos h]
    congr 1
    exact decide_eq_decide.mpr ⟨fun h2 => ⟨h, h2⟩, fun h2 => h2.2⟩
  · rw [if_neg h]
    congr 1
    exact (decide_eq_false (by omega)).symm
theorem nameB_nil : nameB (⟨#[]⟩ : ByteArray) = false := by decide
theorem prC_ev (p : S23) : Ev (fun k => product_Check.f k p.f0 p.f1 p.f2 p.f3 p.f4 p.f5 p.f6) (prC p) := by
  have h3 : Ev (fun k => product_Check.j3 k (if p.f3 < 1 then true else decide (p.f3 > 16777216)) p.f0 p.f1 p.f2 p.f3 p.f4 p.f5 p.f6) (if 1 ≤ p.f3 ∧ p.f3 ≤ 16777216 then (if -16777216 ≤ p.f4 ∧ p.f4 ≤ 16777216 ∧ -16777216 ≤ p.f5 ∧ p.f5 ≤ 16777216 ∧ p.f4 ≤ p.f5 ∧ Int.tmod p.f4 p.f3 = 0 ∧ Int.tmod p.f5 p.f3 = 0 then 0 else 17) else 16) := by
    refine Ev.shift ?_
    simp only [product_Check.j3, within_some _ 16777216 (by omega) (by omega), Option.bind_some, decide_eq_true_eq]
    by_cases c : 1 ≤ p.f3 ∧ p.f3 ≤ 16777216
    · rw [if_pos c, if_neg (by omega : ¬ p.f3 < 1), decide_eq_false (by omega : ¬ p.f3 > 16777216)]
      refine Ev.neg (by decide) ?_
      by_cases hG : -16777216 ≤ p.f4 ∧ p.f4 ≤ 16777216 ∧ -16777216 ≤ p.f5 ∧ p.f5 ≤ 16777216 ∧ p.f4 ≤ p.f5 ∧ Int.tmod p.f4 p.f3 = 0 ∧ Int.tmod p.f5 p.f3 = 0
      · rw [if_pos hG]
        obtain ⟨g1, g2, g3, g4, g5, g6, g7⟩ := hG
        exact Ev.pos ⟨g1, g2⟩ (Ev.pos ⟨g3, g4⟩ (Ev.neg (by omega) (Ev.neg (by omega) (Ev.pos g6 (Ev.pos g7 (Ev.val _))))))
      · rw [if_neg hG]
        refine Ev.ite (fun c1 => Ev.ite (fun c2 => Ev.ite (fun c3 => Ev.val _) (fun c3 => Ev.neg (by omega) (Ev.ite (fun c4 => Ev.neg (fun c5 => ?_) (Ev.val _)) (fun c4 => Ev.val _)))) (fun c2 => Ev.val _)) (fun c1 => Ev.val _)
        exact hG ⟨c1.1, c1.2, c2.1, c2.2, by omega, c4, c5⟩
    · rw [if_neg c]
      have e : (if p.f3 < 1 then true else decide (p.f3 > 16777216)) = true := by
        split
        · rfl
        · exact decide_eq_true (by omega)
      rw [e]
      exact Ev.pos rfl (Ev.val _)
  have h2 : Ev (fun k => product_Check.j2 k (if p.f2 < 1 then true else decide (p.f2 > 4096)) p.f0 p.f1 p.f2 p.f3 p.f4 p.f5 p.f6) (if 1 ≤ p.f2 ∧ p.f2 ≤ 4096 then (if 1 ≤ p.f3 ∧ p.f3 ≤ 16777216 then (if -16777216 ≤ p.f4 ∧ p.f4 ≤ 16777216 ∧ -16777216 ≤ p.f5 ∧ p.f5 ≤ 16777216 ∧ p.f4 ≤ p.f5 ∧ Int.tmod p.f4 p.f3 = 0 ∧ Int.tmod p.f5 p.f3 = 0 then 0 else 17) else 16) else 2) := by
    refine Ev.shift ?_
    simp only [product_Check.j2]
    by_cases c : 1 ≤ p.f2 ∧ p.f2 ≤ 4096
    · rw [if_pos c, if_neg (by omega : ¬ p.f2 < 1), decide_eq_false (by omega : ¬ p.f2 > 4096)]
      refine Ev.neg (by decide) (Ev.ite (fun h => ?_) (fun h => ?_))
      · rw [if_pos h] at h3; exact h3
      · rw [if_neg h] at h3; exact h3
    · rw [if_neg c]
      have e : (if p.f2 < 1 then true else decide (p.f2 > 4096)) = true := by
        split
        · rfl
        · exact decide_eq_true (by omega)
      rw [e]
      exact Ev.pos rfl (Ev.val _)
  have h1 : Ev (fun k => product_Check.j1 k (if p.f1 < 0 then true else decide (p.f1 ≥ 8)) p.f0 p.f1 p.f2 p.f3 p.f4 p.f5 p.f6) (if 0 ≤ p.f1 ∧ p.f1 ≤ 7 then (if 1 ≤ p.f2 ∧ p.f2 ≤ 4096 then (if 1 ≤ p.f3 ∧ p.f3 ≤ 16777216 then (if -16777216 ≤ p.f4 ∧ p.f4 ≤ 16777216 ∧ -16777216 ≤ p.f5 ∧ p.f5 ≤ 16777216 ∧ p.f4 ≤ p.f5 ∧ Int.tmod p.f4 p.f3 = 0 ∧ Int.tmod p.f5 p.f3 = 0 then 0 else 17) else 16) else 2) else 25) := by
    refine Ev.shift ?_
    simp only [product_Check.j1]
    by_cases c : 0 ≤ p.f1 ∧ p.f1 ≤ 7
    · rw [if_pos c, if_neg (by omega : ¬ p.f1 < 0), decide_eq_false (by omega : ¬ p.f1 ≥ 8)]
      refine Ev.neg (by decide) (Ev.ite (fun h => ?_) (fun h => ?_))
      · rw [if_pos h] at h2; exact h2
      · rw [if_neg h] at h2; exact h2
    · rw [if_neg c]
      have e : (if p.f1 < 0 then true else decide (p.f1 ≥ 8)) = true := by
        split
        · rfl
        · exact decide_eq_true (by omega)
      rw [e]
      exact Ev.pos rfl (Ev.val _)
  have h0 : Ev (fun k => product_Check.j0 k (!nameB p.f0) p.f0 p.f1 p.f2 p.f3 p.f4 p.f5 p.f6) (prC p) := by
    refine Ev.shift ?_
    simp only [product_Check.j0]
    unfold prC
    cases nameB p.f0 with
    | false => exact Ev.pos rfl (Ev.val _)
    | true =>
      rw [if_pos rfl]
      refine Ev.neg (by decide) (Ev.ite (fun h => ?_) (fun h => ?_))
      · rw [if_pos h] at h1; exact h1
      · rw [if_neg h] at h1; exact h1
  simp only [product_Check.f]
  refine Ev.ite (fun h => ?_) (fun _ => Ev.bind (Ev.of (words_Name_some p.f0) (fun k => words_Name.mono _ k)) h0)
  have hn : nameB p.f0 = false := by
    unfold eqD23 at h
    simp only [Bool.and_eq_true, beq_iff_eq] at h
    have hs : p.f0.size = 0 := (toList_nil p.f0).mp (h.1.trans ((toList_nil _).mpr rfl))
    simp [nameB, hs]
  rw [hn] at h0
  exact h0
theorem mul_within {a b A B : Int} (h1 : -A ≤ a) (h2 : a ≤ A) (h3 : -B ≤ b) (h4 : b ≤ B) : -(A * B) ≤ a * b ∧ a * b ≤ A * B := by
  have h : (a * b).natAbs ≤ (A * B).natAbs := by
    rw [Int.natAbs_mul, Int.natAbs_mul]
    exact Nat.mul_le_mul (by omega) (by omega)
  have hp : 0 ≤ A * B := Int.mul_nonneg (by omega) (by omega)
  omega
/-- What lots are worth at a price, and what is amiss. -/
def vl (p : S23) (pr q : Int) : Int × Int :=
  if prC p = 0 then (if -33554432 ≤ pr ∧ pr ≤ 33554432 then (if -1048576 ≤ q ∧ q ≤ 1048576 then (pr * p.f2 * q, 0) else (0, 18)) else (0, 17)) else (0, prC p)
theorem prC_zero {p : S23} (h : prC p = 0) : (0 ≤ p.f1 ∧ p.f1 ≤ 7) ∧ (1 ≤ p.f2 ∧ p.f2 ≤ 4096) := by
  unfold prC at h
  by_cases c0 : nameB p.f0 = true
  case neg => rw [if_neg c0] at h; cases h
  rw [if_pos c0] at h
  by_cases c1 : 0 ≤ p.f1 ∧ p.f1 ≤ 7
  case neg => rw [if_neg c1] at h; cases h
  rw [if_pos c1] at h
  by_cases c2 : 1 ≤ p.f2 ∧ p.f2 ≤ 4096
  case neg => rw [if_neg c2] at h; cases h
  exact ⟨c1, c2⟩
theorem vl_ev (p : S23) (pr q : Int) : Ev (fun k => product_Value.f k p.f0 p.f1 p.f2 p.f3 p.f4 p.f5 p.f6 pr q) (vl p pr q) := by
  simp only [product_Value.f, within_some _ 33554432 (by omega) (by omega), within_some _ 1048576 (by omega) (by omega), Option.bind_some, decide_eq_true_eq]
  refine Ev.bind (prC_ev p) ?_
  unfold vl
  refine Ev.both (fun h0 => Ev.both (fun h1 => Ev.both (fun h2 => ?_) (fun _ => Ev.val _)) (fun _ => Ev.val _)) (fun _ => Ev.val _)
  have hm := (prC_zero h0).2
  have b1 := mul_within (a := pr) (b := p.f2) (A := 33554432) (B := 4096) h1.1 h1.2 (by omega) (by omega)
  have b2 := mul_within (a := pr * p.f2) (b := q) (A := 137438953472) (B := 1048576) (by omega) (by omega) (by omega) (by omega)
  rw [wrap_small (n := pr * p.f2) (by omega) (by omega), wrap_small (by omega) (by omega)]
  exact Ev.val _
theorem withinr_some (n lo hi : Int) : contangoref09_within.f n lo hi = some (decide (lo ≤ n ∧ n ≤ hi)) := by
  unfold contangoref09_within.f
  by_cases h : n ≥ lo
  · rw [if_pos h]
    congr 1
    exact decide_eq_decide.mpr ⟨fun h2 => ⟨h, h2⟩, fun h2 => h2.2⟩
  · rw [if_neg h]
    congr 1
    exact (decide_eq_false (by omega)).symm
theorem prCr_ev (p : S23) (hs : p.f0.size ≤ 9223372036854775806) : Ev (fun k => contangoref09_Check.f k p.f0 p.f1 p.f2 p.f3 p.f4 p.f5 p.f6) (prC p) := by
  simp only [contangoref09_Check.f, withinr_some, Option.bind_some, decide_eq_true_eq]
  refine Ev.bind (refName p.f0 hs) ?_
  unfold prC
  refine Ev.both (fun _ => Ev.both (fun _ => Ev.both (fun _ => Ev.both (fun c => ?_) (fun _ => Ev.val _)) (fun _ => Ev.val _)) (fun _ => Ev.val _)) (fun _ => Ev.val _)
  by_cases hG : -16777216 ≤ p.f4 ∧ p.f4 ≤ 16777216 ∧ -16777216 ≤ p.f5 ∧ p.f5 ≤ 16777216 ∧ p.f4 ≤ p.f5 ∧ Int.tmod p.f4 p.f3 = 0 ∧ Int.tmod p.f5 p.f3 = 0
  · rw [if_pos hG]
    obtain ⟨g1, g2, g3, g4, g5, g6, g7⟩ := hG
    exact Ev.pos ⟨g1, g2⟩ (Ev.pos ⟨g3, g4⟩ (Ev.neg (by omega) (Ev.neg (by omega) (Ev.pos g6 (Ev.pos g7 (Ev.val _))))))
  · rw [if_neg hG]
    refine Ev.ite (fun c1 => Ev.ite (fun c2 => Ev.ite (fun c3 => Ev.val _) (fun c3 => Ev.neg (by omega) (Ev.ite (fun c4 => Ev.neg (fun c5 => ?_) (Ev.val _)) (fun c4 => Ev.val _)))) (fun c2 => Ev.val _)) (fun c1 => Ev.val _)
    exact hG ⟨c1.1, c1.2, c2.1, c2.2, by omega, c4, c5⟩
theorem vlr_ev (p : S23) (pr q : Int) (hs : p.f0.size ≤ 9223372036854775806) : Ev (fun k => contangoref09_Value.f k p.f0 p.f1 p.f2 p.f3 p.f4 p.f5 p.f6 pr q) (vl p pr q) := by
  simp only [contangoref09_Value.f, withinr_some, Option.bind_some, decide_eq_true_eq]
  refine Ev.bind (prCr_ev p hs) ?_
  unfold vl
  refine Ev.both (fun h0 => Ev.both (fun h1 => Ev.both (fun h2 => ?_) (fun _ => Ev.val _)) (fun _ => Ev.val _)) (fun _ => Ev.val _)
  have hm := (prC_zero h0).2
  have b1 := mul_within (a := pr) (b := p.f2) (A := 33554432) (B := 4096) h1.1 h1.2 (by omega) (by omega)
  have b2 := mul_within (a := pr * p.f2) (b := q) (A := 137438953472) (B := 1048576) (by omega) (by omega) (by omega) (by omega)
  rw [wrap_small (n := pr * p.f2) (by omega) (by omega), wrap_small (by omega) (by omega)]
  exact Ev.val _
def cl (a : Int) : Int := if a < -33554432 then -33554432 else if a > 33554432 then 33554432 else a
theorem cl_le (a : Int) : -33554432 ≤ cl a ∧ cl a ≤ 33554432 := by unfold cl; (repeat' split) <;> omega
theorem clamp_ev (a : Int) : Ev (fun k => cents_Clamp.f k a (-33554432) 33554432) (cl a) := by
  refine Ev.shift ?_
  simp only [cents_Clamp.f, cents_Clamp.j0]
  refine Ev.neg (by omega) ?_
  unfold cl
  simp only [decide_eq_true_eq]
  exact Ev.both (fun _ => Ev.val _) (fun _ => Ev.both (fun _ => Ev.val _) (fun _ => Ev.val _))
/-- What exercising is worth. -/
def iv (kd st un : Int) : Int := if kd = 3 then mx (cl st - cl un) 0 else if kd = 2 then mx (cl un - cl st) 0 else 0
theorem intr_ev (a : ByteArray) (b c d u : Int) : Ev (fun k => option_Intrinsic.f k a b c d u) (iv b d u) := by
  have h1 := cl_le u
  have h2 := cl_le d
  simp only [option_Intrinsic.f]
  refine Ev.bind (clamp_ev u) (Ev.bind (clamp_ev d) ?_)
  have e1 : wrap64 (cl u - cl d) = cl u - cl d := wrap_small (by omega) (by omega)
  have e2 : wrap64 (-(cl u - cl d)) = cl d - cl u := by rw [wrap_small (by omega) (by omega)]; omega
  rw [e1, e2]
  unfold iv
  exact Ev.both (fun _ => Ev.val _) (fun _ => Ev.both (fun _ => Ev.val _) (fun _ => Ev.val _))
theorem clampr_ev (a : Int) : Ev (fun k => contangoref01_Clamp.f k a (-33554432) 33554432) (cl a) := by
  refine Ev.shift ?_
  simp only [contangoref01_Clamp.f, contangoref01_Clamp.j0]
  refine Ev.neg (by omega) ?_
  unfold cl
  simp only [decide_eq_true_eq]
  exact Ev.both (fun _ => Ev.val _) (fun _ => Ev.both (fun _ => Ev.val _) (fun _ => Ev.val _))
theorem held_ev (a : Int) : Ev (fun k => contangoref21_held.f k a) (cl a) := by
  simp only [contangoref21_held.f]
  exact Ev.bind (clampr_ev a) (Ev.val _)
theorem intrr_ev (a : ByteArray) (b c d u : Int) : Ev (fun k => contangoref21_Intrinsic.f k a b c d u) (iv b d u) := by
  have h1 := cl_le u
  have h2 := cl_le d
  have e1 : wrap64 (cl u - cl d) = cl u - cl d := wrap_small (by omega) (by omega)
  have e2 : wrap64 (cl d - cl u) = cl d - cl u := wrap_small (by omega) (by omega)
  simp only [contangoref21_Intrinsic.f]
  unfold iv
  refine Ev.ite (fun hb => ?_) (fun hb => ?_)
  · refine Ev.bind (held_ev u) (Ev.bind (held_ev d) (Ev.shift ?_))
    simp only [contangoref21_Intrinsic.j0]
    rw [e1, if_neg (by omega), if_pos hb]
    exact Ev.neg (by omega) (Ev.val _)
  · refine Ev.shift ?_
    simp only [contangoref21_Intrinsic.j0]
    refine Ev.both (fun _ => Ev.bind (held_ev d) (Ev.bind (held_ev u) ?_)) (fun _ => ?_)
    · rw [e2]; exact Ev.val _
    · rw [if_neg hb]; exact Ev.val _
/-- What is amiss with a price. -/
def prP (p : S23) (u : Int) : Int := if prC p = 0 then (if p.f4 ≤ u ∧ u ≤ p.f5 then (if Int.tmod u p.f3 = 0 then 0 else 16) else 17) else prC p
theorem prC_tick {p : S23} (h : prC p = 0) : 1 ≤ p.f3 := by
  unfold prC at h
  by_cases c0 : nameB p.f0 = true
  case neg => rw [if_neg c0] at h; cases h
  rw [if_pos c0] at h
  by_cases c1 : 0 ≤ p.f1 ∧ p.f1 ≤ 7
  case neg => rw [if_neg c1] at h; cases h
  rw [if_pos c1] at h
  by_cases c2 : 1 ≤ p.f2 ∧ p.f2 ≤ 4096
  case neg => rw [if_neg c2] at h; cases h
  rw [if_pos c2] at h
  by_cases c3 : 1 ≤ p.f3 ∧ p.f3 ≤ 16777216
  case neg => rw [if_neg c3] at h; cases h
  exact c3.1
theorem prP_ev (p : S23) (u : Int) : Ev (fun k => product_Price.f k p.f0 p.f1 p.f2 p.f3 p.f4 p.f5 p.f6 u) (prP p u) := by
  simp only [product_Price.f]
  refine Ev.bind (prC_ev p) ?_
  unfold prP
  refine Ev.both (fun h0 => ?_) (fun _ => Ev.val _)
  have ht := prC_tick h0
  by_cases h1 : u < p.f4
  · rw [if_neg (by omega : ¬ (p.f4 ≤ u ∧ u ≤ p.f5))]
    refine Ev.pos h1 (Ev.shift ?_)
    simp only [product_Price.j0]
    exact Ev.pos (by trivial) (Ev.val _)
  · refine Ev.neg h1 (Ev.shift ?_)
    simp only [product_Price.j0, decide_eq_true_eq]
    by_cases h2 : u > p.f5
    · rw [if_neg (by omega : ¬ (p.f4 ≤ u ∧ u ≤ p.f5))]
      exact Ev.pos h2 (Ev.val _)
    · rw [if_pos (by omega : p.f4 ≤ u ∧ u ≤ p.f5)]
      exact Ev.neg h2 (Ev.neg (by omega) (Ev.both (fun _ => Ev.val _) (fun _ => Ev.val _)))
theorem lots_some (n : Int) : expiry_lots.f n = some (decide (0 ≤ n ∧ n ≤ 1048576)) := by
  unfold expiry_lots.f
  by_cases h : n ≥ 0
  · rw [if_pos h]
    congr 1
    exact decide_eq_decide.mpr ⟨fun h2 => ⟨h, h2⟩, fun h2 => h2.2⟩
  · rw [if_neg h]
    congr 1
    exact (decide_eq_false (by omega)).symm
/-- What an account gets. -/
def csV (p : S23) (s : S25) (l : S27) (u : Int) : Int × Int :=
  if prP p u = 0 then (if eqD25 l.f0.f0 s.f0 l.f0.f1 s.f1 l.f0.f2 s.f2 l.f0.f3 s.f3 = true ∧ (s.f0.toList != p.f0.toList) = false then (if 0 ≤ l.f1 ∧ l.f1 ≤ 1048576 ∧ 0 ≤ l.f2 ∧ l.f2 ≤ 1048576 then vl p (iv s.f1 s.f3 u) (l.f1 - l.f2) else (0, 18)) else (0, 19)) else (0, prP p u)
theorem csV_ev (p : S23) (s : S25) (l : S27) (u : Int) : Ev (fun k => expiry_Cash.f k p.f0 p.f1 p.f2 p.f3 p.f4 p.f5 p.f6 s.f0 s.f1 s.f2 s.f3 l.f0.f0 l.f0.f1 l.f0.f2 l.f0.f3 l.f1 l.f2 u) (csV p s l u) := by
  simp only [expiry_Cash.f]
  refine Ev.bind (prP_ev p u) ?_
  unfold csV
  refine Ev.both (fun h0 => ?_) (fun _ => Ev.val _)
  have hj : ∀ b : Bool, Ev (fun k => expiry_Cash.j0 k u b p.f0 p.f1 p.f2 p.f3 p.f4 p.f5 p.f6 s.f0 s.f1 s.f2 s.f3 l.f0.f0 l.f0.f1 l.f0.f2 l.f0.f3 l.f1 l.f2) (if b = false then (if 0 ≤ l.f1 ∧ l.f1 ≤ 1048576 ∧ 0 ≤ l.f2 ∧ l.f2 ≤ 1048576 then vl p (iv s.f1 s.f3 u) (l.f1 - l.f2) else (0, 18)) else (0, 19)) := by
    intro b
    refine Ev.shift ?_
    simp only [expiry_Cash.j0]
    cases b with
    | true => exact Ev.pos (by trivial) (Ev.val _)
    | false =>
      rw [if_pos rfl]
      refine Ev.neg (by decide) ?_
      simp only [lots_some, Option.bind_some, decide_eq_true_eq]
      have hb : Ev (fun k => expiry_Cash.j1 k u true p.f0 p.f1 p.f2 p.f3 p.f4 p.f5 p.f6 s.f0 s.f1 s.f2 s.f3 l.f0.f0 l.f0.f1 l.f0.f2 l.f0.f3 l.f1 l.f2) (0, 18) := by
        refine Ev.shift ?_
        simp only [expiry_Cash.j1]
        exact Ev.pos (by trivial) (Ev.val _)
      by_cases c1 : 0 ≤ l.f1 ∧ l.f1 ≤ 1048576
      · refine Ev.pos c1 ?_
        by_cases c2 : 0 ≤ l.f2 ∧ l.f2 ≤ 1048576
        · rw [if_pos (by omega), decide_eq_true c2]
          refine Ev.shift ?_
          simp only [expiry_Cash.j1, position_Net.f, Option.bind_some]
          refine Ev.neg (by decide) (Ev.bind (intr_ev _ _ _ _ _) ?_)
          rw [wrap_small (n := l.f1 - l.f2) (by omega) (by omega)]
          exact Ev.bind (vl_ev p _ _) (Ev.val _)
        · rw [if_neg (by omega), decide_eq_false c2]
          exact hb
      · rw [if_neg (by omega)]
        exact Ev.neg c1 hb
  by_cases he : eqD25 l.f0.f0 s.f0 l.f0.f1 s.f1 l.f0.f2 s.f2 l.f0.f3 s.f3 = true
  · refine Ev.pos he ?_
    have := hj (s.f0.toList != p.f0.toList)
    by_cases hb : (s.f0.toList != p.f0.toList) = false
    · rw [if_pos hb] at this
      rw [if_pos ⟨he, hb⟩]
      exact this
    · rw [if_neg hb] at this
      rw [if_neg (fun h => hb h.2)]
      exact this
  · refine Ev.neg he ?_
    rw [if_neg (fun h => he h.1)]
    exact hj true
theorem prPr_ev (p : S23) (u : Int) (hs : p.f0.size ≤ 9223372036854775806) : Ev (fun k => contangoref09_Price.f k p.f0 p.f1 p.f2 p.f3 p.f4 p.f5 p.f6 u) (prP p u) := by
  simp only [contangoref09_Price.f, withinr_some, Option.bind_some, decide_eq_true_eq]
  refine Ev.bind (prCr_ev p hs) ?_
  unfold prP
  refine Ev.both (fun h0 => ?_) (fun _ => Ev.val _)
  have ht := prC_tick h0
  exact Ev.both (fun _ => Ev.neg (by omega) (Ev.both (fun _ => Ev.val _) (fun _ => Ev.val _))) (fun _ => Ev.val _)
theorem csVr_ev (p : S23) (s : S25) (l : S27) (u : Int) (hs : p.f0.size ≤ 9223372036854775806) : Ev (fun k => contangoref51_Cash.f k p.f0 p.f1 p.f2 p.f3 p.f4 p.f5 p.f6 s.f0 s.f1 s.f2 s.f3 l.f0.f0 l.f0.f1 l.f0.f2 l.f0.f3 l.f1 l.f2 u) (csV p s l u) := by
  simp only [contangoref51_Cash.f]
  refine Ev.bind (prPr_ev p u hs) ?_
  unfold csV
  refine Ev.both (fun h0 => ?_) (fun _ => Ev.val _)
  have hj : ∀ b : Bool, Ev (fun k => contangoref51_Cash.j0 k u b p.f0 p.f1 p.f2 p.f3 p.f4 p.f5 p.f6 s.f0 s.f1 s.f2 s.f3 l.f0.f0 l.f0.f1 l.f0.f2 l.f0.f3 l.f1 l.f2) (if b = false then (if 0 ≤ l.f1 ∧ l.f1 ≤ 1048576 ∧ 0 ≤ l.f2 ∧ l.f2 ≤ 1048576 then vl p (iv s.f1 s.f3 u) (l.f1 - l.f2) else (0, 18)) else (0, 19)) := by
    intro b
    refine Ev.shift ?_
    simp only [contangoref51_Cash.j0]
    cases b with
    | true => exact Ev.pos (by trivial) (Ev.val _)
    | false =>
      rw [if_pos rfl]
      refine Ev.neg (by decide) ?_
      have hb : Ev (fun k => contangoref51_Cash.j1 k u true p.f0 p.f1 p.f2 p.f3 p.f4 p.f5 p.f6 s.f0 s.f1 s.f2 s.f3 l.f0.f0 l.f0.f1 l.f0.f2 l.f0.f3 l.f1 l.f2) (0, 18) := by
        refine Ev.shift ?_
        simp only [contangoref51_Cash.j1]
        exact Ev.pos (by trivial) (Ev.val _)
      by_cases c1 : 0 ≤ l.f1 ∧ l.f1 ≤ 1048576 ∧ 0 ≤ l.f2
      · refine Ev.neg (by omega) (Ev.neg (by omega) (Ev.neg (by omega) ?_))
        by_cases c2 : l.f2 > 1048576
        · rw [if_neg (by omega), decide_eq_true c2]
          exact hb
        · rw [if_pos (by omega), decide_eq_false c2]
          refine Ev.shift ?_
          simp only [contangoref51_Cash.j1]
          refine Ev.neg (by decide) (Ev.bind (intrr_ev _ _ _ _ _) ?_)
          rw [wrap_small (n := l.f1 - l.f2) (by omega) (by omega)]
          exact Ev.bind (vlr_ev p _ _ hs) (Ev.val _)
      · rw [if_neg (by omega)]
        exact Ev.ite (fun _ => hb) (fun _ => Ev.ite (fun _ => hb) (fun _ => Ev.ite (fun _ => hb) (fun _ => by omega)))
  by_cases he : eqD25 l.f0.f0 s.f0 l.f0.f1 s.f1 l.f0.f2 s.f2 l.f0.f3 s.f3 = true
  · refine Ev.pos he ?_
    have := hj (s.f0.toList != p.f0.toList)
    by_cases hb : (s.f0.toList != p.f0.toList) = false
    · rw [if_pos hb] at this
      rw [if_pos ⟨he, hb⟩]
      exact this
    · rw [if_neg hb] at this
      rw [if_neg (fun h => hb h.2)]
      exact this
  · refine Ev.neg he ?_
    rw [if_neg (fun h => he h.1)]
    exact hj true
theorem goes_true : contangolaw51_goes.f 200 = some true := by decide +kernel
theorem goes_ev : Ev (fun k => contangolaw51_goes.f k) true := Ev.of goes_true (fun k => contangolaw51_goes.mono k)
theorem ExpiryCash : contangolaw51_ExpiryCash.Said := by
  intro p l x _ _ _ hp _ _
  refine Ev.get ?_
  have hs : p.f0.size ≤ 9223372036854775806 := by have := hp.1; omega
  simp only [contangolaw51_ExpiryCash.f]
  refine Ev.bind (csV_ev p x.f0 l x.f1) (Ev.bind (csVr_ev p x.f0 l x.f1 hs) ?_)
  exact Ev.pos rfl (Ev.pos rfl (Ev.bind goes_ev (Ev.val _)))
end Go.Proofs.Ytoejllkjhaeeeaa.Pure
