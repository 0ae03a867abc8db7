/- What lots cost, and what one pays who does not deliver them, is what the document says: the law, as a statement over numbers and lists. -/
import Derived.Test.YtmgeoombebkfaaaArgDeliverCosts
namespace Go.Proofs.Ytmgeoombebkfaaa.Pure
set_option linter.unusedSimpArgs false
set_option linter.unusedVariables false
open Go.RowKit Go.Proofs.Ytmgeoombebkfaaa.PDeliverCosts Go.Proofs.Ytmgeoombebkfaaa.Opens Go.Proofs.YtmgeoombebkfaaaW.PrintWords Go.Proofs.YtmgeoombebkfaaaW.PrintLast
/-- Comes to r, at all large numbers of rounds. -/
def Ev {α : Type} (g : Nat → Option α) (r : α) : Prop := ∃ K, ∀ k, K ≤ k → g k = some r
theorem Ev.shift {α : Type} {g : Nat → Option α} {r : α} (h : Ev (fun k => g (k + 1)) r) : Ev g r := by
  obtain ⟨K, h⟩ := h
  refine ⟨K + 1, fun k hk => ?_⟩
  obtain ⟨m, rfl⟩ : ∃ m, k = m + 1 := ⟨k - 1, by omega⟩
  exact h m (by omega)
theorem Ev.val {α : Type} (r : α) : Ev (fun _ => some r) r := ⟨0, fun _ _ => rfl⟩
theorem Ev.bind {α β : Type} {g : Nat → Option α} {f : Nat → α → Option β} {x : α} {r : β} (h : Ev g x) (h' : Ev (fun k => f k x) r) : Ev (fun k => (g k).bind (f k)) r := by
  obtain ⟨K, h⟩ := h
  obtain ⟨K', h'⟩ := h'
  exact ⟨max K K', fun k hk => by show (g k).bind (f k) = some r; rw [h k (by omega)]; exact h' k (by omega)⟩
theorem Ev.get {α : Type} {g : Nat → Option α} {r : α} (h : Ev g r) : ∃ k, g k = some r := by
  obtain ⟨K, h⟩ := h
  exact ⟨K, h K (Nat.le_refl _)⟩
theorem Ev.of {α : Type} {g : Nat → Option α} {r : α} {k0 : Nat} (h : g k0 = some r) (hm : ∀ k, LeO (g k) (g (k + 1))) : Ev g r := ⟨k0, fun _ hk => at_rounds hm hk h⟩
theorem Ev.pos {α : Type} {c : Prop} [Decidable c] {a b : Nat → Option α} {r : α} (hc : c) (h : Ev a r) : Ev (fun k => if c then a k else b k) r := by
  obtain ⟨K, h⟩ := h
  exact ⟨K, fun k hk => by show (if c then a k else b k) = some r; rw [if_pos hc]; exact h k hk⟩
theorem Ev.neg {α : Type} {c : Prop} [Decidable c] {a b : Nat → Option α} {r : α} (hc : ¬ c) (h : Ev b r) : Ev (fun k => if c then a k else b k) r := by
  obtain ⟨K, h⟩ := h
  exact ⟨K, fun k hk => by show (if c then a k else b k) = some r; rw [if_neg hc]; exact h k hk⟩
/-- Both ways, each where it is taken. -/
theorem Ev.ite {α : Type} {c : Prop} [Decidable c] {a b : Nat → Option α} {r : α} (h : c → Ev a r) (h' : ¬ c → Ev b r) : Ev (fun k => if c then a k else b k) r := by
  by_cases hc : c
  · exact Ev.pos hc (h hc)
  · exact Ev.neg hc (h' hc)
theorem wrap_small {n : Int} (h0 : -9223372036854775808 ≤ n) (h1 : n ≤ 9223372036854775807) : wrap64 n = n := by unfold wrap64; omega
/-- Both ways, each with its own end. -/
theorem Ev.both {α : Type} {c : Prop} [Decidable c] {a b : Nat → Option α} {r s : α} (h : c → Ev a r) (h' : ¬ c → Ev b s) : Ev (fun k => if c then a k else b k) (if c then r else s) := by
  by_cases hc : c
  · rw [if_pos hc]; exact Ev.pos hc (h hc)
  · rw [if_neg hc]; exact Ev.neg hc (h' hc)
theorem Ev.valOf {α : Type} {r s : α} (h : s = r) : Ev (fun _ => some r) s := by subst h; exact Ev.val _
def letB (c : Int) : Bool := decide (97 ≤ c) && decide (c ≤ 122)
def digB (c : Int) : Bool := decide (48 ≤ c) && decide (c ≤ 57)
/-- From place i on, d letters or digits. -/
def restB (s : ByteArray) : Nat → Nat → Bool
  | 0, _ => true
  | d + 1, i => (letB (bt s i) || digB (bt s i)) && restB s d (i + 1)
/-- Is a text a name? -/
def nameB (s : ByteArray) : Bool := decide (0 < s.size) && decide (s.size ≤ 12) && letB (bt s 0) && restB s s.size 0
theorem letter_some (c : Int) : words_letter.f c = some (letB c) := by
  unfold words_letter.f letB
  split <;> rename_i h <;> simp [h]
theorem digit_some (c : Int) : words_digit.f c = some (digB c) := by
  unfold words_digit.f digB
  split <;> rename_i h <;> simp [h]
theorem toList_nil (s : ByteArray) : s.toList = [] ↔ s.size = 0 := by
  rw [ByteArray.toList_eq]
  constructor
  · intro h
    have := congrArg List.length h
    simpa using this
  · intro h
    apply List.eq_nil_of_length_eq_zero
    simpa using h
theorem words_Name_loop (s : ByteArray) (hs : s.size ≤ 12) (d : Nat) : ∀ (k i : Nat), s.size - i = d → i ≤ s.size → d < k → words_Name.l0 k s (s.size : Int) i = some (restB s d i) := by
  induction d with
  | zero =>
    intro k i hd hi hk
    obtain ⟨k, rfl⟩ : ∃ m, k = m + 1 := ⟨k - 1, by omega⟩
    simp only [words_Name.l0]
    rw [if_neg (by omega)]
    rfl
  | succ d ih =>
    intro k i hd hi hk
    obtain ⟨k, rfl⟩ : ∃ m, k = m + 1 := ⟨k - 1, by omega⟩
    have hw : wrap64 ((i : Int) + 1) = ((i + 1 : Nat) : Int) := by unfold wrap64; omega
    simp only [words_Name.l0]
    rw [if_pos (by omega), if_pos (by omega), if_pos (by omega), letter_some, digit_some, hw, ih k (i + 1) (by omega) (by omega) (by omega)]
    simp only [Option.bind_some, restB]
    cases letB (bt s i) <;> cases digB (bt s i) <;> simp
theorem words_Name_some (s : ByteArray) : words_Name.f 20 s = some (nameB s) := by
  unfold words_Name.f nameB
  by_cases h0 : s.size = 0
  · rw [if_pos ((toList_nil s).mpr h0)]
    simp [words_Name.j0, h0]
  · rw [if_neg (fun h => h0 ((toList_nil s).mp h))]
    by_cases h1 : (s.size : Int) > 12
    · rw [if_pos h1]
      have : ¬ s.size ≤ 12 := by omega
      simp [words_Name.j0, this]
    · rw [if_neg h1, if_pos (by omega), letter_some]
      have h2 : s.size ≤ 12 := by omega
      have h3 : 0 < s.size := by omega
      simp only [Option.bind_some, h2, h3, decide_true, Bool.true_and]
      have hl := words_Name_loop s h2 s.size 19 0 (by omega) (by omega) (by omega)
      cases letB (bt s 0)
      · simp [words_Name.j0]
      · simp only [words_Name.j0, Bool.not_true, Bool.false_eq_true, if_false]
        rw [Bool.true_and]
        exact hl
theorem refName_loop (s : ByteArray) (hs : s.size ≤ 9223372036854775806) (d : Nat) : ∀ i : Nat, 1 ≤ i → s.size - i = d → i ≤ s.size → Ev (fun k => contangoref03_Name.l0 k s i) (restB s d i && decide (0 < s.size) && decide (s.size ≤ 12)) := by
  induction d with
  | zero =>
    intro i h1 hd hi
    refine Ev.shift ?_
    simp only [contangoref03_Name.l0]
    refine Ev.neg (by omega) (Ev.pos (by omega) ?_)
    have e1 : decide ((s.size : Int) ≤ 12) = decide (s.size ≤ 12) := decide_eq_decide.mpr (by omega)
    have e2 : decide (0 < s.size) = true := decide_eq_true (by omega)
    rw [e1, e2]
    exact Ev.val _
  | succ d ih =>
    intro i h1 hd hi
    refine Ev.shift ?_
    simp only [contangoref03_Name.l0]
    have hw : wrap64 ((i : Int) + 1) = ((i + 1 : Nat) : Int) := by unfold wrap64; omega
    have h := ih (i + 1) (by omega) (by omega) (by omega)
    rw [hw]
    refine Ev.pos (by omega) (Ev.pos (by omega) ?_)
    simp only [restB, letB, digB]
    by_cases c1 : 97 ≤ bt s i
    · by_cases c2 : bt s i ≤ 122
      · simpa [c1, c2] using h
      · have c3 : ¬ bt s i < 48 := by omega
        have c4 : 57 < bt s i := by omega
        have c5 : ¬ bt s i ≤ 57 := by omega
        have c6 : ¬ (i : Int) = 0 := by omega
        simp only [c1, c2, c3, c4, c5, c6, ge_iff_le, gt_iff_lt, if_true, if_false, decide_true, decide_false, Bool.and_false, Bool.or_false, Bool.false_and]
        exact Ev.val _
    · by_cases c3 : bt s i < 48
      · have c6 : ¬ (i : Int) = 0 := by omega
        have c7 : ¬ 48 ≤ bt s i := by omega
        simp only [c1, c3, c6, c7, ge_iff_le, gt_iff_lt, if_true, if_false, decide_false, Bool.false_and, Bool.or_false]
        exact Ev.val _
      · have c6 : ¬ (i : Int) = 0 := by omega
        have c7 : 48 ≤ bt s i := by omega
        by_cases c4 : 57 < bt s i
        · have c5 : ¬ bt s i ≤ 57 := by omega
          simp only [c1, c3, c4, c5, c6, c7, ge_iff_le, gt_iff_lt, if_true, if_false, decide_true, decide_false, Bool.and_false, Bool.false_and, Bool.or_false]
          exact Ev.val _
        · have c5 : bt s i ≤ 57 := by omega
          simp only [c1, c3, c4, c5, c6, c7, ge_iff_le, gt_iff_lt, if_true, if_false, decide_true, decide_false, Bool.and_true, Bool.false_and, Bool.true_and, Bool.false_or]
          exact h
/-- What the document says of a name is what the code says. -/
theorem refName (s : ByteArray) (hs : s.size ≤ 9223372036854775806) : Ev (fun k => contangoref03_Name.f k s) (nameB s) := by
  simp only [contangoref03_Name.f]
  refine Ev.shift ?_
  simp only [contangoref03_Name.l0]
  by_cases h0 : s.size = 0
  · refine Ev.neg (by omega) (Ev.neg (by omega) ?_)
    have : nameB s = false := by simp [nameB, h0]
    rw [this]
    exact Ev.val _
  · have hw : wrap64 ((0 : Int) + 1) = ((1 : Nat) : Int) := by unfold wrap64; omega
    have h := refName_loop s hs (s.size - 1) 1 (by omega) (by omega) (by omega)
    refine Ev.pos (by omega) (Ev.pos (by omega) ?_)
    rw [hw]
    have hd : decide (0 < s.size) = true := decide_eq_true (by omega)
    obtain ⟨d, hdd⟩ : ∃ d, s.size = d + 1 := ⟨s.size - 1, by omega⟩
    have hn : nameB s = (letB (bt s 0) && (restB s (s.size - 1) 1 && decide (0 < s.size) && decide (s.size ≤ 12))) := by
      rw [hd]
      simp only [nameB, hd]
      rw [show restB s s.size 0 = ((letB (bt s 0) || digB (bt s 0)) && restB s (s.size - 1) 1) from by rw [hdd]; rfl]
      cases letB (bt s 0) <;> cases decide (s.size ≤ 12) <;> cases restB s (s.size - 1) 1 <;> simp
    rw [hn]
    simp only [letB]
    by_cases c1 : 97 ≤ bt s 0
    · by_cases c2 : bt s 0 ≤ 122
      · simp only [c1, c2, ge_iff_le, if_true, decide_true, Bool.true_and]
        exact h
      · simp only [c1, c2, ge_iff_le, if_true, if_false, decide_true, decide_false, Bool.and_false, Bool.false_and]
        exact Ev.val _
    · simp only [c1, ge_iff_le, if_true, if_false, decide_false, Bool.false_and]
      exact Ev.val _
/-- What is amiss with a product. -/
def prC (p : S35) : Int :=
  if nameB p.f0 = true then (if 0 ≤ p.f1 ∧ p.f1 ≤ 7 then (if 1 ≤ p.f2 ∧ p.f2 ≤ 4096 then (if 1 ≤ p.f3 ∧ p.f3 ≤ 16777216 then (if -16777216 ≤ p.f4 ∧ p.f4 ≤ 16777216 ∧ -16777216 ≤ p.f5 ∧ p.f5 ≤ 16777216 ∧ p.f4 ≤ p.f5 ∧ Int.tmod p.f4 p.f3 = 0 ∧ Int.tmod p.f5 p.f3 = 0 then 0 else 17) else 16) else 2) else 25) else 10
theorem within_some (n m : Int) (h0 : 0 ≤ m) (h1 : m ≤ 1000000000) : product_within.f n m = some (decide (-m ≤ n ∧ n ≤ m)) := by
  unfold product_within.f
  have hw : wrap64 (-m) = -m := by unfold wrap64; omega
  rw [hw]
  by_cases h : n ≥ -m
  · rw [if_pos h]
    congr 1
    exact decide_eq_decide.mpr ⟨fun h2 => ⟨h, h2⟩, fun h2 => h2.2⟩
  · rw [if_neg h]
    congr 1
    exact (decide_eq_false (by omega)).symm
theorem nameB_nil : nameB (⟨#[]⟩ : ByteArray) = false := by decide
theorem prC_ev (p : S35) : Ev (fun k => product_Check.f k p.f0 p.f1 p.f2 p.f3 p.f4 p.f5 p.f6) (prC p) := by
  have h3 : Ev (fun k => product_Check.j3 k (if p.f3 < 1 then true else decide (p.f3 > 16777216)) p.f0 p.f1 p.f2 p.f3 p.f4 p.f5 p.f6) (if 1 ≤ p.f3 ∧ p.f3 ≤ 16777216 then (if -16777216 ≤ p.f4 ∧ p.f4 ≤ 16777216 ∧ -16777216 ≤ p.f5 ∧ p.f5 ≤ 16777216 ∧ p.f4 ≤ p.f5 ∧ Int.tmod p.f4 p.f3 = 0 ∧ Int.tmod p.f5 p.f3 = 0 then 0 else 17) else 16) := by
    refine Ev.shift ?_
    simp only [product_Check.j3, within_some _ 16777216 (by omega) (by omega), Option.bind_some, decide_eq_true_eq]
    by_cases c : 1 ≤ p.f3 ∧ p.f3 ≤ 16777216
    · rw [if_pos c, if_neg (by omega : ¬ p.f3 < 1), decide_eq_false (by omega : ¬ p.f3 > 16777216)]
      refine Ev.neg (by decide) ?_
      by_cases hG : -16777216 ≤ p.f4 ∧ p.f4 ≤ 16777216 ∧ -16777216 ≤ p.f5 ∧ p.f5 ≤ 16777216 ∧ p.f4 ≤ p.f5 ∧ Int.tmod p.f4 p.f3 = 0 ∧ Int.tmod p.f5 p.f3 = 0
      · rw [if_pos hG]
        obtain ⟨g1, g2, g3, g4, g5, g6, g7⟩ := hG
        exact Ev.pos ⟨g1, g2⟩ (Ev.pos ⟨g3, g4⟩ (Ev.neg (by omega) (Ev.neg (by omega) (Ev.pos g6 (Ev.pos g7 (Ev.val _))))))
      · rw [if_neg hG]
        refine Ev.ite (fun c1 => Ev.ite (fun c2 => Ev.ite (fun c3 => Ev.val _) (fun c3 => Ev.neg (by omega) (Ev.ite (fun c4 => Ev.neg (fun c5 => ?_) (Ev.val _)) (fun c4 => Ev.val _)))) (fun c2 => Ev.val _)) (fun c1 => Ev.val _)
        exact hG ⟨c1.1, c1.2, c2.1, c2.2, by omega, c4, c5⟩
    · rw [if_neg c]
      have e : (if p.f3 < 1 then true else decide (p.f3 > 16777216)) = true := by
        split
        · rfl
        · exact decide_eq_true (by omega)
      rw [e]
      exact Ev.pos rfl (Ev.val _)
  have h2 : Ev (fun k => product_Check.j2 k (if p.f2 < 1 then true else decide (p.f2 > 4096)) p.f0 p.f1 p.f2 p.f3 p.f4 p.f5 p.f6) (if 1 ≤ p.f2 ∧ p.f2 ≤ 4096 then (if 1 ≤ p.f3 ∧ p.f3 ≤ 16777216 then (if -16777216 ≤ p.f4 ∧ p.f4 ≤ 16777216 ∧ -16777216 ≤ p.f5 ∧ p.f5 ≤ 16777216 ∧ p.f4 ≤ p.f5 ∧ Int.tmod p.f4 p.f3 = 0 ∧ Int.tmod p.f5 p.f3 = 0 then 0 else 17) else 16) else 2) := by
    refine Ev.shift ?_
    simp only [product_Check.j2]
    by_cases c : 1 ≤ p.f2 ∧ p.f2 ≤ 4096
    · rw [if_pos c, if_neg (by omega : ¬ p.f2 < 1), decide_eq_false (by omega : ¬ p.f2 > 4096)]
      refine Ev.neg (by decide) (Ev.ite (fun h => ?_) (fun h => ?_))
      · rw [if_pos h] at h3; exact h3
      · rw [if_neg h] at h3; exact h3
    · rw [if_neg c]
      have e : (if p.f2 < 1 then true else decide (p.f2 > 4096)) = true := by
        split
        · rfl
        · exact decide_eq_true (by omega)
      rw [e]
      exact Ev.pos rfl (Ev.val _)
  have h1 : Ev (fun k => product_Check.j1 k (if p.f1 < 0 then true else decide (p.f1 ≥ 8)) p.f0 p.f1 p.f2 p.f3 p.f4 p.f5 p.f6) (if 0 ≤ p.f1 ∧ p.f1 ≤ 7 then (if 1 ≤ p.f2 ∧ p.f2 ≤ 4096 then (if 1 ≤ p.f3 ∧ p.f3 ≤ 16777216 then (if -16777216 ≤ p.f4 ∧ p.f4 ≤ 16777216 ∧ -16777216 ≤ p.f5 ∧ p.f5 ≤ 16777216 ∧ p.f4 ≤ p.f5 ∧ Int.tmod p.f4 p.f3 = 0 ∧ Int.tmod p.f5 p.f3 = 0 then 0 else 17) else 16) else 2) else 25) := by
    refine Ev.shift ?_
    simp only [product_Check.j1]
    by_cases c : 0 ≤ p.f1 ∧ p.f1 ≤ 7
    · rw [if_pos c, if_neg (by omega : ¬ p.f1 < 0), decide_eq_false (by omega : ¬ p.f1 ≥ 8)]
      refine Ev.neg (by decide) (Ev.ite (fun h => ?_) (fun h => ?_))
      · rw [if_pos h] at h2; exact h2
      · rw [if_neg h] at h2; exact h2
    · rw [if_neg c]
      have e : (if p.f1 < 0 then true else decide (p.f1 ≥ 8)) = true := by
        split
        · rfl
        · exact decide_eq_true (by omega)
      rw [e]
      exact Ev.pos rfl (Ev.val _)
  have h0 : Ev (fun k => product_Check.j0 k (!nameB p.f0) p.f0 p.f1 p.f2 p.f3 p.f4 p.f5 p.f6) (prC p) := by
    refine Ev.shift ?_
    simp only [product_Check.j0]
    unfold prC
    cases nameB p.f0 with
    | false => exact Ev.pos rfl (Ev.val _)
    | true =>
      rw [if_pos rfl]
      refine Ev.neg (by decide) (Ev.ite (fun h => ?_) (fun h => ?_))
      · rw [if_pos h] at h1; exact h1
      · rw [if_neg h] at h1; exact h1
  simp only [product_Check.f]
  refine Ev.ite (fun h => ?_) (fun _ => Ev.bind (Ev.of (words_Name_some p.f0) (fun k => words_Name.mono _ k)) h0)
  have hn : nameB p.f0 = false := by
    unfold eqD35 at h
    simp only [Bool.and_eq_true, beq_iff_eq] at h
    have hs : p.f0.size = 0 := (toList_nil p.f0).mp (h.1.trans ((toList_nil _).mpr rfl))
    simp [nameB, hs]
  rw [hn] at h0
  exact h0
theorem mul_within {a b A B : Int} (h1 : -A ≤ a) (h2 : a ≤ A) (h3 : -B ≤ b) (h4 : b ≤ B) : -(A * B) ≤ a * b ∧ a * b ≤ A * B := by
  have h : (a * b).natAbs ≤ (A * B).natAbs := by
    rw [Int.natAbs_mul, Int.natAbs_mul]
    exact Nat.mul_le_mul (by omega) (by omega)
  have hp : 0 ≤ A * B := Int.mul_nonneg (by omega) (by omega)
  omega
/-- What lots are worth at a price, and what is amiss. -/
def vl (p : S35) (pr q : Int) : Int × Int :=
  if prC p = 0 then (if -33554432 ≤ pr ∧ pr ≤ 33554432 then (if -1048576 ≤ q ∧ q ≤ 1048576 then (pr * p.f2 * q, 0) else (0, 18)) else (0, 17)) else (0, prC p)
theorem prC_zero {p : S35} (h : prC p = 0) : (0 ≤ p.f1 ∧ p.f1 ≤ 7) ∧ (1 ≤ p.f2 ∧ p.f2 ≤ 4096) := by
  unfold prC at h
  by_cases c0 : nameB p.f0 = true
  case neg => rw [if_neg c0] at h; cases h
  rw [if_pos c0] at h
  by_cases c1 : 0 ≤ p.f1 ∧ p.f1 ≤ 7
  case neg => rw [if_neg c1] at h; cases h
  rw [if_pos c1] at h
  by_cases c2 : 1 ≤ p.f2 ∧ p.f2 ≤ 4096
  case neg => rw [if_neg c2] at h; cases h
  exact ⟨c1, c2⟩
theorem vl_ev (p : S35) (pr q : Int) : Ev (fun k => product_Value.f k p.f0 p.f1 p.f2 p.f3 p.f4 p.f5 p.f6 pr q) (vl p pr q) := by
  simp only [product_Value.f, within_some _ 33554432 (by omega) (by omega), within_some _ 1048576 (by omega) (by omega), Option.bind_some, decide_eq_true_eq]
  refine Ev.bind (prC_ev p) ?_
  unfold vl
  refine Ev.both (fun h0 => Ev.both (fun h1 => Ev.both (fun h2 => ?_) (fun _ => Ev.val _)) (fun _ => Ev.val _)) (fun _ => Ev.val _)
  have hm := (prC_zero h0).2
  have b1 := mul_within (a := pr) (b := p.f2) (A := 33554432) (B := 4096) h1.1 h1.2 (by omega) (by omega)
  have b2 := mul_within (a := pr * p.f2) (b := q) (A := 137438953472) (B := 1048576) (by omega) (by omega) (by omega) (by omega)
  rw [wrap_small (n := pr * p.f2) (by omega) (by omega), wrap_small (by omega) (by omega)]
  exact Ev.val _
/-- What is amiss with a price. -/
def prP (p : S35) (u : Int) : Int := if prC p = 0 then (if p.f4 ≤ u ∧ u ≤ p.f5 then (if Int.tmod u p.f3 = 0 then 0 else 16) else 17) else prC p
theorem prC_tick {p : S35} (h : prC p = 0) : 1 ≤ p.f3 := by
  unfold prC at h
  by_cases c0 : nameB p.f0 = true
  case neg => rw [if_neg c0] at h; cases h
  rw [if_pos c0] at h
  by_cases c1 : 0 ≤ p.f1 ∧ p.f1 ≤ 7
  case neg => rw [if_neg c1] at h; cases h
  rw [if_pos c1] at h
  by_cases c2 : 1 ≤ p.f2 ∧ p.f2 ≤ 4096
  case neg => rw [if_neg c2] at h; cases h
  rw [if_pos c2] at h
  by_cases c3 : 1 ≤ p.f3 ∧ p.f3 ≤ 16777216
  case neg => rw [if_neg c3] at h; cases h
  exact c3.1
theorem prP_ev (p : S35) (u : Int) : Ev (fun k => product_Price.f k p.f0 p.f1 p.f2 p.f3 p.f4 p.f5 p.f6 u) (prP p u) := by
  simp only [product_Price.f]
  refine Ev.bind (prC_ev p) ?_
  unfold prP
  refine Ev.both (fun h0 => ?_) (fun _ => Ev.val _)
  have ht := prC_tick h0
  by_cases h1 : u < p.f4
  · rw [if_neg (by omega : ¬ (p.f4 ≤ u ∧ u ≤ p.f5))]
    refine Ev.pos h1 (Ev.shift ?_)
    simp only [product_Price.j0]
    exact Ev.pos (by trivial) (Ev.val _)
  · refine Ev.neg h1 (Ev.shift ?_)
    simp only [product_Price.j0, decide_eq_true_eq]
    by_cases h2 : u > p.f5
    · rw [if_neg (by omega : ¬ (p.f4 ≤ u ∧ u ≤ p.f5))]
      exact Ev.pos h2 (Ev.val _)
    · rw [if_pos (by omega : p.f4 ≤ u ∧ u ≤ p.f5)]
      exact Ev.neg h2 (Ev.neg (by omega) (Ev.both (fun _ => Ev.val _) (fun _ => Ev.val _)))
theorem withinr_some (n lo hi : Int) : contangoref09_within.f n lo hi = some (decide (lo ≤ n ∧ n ≤ hi)) := by
  unfold contangoref09_within.f
  by_cases h : n ≥ lo
  · rw [if_pos h]
    congr 1
    exact decide_eq_decide.mpr ⟨fun h2 => ⟨h, h2⟩, fun h2 => h2.2⟩
  · rw [if_neg h]
    congr 1
    exact (decide_eq_false (by omega)).symm
theorem prCr_ev (p : S35) (hs : p.f0.size ≤ 9223372036854775806) : Ev (fun k => contangoref09_Check.f k p.f0 p.f1 p.f2 p.f3 p.f4 p.f5 p.f6) (prC p) := by
  simp only [contangoref09_Check.f, withinr_some, Option.bind_some, decide_eq_true_eq]
  refine Ev.bind (refName p.f0 hs) ?_
  unfold prC
  refine Ev.both (fun _ => Ev.both (fun _ => Ev.both (fun _ => Ev.both (fun c => ?_) (fun _ => Ev.val _)) (fun _ => Ev.val _)) (fun _ => Ev.val _)) (fun _ => Ev.val _)
  by_cases hG : -16777216 ≤ p.f4 ∧ p.f4 ≤ 16777216 ∧ -16777216 ≤ p.f5 ∧ p.f5 ≤ 16777216 ∧ p.f4 ≤ p.f5 ∧ Int.tmod p.f4 p.f3 = 0 ∧ Int.tmod p.f5 p.f3 = 0
  · rw [if_pos hG]
    obtain ⟨g1, g2, g3, g4, g5, g6, g7⟩ := hG
    exact Ev.pos ⟨g1, g2⟩ (Ev.pos ⟨g3, g4⟩ (Ev.neg (by omega) (Ev.neg (by omega) (Ev.pos g6 (Ev.pos g7 (Ev.val _))))))
  · rw [if_neg hG]
    refine Ev.ite (fun c1 => Ev.ite (fun c2 => Ev.ite (fun c3 => Ev.val _) (fun c3 => Ev.neg (by omega) (Ev.ite (fun c4 => Ev.neg (fun c5 => ?_) (Ev.val _)) (fun c4 => Ev.val _)))) (fun c2 => Ev.val _)) (fun c1 => Ev.val _)
    exact hG ⟨c1.1, c1.2, c2.1, c2.2, by omega, c4, c5⟩
theorem vlr_ev (p : S35) (pr q : Int) (hs : p.f0.size ≤ 9223372036854775806) : Ev (fun k => contangoref09_Value.f k p.f0 p.f1 p.f2 p.f3 p.f4 p.f5 p.f6 pr q) (vl p pr q) := by
  simp only [contangoref09_Value.f, withinr_some, Option.bind_some, decide_eq_true_eq]
  refine Ev.bind (prCr_ev p hs) ?_
  unfold vl
  refine Ev.both (fun h0 => Ev.both (fun h1 => Ev.both (fun h2 => ?_) (fun _ => Ev.val _)) (fun _ => Ev.val _)) (fun _ => Ev.val _)
  have hm := (prC_zero h0).2
  have b1 := mul_within (a := pr) (b := p.f2) (A := 33554432) (B := 4096) h1.1 h1.2 (by omega) (by omega)
  have b2 := mul_within (a := pr * p.f2) (b := q) (A := 137438953472) (B := 1048576) (by omega) (by omega) (by omega) (by omega)
  rw [wrap_small (n := pr * p.f2) (by omega) (by omega), wrap_small (by omega) (by omega)]
  exact Ev.val _
theorem prPr_ev (p : S35) (u : Int) (hs : p.f0.size ≤ 9223372036854775806) : Ev (fun k => contangoref09_Price.f k p.f0 p.f1 p.f2 p.f3 p.f4 p.f5 p.f6 u) (prP p u) := by
  simp only [contangoref09_Price.f, withinr_some, Option.bind_some, decide_eq_true_eq]
  refine Ev.bind (prCr_ev p hs) ?_
  unfold prP
  refine Ev.both (fun h0 => ?_) (fun _ => Ev.val _)
  have ht := prC_tick h0
  exact Ev.both (fun _ => Ev.neg (by omega) (Ev.both (fun _ => Ev.val _) (fun _ => Ev.val _))) (fun _ => Ev.val _)
/-- What lots cost at the final price, or why that is not told. -/
def inV (p : S35) (u q : Int) : Int × Int := if prP p u = 0 then (if q < 1 ∨ q > 1048576 then (0, 18) else if u < 0 then (0, 17) else vl p u q) else (0, prP p u)
theorem inV_ev (p : S35) (u q : Int) : Ev (fun k => deliver_Invoice.f k p.f0 p.f1 p.f2 p.f3 p.f4 p.f5 p.f6 u q) (inV p u q) := by
  unfold inV
  simp only [deliver_Invoice.f]
  refine Ev.bind (prP_ev p u) ?_
  by_cases c0 : prP p u = 0
  case neg => rw [if_neg c0]; exact Ev.neg c0 (Ev.val _)
  rw [if_pos c0]
  refine Ev.pos c0 ?_
  have j0 : ∀ b : Bool, b = decide (q < 1 ∨ q > 1048576) → Ev (fun k => deliver_Invoice.j0 k u q b p.f0 p.f1 p.f2 p.f3 p.f4 p.f5 p.f6) (if q < 1 ∨ q > 1048576 then (0, 18) else if u < 0 then (0, 17) else vl p u q) := by
    intro b hb
    refine Ev.shift ?_
    simp only [deliver_Invoice.j0]
    by_cases c1 : q < 1 ∨ q > 1048576
    · rw [if_pos c1]
      exact Ev.pos (by rw [hb]; exact decide_eq_true c1) (Ev.val _)
    · rw [if_neg c1]
      refine Ev.neg (by rw [hb, decide_eq_false c1]; decide) ?_
      by_cases c2 : u < 0
      · rw [if_pos c2]; exact Ev.pos c2 (Ev.val _)
      · rw [if_neg c2]; exact Ev.neg c2 (Ev.bind (vl_ev p u q) (Ev.val _))
  by_cases c1 : q < 1
  · exact Ev.pos c1 (j0 true (decide_eq_true (.inl c1)).symm)
  · refine Ev.neg c1 (j0 _ ?_)
    exact decide_eq_decide.mpr ⟨fun h => .inr h, fun h => by omega⟩
theorem inV_ok {p : S35} {u q : Int} (h : (inV p u q).2 = 0) : 0 ≤ u ∧ u ≤ 33554432 ∧ 1 ≤ q ∧ q ≤ 1048576 ∧ (1 ≤ p.f2 ∧ p.f2 ≤ 4096) ∧ (inV p u q).1 = u * p.f2 * q := by
  unfold inV at h ⊢
  by_cases c0 : prP p u = 0
  case neg => rw [if_neg c0] at h; exact absurd h c0
  rw [if_pos c0] at h ⊢
  by_cases c1 : q < 1 ∨ q > 1048576
  case pos => rw [if_pos c1] at h; cases h
  rw [if_neg c1] at h ⊢
  by_cases c2 : u < 0
  case pos => rw [if_pos c2] at h; cases h
  rw [if_neg c2] at h ⊢
  have hC : prC p = 0 := by
    unfold prP at c0
    split at c0
    · assumption
    · assumption
  unfold vl at h ⊢
  rw [if_pos hC] at h ⊢
  by_cases c3 : -33554432 ≤ u ∧ u ≤ 33554432
  case neg => rw [if_neg c3] at h; cases h
  rw [if_pos c3, if_pos (by omega)]
  exact ⟨by omega, c3.2, by omega, by omega, (prC_zero hC).2, rfl⟩
theorem inV_le {p : S35} {u q : Int} (h : (inV p u q).2 = 0) : 0 ≤ (inV p u q).1 ∧ (inV p u q).1 ≤ 144115188075855872 := by
  obtain ⟨h1, h2, h3, h4, ⟨h5, h6⟩, h7⟩ := inV_ok h
  rw [h7]
  have a1 : u * p.f2 ≤ 33554432 * 4096 := Int.mul_le_mul h2 h6 (by omega) (by omega)
  have a0 : 0 ≤ u * p.f2 := Int.mul_nonneg h1 (by omega)
  exact ⟨Int.mul_nonneg a0 (by omega), Int.le_trans (Int.mul_le_mul a1 h4 (by omega) (by omega)) (by omega)⟩
theorem inVr_ev (p : S35) (u q : Int) (hs : p.f0.size ≤ 9223372036854775806) : Ev (fun k => contangoref52_Invoice.f k p.f0 p.f1 p.f2 p.f3 p.f4 p.f5 p.f6 u q) (inV p u q) := by
  unfold inV
  simp only [contangoref52_Invoice.f]
  refine Ev.bind (prPr_ev p u hs) ?_
  by_cases c0 : prP p u = 0
  case neg => rw [if_neg c0]; exact Ev.neg c0 (Ev.val _)
  rw [if_pos c0]
  refine Ev.pos c0 ?_
  have j0 : ∀ b : Bool, b = decide (q < 1 ∨ q > 1048576) → Ev (fun k => contangoref52_Invoice.j0 k u q b p.f0 p.f1 p.f2 p.f3 p.f4 p.f5 p.f6) (if q < 1 ∨ q > 1048576 then (0, 18) else if u < 0 then (0, 17) else vl p u q) := by
    intro b hb
    refine Ev.shift ?_
    simp only [contangoref52_Invoice.j0]
    by_cases c1 : q < 1 ∨ q > 1048576
    · rw [if_pos c1]
      exact Ev.pos (by rw [hb]; exact decide_eq_true c1) (Ev.val _)
    · rw [if_neg c1]
      refine Ev.neg (by rw [hb, decide_eq_false c1]; decide) ?_
      by_cases c2 : u < 0
      · rw [if_pos c2]; exact Ev.pos c2 (Ev.val _)
      · rw [if_neg c2]; exact Ev.neg c2 (Ev.bind (vlr_ev p u q hs) (Ev.val _))
  by_cases c1 : q < 1
  · exact Ev.pos c1 (j0 true (decide_eq_true (.inl c1)).symm)
  · refine Ev.neg c1 (j0 _ ?_)
    exact decide_eq_decide.mpr ⟨fun h => .inr h, fun h => by omega⟩
theorem u64w (j : Nat) (h : j < 100) : IntKind.u64.wrap ((j : Nat) : Int) = (j : Int) := by rw [IntKind.wrap_u64]; omega
theorem shr_pow (a j : Nat) (h : j ≤ 64) : shr .i64 (a : Int) (j : Int) = ((a / 2 ^ j : Nat) : Int) := by
  show (a : Int) / 2 ^ min (j : Int).toNat 64 = _
  rw [Int.toNat_natCast, Nat.min_eq_left h, Int.natCast_ediv, Int.natCast_pow]
  rfl
theorem qstep (m b q r t : Nat) (hb : b ≤ 1000) (ht : t < 2) (hq : q = m * b / 1000) (hr : r = m * b % 1000) : 2 * q + (2 * r + t * b) / 1000 = (2 * m + t) * b / 1000 ∧ (2 * r + t * b) % 1000 = (2 * m + t) * b % 1000 := by
  have e : (2 * m + t) * b = 2 * (m * b) + t * b := by rw [Nat.add_mul, Nat.mul_assoc]
  rw [e]
  generalize m * b = x at *
  generalize t * b = y at *
  omega
theorem qlast (m b t q : Nat) (hb : b ≤ 1000) (hm : 2 * m + t ≤ 1152921504606846976) (h : q = (2 * m + t) * b / 1000) : q ≤ 1152921504606846976 := by
  have : (2 * m + t) * b ≤ 1152921504606846976 * 1000 := Nat.mul_le_mul hm hb
  generalize (2 * m + t) * b = x at *
  omega
theorem quotL (a b : Nat) (ha : a ≤ 1152921504606846976) (hb : b ≤ 1000) (j : Nat) : j ≤ 61 → ∀ q r : Nat, q = a / 2 ^ j * b / 1000 → r = a / 2 ^ j * b % 1000 →
    Ev (fun k => contangoref01_quotient.l0 k (a : Int) (b : Int) 1000 (q : Int) (r : Int) ((j : Int) - 1)) (((a * b / 1000 : Nat) : Int), ((a * b % 1000 : Nat) : Int)) := by
  induction j with
  | zero =>
    intro _ q r hq hr
    refine Ev.shift ?_
    simp only [contangoref01_quotient.l0]
    rw [Nat.pow_zero, Nat.div_one] at hq hr
    rw [← hq, ← hr]
    exact Ev.neg (by omega) (Ev.val _)
  | succ j ih =>
    intro hj q r hq hr
    refine Ev.shift ?_
    have e0 : ((j + 1 : Nat) : Int) - 1 = (j : Int) := by omega
    have e1 : wrap64 ((j : Int) - 1) = (j : Int) - 1 := wrap_small (by omega) (by omega)
    simp only [contangoref01_quotient.l0, e0, e1, u64w j (by omega), shr_pow a j (by omega)]
    clear e0 e1
    refine Ev.pos (by omega) (Ev.pos (by omega) ?_)
    have ih2 := ih (by omega)
    have em : a / 2 ^ (j + 1) = a / 2 ^ j / 2 := by rw [Nat.pow_succ, Nat.div_div_eq_div_mul]
    rw [em] at hq hr
    have hle : a / 2 ^ j ≤ 1152921504606846976 := Nat.le_trans (Nat.div_le_self _ _) ha
    clear em ih
    generalize a / 2 ^ j = M at *
    have hr2 : r < 1000 := by rw [hr]; exact Nat.mod_lt _ (by decide)
    have hML : M = 2 * (M / 2) + M % 2 := by omega
    have ht2 : M % 2 < 2 := by omega
    have et : Int.tmod (M : Int) 2 = ((M % 2 : Nat) : Int) := by rw [Int.tmod_eq_emod_of_nonneg (by omega)]; omega
    rw [et]
    generalize M / 2 = m at *
    generalize M % 2 = t at *
    subst hML
    obtain ⟨s1, s2⟩ := qstep m b q r t hb ht2 hq hr
    have hq2 : (2 * m + t) * b / 1000 ≤ 1152921504606846976 := qlast m b t _ hb hle rfl
    have ih3 := ih2 _ _ s1 s2
    have hs1 : 2 * q + (2 * r + t * b) / 1000 ≤ 1152921504606846976 := by rw [s1]; exact hq2
    clear ih2 hq hr s1 s2 hq2 hle
    by_cases c : ((t : Nat) : Int) = 1
    · have t1 : t = 1 := by omega
      subst t1
      refine Ev.pos c (Ev.neg (by decide) ?_)
      rw [Nat.one_mul] at ih3 hs1
      have w1 : wrap64 (wrap64 (2 * (r : Int)) + (b : Int)) = ((2 * r + b : Nat) : Int) := by unfold wrap64; omega
      have w2 : Int.tdiv ((2 * r + b : Nat) : Int) 1000 = (((2 * r + b) / 1000 : Nat) : Int) := by rw [Int.tdiv_eq_ediv_of_nonneg (by omega)]; omega
      have w3 : Int.tmod ((2 * r + b : Nat) : Int) 1000 = (((2 * r + b) % 1000 : Nat) : Int) := by rw [Int.tmod_eq_emod_of_nonneg (by omega)]; omega
      rw [w1, w2, w3]
      clear w1 w2 w3
      generalize (2 * r + b) % 1000 = R at *
      generalize (2 * r + b) / 1000 = Q at *
      have w4 : wrap64 (wrap64 (2 * (q : Int)) + wrap64 ((Q : Nat) : Int)) = ((2 * q + Q : Nat) : Int) := by unfold wrap64; omega
      rw [w4]
      clear w4
      exact Ev.neg (by omega) ih3
    · have t0 : t = 0 := by omega
      subst t0
      refine Ev.neg c (Ev.neg (by decide) ?_)
      rw [Nat.zero_mul, Nat.add_zero] at ih3 hs1
      have w1 : wrap64 (2 * (r : Int)) = ((2 * r : Nat) : Int) := by unfold wrap64; omega
      have w2 : Int.tdiv ((2 * r : Nat) : Int) 1000 = ((2 * r / 1000 : Nat) : Int) := by rw [Int.tdiv_eq_ediv_of_nonneg (by omega)]; omega
      have w3 : Int.tmod ((2 * r : Nat) : Int) 1000 = ((2 * r % 1000 : Nat) : Int) := by rw [Int.tmod_eq_emod_of_nonneg (by omega)]; omega
      rw [w1, w2, w3]
      clear w1 w2 w3
      generalize 2 * r % 1000 = R at *
      generalize 2 * r / 1000 = Q at *
      have w4 : wrap64 (wrap64 (2 * (q : Int)) + wrap64 ((Q : Nat) : Int)) = ((2 * q + Q : Nat) : Int) := by unfold wrap64; omega
      rw [w4]
      clear w4
      exact Ev.neg (by omega) ih3
/-- A product, by thousand, rounded up. -/
def upV (a b : Nat) : Int := if (a : Int) * (b : Int) % 1000 = 0 then (a : Int) * (b : Int) / 1000 else (a : Int) * (b : Int) / 1000 + 1
theorem upV_le (a b : Nat) (ha : a ≤ 1152921504606846976) (hb : b ≤ 1000) : upV a b ≤ 1152921504606846976 := by
  unfold upV
  have : a * b ≤ 1152921504606846976 * 1000 := Nat.mul_le_mul ha hb
  rw [← Int.natCast_mul]
  generalize a * b = n at *
  split <;> omega
theorem mdp_some (a b : Nat) (ha : a ≤ 1152921504606846976) (hb : b ≤ 1000) : cents_MulDiv.f (a : Int) (b : Int) 1000 2 = some (upV a b, 0) := by
  unfold cents_MulDiv.f upV
  rw [if_pos ⟨rfl, rfl, by omega, by omega, by omega, by omega⟩]
theorem fitsr_some (n : Int) (h : -1152921504606846976 ≤ n ∧ n ≤ 1152921504606846976) : contangoref01_Fits.f n = some true := by
  unfold contangoref01_Fits.f
  rw [if_pos (by omega), decide_eq_true (by omega)]
theorem sizer_some (n : Nat) : contangoref01_size.f (n : Int) = some (n : Int) := by
  unfold contangoref01_size.f
  rw [if_neg (by omega)]
theorem mdr_ev (a b : Nat) (ha : a ≤ 1152921504606846976) (hb : b ≤ 1000) : Ev (fun k => contangoref01_MulDiv.f k (a : Int) (b : Int) 1000 2) (upV a b, 0) := by
  simp only [contangoref01_MulDiv.f, fitsr_some (a : Int) (by omega), fitsr_some (b : Int) (by omega), fitsr_some 1000 (by omega), Option.bind_some]
  refine Ev.pos trivial (Ev.pos trivial (Ev.pos trivial (Ev.neg (by decide) ?_)))
  have f0 : decide ((a : Int) < 0) = false := decide_eq_false (by omega)
  have f1 : decide ((b : Int) < 0) = false := decide_eq_false (by omega)
  have f2 : decide ((1000 : Int) < 0) = false := by decide
  refine Ev.shift ?_
  have s3 : contangoref01_size.f 1000 = some 1000 := by decide
  simp only [contangoref01_MulDiv.j0, sizer_some, s3, f0, f1, f2, Option.bind_some]
  refine Ev.neg (by decide) (Ev.neg (by decide) ?_)
  have h61 : a / 2 ^ 61 = 0 := Nat.div_eq_of_lt (Nat.lt_of_le_of_lt ha (by decide))
  have hq := quotL a b ha hb 61 (by omega) 0 0 (by rw [h61]; simp) (by rw [h61]; simp)
  refine Ev.bind (x := (((a * b / 1000 : Nat) : Int), ((a * b % 1000 : Nat) : Int))) hq ?_
  have hle := upV_le a b ha hb
  unfold upV at hle ⊢
  rw [← Int.natCast_mul] at hle ⊢
  have hn : a * b ≤ 1152921504606846976 * 1000 := Nat.mul_le_mul ha hb
  generalize a * b = n at *
  clear hq h61
  by_cases c : ((n % 1000 : Nat) : Int) > 0
  · rw [if_neg (by omega)] at hle ⊢
    refine Ev.pos c ?_
    simp only [contangoref01_away.f, ↓reduceIte, Option.bind_some]
    refine Ev.shift ?_
    simp only [contangoref01_MulDiv.j1]
    refine Ev.pos trivial (Ev.shift ?_)
    simp only [contangoref01_MulDiv.j2]
    rw [wrap_small (by omega) (by omega)]
    exact Ev.neg (by omega) (Ev.neg (by decide) (Ev.valOf (by rw [Int.natCast_ediv]; rfl)))
  · rw [if_pos (by omega)] at hle ⊢
    refine Ev.neg c ?_
    refine Ev.shift ?_
    simp only [contangoref01_MulDiv.j1]
    refine Ev.neg (by decide) (Ev.shift ?_)
    simp only [contangoref01_MulDiv.j2]
    exact Ev.neg (by omega) (Ev.neg (by decide) (Ev.valOf (by rw [Int.natCast_ediv]; rfl)))
/-- What one pays who does not deliver. -/
def faV (p : S35) (u q t : Int) : Int × Int := if (inV p u q).2 = 0 then (if t < 0 ∨ t > 1000 then (0, 2) else (upV (inV p u q).1.toNat t.toNat, 0)) else (0, (inV p u q).2)
theorem fa_ev (p : S35) (u q t : Int) : Ev (fun k => deliver_Failed.f k p.f0 p.f1 p.f2 p.f3 p.f4 p.f5 p.f6 u q t) (faV p u q t) := by
  simp only [deliver_Failed.f]
  refine Ev.bind (inV_ev p u q) ?_
  by_cases c0 : (inV p u q).2 = 0
  case neg =>
    have e : faV p u q t = (0, (inV p u q).2) := by unfold faV; rw [if_neg c0]
    rw [e]
    exact Ev.neg c0 (Ev.val _)
  have hle := inV_le c0
  by_cases c1 : t < 0
  · have e : faV p u q t = (0, 2) := by unfold faV; rw [if_pos c0, if_pos (.inl c1)]
    rw [e]
    exact Ev.pos c0 (Ev.pos c1 (Ev.val _))
  · by_cases c2 : t > 1000
    · have e : faV p u q t = (0, 2) := by unfold faV; rw [if_pos c0, if_pos (.inr c2)]
      rw [e]
      exact Ev.pos c0 (Ev.neg c1 (Ev.pos c2 (Ev.val _)))
    · have e : faV p u q t = (upV (inV p u q).1.toNat t.toNat, 0) := by unfold faV; rw [if_pos c0, if_neg (by omega)]
      rw [e]
      refine Ev.pos c0 (Ev.neg c1 (Ev.neg c2 ?_))
      clear e c0
      generalize (inV p u q).1 = n at *
      obtain ⟨a, rfl⟩ := Int.eq_ofNat_of_zero_le hle.1
      obtain ⟨b, rfl⟩ := Int.eq_ofNat_of_zero_le (show 0 ≤ t by omega)
      rw [mdp_some a b (by omega) (by omega), Int.toNat_natCast, Int.toNat_natCast]
      exact Ev.val _
theorem far_ev (p : S35) (u q t : Int) (hs : p.f0.size ≤ 9223372036854775806) : Ev (fun k => contangoref52_Failed.f k p.f0 p.f1 p.f2 p.f3 p.f4 p.f5 p.f6 u q t) (faV p u q t) := by
  unfold faV
  simp only [contangoref52_Failed.f]
  refine Ev.bind (inVr_ev p u q hs) ?_
  by_cases c0 : (inV p u q).2 = 0
  case neg => rw [if_neg c0]; exact Ev.neg c0 (Ev.val _)
  rw [if_pos c0]
  refine Ev.pos c0 ?_
  have hle := inV_le c0
  by_cases c1 : t < 0
  · rw [if_pos (.inl c1)]; exact Ev.pos c1 (Ev.val _)
  · refine Ev.neg c1 ?_
    by_cases c2 : t > 1000
    · rw [if_pos (.inr c2)]; exact Ev.pos c2 (Ev.val _)
    · rw [if_neg (by omega)]
      refine Ev.neg c2 ?_
      generalize (inV p u q).1 = n at *
      obtain ⟨a, rfl⟩ := Int.eq_ofNat_of_zero_le hle.1
      obtain ⟨b, rfl⟩ := Int.eq_ofNat_of_zero_le (show 0 ≤ t by omega)
      rw [Int.toNat_natCast, Int.toNat_natCast]
      exact Ev.bind (mdr_ev a b (by omega) (by omega)) (Ev.val _)
theorem goes_true : contangolaw52_goes.f 200 = some true := by decide +kernel
theorem goes_ev : Ev (fun k => contangolaw52_goes.f k) true := Ev.of goes_true (fun k => contangolaw52_goes.mono k)
theorem DeliverCosts : contangolaw52_DeliverCosts.Said := by
  intro p x _ _ hp _
  refine Ev.get ?_
  have hs : p.f0.size ≤ 9223372036854775806 := by have := hp.1; omega
  simp only [contangolaw52_DeliverCosts.f]
  refine Ev.bind (inV_ev p x.f0 x.f1) (Ev.bind (inVr_ev p x.f0 x.f1 hs) (Ev.bind (fa_ev p x.f0 x.f1 x.f2) (Ev.bind (far_ev p x.f0 x.f1 x.f2 hs) ?_)))
  exact Ev.pos rfl (Ev.pos rfl (Ev.pos rfl (Ev.pos rfl (Ev.bind goes_ev (Ev.val _)))))
end Go.Proofs.Ytmgeoombebkfaaa.Pure
