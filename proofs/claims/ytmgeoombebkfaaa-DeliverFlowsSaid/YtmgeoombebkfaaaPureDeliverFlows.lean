/- What members pay and get for any pairs is what the document says: the law, as a statement over numbers and lists. -/
import Derived.Test.YtmgeoombebkfaaaArgDeliverFlows
namespace Go.Proofs.Ytmgeoombebkfaaa.Pure
set_option linter.unusedSimpArgs false
set_option linter.unusedVariables false
open Go.RowKit Go.Proofs.Ytmgeoombebkfaaa.PDeliverFlows Go.Proofs.Ytmgeoombebkfaaa.Opens Go.Proofs.YtmgeoombebkfaaaW.PrintWords Go.Proofs.YtmgeoombebkfaaaW.PrintLast
/-- Comes to r, at all large numbers of rounds. -/
def Ev {α : Type} (g : Nat → Option α) (r : α) : Prop := ∃ K, ∀ k, K ≤ k → g k = some r
theorem Ev.shift {α : Type} {g : Nat → Option α} {r : α} (h : Ev (fun k => g (k + 1)) r) : Ev g r := by
  obtain ⟨K, h⟩ := h
  refine ⟨K + 1, fun k hk => ?_⟩
  obtain ⟨m, rfl⟩ : ∃ m, k = m + 1 := ⟨k - 1, by omega⟩
  exact h m (by omega)
theorem Ev.val {α : Type} (r : α) : Ev (fun _ => some r) r := ⟨0, fun _ _ => rfl⟩
theorem Ev.bind {α β : Type} {g : Nat → Option α} {f : Nat → α → Option β} {x : α} {r : β} (h : Ev g x) (h' : Ev (fun k => f k x) r) : Ev (fun k => (g k).bind (f k)) r := by
  obtain ⟨K, h⟩ := h
  obtain ⟨K', h'⟩ := h'
  exact ⟨max K K', fun k hk => by show (g k).bind (f k) = some r; rw [h k (by omega)]; exact h' k (by omega)⟩
theorem Ev.get {α : Type} {g : Nat → Option α} {r : α} (h : Ev g r) : ∃ k, g k = some r := by
  obtain ⟨K, h⟩ := h
  exact ⟨K, h K (Nat.le_refl _)⟩
theorem Ev.of {α : Type} {g : Nat → Option α} {r : α} {k0 : Nat} (h : g k0 = some r) (hm : ∀ k, LeO (g k) (g (k + 1))) : Ev g r := ⟨k0, fun _ hk => at_rounds hm hk h⟩
theorem Ev.pos {α : Type} {c : Prop} [Decidable c] {a b : Nat → Option α} {r : α} (hc : c) (h : Ev a r) : Ev (fun k => if c then a k else b k) r := by
  obtain ⟨K, h⟩ := h
  exact ⟨K, fun k hk => by show (if c then a k else b k) = some r; rw [if_pos hc]; exact h k hk⟩
theorem Ev.neg {α : Type} {c : Prop} [Decidable c] {a b : Nat → Option α} {r : α} (hc : ¬ c) (h : Ev b r) : Ev (fun k => if c then a k else b k) r := by
  obtain ⟨K, h⟩ := h
  exact ⟨K, fun k hk => by show (if c then a k else b k) = some r; rw [if_neg hc]; exact h k hk⟩
/-- Both ways, each where it is taken. -/
theorem Ev.ite {α : Type} {c : Prop} [Decidable c] {a b : Nat → Option α} {r : α} (h : c → Ev a r) (h' : ¬ c → Ev b r) : Ev (fun k => if c then a k else b k) r := by
  by_cases hc : c
  · exact Ev.pos hc (h hc)
  · exact Ev.neg hc (h' hc)
theorem wrap_small {n : Int} (h0 : -9223372036854775808 ≤ n) (h1 : n ≤ 9223372036854775807) : wrap64 n = n := by unfold wrap64; omega
/-- Both ways, each with its own end. -/
theorem Ev.both {α : Type} {c : Prop} [Decidable c] {a b : Nat → Option α} {r s : α} (h : c → Ev a r) (h' : ¬ c → Ev b s) : Ev (fun k => if c then a k else b k) (if c then r else s) := by
  by_cases hc : c
  · rw [if_pos hc]; exact Ev.pos hc (h hc)
  · rw [if_neg hc]; exact Ev.neg hc (h' hc)
theorem Ev.valOf {α : Type} {r s : α} (h : s = r) : Ev (fun _ => some r) s := by subst h; exact Ev.val _
def letB (c : Int) : Bool := decide (97 ≤ c) && decide (c ≤ 122)
def digB (c : Int) : Bool := decide (48 ≤ c) && decide (c ≤ 57)
/-- From place i on, d letters or digits. -/
def restB (s : ByteArray) : Nat → Nat → Bool
  | 0, _ => true
  | d + 1, i => (letB (bt s i) || digB (bt s i)) && restB s d (i + 1)
/-- Is a text a name? -/
def nameB (s : ByteArray) : Bool := decide (0 < s.size) && decide (s.size ≤ 12) && letB (bt s 0) && restB s s.size 0
theorem letter_some (c : Int) : words_letter.f c = some (letB c) := by
  unfold words_letter.f letB
  split <;> rename_i h <;> simp [h]
theorem digit_some (c : Int) : words_digit.f c = some (digB c) := by
  unfold words_digit.f digB
  split <;> rename_i h <;> simp [h]
theorem toList_nil (s : ByteArray) : s.toList = [] ↔ s.size = 0 := by
  rw [ByteArray.toList_eq]
  constructor
  · intro h
    have := congrArg List.length h
    simpa using this
  · intro h
    apply List.eq_nil_of_length_eq_zero
    simpa using h
theorem words_Name_loop (s : ByteArray) (hs : s.size ≤ 12) (d : Nat) : ∀ (k i : Nat), s.size - i = d → i ≤ s.size → d < k → words_Name.l0 k s (s.size : Int) i = some (restB s d i) := by
  induction d with
  | zero =>
    intro k i hd hi hk
    obtain ⟨k, rfl⟩ : ∃ m, k = m + 1 := ⟨k - 1, by omega⟩
    simp only [words_Name.l0]
    rw [if_neg (by omega)]
    rfl
  | succ d ih =>
    intro k i hd hi hk
    obtain ⟨k, rfl⟩ : ∃ m, k = m + 1 := ⟨k - 1, by omega⟩
    have hw : wrap64 ((i : Int) + 1) = ((i + 1 : Nat) : Int) := by unfold wrap64; omega
    simp only [words_Name.l0]
    rw [if_pos (by omega), if_pos (by omega), if_pos (by omega), letter_some, digit_some, hw, ih k (i + 1) (by omega) (by omega) (by omega)]
    simp only [Option.bind_some, restB]
    cases letB (bt s i) <;> cases digB (bt s i) <;> simp
theorem words_Name_some (s : ByteArray) : words_Name.f 20 s = some (nameB s) := by
  unfold words_Name.f nameB
  by_cases h0 : s.size = 0
  · rw [if_pos ((toList_nil s).mpr h0)]
    simp [words_Name.j0, h0]
  · rw [if_neg (fun h => h0 ((toList_nil s).mp h))]
    by_cases h1 : (s.size : Int) > 12
    · rw [if_pos h1]
      have : ¬ s.size ≤ 12 := by omega
      simp [words_Name.j0, this]
    · rw [if_neg h1, if_pos (by omega), letter_some]
      have h2 : s.size ≤ 12 := by omega
      have h3 : 0 < s.size := by omega
      simp only [Option.bind_some, h2, h3, decide_true, Bool.true_and]
      have hl := words_Name_loop s h2 s.size 19 0 (by omega) (by omega) (by omega)
      cases letB (bt s 0)
      · simp [words_Name.j0]
      · simp only [words_Name.j0, Bool.not_true, Bool.false_eq_true, if_false]
        rw [Bool.true_and]
        exact hl
theorem refName_loop (s : ByteArray) (hs : s.size ≤ 9223372036854775806) (d : Nat) : ∀ i : Nat, 1 ≤ i → s.size - i = d → i ≤ s.size → Ev (fun k => contangoref03_Name.l0 k s i) (restB s d i && decide (0 < s.size) && decide (s.size ≤ 12)) := by
  induction d with
  | zero =>
    intro i h1 hd hi
    refine Ev.shift ?_
    simp only [contangoref03_Name.l0]
    refine Ev.neg (by omega) (Ev.pos (by omega) ?_)
    have e1 : decide ((s.size : Int) ≤ 12) = decide (s.size ≤ 12) := decide_eq_decide.mpr (by omega)
    have e2 : decide (0 < s.size) = true := decide_eq_true (by omega)
    rw [e1, e2]
    exact Ev.val _
  | succ d ih =>
    intro i h1 hd hi
    refine Ev.shift ?_
    simp only [contangoref03_Name.l0]
    have hw : wrap64 ((i : Int) + 1) = ((i + 1 : Nat) : Int) := by unfold wrap64; omega
    have h := ih (i + 1) (by omega) (by omega) (by omega)
    rw [hw]
    refine Ev.pos (by omega) (Ev.pos (by omega) ?_)
    simp only [restB, letB, digB]
    by_cases c1 : 97 ≤ bt s i
    · by_cases c2 : bt s i ≤ 122
      · simpa [c1, c2] using h
      · have c3 : ¬ bt s i < 48 := by omega
        have c4 : 57 < bt s i := by omega
        have c5 : ¬ bt s i ≤ 57 := by omega
        have c6 : ¬ (i : Int) = 0 := by omega
        simp only [c1, c2, c3, c4, c5, c6, ge_iff_le, gt_iff_lt, if_true, if_false, decide_true, decide_false, Bool.and_false, Bool.or_false, Bool.false_and]
        exact Ev.val _
    · by_cases c3 : bt s i < 48
      · have c6 : ¬ (i : Int) = 0 := by omega
        have c7 : ¬ 48 ≤ bt s i := by omega
        simp only [c1, c3, c6, c7, ge_iff_le, gt_iff_lt, if_true, if_false, decide_false, Bool.false_and, Bool.or_false]
        exact Ev.val _
      · have c6 : ¬ (i : Int) = 0 := by omega
        have c7 : 48 ≤ bt s i := by omega
        by_cases c4 : 57 < bt s i
        · have c5 : ¬ bt s i ≤ 57 := by omega
          simp only [c1, c3, c4, c5, c6, c7, ge_iff_le, gt_iff_lt, if_true, if_false, decide_true, decide_false, Bool.and_false, Bool.false_and, Bool.or_false]
          exact Ev.val _
        · have c5 : bt s i ≤ 57 := by omega
          simp only [c1, c3, c4, c5, c6, c7, ge_iff_le, gt_iff_lt, if_true, if_false, decide_true, decide_false, Bool.and_true, Bool.false_and, Bool.true_and, Bool.false_or]
          exact h
/-- What the document says of a name is what the code says. -/
theorem refName (s : ByteArray) (hs : s.size ≤ 9223372036854775806) : Ev (fun k => contangoref03_Name.f k s) (nameB s) := by
  simp only [contangoref03_Name.f]
  refine Ev.shift ?_
  simp only [contangoref03_Name.l0]
  by_cases h0 : s.size = 0
  · refine Ev.neg (by omega) (Ev.neg (by omega) ?_)
    have : nameB s = false := by simp [nameB, h0]
    rw [this]
    exact Ev.val _
  · have hw : wrap64 ((0 : Int) + 1) = ((1 : Nat) : Int) := by unfold wrap64; omega
    have h := refName_loop s hs (s.size - 1) 1 (by omega) (by omega) (by omega)
    refine Ev.pos (by omega) (Ev.pos (by omega) ?_)
    rw [hw]
    have hd : decide (0 < s.size) = true := decide_eq_true (by omega)
    obtain ⟨d, hdd⟩ : ∃ d, s.size = d + 1 := ⟨s.size - 1, by omega⟩
    have hn : nameB s = (letB (bt s 0) && (restB s (s.size - 1) 1 && decide (0 < s.size) && decide (s.size ≤ 12))) := by
      rw [hd]
      simp only [nameB, hd]
      rw [show restB s s.size 0 = ((letB (bt s 0) || digB (bt s 0)) && restB s (s.size - 1) 1) from by rw [hdd]; rfl]
      cases letB (bt s 0) <;> cases decide (s.size ≤ 12) <;> cases restB s (s.size - 1) 1 <;> simp
    rw [hn]
    simp only [letB]
    by_cases c1 : 97 ≤ bt s 0
    · by_cases c2 : bt s 0 ≤ 122
      · simp only [c1, c2, ge_iff_le, if_true, decide_true, Bool.true_and]
        exact h
      · simp only [c1, c2, ge_iff_le, if_true, if_false, decide_true, decide_false, Bool.and_false, Bool.false_and]
        exact Ev.val _
    · simp only [c1, ge_iff_le, if_true, if_false, decide_false, Bool.false_and]
      exact Ev.val _
/-- What is amiss with a product. -/
def prC (p : S35) : Int :=
  if nameB p.f0 = true then (if 0 ≤ p.f1 ∧ p.f1 ≤ 7 then (if 1 ≤ p.f2 ∧ p.f2 ≤ 4096 then (if 1 ≤ p.f3 ∧ p.f3 ≤ 16777216 then (if -16777216 ≤ p.f4 ∧ p.f4 ≤ 16777216 ∧ -16777216 ≤ p.f5 ∧ p.f5 ≤ 16777216 ∧ p.f4 ≤ p.f5 ∧ Int.tmod p.f4 p.f3 = 0 ∧ Int.tmod p.f5 p.f3 = 0 then 0 else 17) else 16) else 2) else 25) else 10
theorem within_some (n m : Int) (h0 : 0 ≤ m) (h1 : m ≤ 1000000000) : product_within.f n m = some (decide (-m ≤ n ∧ n ≤ m)) := by
  unfold product_within.f
  have hw : wrap64 (-m) = -m := by unfold wrap64; omega
  rw [hw]
  by_cases h : n ≥ -m
  · rw [if_pos h]
    congr 1
    exact decide_eq_decide.mpr ⟨fun h2 => ⟨h, h2⟩, fun h2 => h2.2⟩
  · rw [if_neg h]
    congr 1
    exact (decide_eq_false (by omega)).symm
theorem nameB_nil : nameB (⟨#[]⟩ : ByteArray) = false := by decide
theorem prC_ev (p : S35) : Ev (fun k => product_Check.f k p.f0 p.f1 p.f2 p.f3 p.f4 p.f5 p.f6) (prC p) := by
  have h3 : Ev (fun k => product_Check.j3 k (if p.f3 < 1 then true else decide (p.f3 > 16777216)) p.f0 p.f1 p.f2 p.f3 p.f4 p.f5 p.f6) (if 1 ≤ p.f3 ∧ p.f3 ≤ 16777216 then (if -16777216 ≤ p.f4 ∧ p.f4 ≤ 16777216 ∧ -16777216 ≤ p.f5 ∧ p.f5 ≤ 16777216 ∧ p.f4 ≤ p.f5 ∧ Int.tmod p.f4 p.f3 = 0 ∧ Int.tmod p.f5 p.f3 = 0 then 0 else 17) else 16) := by
    refine Ev.shift ?_
    simp only [product_Check.j3, within_some _ 16777216 (by omega) (by omega), Option.bind_some, decide_eq_true_eq]
    by_cases c : 1 ≤ p.f3 ∧ p.f3 ≤ 16777216
    · rw [if_pos c, if_neg (by omega : ¬ p.f3 < 1), decide_eq_false (by omega : ¬ p.f3 > 16777216)]
      refine Ev.neg (by decide) ?_
      by_cases hG : -16777216 ≤ p.f4 ∧ p.f4 ≤ 16777216 ∧ -16777216 ≤ p.f5 ∧ p.f5 ≤ 16777216 ∧ p.f4 ≤ p.f5 ∧ Int.tmod p.f4 p.f3 = 0 ∧ Int.tmod p.f5 p.f3 = 0
      · rw [if_pos hG]
        obtain ⟨g1, g2, g3, g4, g5, g6, g7⟩ := hG
        exact Ev.pos ⟨g1, g2⟩ (Ev.pos ⟨g3, g4⟩ (Ev.neg (by omega) (Ev.neg (by omega) (Ev.pos g6 (Ev.pos g7 (Ev.val _))))))
      · rw [if_neg hG]
        refine Ev.ite (fun c1 => Ev.ite (fun c2 => Ev.ite (fun c3 => Ev.val _) (fun c3 => Ev.neg (by omega) (Ev.ite (fun c4 => Ev.neg (fun c5 => ?_) (Ev.val _)) (fun c4 => Ev.val _)))) (fun c2 => Ev.val _)) (fun c1 => Ev.val _)
        exact hG ⟨c1.1, c1.2, c2.1, c2.2, by omega, c4, c5⟩
    · rw [if_neg c]
      have e : (if p.f3 < 1 then true else decide (p.f3 > 16777216)) = true := by
        split
        · rfl
        · exact decide_eq_true (by omega)
      rw [e]
      exact Ev.pos rfl (Ev.val _)
  have h2 : Ev (fun k => product_Check.j2 k (if p.f2 < 1 then true else decide (p.f2 > 4096)) p.f0 p.f1 p.f2 p.f3 p.f4 p.f5 p.f6) (if 1 ≤ p.f2 ∧ p.f2 ≤ 4096 then (if 1 ≤ p.f3 ∧ p.f3 ≤ 16777216 then (if -16777216 ≤ p.f4 ∧ p.f4 ≤ 16777216 ∧ -16777216 ≤ p.f5 ∧ p.f5 ≤ 16777216 ∧ p.f4 ≤ p.f5 ∧ Int.tmod p.f4 p.f3 = 0 ∧ Int.tmod p.f5 p.f3 = 0 then 0 else 17) else 16) else 2) := by
    refine Ev.shift ?_
    simp only [product_Check.j2]
    by_cases c : 1 ≤ p.f2 ∧ p.f2 ≤ 4096
    · rw [if_pos c, if_neg (by omega : ¬ p.f2 < 1), decide_eq_false (by omega : ¬ p.f2 > 4096)]
      refine Ev.neg (by decide) (Ev.ite (fun h => ?_) (fun h => ?_))
      · rw [if_pos h] at h3; exact h3
      · rw [if_neg h] at h3; exact h3
    · rw [if_neg c]
      have e : (if p.f2 < 1 then true else decide (p.f2 > 4096)) = true := by
        split
        · rfl
        · exact decide_eq_true (by omega)
      rw [e]
      exact Ev.pos rfl (Ev.val _)
  have h1 : Ev (fun k => product_Check.j1 k (if p.f1 < 0 then true else decide (p.f1 ≥ 8)) p.f0 p.f1 p.f2 p.f3 p.f4 p.f5 p.f6) (if 0 ≤ p.f1 ∧ p.f1 ≤ 7 then (if 1 ≤ p.f2 ∧ p.f2 ≤ 4096 then (if 1 ≤ p.f3 ∧ p.f3 ≤ 16777216 then (if -16777216 ≤ p.f4 ∧ p.f4 ≤ 16777216 ∧ -16777216 ≤ p.f5 ∧ p.f5 ≤ 16777216 ∧ p.f4 ≤ p.f5 ∧ Int.tmod p.f4 p.f3 = 0 ∧ Int.tmod p.f5 p.f3 = 0 then 0 else 17) else 16) else 2) else 25) := by
    refine Ev.shift ?_
    simp only [product_Check.j1]
    by_cases c : 0 ≤ p.f1 ∧ p.f1 ≤ 7
    · rw [if_pos c, if_neg (by omega : ¬ p.f1 < 0), decide_eq_false (by omega : ¬ p.f1 ≥ 8)]
      refine Ev.neg (by decide) (Ev.ite (fun h => ?_) (fun h => ?_))
      · rw [if_pos h] at h2; exact h2
      · rw [if_neg h] at h2; exact h2
    · rw [if_neg c]
      have e : (if p.f1 < 0 then true else decide (p.f1 ≥ 8)) = true := by
        split
        · rfl
        · exact decide_eq_true (by omega)
      rw [e]
      exact Ev.pos rfl (Ev.val _)
  have h0 : Ev (fun k => product_Check.j0 k (!nameB p.f0) p.f0 p.f1 p.f2 p.f3 p.f4 p.f5 p.f6) (prC p) := by
    refine Ev.shift ?_
    simp only [product_Check.j0]
    unfold prC
    cases nameB p.f0 with
    | false => exact Ev.pos rfl (Ev.val _)
    | true =>
      rw [if_pos rfl]
      refine Ev.neg (by decide) (Ev.ite (fun h => ?_) (fun h => ?_))
      · rw [if_pos h] at h1; exact h1
      · rw [if_neg h] at h1; exact h1
  simp only [product_Check.f]
  refine Ev.ite (fun h => ?_) (fun _ => Ev.bind (Ev.of (words_Name_some p.f0) (fun k => words_Name.mono _ k)) h0)
  have hn : nameB p.f0 = false := by
    unfold eqD35 at h
    simp only [Bool.and_eq_true, beq_iff_eq] at h
    have hs : p.f0.size = 0 := (toList_nil p.f0).mp (h.1.trans ((toList_nil _).mpr rfl))
    simp [nameB, hs]
  rw [hn] at h0
  exact h0
theorem mul_within {a b A B : Int} (h1 : -A ≤ a) (h2 : a ≤ A) (h3 : -B ≤ b) (h4 : b ≤ B) : -(A * B) ≤ a * b ∧ a * b ≤ A * B := by
  have h : (a * b).natAbs ≤ (A * B).natAbs := by
    rw [Int.natAbs_mul, Int.natAbs_mul]
    exact Nat.mul_le_mul (by omega) (by omega)
  have hp : 0 ≤ A * B := Int.mul_nonneg (by omega) (by omega)
  omega
/-- What lots are worth at a price, and what is amiss. -/
def vl (p : S35) (pr q : Int) : Int × Int :=
  if prC p = 0 then (if -33554432 ≤ pr ∧ pr ≤ 33554432 then (if -1048576 ≤ q ∧ q ≤ 1048576 then (pr * p.f2 * q, 0) else (0, 18)) else (0, 17)) else (0, prC p)
theorem prC_zero {p : S35} (h : prC p = 0) : (0 ≤ p.f1 ∧ p.f1 ≤ 7) ∧ (1 ≤ p.f2 ∧ p.f2 ≤ 4096) := by
  unfold prC at h
  by_cases c0 : nameB p.f0 = true
  case neg => rw [if_neg c0] at h; cases h
  rw [if_pos c0] at h
  by_cases c1 : 0 ≤ p.f1 ∧ p.f1 ≤ 7
  case neg => rw [if_neg c1] at h; cases h
  rw [if_pos c1] at h
  by_cases c2 : 1 ≤ p.f2 ∧ p.f2 ≤ 4096
  case neg => rw [if_neg c2] at h; cases h
  exact ⟨c1, c2⟩
theorem vl_ev (p : S35) (pr q : Int) : Ev (fun k => product_Value.f k p.f0 p.f1 p.f2 p.f3 p.f4 p.f5 p.f6 pr q) (vl p pr q) := by
  simp only [product_Value.f, within_some _ 33554432 (by omega) (by omega), within_some _ 1048576 (by omega) (by omega), Option.bind_some, decide_eq_true_eq]
  refine Ev.bind (prC_ev p) ?_
  unfold vl
  refine Ev.both (fun h0 => Ev.both (fun h1 => Ev.both (fun h2 => ?_) (fun _ => Ev.val _)) (fun _ => Ev.val _)) (fun _ => Ev.val _)
  have hm := (prC_zero h0).2
  have b1 := mul_within (a := pr) (b := p.f2) (A := 33554432) (B := 4096) h1.1 h1.2 (by omega) (by omega)
  have b2 := mul_within (a := pr * p.f2) (b := q) (A := 137438953472) (B := 1048576) (by omega) (by omega) (by omega) (by omega)
  rw [wrap_small (n := pr * p.f2) (by omega) (by omega), wrap_small (by omega) (by omega)]
  exact Ev.val _
/-- What is amiss with a price. -/
def prP (p : S35) (u : Int) : Int := if prC p = 0 then (if p.f4 ≤ u ∧ u ≤ p.f5 then (if Int.tmod u p.f3 = 0 then 0 else 16) else 17) else prC p
theorem prC_tick {p : S35} (h : prC p = 0) : 1 ≤ p.f3 := by
  unfold prC at h
  by_cases c0 : nameB p.f0 = true
  case neg => rw [if_neg c0] at h; cases h
  rw [if_pos c0] at h
  by_cases c1 : 0 ≤ p.f1 ∧ p.f1 ≤ 7
  case neg => rw [if_neg c1] at h; cases h
  rw [if_pos c1] at h
  by_cases c2 : 1 ≤ p.f2 ∧ p.f2 ≤ 4096
  case neg => rw [if_neg c2] at h; cases h
  rw [if_pos c2] at h
  by_cases c3 : 1 ≤ p.f3 ∧ p.f3 ≤ 16777216
  case neg => rw [if_neg c3] at h; cases h
  exact c3.1
theorem prP_ev (p : S35) (u : Int) : Ev (fun k => product_Price.f k p.f0 p.f1 p.f2 p.f3 p.f4 p.f5 p.f6 u) (prP p u) := by
  simp only [product_Price.f]
  refine Ev.bind (prC_ev p) ?_
  unfold prP
  refine Ev.both (fun h0 => ?_) (fun _ => Ev.val _)
  have ht := prC_tick h0
  by_cases h1 : u < p.f4
  · rw [if_neg (by omega : ¬ (p.f4 ≤ u ∧ u ≤ p.f5))]
    refine Ev.pos h1 (Ev.shift ?_)
    simp only [product_Price.j0]
    exact Ev.pos (by trivial) (Ev.val _)
  · refine Ev.neg h1 (Ev.shift ?_)
    simp only [product_Price.j0, decide_eq_true_eq]
    by_cases h2 : u > p.f5
    · rw [if_neg (by omega : ¬ (p.f4 ≤ u ∧ u ≤ p.f5))]
      exact Ev.pos h2 (Ev.val _)
    · rw [if_pos (by omega : p.f4 ≤ u ∧ u ≤ p.f5)]
      exact Ev.neg h2 (Ev.neg (by omega) (Ev.both (fun _ => Ev.val _) (fun _ => Ev.val _)))
theorem withinr_some (n lo hi : Int) : contangoref09_within.f n lo hi = some (decide (lo ≤ n ∧ n ≤ hi)) := by
  unfold contangoref09_within.f
  by_cases h : n ≥ lo
  · rw [if_pos h]
    congr 1
    exact decide_eq_decide.mpr ⟨fun h2 => ⟨h, h2⟩, fun h2 => h2.2⟩
  · rw [if_neg h]
    congr 1
    exact (decide_eq_false (by omega)).symm
theorem prCr_ev (p : S35) (hs : p.f0.size ≤ 9223372036854775806) : Ev (fun k => contangoref09_Check.f k p.f0 p.f1 p.f2 p.f3 p.f4 p.f5 p.f6) (prC p) := by
  simp only [contangoref09_Check.f, withinr_some, Option.bind_some, decide_eq_true_eq]
  refine Ev.bind (refName p.f0 hs) ?_
  unfold prC
  refine Ev.both (fun _ => Ev.both (fun _ => Ev.both (fun _ => Ev.both (fun c => ?_) (fun _ => Ev.val _)) (fun _ => Ev.val _)) (fun _ => Ev.val _)) (fun _ => Ev.val _)
  by_cases hG : -16777216 ≤ p.f4 ∧ p.f4 ≤ 16777216 ∧ -16777216 ≤ p.f5 ∧ p.f5 ≤ 16777216 ∧ p.f4 ≤ p.f5 ∧ Int.tmod p.f4 p.f3 = 0 ∧ Int.tmod p.f5 p.f3 = 0
  · rw [if_pos hG]
    obtain ⟨g1, g2, g3, g4, g5, g6, g7⟩ := hG
    exact Ev.pos ⟨g1, g2⟩ (Ev.pos ⟨g3, g4⟩ (Ev.neg (by omega) (Ev.neg (by omega) (Ev.pos g6 (Ev.pos g7 (Ev.val _))))))
  · rw [if_neg hG]
    refine Ev.ite (fun c1 => Ev.ite (fun c2 => Ev.ite (fun c3 => Ev.val _) (fun c3 => Ev.neg (by omega) (Ev.ite (fun c4 => Ev.neg (fun c5 => ?_) (Ev.val _)) (fun c4 => Ev.val _)))) (fun c2 => Ev.val _)) (fun c1 => Ev.val _)
    exact hG ⟨c1.1, c1.2, c2.1, c2.2, by omega, c4, c5⟩
theorem vlr_ev (p : S35) (pr q : Int) (hs : p.f0.size ≤ 9223372036854775806) : Ev (fun k => contangoref09_Value.f k p.f0 p.f1 p.f2 p.f3 p.f4 p.f5 p.f6 pr q) (vl p pr q) := by
  simp only [contangoref09_Value.f, withinr_some, Option.bind_some, decide_eq_true_eq]
  refine Ev.bind (prCr_ev p hs) ?_
  unfold vl
  refine Ev.both (fun h0 => Ev.both (fun h1 => Ev.both (fun h2 => ?_) (fun _ => Ev.val _)) (fun _ => Ev.val _)) (fun _ => Ev.val _)
  have hm := (prC_zero h0).2
  have b1 := mul_within (a := pr) (b := p.f2) (A := 33554432) (B := 4096) h1.1 h1.2 (by omega) (by omega)
  have b2 := mul_within (a := pr * p.f2) (b := q) (A := 137438953472) (B := 1048576) (by omega) (by omega) (by omega) (by omega)
  rw [wrap_small (n := pr * p.f2) (by omega) (by omega), wrap_small (by omega) (by omega)]
  exact Ev.val _
theorem prPr_ev (p : S35) (u : Int) (hs : p.f0.size ≤ 9223372036854775806) : Ev (fun k => contangoref09_Price.f k p.f0 p.f1 p.f2 p.f3 p.f4 p.f5 p.f6 u) (prP p u) := by
  simp only [contangoref09_Price.f, withinr_some, Option.bind_some, decide_eq_true_eq]
  refine Ev.bind (prCr_ev p hs) ?_
  unfold prP
  refine Ev.both (fun h0 => ?_) (fun _ => Ev.val _)
  have ht := prC_tick h0
  exact Ev.both (fun _ => Ev.neg (by omega) (Ev.both (fun _ => Ev.val _) (fun _ => Ev.val _))) (fun _ => Ev.val _)
/-- What lots cost at the final price, or why that is not told. -/
def inV (p : S35) (u q : Int) : Int × Int := if prP p u = 0 then (if q < 1 ∨ q > 1048576 then (0, 18) else if u < 0 then (0, 17) else vl p u q) else (0, prP p u)
theorem inV_ev (p : S35) (u q : Int) : Ev (fun k => deliver_Invoice.f k p.f0 p.f1 p.f2 p.f3 p.f4 p.f5 p.f6 u q) (inV p u q) := by
  unfold inV
  simp only [deliver_Invoice.f]
  refine Ev.bind (prP_ev p u) ?_
  by_cases c0 : prP p u = 0
  case neg => rw [if_neg c0]; exact Ev.neg c0 (Ev.val _)
  rw [if_pos c0]
  refine Ev.pos c0 ?_
  have j0 : ∀ b : Bool, b = decide (q < 1 ∨ q > 1048576) → Ev (fun k => deliver_Invoice.j0 k u q b p.f0 p.f1 p.f2 p.f3 p.f4 p.f5 p.f6) (if q < 1 ∨ q > 1048576 then (0, 18) else if u < 0 then (0, 17) else vl p u q) := by
    intro b hb
    refine Ev.shift ?_
    simp only [deliver_Invoice.j0]
    by_cases c1 : q < 1 ∨ q > 1048576
    · rw [if_pos c1]
      exact Ev.pos (by rw [hb]; exact decide_eq_true c1) (Ev.val _)
    · rw [if_neg c1]
      refine Ev.neg (by rw [hb, decide_eq_false c1]; decide) ?_
      by_cases c2 : u < 0
      · rw [if_pos c2]; exact Ev.pos c2 (Ev.val _)
      · rw [if_neg c2]; exact Ev.neg c2 (Ev.bind (vl_ev p u q) (Ev.val _))
  by_cases c1 : q < 1
  · exact Ev.pos c1 (j0 true (decide_eq_true (.inl c1)).symm)
  · refine Ev.neg c1 (j0 _ ?_)
    exact decide_eq_decide.mpr ⟨fun h => .inr h, fun h => by omega⟩
theorem inV_ok {p : S35} {u q : Int} (h : (inV p u q).2 = 0) : 0 ≤ u ∧ u ≤ 33554432 ∧ 1 ≤ q ∧ q ≤ 1048576 ∧ (1 ≤ p.f2 ∧ p.f2 ≤ 4096) ∧ (inV p u q).1 = u * p.f2 * q := by
  unfold inV at h ⊢
  by_cases c0 : prP p u = 0
  case neg => rw [if_neg c0] at h; exact absurd h c0
  rw [if_pos c0] at h ⊢
  by_cases c1 : q < 1 ∨ q > 1048576
  case pos => rw [if_pos c1] at h; cases h
  rw [if_neg c1] at h ⊢
  by_cases c2 : u < 0
  case pos => rw [if_pos c2] at h; cases h
  rw [if_neg c2] at h ⊢
  have hC : prC p = 0 := by
    unfold prP at c0
    split at c0
    · assumption
    · assumption
  unfold vl at h ⊢
  rw [if_pos hC] at h ⊢
  by_cases c3 : -33554432 ≤ u ∧ u ≤ 33554432
  case neg => rw [if_neg c3] at h; cases h
  rw [if_pos c3, if_pos (by omega)]
  exact ⟨by omega, c3.2, by omega, by omega, (prC_zero hC).2, rfl⟩
theorem inV_le {p : S35} {u q : Int} (h : (inV p u q).2 = 0) : 0 ≤ (inV p u q).1 ∧ (inV p u q).1 ≤ 144115188075855872 := by
  obtain ⟨h1, h2, h3, h4, ⟨h5, h6⟩, h7⟩ := inV_ok h
  rw [h7]
  have a1 : u * p.f2 ≤ 33554432 * 4096 := Int.mul_le_mul h2 h6 (by omega) (by omega)
  have a0 : 0 ≤ u * p.f2 := Int.mul_nonneg h1 (by omega)
  exact ⟨Int.mul_nonneg a0 (by omega), Int.le_trans (Int.mul_le_mul a1 h4 (by omega) (by omega)) (by omega)⟩
theorem inVr_ev (p : S35) (u q : Int) (hs : p.f0.size ≤ 9223372036854775806) : Ev (fun k => contangoref52_Invoice.f k p.f0 p.f1 p.f2 p.f3 p.f4 p.f5 p.f6 u q) (inV p u q) := by
  unfold inV
  simp only [contangoref52_Invoice.f]
  refine Ev.bind (prPr_ev p u hs) ?_
  by_cases c0 : prP p u = 0
  case neg => rw [if_neg c0]; exact Ev.neg c0 (Ev.val _)
  rw [if_pos c0]
  refine Ev.pos c0 ?_
  have j0 : ∀ b : Bool, b = decide (q < 1 ∨ q > 1048576) → Ev (fun k => contangoref52_Invoice.j0 k u q b p.f0 p.f1 p.f2 p.f3 p.f4 p.f5 p.f6) (if q < 1 ∨ q > 1048576 then (0, 18) else if u < 0 then (0, 17) else vl p u q) := by
    intro b hb
    refine Ev.shift ?_
    simp only [contangoref52_Invoice.j0]
    by_cases c1 : q < 1 ∨ q > 1048576
    · rw [if_pos c1]
      exact Ev.pos (by rw [hb]; exact decide_eq_true c1) (Ev.val _)
    · rw [if_neg c1]
      refine Ev.neg (by rw [hb, decide_eq_false c1]; decide) ?_
      by_cases c2 : u < 0
      · rw [if_pos c2]; exact Ev.pos c2 (Ev.val _)
      · rw [if_neg c2]; exact Ev.neg c2 (Ev.bind (vlr_ev p u q hs) (Ev.val _))
  by_cases c1 : q < 1
  · exact Ev.pos c1 (j0 true (decide_eq_true (.inl c1)).symm)
  · refine Ev.neg c1 (j0 _ ?_)
    exact decide_eq_decide.mpr ⟨fun h => .inr h, fun h => by omega⟩
theorem less_irrefl (a : List UInt8) : Op.bytesLess a a = false := by
  induction a with
  | nil => rfl
  | cons x r ih =>
    have h : ¬ x < x := fun h => by have := UInt8.lt_iff_toNat_lt.mp h; omega
    simp [Op.bytesLess, ih, h]
theorem less_trans (a : List UInt8) : ∀ b c : List UInt8, Op.bytesLess a b = true → Op.bytesLess b c = true → Op.bytesLess a c = true := by
  induction a with
  | nil =>
    intro b c h1 h2
    cases c with
    | nil => cases b <;> simp [Op.bytesLess] at h2
    | cons z c => rfl
  | cons x a ih =>
    intro b c h1 h2
    cases b with
    | nil => simp [Op.bytesLess] at h1
    | cons y b =>
      cases c with
      | nil => simp [Op.bytesLess] at h2
      | cons z c =>
        simp only [Op.bytesLess, Bool.or_eq_true, decide_eq_true_eq, Bool.and_eq_true, beq_iff_eq, UInt8.lt_iff_toNat_lt] at h1 h2 ⊢
        rcases h1 with h1 | ⟨rfl, h1⟩
        · rcases h2 with h2 | ⟨rfl, h2⟩
          · exact Or.inl (by omega)
          · exact Or.inl h1
        · rcases h2 with h2 | ⟨rfl, h2⟩
          · exact Or.inl h2
          · exact Or.inr ⟨rfl, ih _ _ h1 h2⟩
theorem less_flip {a b : List UInt8} (h : ¬ Op.bytesLess a b = true) (hne : b ≠ a) : Op.bytesLess b a = true := by
  have := Go.Proofs.YtmgeoombebkfaaaHand.bytesLess_flip b a
  have h' : Op.bytesLess a b = false := by simpa using h
  rw [h', beq_eq_false_iff_ne.mpr hne] at this
  simpa using this
theorem less_ne {a b : List UInt8} (h : Op.bytesLess a b = true) : a ≠ b := by
  intro e
  subst e
  rw [less_irrefl] at h
  cases h
theorem and32 (n : Int) : Go.bits .and .i64 n 4294967295 = n % 4294967296 := by
  have h127 : (BitVec.ofInt 64 4294967295).toNat = 2 ^ 32 - 1 := by decide
  have key : (BitVec.ofInt 64 n &&& BitVec.ofInt 64 4294967295).toNat = (n % ((2 ^ 64 : Nat) : Int)).toNat % 2 ^ 32 := by
    rw [BitVec.toNat_and, BitVec.toNat_ofInt, h127, Nat.and_two_pow_sub_one_eq_mod]
  show IntKind.i64.wrap ((BitVec.ofInt 64 n &&& BitVec.ofInt 64 4294967295).toNat : Nat) = n % 4294967296
  rw [key, IntKind.wrap_i64]
  omega
/-- Is a number money? -/
def fitB (n : Int) : Bool := decide (-1152921504606846976 ≤ n ∧ n ≤ 1152921504606846976)
def sumI (l : List Int) : Int := l.foldr (· + ·) 0
/-- All together, or why that is not told. -/
def smV (l : List Int) (s : Int) : Int × Int := if l.all fitB = true then (if fitB (s + sumI l) = true then (s + sumI l, 0) else (0, 3)) else (0, 2)
theorem fits_some (n : Int) : cents_Fits.f n = some (fitB n) := by
  unfold cents_Fits.f fitB
  by_cases h : n ≥ -1152921504606846976
  · rw [if_pos h]
    congr 1
    exact decide_eq_decide.mpr ⟨fun h2 => ⟨h, h2⟩, fun h2 => h2.2⟩
  · rw [if_neg h]
    congr 1
    exact (decide_eq_false (by omega)).symm
theorem fitting_some (n : Int) : cents_fitting.f n = some (if fitB n = true then (n, 0) else (0, 3)) := by
  unfold cents_fitting.f
  rw [fits_some]
  simp only [Option.bind_some]
  split <;> rfl
theorem sumEnd (hi lo : Int) (h1 : -1152921504606846976 ≤ hi ∧ hi ≤ 1152921504606846976) (h2 : 0 ≤ lo ∧ lo ≤ 1152921504606846976) :
    (if (wrap64 (hi + (lo / 4294967296))) < (-268435456) then (some ((0 : Int), (3 : Int))) else (if (wrap64 (hi + (lo / 4294967296))) > 268435456 then (some (0, 3)) else ((cents_fitting.f (wrap64 ((wrap64 ((wrap64 (hi + (lo / 4294967296))) * 4294967296)) + (Go.bits .and .i64 lo 4294967295)))).bind fun bt => (some (bt.1, bt.2))))) = some (if fitB (hi * 4294967296 + lo) = true then (hi * 4294967296 + lo, 0) else (0, 3)) := by
  have e1 : wrap64 (hi + lo / 4294967296) = hi + lo / 4294967296 := wrap_small (by omega) (by omega)
  rw [e1, and32]
  by_cases c1 : hi + lo / 4294967296 < -268435456
  · rw [if_pos c1, if_neg]
    unfold fitB
    simp only [decide_eq_true_eq]
    omega
  · rw [if_neg c1]
    by_cases c2 : hi + lo / 4294967296 > 268435456
    · rw [if_pos c2, if_neg]
      unfold fitB
      simp only [decide_eq_true_eq]
      omega
    · rw [if_neg c2]
      have e2 : wrap64 ((hi + lo / 4294967296) * 4294967296) = (hi + lo / 4294967296) * 4294967296 := wrap_small (by omega) (by omega)
      have e3 : wrap64 ((hi + lo / 4294967296) * 4294967296 + lo % 4294967296) = hi * 4294967296 + lo := by
        rw [wrap_small (by omega) (by omega)]
        omega
      rw [e2, e3, fitting_some]
      rfl
theorem sumL (l : List Int) (hl : l.length ≤ 1000000) (n : Nat) : ∀ (i : Nat) (hi lo : Int), l.length - i = n → i ≤ l.length → -(268435456 * (i : Int)) ≤ hi → hi ≤ 268435456 * (i : Int) → 0 ≤ lo → lo ≤ 4294967296 * (i : Int) →
    Ev (fun k => cents_Sum.l0 k l hi lo (l.length : Int) (i : Int)) (smV (l.drop i) (hi * 4294967296 + lo)) := by
  induction n with
  | zero =>
    intro i hi lo hd hle h1 h2 h3 h4
    refine Ev.shift ?_
    simp only [cents_Sum.l0]
    rw [List.drop_eq_nil_of_le (by omega)]
    refine Ev.neg (by omega) ?_
    rw [sumEnd hi lo (by omega) (by omega)]
    exact Ev.valOf (by simp [smV, sumI])
  | succ n ih =>
    intro i hi lo hd hle h1 h2 h3 h4
    have hlt : i < l.length := by omega
    have hw : wrap64 ((i : Int) + 1) = ((i + 1 : Nat) : Int) := by unfold wrap64; omega
    refine Ev.shift ?_
    simp only [cents_Sum.l0, hw]
    have hr : rd l (i : Int) = l[i] := by simp [rd, List.getD_eq_getElem?_getD, hlt]
    rw [hr, List.drop_eq_getElem_cons hlt]
    refine Ev.pos (by omega) (Ev.pos (by omega) (Ev.pos (by omega) ?_))
    rw [fits_some, and32]
    simp only [Option.bind_some]
    by_cases hf : fitB l[i] = true
    · refine Ev.pos hf ?_
      have hf2 := hf
      unfold fitB at hf2
      simp only [decide_eq_true_eq] at hf2
      have e1 : wrap64 (hi + l[i] / 4294967296) = hi + l[i] / 4294967296 := wrap_small (by omega) (by omega)
      have e2 : wrap64 (lo + l[i] % 4294967296) = lo + l[i] % 4294967296 := wrap_small (by omega) (by omega)
      rw [e1, e2]
      have h := ih (i + 1) (hi + l[i] / 4294967296) (lo + l[i] % 4294967296) (by omega) (by omega) (by omega) (by omega) (by omega) (by omega)
      have e3 : smV (l[i] :: l.drop (i + 1)) (hi * 4294967296 + lo) = smV (l.drop (i + 1)) ((hi + l[i] / 4294967296) * 4294967296 + (lo + l[i] % 4294967296)) := by
        unfold smV
        rw [List.all_cons, hf, Bool.true_and]
        have e4 : hi * 4294967296 + lo + sumI (l[i] :: l.drop (i + 1)) = (hi + l[i] / 4294967296) * 4294967296 + (lo + l[i] % 4294967296) + sumI (l.drop (i + 1)) := by
          have : sumI (l[i] :: l.drop (i + 1)) = l[i] + sumI (l.drop (i + 1)) := rfl
          rw [this]
          omega
        rw [e4]
      rw [e3]
      exact h
    · have e : smV (l[i] :: l.drop (i + 1)) (hi * 4294967296 + lo) = (0, 2) := by
        unfold smV
        rw [List.all_cons, Bool.eq_false_iff.mpr hf, Bool.false_and]
        rfl
      rw [e]
      exact Ev.neg hf (Ev.val _)
/-- The sum of numbers of money, or why it is not told. -/
def sm (l : List Int) : Int × Int := smV l 0
theorem sm_ev (l : List Int) (hl : l.length ≤ 1000000) : Ev (fun k => cents_Sum.f k l) (sm l) := by
  simp only [cents_Sum.f]
  exact sumL l hl l.length 0 0 0 (by omega) (by omega) (by omega) (by omega) (by omega) (by omega)
theorem tq (x : Int) : x = 1073741824 * x.tdiv 1073741824 + x.tmod 1073741824 ∧ -1073741824 < x.tmod 1073741824 ∧ x.tmod 1073741824 < 1073741824 := by
  by_cases h : 0 ≤ x
  · rw [Int.tdiv_eq_ediv_of_nonneg h, Int.tmod_eq_emod_of_nonneg h]
    omega
  · obtain ⟨y, rfl⟩ : ∃ y, x = -y := ⟨-x, by omega⟩
    rw [Int.neg_tdiv, Int.neg_tmod, Int.tdiv_eq_ediv_of_nonneg (by omega), Int.tmod_eq_emod_of_nonneg (by omega)]
    omega
theorem fitsr_some (n : Int) : contangoref01_Fits.f n = some (fitB n) := by
  unfold contangoref01_Fits.f fitB
  by_cases h : n ≥ -1152921504606846976
  · rw [if_pos h]
    congr 1
    exact decide_eq_decide.mpr ⟨fun h2 => ⟨h, h2⟩, fun h2 => h2.2⟩
  · rw [if_neg h]
    congr 1
    exact (decide_eq_false (by omega)).symm
theorem sumrL (l : List Int) (hl : l.length ≤ 1000000) (n : Nat) : ∀ (i : Nat) (hi lo : Int), l.length - i = n → i ≤ l.length → -(1073741825 * (i : Int)) ≤ hi → hi ≤ 1073741825 * (i : Int) → -(1073741824 * (i : Int)) ≤ lo → lo ≤ 1073741824 * (i : Int) →
    Ev (fun k => contangoref01_Sum.l0 k l hi lo (i : Int)) (smV (l.drop i) (hi * 1073741824 + lo)) := by
  induction n with
  | zero =>
    intro i hi lo hd hle h1 h2 h3 h4
    refine Ev.shift ?_
    simp only [contangoref01_Sum.l0]
    rw [List.drop_eq_nil_of_le (by omega)]
    refine Ev.neg (by omega) ?_
    have ht := tq lo
    generalize hq : lo.tdiv 1073741824 = q at *
    generalize hr : lo.tmod 1073741824 = r at *
    clear hq hr
    have e0 : wrap64 q = q := wrap_small (by omega) (by omega)
    have e1 : wrap64 (hi + q) = hi + q := wrap_small (by omega) (by omega)
    rw [e0, e1]
    have e : smV ([] : List Int) (hi * 1073741824 + lo) = if fitB (hi * 1073741824 + lo) = true then (hi * 1073741824 + lo, 0) else (0, 3) := by simp [smV, sumI]
    rw [e]
    by_cases c1 : hi + q < -1073741825
    · have hn : ¬ fitB (hi * 1073741824 + lo) = true := by unfold fitB; simp only [decide_eq_true_eq]; omega
      rw [if_neg hn]
      exact Ev.pos c1 (Ev.val _)
    · refine Ev.neg c1 ?_
      by_cases c2 : hi + q > 1073741825
      · have hn : ¬ fitB (hi * 1073741824 + lo) = true := by unfold fitB; simp only [decide_eq_true_eq]; omega
        rw [if_neg hn]
        exact Ev.pos c2 (Ev.val _)
      · refine Ev.neg c2 ?_
        have e2 : wrap64 ((hi + q) * 1073741824) = (hi + q) * 1073741824 := wrap_small (by omega) (by omega)
        have e3 : wrap64 ((hi + q) * 1073741824 + r) = hi * 1073741824 + lo := by
          rw [wrap_small (by omega) (by omega)]
          omega
        rw [e2, e3, fitsr_some]
        simp only [Option.bind_some]
        exact Ev.both (fun _ => Ev.val _) (fun _ => Ev.val _)
  | succ n ih =>
    intro i hi lo hd hle h1 h2 h3 h4
    have hlt : i < l.length := by omega
    have hw : wrap64 ((i : Int) + 1) = ((i + 1 : Nat) : Int) := by unfold wrap64; omega
    refine Ev.shift ?_
    simp only [contangoref01_Sum.l0, hw]
    have hr : rd l (i : Int) = l[i] := by simp [rd, List.getD_eq_getElem?_getD, hlt]
    rw [hr, List.drop_eq_getElem_cons hlt]
    refine Ev.pos (by omega) (Ev.pos (by omega) ?_)
    rw [fitsr_some]
    simp only [Option.bind_some]
    by_cases hf : fitB l[i] = true
    · refine Ev.pos hf ?_
      have hf2 := hf
      unfold fitB at hf2
      simp only [decide_eq_true_eq] at hf2
      have ht := tq l[i]
      generalize hq : l[i].tdiv 1073741824 = q at *
      generalize hr : l[i].tmod 1073741824 = r at *
      have e0 : wrap64 q = q := wrap_small (by omega) (by omega)
      have e1 : wrap64 (hi + q) = hi + q := wrap_small (by omega) (by omega)
      have e2 : wrap64 (lo + r) = lo + r := wrap_small (by omega) (by omega)
      rw [e0, e1, e2]
      have h := ih (i + 1) (hi + q) (lo + r) (by omega) (by omega) (by omega) (by omega) (by omega) (by omega)
      have e3 : smV (l[i] :: l.drop (i + 1)) (hi * 1073741824 + lo) = smV (l.drop (i + 1)) ((hi + q) * 1073741824 + (lo + r)) := by
        unfold smV
        rw [List.all_cons, hf, Bool.true_and]
        have e4 : hi * 1073741824 + lo + sumI (l[i] :: l.drop (i + 1)) = (hi + q) * 1073741824 + (lo + r) + sumI (l.drop (i + 1)) := by
          have : sumI (l[i] :: l.drop (i + 1)) = l[i] + sumI (l.drop (i + 1)) := rfl
          rw [this]
          omega
        rw [e4]
      rw [e3]
      exact h
    · have e : smV (l[i] :: l.drop (i + 1)) (hi * 1073741824 + lo) = (0, 2) := by
        unfold smV
        rw [List.all_cons, Bool.eq_false_iff.mpr hf, Bool.false_and]
        rfl
      rw [e]
      exact Ev.neg hf (Ev.val _)
theorem smr_ev (l : List Int) (hl : l.length ≤ 1000000) : Ev (fun k => contangoref01_Sum.f k l) (sm l) := by
  simp only [contangoref01_Sum.f]
  exact sumrL l hl l.length 0 0 0 (by omega) (by omega) (by omega) (by omega) (by omega) (by omega)
theorem ba_eq {a b : ByteArray} (h : a.toList = b.toList) : a = b := (strQ_iff a b).mp (by simp [strQ, h])
/-- Names that rise. -/
def SS (l : List ByteArray) : Prop := l.Pairwise (fun a b => Op.bytesLess a.toList b.toList = true)
/-- A name into names that rise. -/
def insU (x : ByteArray) : List ByteArray → List ByteArray
  | [] => [x]
  | y :: r => if strQ y x = true then y :: r else if Op.bytesLess x.toList y.toList = true then x :: y :: r else y :: insU x r
theorem insU_mem (x : ByteArray) (l : List ByteArray) : ∀ s, s ∈ insU x l ↔ s = x ∨ s ∈ l := by
  induction l with
  | nil => intro s; simp [insU]
  | cons y r ih =>
    intro s
    rw [insU]
    by_cases h : strQ y x = true
    · rw [if_pos h]
      have := (strQ_iff _ _).mp h
      refine ⟨.inr, fun h2 => h2.elim (fun e => ?_) id⟩
      rw [e, ← this]; simp
    · rw [if_neg h]
      split
      · simp
      · rw [List.mem_cons, ih, List.mem_cons]
        constructor
        · rintro (h1 | h1 | h1)
          · exact .inr (.inl h1)
          · exact .inl h1
          · exact .inr (.inr h1)
        · rintro (h1 | h1 | h1)
          · exact .inr (.inl h1)
          · exact .inl h1
          · exact .inr (.inr h1)
theorem insU_len (x : ByteArray) (l : List ByteArray) : (insU x l).length ≤ l.length + 1 := by
  induction l with
  | nil => exact Nat.le_refl 1
  | cons y r ih =>
    rw [insU]
    split
    · exact Nat.le_succ _
    · split
      · exact Nat.le_refl _
      · simp only [List.length_cons]; omega
theorem strQ_ne {x y : ByteArray} (h : ¬ strQ x y = true) : x.toList ≠ y.toList := fun e => h ((strQ_iff x y).mpr (ba_eq e))
theorem insU_sorted (x : ByteArray) (l : List ByteArray) (h : SS l) : SS (insU x l) := by
  induction l with
  | nil => exact List.pairwise_singleton _ _
  | cons y r ih =>
    have h' := List.pairwise_cons.mp h
    rw [insU]
    by_cases c : strQ y x = true
    · rw [if_pos c]; exact h
    · rw [if_neg c]
      by_cases d : Op.bytesLess x.toList y.toList = true
      · rw [if_pos d]
        refine List.pairwise_cons.mpr ⟨fun b hb => ?_, h⟩
        rcases List.mem_cons.mp hb with rfl | hb
        · exact d
        · exact less_trans _ _ _ d (h'.1 b hb)
      · rw [if_neg d]
        refine List.pairwise_cons.mpr ⟨fun b hb => ?_, ih h'.2⟩
        rcases (insU_mem x r b).mp hb with rfl | hb
        · exact less_flip d (strQ_ne c)
        · exact h'.1 b hb
theorem SS_nodup {l : List ByteArray} (h : SS l) : l.Nodup := List.Pairwise.imp (R := fun a b => Op.bytesLess a.toList b.toList = true) (fun {a b} (hab : Op.bytesLess a.toList b.toList = true) => fun (e : a = b) => less_ne hab (by rw [e])) (show List.Pairwise (fun a b => Op.bytesLess a.toList b.toList = true) l from h)
theorem SS_uniq {a b : List ByteArray} (ha : SS a) (hb : SS b) (h : ∀ s, s ∈ a ↔ s ∈ b) : a = b := by
  refine List.Perm.eq_of_pairwise (le := fun (a b : ByteArray) => Op.bytesLess a.toList b.toList = true) (fun x y _ _ h1 h2 => ?_) ha hb ((List.perm_ext_iff_of_nodup (SS_nodup ha) (SS_nodup hb)).mpr h)
  have := less_trans _ _ _ h1 h2
  rw [less_irrefl] at this
  cases this
theorem sortS_SS {l : List ByteArray} (h : l.Nodup) : SS (sortS l) := by
  have h1 := sortS_sorted l
  have h2 : (sortS l).Nodup := (sortS_perm l).nodup_iff.mpr h
  refine (List.Pairwise.and h1 h2).imp (fun {a b} hab => ?_)
  have h3 := (leS a b).mpr hab.1
  exact less_flip (by rw [h3]; decide) (fun e => hab.2 (ba_eq e))
open Go.Proofs.YtmgeoombebkfaaaHand (put)
/-- What a pair costs. -/
def iv52 (p : S35) (u : Int) (x : S56) : Int := (inV p u x.f2).1
/-- The first pair that may not be, and why. -/
def feV (p : S35) (u : Int) : List S56 → Int
  | [] => 0
  | x :: r => if (inV p u x.f2).2 = 0 then feV p u r else (inV p u x.f2).2
/-- What a member gets. -/
def nm (p : S35) (u : Int) (s : ByteArray) : List S56 → Int
  | [] => 0
  | x :: r => (if strQ x.f0.f0 s = true then iv52 p u x else 0) - (if strQ x.f1.f0 s = true then iv52 p u x else 0) + nm p u s r
/-- The members of pairs. -/
def alN : List S56 → List ByteArray
  | [] => []
  | x :: r => x.f0.f0 :: x.f1.f0 :: alN r
def NL : List ByteArray → List ByteArray
  | [] => []
  | s :: r => insU s (NL r)
theorem NL_SS (l : List ByteArray) : SS (NL l) := by
  induction l with
  | nil => exact List.Pairwise.nil
  | cons s r ih => exact insU_sorted s _ ih
theorem NL_mem (l : List ByteArray) (s : ByteArray) : s ∈ NL l ↔ s ∈ l := by
  induction l with
  | nil => exact Iff.rfl
  | cons a r ih => rw [NL, insU_mem, ih, List.mem_cons]
theorem NL_len (l : List ByteArray) : (NL l).length ≤ l.length := by
  induction l with
  | nil => exact Nat.le_refl _
  | cons a r ih =>
    rw [NL, List.length_cons]
    have := insU_len a (NL r)
    omega
theorem alN_len (l : List S56) : (alN l).length = 2 * l.length := by
  induction l with
  | nil => rfl
  | cons x r ih => rw [alN, List.length_cons, List.length_cons, List.length_cons, ih]; omega
/-- A sum that is told, if it fits. -/
def sV (z : Int) : Int × Int := if fitB z = true then (z, 0) else (0, 3)
theorem sm_sV {v : List Int} {z : Int} (h : v.all fitB = true) (hz : sumI v = z) : sm v = sV z := by
  rw [sm, smV, if_pos h, hz, Int.zero_add]
  rfl
theorem sumI_append (a b : List Int) : sumI (a ++ b) = sumI a + sumI b := by
  induction a with
  | nil => simp [sumI]
  | cons x r ih =>
    simp only [sumI, List.cons_append, List.foldr_cons] at ih ⊢
    omega
/-- The groups and their names so far: what each comes to. -/
structure GI (z : ByteArray → Int) (A : ByteArray → Prop) (N : Nat) (t : List ByteArray) (m : List (ByteArray × List Int)) : Prop where
  sum : ∀ s, sumI ((Go.Proofs.YtmgeoombebkfaaaHand.look strQ m s).getD []) = z s
  fit : ∀ s, ((Go.Proofs.YtmgeoombebkfaaaHand.look strQ m s).getD []).all fitB = true
  len : ∀ s, ((Go.Proofs.YtmgeoombebkfaaaHand.look strQ m s).getD []).length ≤ N
  has : ∀ s, ((Go.Proofs.YtmgeoombebkfaaaHand.look strQ m s).getD []).length = 0 ↔ ¬ A s
  nod : t.Nodup
  mem : ∀ s, s ∈ t ↔ A s
  tln : t.length ≤ N
theorem GI.step {z : ByteArray → Int} {A : ByteArray → Prop} {N : Nat} {t : List ByteArray} {m : List (ByteArray × List Int)} (h : GI z A N t m) (a : ByteArray) (y : Int) (hy : fitB y = true) :
    GI (fun s => z s + if strQ a s = true then y else 0) (fun s => A s ∨ s = a) (N + 1) (if ((Go.Proofs.YtmgeoombebkfaaaHand.look strQ m a).getD []).length = 0 then t ++ [a] else t) (put strQ a ((Go.Proofs.YtmgeoombebkfaaaHand.look strQ m a).getD [] ++ [y]) m) := by
  have key : ∀ s, (Go.Proofs.YtmgeoombebkfaaaHand.look strQ (put strQ a ((Go.Proofs.YtmgeoombebkfaaaHand.look strQ m a).getD [] ++ [y]) m) s).getD [] = if strQ a s = true then (Go.Proofs.YtmgeoombebkfaaaHand.look strQ m s).getD [] ++ [y] else (Go.Proofs.YtmgeoombebkfaaaHand.look strQ m s).getD [] := fun s => by
    rw [Go.Proofs.YtmgeoombebkfaaaHand.look_put _ _ strQ_iff]
    by_cases c : strQ a s = true
    · rw [if_pos c, if_pos c, (strQ_iff _ _).mp c]; rfl
    · rw [if_neg c, if_neg c]
  refine ⟨fun s => ?_, fun s => ?_, fun s => ?_, fun s => ?_, ?_, fun s => ?_, ?_⟩
  · rw [key]
    by_cases c : strQ a s = true
    · rw [if_pos c, sumI_append, h.sum]
      show z s + sumI [y] = z s + if strQ a s = true then y else 0
      rw [if_pos c]; simp [sumI]
    · rw [if_neg c, h.sum]
      show z s = z s + if strQ a s = true then y else 0
      rw [if_neg c, Int.add_zero]
  · rw [key]
    split
    · rw [List.all_append, h.fit s]; simp [hy]
    · exact h.fit s
  · rw [key]
    have := h.len s
    split
    · rw [List.length_append, List.length_singleton]; omega
    · omega
  · rw [key]
    by_cases c : strQ a s = true
    · rw [if_pos c, List.length_append, List.length_singleton]
      have e := (strQ_iff _ _).mp c
      exact ⟨fun h => by omega, fun h => absurd (.inr e.symm) h⟩
    · rw [if_neg c, h.has s]
      exact ⟨fun h1 h2 => h2.elim h1 (fun e => c ((strQ_iff _ _).mpr e.symm)), fun h1 h2 => h1 (.inl h2)⟩
  · split
    · rename_i c
      refine List.nodup_append.mpr ⟨h.nod, by simp, ?_⟩
      intro b hb d hd e
      rw [List.mem_singleton.mp hd] at e
      rw [e] at hb
      exact (h.has a).mp c ((h.mem a).mp hb)
    · exact h.nod
  · by_cases c : ((Go.Proofs.YtmgeoombebkfaaaHand.look strQ m a).getD []).length = 0
    · rw [if_pos c, List.mem_append, List.mem_singleton, h.mem]
    · rw [if_neg c, h.mem]
      exact ⟨.inl, fun h2 => h2.elim id (fun e => by
        rw [e]
        by_cases ca : A a
        · exact ca
        · exact absurd ((h.has a).mpr ca) c)⟩
  · have := h.tln
    split
    · rw [List.length_append, List.length_singleton]; omega
    · omega
theorem GI.same {z z' : ByteArray → Int} {A A' : ByteArray → Prop} {N : Nat} {t : List ByteArray} {m : List (ByteArray × List Int)} (h : GI z A N t m) (hz : ∀ s, z s = z' s) (hA : ∀ s, A s ↔ A' s) : GI z' A' N t m :=
  ⟨fun s => (h.sum s).trans (hz s), h.fit, h.len, fun s => (h.has s).trans (not_congr (hA s)), h.nod, fun s => (h.mem s).trans (hA s), h.tln⟩
theorem fitB_iff (n : Int) : fitB n = true ↔ -1152921504606846976 ≤ n ∧ n ≤ 1152921504606846976 := by unfold fitB; exact decide_eq_true_iff
theorem neg_w {n : Int} (h0 : 0 ≤ n) (h1 : n ≤ 144115188075855872) : wrap64 (-n) = -n ∧ wrap64 (- -n) = n := by
  constructor <;> unfold wrap64 <;> omega
theorem two_ev {z : ByteArray → Int} {A : ByteArray → Prop} {N : Nat} {t : List ByteArray} {m : List (ByteArray × List Int)} (h : GI z A N t m) (hN : N + 1 < 1000000) (a b : ByteArray) (ha : a.size ≤ 9223372036854775807) (hb : b.size ≤ 9223372036854775807) {n : Int} (h0 : 0 ≤ n) (h1 : n ≤ 144115188075855872) :
    ∃ t' m', deliver_Flows.two [a, b] n t m = some (t', m') ∧ GI (fun s => z s + ((if strQ b s = true then n else 0) - (if strQ a s = true then n else 0))) (fun s => A s ∨ s = b ∨ s = a) (N + 2) t' m' := by
  obtain ⟨w1, w2⟩ := neg_w h0 h1
  have s1 := h.step a (-n) ((fitB_iff _).mpr (by omega))
  have s2 := s1.step b n ((fitB_iff _).mpr (by omega))
  refine ⟨_, _, ?_, s2.same (fun s => ?_) (fun s => ⟨fun h => by rcases h with (h | h) | h; exact .inl h; exact .inr (.inr h); exact .inr (.inl h), fun h => by rcases h with h | h | h; exact .inl (.inl h); exact .inr h; exact .inl (.inr h)⟩)⟩
  · have l1 := h.len a
    have l2 := h.tln
    have l3 := s1.len b
    have l4 := s1.tln
    clear s2
    rw [deliver_Flows.two, if_pos ha, if_pos (by omega), if_pos (by omega), w1]
    generalize (if ((Go.Proofs.YtmgeoombebkfaaaHand.look strQ m a).getD []).length = 0 then t ++ [a] else t) = T at *
    generalize put strQ a ((Go.Proofs.YtmgeoombebkfaaaHand.look strQ m a).getD [] ++ [-n]) m = M at *
    rw [deliver_Flows.two, if_pos hb, if_pos (by omega), if_pos (by omega), w2, deliver_Flows.two]
  · show z s + (if strQ a s = true then -n else 0) + (if strQ b s = true then n else 0) = z s + ((if strQ b s = true then n else 0) - (if strQ a s = true then n else 0))
    split <;> split <;> omega
theorem fgo_ev (p : S35) (u : Int) (l : List S56) (hs : ∀ x ∈ l, x.f0.f0.size ≤ 9223372036854775807 ∧ x.f1.f0.size ≤ 9223372036854775807) : ∀ (z : ByteArray → Int) (A : ByteArray → Prop) (N : Nat) (t : List ByteArray) (m : List (ByteArray × List Int)), GI z A N t m → N + 2 * l.length ≤ 10000 →
    ∃ t' m', Ev (fun k => deliver_Flows.go k p.f0 p.f1 p.f2 p.f3 p.f4 p.f5 p.f6 u l t m) (t', m', feV p u l) ∧ (feV p u l = 0 → GI (fun s => z s + nm p u s l) (fun s => A s ∨ s ∈ alN l) (N + 2 * l.length) t' m') ∧ (feV p u l ≠ 0 → t' = [] ∧ m' = []) := by
  induction l with
  | nil =>
    intro z A N t m h hN
    refine ⟨t, m, ?_, fun _ => h.same (fun s => by rw [nm, Int.add_zero]) (fun s => by simp [alN]), fun hh => absurd rfl hh⟩
    simp only [deliver_Flows.go]
    exact Ev.val _
  | cons x r ih =>
    intro z A N t m h hN
    rw [List.length_cons] at hN
    by_cases c0 : (inV p u x.f2).2 = 0
    · have hle := inV_le c0
      obtain ⟨hf, ht⟩ := hs x List.mem_cons_self
      obtain ⟨t1, m1, e1, g1⟩ := two_ev h (by omega) x.f1.f0 x.f0.f0 ht hf hle.1 hle.2
      obtain ⟨t', m', hE, hK, hK2⟩ := ih (fun y hy => hs y (List.mem_cons_of_mem _ hy)) _ _ (N + 2) t1 m1 g1 (by omega)
      rw [feV, if_pos c0]
      refine ⟨t', m', ?_, fun he => ?_, hK2⟩
      · simp only [deliver_Flows.go]
        refine Ev.bind (inV_ev p u x.f2) (Ev.pos c0 ?_)
        rw [e1]
        exact hE
      · have := hK he
        rw [List.length_cons, show N + 2 * (r.length + 1) = N + 2 + 2 * r.length by omega]
        refine this.same (fun s => ?_) (fun s => ?_)
        · rw [nm]; simp only [iv52]; omega
        · rw [alN, List.mem_cons, List.mem_cons]
          constructor
          · rintro ((h | h | h) | h)
            · exact .inl h
            · exact .inr (.inl h)
            · exact .inr (.inr (.inl h))
            · exact .inr (.inr (.inr h))
          · rintro (h | h | h | h)
            · exact .inl (.inl h)
            · exact .inl (.inr (.inl h))
            · exact .inl (.inr (.inr h))
            · exact .inr h
    · rw [feV, if_neg c0]
      refine ⟨[], [], ?_, fun he => absurd he c0, fun _ => ⟨rfl, rfl⟩⟩
      simp only [deliver_Flows.go]
      exact Ev.bind (inV_ev p u x.f2) (Ev.neg c0 (Ev.val _))
/-- What members pay and get, one behind the other. -/
def outV (cur : Int) (z : ByteArray → Int) : List ByteArray → List S63 → List S63 × Int
  | [], t => (t, 0)
  | s :: r, t => if (sV (z s)).2 = 0 then (if (sV (z s)).1 = 0 then outV cur z r t else outV cur z r (t ++ [⟨s, cur, (sV (z s)).1, 4⟩])) else ([], (sV (z s)).2)
theorem fout_ev {z : ByteArray → Int} {A : ByteArray → Prop} {N : Nat} {T : List ByteArray} {m : List (ByteArray × List Int)} (h : GI z A N T m) (hN : N ≤ 10000) (cur : Int) (l : List ByteArray) (hs : ∀ s ∈ l, s.size ≤ 9223372036854775807) : ∀ t : List S63, t.length + l.length ≤ 100000 →
    Ev (fun k => deliver_Flows.out k m cur l t) (outV cur z l t) := by
  induction l with
  | nil => intro t _; simp only [deliver_Flows.out]; exact Ev.val _
  | cons s r ih =>
    intro t ht
    rw [List.length_cons] at ht
    have ih2 := ih (fun y hy => hs y (List.mem_cons_of_mem _ hy))
    have e := sm_sV (h.fit s) (h.sum s)
    have hl := h.len s
    have hE := sm_ev _ (show ((Go.Proofs.YtmgeoombebkfaaaHand.look strQ m s).getD []).length ≤ 1000000 by omega)
    rw [e] at hE
    rw [outV]
    simp only [deliver_Flows.out]
    refine Ev.pos (hs s List.mem_cons_self) (Ev.bind hE ?_)
    by_cases c0 : (sV (z s)).2 = 0
    case neg => rw [if_neg c0]; exact Ev.neg c0 (Ev.val _)
    rw [if_pos c0]
    refine Ev.pos c0 ?_
    by_cases c1 : (sV (z s)).1 = 0
    · rw [if_pos c1]; exact Ev.pos c1 (ih2 t (by omega))
    · rw [if_neg c1]
      exact Ev.neg c1 (Ev.pos (by omega) (ih2 _ (by rw [List.length_append, List.length_singleton]; omega)))
/-- What members pay and get for pairs, or why that is not told. -/
def fwV (p : S35) (u : Int) (l : List S56) : List S63 × Int :=
  if feV p u l = 0 then (if l.length > 1024 then ([], 8) else outV p.f1 (fun s => nm p u s l) (NL (alN l)) []) else ([], feV p u l)
theorem alN_size {l : List S56} (hs : ∀ x ∈ l, x.f0.f0.size ≤ 9223372036854775807 ∧ x.f1.f0.size ≤ 9223372036854775807) : ∀ s ∈ alN l, s.size ≤ 9223372036854775807 := by
  induction l with
  | nil => intro s h; cases h
  | cons x r ih =>
    intro s h
    rw [alN, List.mem_cons, List.mem_cons] at h
    obtain ⟨h1, h2⟩ := hs x List.mem_cons_self
    rcases h with h | h | h
    · rw [h]; exact h1
    · rw [h]; exact h2
    · exact ih (fun y hy => hs y (List.mem_cons_of_mem _ hy)) s h
theorem fw_ev (p : S35) (u : Int) (l : List S56) (hl : l.length ≤ 2048) (hs : ∀ x ∈ l, x.f0.f0.size ≤ 9223372036854775807 ∧ x.f1.f0.size ≤ 9223372036854775807) : Ev (fun k => deliver_Flows.f k p.f0 p.f1 p.f2 p.f3 p.f4 p.f5 p.f6 u l) (fwV p u l) := by
  have h0 : GI (fun _ => 0) (fun _ => False) 0 [] [] := ⟨fun s => rfl, fun s => rfl, fun s => Nat.le_refl _, fun s => ⟨fun _ h => h, fun _ => rfl⟩, List.nodup_nil, fun s => by simp, Nat.le_refl _⟩
  obtain ⟨t', m', hE, hK, hK2⟩ := fgo_ev p u l hs _ _ 0 [] [] h0 (by omega)
  unfold fwV
  simp only [deliver_Flows.f]
  refine Ev.bind hE ?_
  by_cases c0 : feV p u l = 0
  case neg => rw [if_neg c0]; exact Ev.neg c0 (Ev.val _)
  rw [if_pos c0]
  refine Ev.pos c0 ?_
  have g := hK c0
  by_cases c1 : l.length > 1024
  · rw [if_pos c1]; exact Ev.pos c1 (Ev.val _)
  · rw [if_neg c1]
    have hn : sortS t' = NL (alN l) := SS_uniq (sortS_SS g.nod) (NL_SS _) (fun s => by
      rw [(sortS_perm _).mem_iff, NL_mem, g.mem]; simp)
    have ht := g.tln
    refine Ev.neg c1 (Ev.pos (show t'.length < 1000000 by omega) ?_)
    rw [hn]
    have hln := NL_len (alN l)
    rw [alN_len] at hln
    have := fout_ev (g.same (z' := fun s => nm p u s l) (A' := fun s => s ∈ alN l) (fun s => by omega) (fun s => by simp)) (by omega) p.f1 (NL (alN l)) (fun s hm => alN_size hs s ((NL_mem _ _).mp hm)) [] (by rw [List.length_nil]; omega)
    exact this
def kb (x : S80) : S56 := ⟨x.f0, x.f1, x.f2⟩
theorem rd_pr (l : List S80) (i : Nat) (h : i < l.length) : rd_T80 l (i : Int) = l[i] := by simp [rd_T80, h]
theorem wsc (i : Nat) (h : i < 1000000) : wrap64 ((i : Int) + 1) = ((i + 1 : Nat) : Int) := by unfold wrap64; omega
/-- The least name above another one, so far. -/
def lst (lo : ByteArray) : ByteArray → List ByteArray → ByteArray
  | b, [] => b
  | b, s :: r => lst lo (if Op.bytesLess lo.toList s.toList = true ∧ (b.toList = [] ∨ Op.bytesLess s.toList b.toList = true) then s else b) r
theorem lst_step (lo b s : ByteArray) (r : List ByteArray) : lst lo b (s :: r) = lst lo (if Op.bytesLess lo.toList s.toList = true ∧ (b.toList = [] ∨ Op.bytesLess s.toList b.toList = true) then s else b) r := rfl
theorem alN_drop (l : List S80) (i : Nat) (h : i < l.length) : (alN (l.map kb)).drop (2 * i) = l[i].f0.f0 :: l[i].f1.f0 :: (alN (l.map kb)).drop (2 * (i + 1)) := by
  induction l generalizing i with
  | nil => exact absurd h (Nat.not_lt_zero _)
  | cons x r ih =>
    cases i with
    | zero => rfl
    | succ i =>
      rw [List.length_cons] at h
      have := ih i (by omega)
      rw [List.map_cons, alN, show 2 * (i + 1) = 2 * i + 1 + 1 by omega, List.drop_succ_cons, List.drop_succ_cons, this, show 2 * (i + 1 + 1) = 2 * (i + 1) + 1 + 1 by omega, List.drop_succ_cons, List.drop_succ_cons]
      rfl
theorem leastr_c (l : List S80) (lo b s : ByteArray) (nx : Int) (R : ByteArray) (h : Ev (fun k => contangoref52_least.l0 k l lo (if Op.bytesLess lo.toList s.toList = true ∧ (b.toList = [] ∨ Op.bytesLess s.toList b.toList = true) then s else b) nx) R) :
    Ev (fun k => if (Op.bytesLess lo.toList s.toList) = true then (if b.toList = ([] : List UInt8) then (contangoref52_least.l0 k l lo s nx) else (if (Op.bytesLess s.toList b.toList) = true then (contangoref52_least.l0 k l lo s nx) else (contangoref52_least.l0 k l lo b nx))) else (contangoref52_least.l0 k l lo b nx)) R := by
  by_cases c1 : Op.bytesLess lo.toList s.toList = true
  · refine Ev.pos c1 ?_
    by_cases c2 : b.toList = []
    · rw [if_pos ⟨c1, .inl c2⟩] at h; exact Ev.pos c2 h
    · refine Ev.neg c2 ?_
      by_cases c3 : Op.bytesLess s.toList b.toList = true
      · rw [if_pos ⟨c1, .inr c3⟩] at h; exact Ev.pos c3 h
      · rw [if_neg (fun e => e.2.elim c2 c3)] at h; exact Ev.neg c3 h
  · rw [if_neg (fun e => c1 e.1)] at h; exact Ev.neg c1 h
theorem leastrL (l : List S80) (hl : l.length ≤ 2048) (lo : ByteArray) (n : Nat) : ∀ (i : Nat) (b : ByteArray), l.length - i = n → i ≤ l.length →
    Ev (fun k => contangoref52_least.l0 k l lo b ((2 * i : Nat) : Int)) (lst lo b ((alN (l.map kb)).drop (2 * i))) := by
  have w0 : wrap64 (2 * (l.length : Int)) = 2 * (l.length : Int) := by unfold wrap64; omega
  have wd : ∀ i : Nat, i < l.length → wrap64 (Int.tdiv ((2 * i : Nat) : Int) 2) = (i : Int) ∧ Int.tmod ((2 * i : Nat) : Int) 2 = 0 ∧ wrap64 (((2 * i : Nat) : Int) + 1) = ((2 * i + 1 : Nat) : Int) ∧ wrap64 (Int.tdiv ((2 * i + 1 : Nat) : Int) 2) = (i : Int) ∧ Int.tmod ((2 * i + 1 : Nat) : Int) 2 = 1 ∧ wrap64 (((2 * i + 1 : Nat) : Int) + 1) = ((2 * (i + 1) : Nat) : Int) := fun i hi => by
    rw [Int.tdiv_eq_ediv_of_nonneg (by omega), Int.tmod_eq_emod_of_nonneg (by omega), Int.tdiv_eq_ediv_of_nonneg (by omega), Int.tmod_eq_emod_of_nonneg (by omega)]
    refine ⟨?_, ?_, ?_, ?_, ?_, ?_⟩ <;> (try unfold wrap64) <;> omega
  have W0 := Aside0.mk w0
  have WD := Aside0.mk wd
  clear w0 wd
  induction n with
  | zero =>
    intro i b hi hle
    refine Ev.shift ?_
    simp only [contangoref52_least.l0, W0.out]
    rw [show (alN (l.map kb)).drop (2 * i) = [] from List.drop_eq_nil_of_le (by rw [alN_len, List.length_map]; omega), lst]
    exact Ev.neg (by omega) (Ev.val _)
  | succ n ih =>
    intro i b hi hle
    have hlt : i < l.length := by omega
    have ih2 := ih (i + 1)
    rw [alN_drop l i hlt, lst_step, lst_step]
    refine Ev.shift ?_
    simp only [contangoref52_least.l0, W0.out, (WD.out i hlt).1, (WD.out i hlt).2.1, (WD.out i hlt).2.2.1, rd_pr l i hlt]
    refine Ev.pos (by omega) (Ev.pos (by omega) (Ev.pos (by omega) (Ev.neg (by decide) ?_)))
    refine leastr_c l lo b _ _ _ ?_
    refine Ev.shift ?_
    simp only [contangoref52_least.l0, W0.out, (WD.out i hlt).2.2.2.1, (WD.out i hlt).2.2.2.2.1, (WD.out i hlt).2.2.2.2.2, rd_pr l i hlt]
    refine Ev.pos (by omega) (Ev.pos (by omega) (Ev.pos (by omega) (Ev.pos trivial ?_)))
    exact leastr_c l lo _ _ _ _ (ih2 _ (by omega) (by omega))
theorem leastr_ev (l : List S80) (hl : l.length ≤ 2048) (lo : ByteArray) : Ev (fun k => contangoref52_least.f k l lo) (lst lo ⟨#[]⟩ (alN (l.map kb))) := by
  have := leastrL l hl lo l.length 0 ⟨#[]⟩ (by omega) (by omega)
  rw [Nat.mul_zero, List.drop_zero] at this
  exact this
theorem tl0 : (⟨#[]⟩ : ByteArray).toList = [] := (toList_nil _).mpr rfl
theorem lst_spec (lo : ByteArray) (L : List ByteArray) : ∀ b : ByteArray, (b.toList = [] ∨ Op.bytesLess lo.toList b.toList = true) →
    ((lst lo b L).toList = [] ∧ b.toList = [] ∧ ∀ s ∈ L, ¬ Op.bytesLess lo.toList s.toList = true) ∨ (Op.bytesLess lo.toList (lst lo b L).toList = true ∧ (lst lo b L ∈ L ∨ lst lo b L = b) ∧ (b.toList = [] ∨ ¬ Op.bytesLess b.toList (lst lo b L).toList = true) ∧ ∀ s ∈ L, Op.bytesLess lo.toList s.toList = true → ¬ Op.bytesLess s.toList (lst lo b L).toList = true) := by
  induction L with
  | nil =>
    intro b hb
    rw [lst]
    rcases hb with hb | hb
    · exact .inl ⟨hb, hb, fun s h => by cases h⟩
    · exact .inr ⟨hb, .inr rfl, .inr (by rw [less_irrefl]; decide), fun s h => by cases h⟩
  | cons s r ih =>
    intro b hb
    rw [lst_step]
    by_cases c : Op.bytesLess lo.toList s.toList = true ∧ (b.toList = [] ∨ Op.bytesLess s.toList b.toList = true)
    · rw [if_pos c]
      rcases ih s (.inr c.1) with ⟨h1, h2, h3⟩ | ⟨h1, h2, h3, h4⟩
      · exfalso
        have := c.1
        rw [h2] at this
        cases lo.toList <;> simp [Op.bytesLess] at this
      · have hs0 : s.toList ≠ [] := fun e => by
          have := c.1
          rw [e] at this
          cases lo.toList <;> simp [Op.bytesLess] at this
        have h3' : ¬ Op.bytesLess s.toList (lst lo s r).toList = true := h3.resolve_left hs0
        refine .inr ⟨h1, .inl (h2.elim (fun h => List.mem_cons_of_mem _ h) (fun h => by rw [h]; exact List.mem_cons_self)), ?_, fun y hy hly => ?_⟩
        · rcases c.2 with c2 | c2
          · exact .inl c2
          · exact .inr (fun e => h3' (less_trans _ _ _ c2 e))
        · rcases List.mem_cons.mp hy with e | hy
          · rw [e]; exact h3'
          · exact h4 y hy hly
    · rw [if_neg c]
      rcases ih b hb with ⟨h1, h2, h3⟩ | ⟨h1, h2, h3, h4⟩
      · refine .inl ⟨h1, h2, fun y hy => ?_⟩
        rcases List.mem_cons.mp hy with e | hy
        · rw [e]; exact fun e2 => c ⟨e2, .inl h2⟩
        · exact h3 y hy
      · refine .inr ⟨h1, h2.elim (fun h => .inl (List.mem_cons_of_mem _ h)) .inr, h3, fun y hy hly => ?_⟩
        rcases List.mem_cons.mp hy with e | hy
        · rw [e] at hly ⊢
          intro e2
          have hb0 : b.toList ≠ [] := fun e0 => c ⟨hly, .inl e0⟩
          have hsb : ¬ Op.bytesLess s.toList b.toList = true := fun e0 => c ⟨hly, .inr e0⟩
          have hbl := h3.resolve_left hb0
          by_cases e3 : b.toList = s.toList
          · rw [e3] at hbl; exact hbl e2
          · exact hbl (less_trans _ _ _ (less_flip hsb e3) e2)
        · exact h4 y hy hly
theorem less_nil (a : List UInt8) : ¬ Op.bytesLess a [] = true := by cases a <;> simp [Op.bytesLess]
/-- The least name above one of names that rise is the next of them. -/
theorem lst_next (L : List ByteArray) (pre r : List ByteArray) (s : ByteArray) (hN : NL L = pre ++ s :: r) : (lst s ⟨#[]⟩ L).toList = (match r with | [] => [] | y :: _ => y.toList) := by
  have hSS := NL_SS L
  rw [hN] at hSS
  have h1 := (List.pairwise_append.mp hSS)
  have h2 := List.pairwise_cons.mp h1.2.1
  have hm : ∀ y, y ∈ L ↔ y ∈ pre ∨ y = s ∨ y ∈ r := fun y => by rw [← NL_mem, hN, List.mem_append, List.mem_cons]
  have hpre : ∀ y ∈ pre, ¬ Op.bytesLess s.toList y.toList = true := fun y hy e => by
    have := less_trans _ _ _ e (h1.2.2 y hy s List.mem_cons_self)
    rw [less_irrefl] at this
    cases this
  have hs : ¬ Op.bytesLess s.toList s.toList = true := by rw [less_irrefl]; decide
  rcases lst_spec s L ⟨#[]⟩ (.inl tl0) with ⟨k1, _, k3⟩ | ⟨k1, k2, _, k4⟩
  · rw [k1]
    cases r with
    | nil => rfl
    | cons y r => exact absurd (h2.1 y List.mem_cons_self) (k3 y ((hm y).mpr (.inr (.inr List.mem_cons_self))))
  · have hl : lst s ⟨#[]⟩ L ∈ L := k2.resolve_right (fun e => by rw [e, tl0] at k1; exact less_nil _ k1)
    have hr : lst s ⟨#[]⟩ L ∈ r := by
      rcases (hm _).mp hl with h | h | h
      · exact absurd k1 (hpre _ h)
      · rw [h] at k1; exact absurd k1 hs
      · exact h
    cases r with
    | nil => cases hr
    | cons y r =>
      rcases List.mem_cons.mp hr with e | e
      · rw [e]
      · exact absurd ((List.pairwise_cons.mp h2.2).1 _ e) (k4 y ((hm y).mpr (.inr (.inr List.mem_cons_self))) (h2.1 y List.mem_cons_self))
/-- The least name of all, if none is empty. -/
theorem lst_first (L : List ByteArray) (hne : ∀ s ∈ L, s.toList ≠ []) : (lst ⟨#[]⟩ ⟨#[]⟩ L).toList = (match NL L with | [] => [] | y :: _ => y.toList) := by
  have hSS := NL_SS L
  have hm : ∀ y, y ∈ L ↔ y ∈ NL L := fun y => (NL_mem L y).symm
  have h0 : ∀ y : ByteArray, y.toList ≠ [] → Op.bytesLess (⟨#[]⟩ : ByteArray).toList y.toList = true := fun y hy => by
    have e := tl0
    rw [e]
    cases h : y.toList with
    | nil => exact absurd h hy
    | cons a b => rfl
  rcases lst_spec ⟨#[]⟩ L ⟨#[]⟩ (.inl tl0) with ⟨k1, _, k3⟩ | ⟨k1, k2, _, k4⟩
  · rw [k1]
    cases hN : NL L with
    | nil => rfl
    | cons y r =>
      have : y ∈ L := (hm y).mpr (by rw [hN]; exact List.mem_cons_self)
      exact absurd (h0 y (hne y this)) (k3 y this)
  · have hl : lst ⟨#[]⟩ ⟨#[]⟩ L ∈ L := k2.resolve_right (fun e => by rw [e, tl0] at k1; exact less_nil _ k1)
    have hr := (hm _).mp hl
    cases hN : NL L with
    | nil => rw [hN] at hr; cases hr
    | cons y r =>
      have hy : y ∈ L := (hm y).mpr (by rw [hN]; exact List.mem_cons_self)
      rw [hN] at hr hSS
      rcases List.mem_cons.mp hr with e | e
      · rw [e]
      · exact absurd ((List.pairwise_cons.mp hSS).1 _ e) (k4 y hy (h0 y (hne y hy)))
theorem fst_iff (a s : ByteArray) : a.toList = s.toList ↔ strQ a s = true := by simp [strQ]
theorem sumr52L (p : S35) (hsz : p.f0.size ≤ 9223372036854775806) (u : Int) (l : List S80) (hl : l.length ≤ 2048) (hfe : feV p u (l.map kb) = 0) (s : ByteArray) (n : Nat) : ∀ (i : Nat) (v : List Int), l.length - i = n → i ≤ l.length → v.length ≤ 2 * i → v.all fitB = true →
    Ev (fun k => contangoref52_sum.l0 k u l s v (i : Int) p.f0 p.f1 p.f2 p.f3 p.f4 p.f5 p.f6) (sV (sumI v + nm p u s ((l.drop i).map kb))) := by
  have hok : ∀ x ∈ l, (inV p u x.f2).2 = 0 := by
    clear hl
    induction l with
    | nil => intro x hx; cases hx
    | cons y r ih =>
      intro x hx
      rw [List.map_cons, feV] at hfe
      by_cases c : (inV p u (kb y).f2).2 = 0
      · rw [if_pos c] at hfe
        rcases List.mem_cons.mp hx with e | hx
        · rw [e]; exact c
        · exact ih hfe x hx
      · rw [if_neg c] at hfe; exact absurd hfe c
  induction n with
  | zero =>
    intro i v hi hle hv hf
    refine Ev.shift ?_
    simp only [contangoref52_sum.l0]
    rw [show l.drop i = [] from List.drop_eq_nil_of_le (by omega), List.map_nil, nm, Int.add_zero]
    have := smr_ev v (by omega)
    rw [sm_sV hf rfl] at this
    exact Ev.neg (by omega) (Ev.bind this (Ev.val _))
  | succ n ih =>
    intro i v hi hle hv hf
    have hlt : i < l.length := by omega
    have c0 := hok l[i] (List.getElem_mem hlt)
    have hle2 := inV_le c0
    have ih2 := fun w => ih (i + 1) w (by omega) (by omega)
    refine Ev.shift ?_
    simp only [contangoref52_sum.l0, rd_pr l i hlt, wsc i (by omega), Option.bind_some]
    rw [List.drop_eq_getElem_cons hlt, List.map_cons, nm]
    refine Ev.pos (by omega) (Ev.pos (by omega) (Ev.bind (inVr_ev p u _ hsz) ?_))
    have hiv : iv52 p u (kb l[i]) = (inV p u l[i].f2).1 := rfl
    rw [hiv, show (kb l[i]).f0 = l[i].f0 from rfl, show (kb l[i]).f1 = l[i].f1 from rfl]
    have hw := (neg_w hle2.1 hle2.2).1
    rw [hw]
    clear hw hiv
    generalize (inV p u l[i].f2).1 = q at *
    have fq : fitB q = true := (fitB_iff _).mpr (by omega)
    have fn : fitB (-q) = true := (fitB_iff _).mpr (by omega)
    by_cases c1 : l[i].f0.f0.toList = s.toList
    · rw [if_pos ((fst_iff _ _).mp c1)]
      refine Ev.pos c1 (Ev.pos (by omega) ?_)
      by_cases c2 : l[i].f1.f0.toList = s.toList
      · rw [if_pos ((fst_iff _ _).mp c2)]
        refine Ev.pos c2 (Ev.pos (by rw [List.length_append, List.length_singleton]; omega) ?_)
        have := ih2 (v ++ [q] ++ [-q]) (by simp; omega) (by rw [List.all_append, List.all_append, hf]; simp [fq, fn])
        rw [sumI_append, sumI_append, show sumI [q] = q by simp [sumI], show sumI [-q] = -q by simp [sumI]] at this
        rwa [show sumI v + (q - q + nm p u s ((l.drop (i + 1)).map kb)) = sumI v + q + -q + nm p u s ((l.drop (i + 1)).map kb) by omega]
      · rw [if_neg (fun e => c2 ((fst_iff _ _).mpr e))]
        refine Ev.neg c2 ?_
        have := ih2 (v ++ [q]) (by simp; omega) (by rw [List.all_append, hf]; simp [fq])
        rw [sumI_append, show sumI [q] = q by simp [sumI]] at this
        rwa [show sumI v + (q - 0 + nm p u s ((l.drop (i + 1)).map kb)) = sumI v + q + nm p u s ((l.drop (i + 1)).map kb) by omega]
    · rw [if_neg (fun e => c1 ((fst_iff _ _).mpr e))]
      refine Ev.neg c1 ?_
      by_cases c2 : l[i].f1.f0.toList = s.toList
      · rw [if_pos ((fst_iff _ _).mp c2)]
        refine Ev.pos c2 (Ev.pos (by omega) ?_)
        have := ih2 (v ++ [-q]) (by simp; omega) (by rw [List.all_append, hf]; simp [fn])
        rw [sumI_append, show sumI [-q] = -q by simp [sumI]] at this
        rwa [show sumI v + (0 - q + nm p u s ((l.drop (i + 1)).map kb)) = sumI v + -q + nm p u s ((l.drop (i + 1)).map kb) by omega]
      · rw [if_neg (fun e => c2 ((fst_iff _ _).mpr e))]
        refine Ev.neg c2 ?_
        have := ih2 v (by omega) hf
        rwa [show sumI v + (0 - 0 + nm p u s ((l.drop (i + 1)).map kb)) = sumI v + nm p u s ((l.drop (i + 1)).map kb) by omega]
theorem sumr52_ev (p : S35) (hsz : p.f0.size ≤ 9223372036854775806) (u : Int) (l : List S80) (hl : l.length ≤ 2048) (hfe : feV p u (l.map kb) = 0) (s : ByteArray) :
    Ev (fun k => contangoref52_sum.f k p.f0 p.f1 p.f2 p.f3 p.f4 p.f5 p.f6 u l s) (sV (nm p u s (l.map kb))) := by
  have := sumr52L p hsz u l hl hfe s l.length 0 [] (by omega) (by omega) (Nat.le_refl _) rfl
  rw [List.drop_zero, show sumI [] = 0 from rfl, Int.zero_add] at this
  exact this
theorem outr_end (p : S35) (u : Int) (l : List S80) (t : List S63) (m : ByteArray) (hm : m.toList = []) : Ev (fun k => contangoref52_Flows.l1 k u l false t m p.f0 p.f1 p.f2 p.f3 p.f4 p.f5 p.f6) (t, 0) := by
  refine Ev.shift ?_
  simp only [contangoref52_Flows.l1]
  refine Ev.pos hm (Ev.shift ?_)
  simp only [contangoref52_Flows.j3]
  exact Ev.neg (by decide) (Ev.val _)
theorem outrL (p : S35) (hsz : p.f0.size ≤ 9223372036854775806) (u : Int) (l : List S80) (hl : l.length ≤ 2048) (hfe : feV p u (l.map kb) = 0) (r : List ByteArray) : ∀ (pre : List ByteArray) (s m : ByteArray) (x8 : Bool) (t : List S63), NL (alN (l.map kb)) = pre ++ s :: r → m.toList = s.toList → (s.toList = [] → x8 = true) → t.length + r.length + 1 ≤ 100000 →
    Ev (fun k => contangoref52_Flows.l1 k u l x8 t m p.f0 p.f1 p.f2 p.f3 p.f4 p.f5 p.f6) (outV p.f1 (fun s => nm p u s (l.map kb)) (s :: r) t) := by
  induction r with
  | nil =>
    intro pre s m x8 t hN hm hx ht
    obtain rfl := ba_eq hm
    have hnx := lst_next _ pre [] m hN
    have j3 : ∀ b : Bool, b = true → Ev (fun k => contangoref52_Flows.j3 k u l t m b p.f0 p.f1 p.f2 p.f3 p.f4 p.f5 p.f6) (outV p.f1 (fun s => nm p u s (l.map kb)) [m] t) := by
      intro b hb
      refine Ev.shift ?_
      simp only [contangoref52_Flows.j3]
      refine Ev.pos hb (Ev.bind (sumr52_ev p hsz u l hl hfe m) ?_)
      rw [outV]
      by_cases c0 : (sV (nm p u m (l.map kb))).2 = 0
      case neg => rw [if_neg c0]; exact Ev.neg c0 (Ev.val _)
      rw [if_pos c0]
      refine Ev.pos c0 ?_
      by_cases c1 : (sV (nm p u m (l.map kb))).1 = 0
      · rw [if_pos c1]
        exact Ev.pos c1 (Ev.bind (leastr_ev l hl m) (outr_end p u l t _ hnx))
      · rw [if_neg c1]
        exact Ev.neg c1 (Ev.pos (by omega) (Ev.bind (leastr_ev l hl m) (outr_end p u l _ _ hnx)))
    refine Ev.shift ?_
    simp only [contangoref52_Flows.l1]
    by_cases c : m.toList = []
    · exact Ev.pos c (j3 x8 (hx c))
    · exact Ev.neg c (j3 true rfl)
  | cons y r ih =>
    intro pre s m x8 t hN hm hx ht
    obtain rfl := ba_eq hm
    rw [List.length_cons] at ht
    have hnx := lst_next _ pre (y :: r) m hN
    have hN2 : NL (alN (l.map kb)) = (pre ++ [m]) ++ y :: r := by rw [hN, List.append_assoc]; rfl
    have hy0 : y.toList ≠ [] := fun e => by
      have hSS := NL_SS (alN (l.map kb))
      rw [hN] at hSS
      have := (List.pairwise_cons.mp (List.pairwise_append.mp hSS).2.1).1 y List.mem_cons_self
      rw [e] at this
      exact less_nil _ this
    have ih2 := fun T hT => ih (pre ++ [m]) y (lst m ⟨#[]⟩ (alN (l.map kb))) false T hN2 hnx (fun e => absurd e hy0) hT
    have j3 : ∀ b : Bool, b = true → Ev (fun k => contangoref52_Flows.j3 k u l t m b p.f0 p.f1 p.f2 p.f3 p.f4 p.f5 p.f6) (outV p.f1 (fun s => nm p u s (l.map kb)) (m :: y :: r) t) := by
      intro b hb
      refine Ev.shift ?_
      simp only [contangoref52_Flows.j3]
      refine Ev.pos hb (Ev.bind (sumr52_ev p hsz u l hl hfe m) ?_)
      rw [outV]
      by_cases c0 : (sV (nm p u m (l.map kb))).2 = 0
      case neg => rw [if_neg c0]; exact Ev.neg c0 (Ev.val _)
      rw [if_pos c0]
      refine Ev.pos c0 ?_
      by_cases c1 : (sV (nm p u m (l.map kb))).1 = 0
      · rw [if_pos c1]
        exact Ev.pos c1 (Ev.bind (leastr_ev l hl m) (ih2 t (by omega)))
      · rw [if_neg c1]
        exact Ev.neg c1 (Ev.pos (by omega) (Ev.bind (leastr_ev l hl m) (ih2 _ (by rw [List.length_append, List.length_singleton]; omega))))
    refine Ev.shift ?_
    simp only [contangoref52_Flows.l1]
    by_cases c : m.toList = []
    · exact Ev.pos c (j3 x8 (hx c))
    · exact Ev.neg c (j3 true rfl)
/-- Is a member's name empty? -/
def emB (l : List ByteArray) : Bool := l.any (fun s => decide (s.toList = []))
theorem beq_nil (a : ByteArray) : (a.toList == ([] : List UInt8)) = decide (a.toList = []) := by
  by_cases c : a.toList = []
  · rw [c]; rfl
  · rw [decide_eq_false c]; exact beq_eq_false_iff_ne.mpr c
theorem fwrL (p : S35) (hsz : p.f0.size ≤ 9223372036854775806) (u : Int) (l : List S80) (hl : l.length ≤ 2048) (R : List S63 × Int) (n : Nat) : ∀ (i : Nat) (b : Bool), l.length - i = n → i ≤ l.length →
    (feV p u ((l.drop i).map kb) = 0 → Ev (fun k => contangoref52_Flows.l0 k u l (b || emB (alN ((l.drop i).map kb))) (l.length : Int) p.f0 p.f1 p.f2 p.f3 p.f4 p.f5 p.f6) R) → (feV p u ((l.drop i).map kb) ≠ 0 → R = ([], feV p u ((l.drop i).map kb))) →
    Ev (fun k => contangoref52_Flows.l0 k u l b (i : Int) p.f0 p.f1 p.f2 p.f3 p.f4 p.f5 p.f6) R := by
  induction n with
  | zero =>
    intro i b hi hle h _
    rw [show l.drop i = [] from List.drop_eq_nil_of_le (by omega)] at h
    have := h rfl
    rw [show emB (alN (([] : List S80).map kb)) = false from rfl, Bool.or_false] at this
    rwa [show (i : Int) = (l.length : Int) by omega]
  | succ n ih =>
    intro i b hi hle h h2
    have hlt : i < l.length := by omega
    rw [List.drop_eq_getElem_cons hlt, List.map_cons, feV, alN] at h
    rw [List.drop_eq_getElem_cons hlt, List.map_cons, feV] at h2
    have hk : (kb l[i]).f2 = l[i].f2 ∧ (kb l[i]).f0.f0 = l[i].f0.f0 ∧ (kb l[i]).f1.f0 = l[i].f1.f0 := ⟨rfl, rfl, rfl⟩
    rw [hk.1] at h h2
    rw [hk.2.1, hk.2.2] at h
    refine Ev.shift ?_
    simp only [contangoref52_Flows.l0, rd_pr l i hlt, wsc i (by omega)]
    refine Ev.pos (by omega) (Ev.pos (by omega) (Ev.bind (inVr_ev p u _ hsz) ?_))
    by_cases c0 : (inV p u l[i].f2).2 = 0
    · rw [if_pos c0] at h h2
      refine Ev.pos c0 ?_
      have ih2 := fun (b' : Bool) (hb' : (b || emB (l[i].f0.f0 :: l[i].f1.f0 :: alN ((l.drop (i + 1)).map kb))) = (b' || emB (alN ((l.drop (i + 1)).map kb)))) => ih (i + 1) b' (by omega) (by omega) (fun e => by
        have := h e
        rw [hb'] at this
        exact this) h2
      have hem : ∀ x y (r : List ByteArray), emB (x :: y :: r) = (decide (x.toList = []) || (decide (y.toList = []) || emB r)) := fun x y r => rfl
      by_cases c1 : b = true
      · exact Ev.pos c1 (ih2 true (by rw [c1]; rfl))
      · rw [Bool.eq_false_iff.mpr c1] at ih2
        refine Ev.neg c1 ?_
        by_cases c2 : l[i].f0.f0.toList = []
        · exact Ev.pos c2 (ih2 true (by rw [hem, decide_eq_true c2]; rfl))
        · exact Ev.neg c2 (ih2 _ (by rw [hem, decide_eq_false c2, beq_nil]; rfl))
    · rw [if_neg c0] at h2
      rw [h2 c0]
      exact Ev.neg c0 (Ev.val _)
theorem emB_iff (l : List ByteArray) : emB l = true ↔ ∃ s ∈ l, s.toList = [] := by
  unfold emB
  rw [List.any_eq_true]
  exact ⟨fun ⟨s, h1, h2⟩ => ⟨s, h1, of_decide_eq_true h2⟩, fun ⟨s, h1, h2⟩ => ⟨s, h1, decide_eq_true h2⟩⟩
theorem fwr_ev (p : S35) (hsz : p.f0.size ≤ 9223372036854775806) (u : Int) (l : List S80) (hl : l.length ≤ 2048) : Ev (fun k => contangoref52_Flows.f k p.f0 p.f1 p.f2 p.f3 p.f4 p.f5 p.f6 u l) (fwV p u (l.map kb)) := by
  simp only [contangoref52_Flows.f]
  refine fwrL p hsz u l hl _ l.length 0 false (by omega) (by omega) (fun he => ?_) (fun he => ?_)
  · rw [List.drop_zero] at he ⊢
    rw [Bool.false_or]
    have e1 : fwV p u (l.map kb) = if l.length > 1024 then ([], 8) else outV p.f1 (fun s => nm p u s (l.map kb)) (NL (alN (l.map kb))) [] := by
      unfold fwV; rw [if_pos he, List.length_map]
    rw [e1]
    refine Ev.shift ?_
    simp only [contangoref52_Flows.l0, Option.bind_some]
    refine Ev.neg (by omega) ?_
    by_cases c : l.length > 1024
    · rw [if_pos c]; exact Ev.pos (by omega) (Ev.val _)
    rw [if_neg c]
    refine Ev.neg (by omega) ?_
    have hln := NL_len (alN (l.map kb))
    rw [alN_len, List.length_map] at hln
    by_cases ce : emB (alN (l.map kb)) = true
    · refine Ev.pos ce (Ev.shift ?_)
      simp only [contangoref52_Flows.j1]
      obtain ⟨s0, hs0, hs1⟩ := (emB_iff _).mp ce
      cases hN : NL (alN (l.map kb)) with
      | nil =>
        have := (NL_mem _ _).mpr hs0
        rw [hN] at this
        cases this
      | cons s r =>
        have hSS := NL_SS (alN (l.map kb))
        have hm := (NL_mem _ _).mpr hs0
        rw [hN] at hSS hm hln
        rw [List.length_cons] at hln
        have hs : s.toList = [] := by
          rcases List.mem_cons.mp hm with e | e
          · rw [← e]; exact hs1
          · have := (List.pairwise_cons.mp hSS).1 s0 e
            rw [hs1] at this
            exact absurd this (less_nil _)
        exact outrL p hsz u l hl he r [] s ⟨#[]⟩ _ [] hN (by rw [hs]; exact tl0) (fun _ => ce) (by rw [List.length_nil]; omega)
    · refine Ev.neg ce (Ev.bind (leastr_ev l hl ⟨#[]⟩) (Ev.shift ?_))
      simp only [contangoref52_Flows.j1]
      have hne : ∀ s ∈ alN (l.map kb), s.toList ≠ [] := fun s hs e => ce ((emB_iff _).mpr ⟨s, hs, e⟩)
      have hfst := lst_first _ hne
      rw [Bool.eq_false_iff.mpr ce]
      cases hN : NL (alN (l.map kb)) with
      | nil =>
        rw [hN] at hfst
        rw [outV]
        exact outr_end p u l [] _ hfst
      | cons s r =>
        rw [hN] at hfst hln
        rw [List.length_cons] at hln
        have hs : s ∈ alN (l.map kb) := (NL_mem _ _).mp (by rw [hN]; exact List.mem_cons_self)
        exact outrL p hsz u l hl he r [] s _ _ [] hN hfst (fun e => absurd e (hne s hs)) (by rw [List.length_nil]; omega)
  · rw [List.drop_zero] at he ⊢
    unfold fwV
    rw [if_neg he]
theorem pairs52L (l : List S80) (hl : l.length ≤ 100000) (n : Nat) : ∀ (i : Nat) (t : List S56), l.length - i = n → i ≤ l.length → t.length = i →
    Ev (fun k => contangolaw52_Pairs.l0 k l t (l.length : Int) (i : Int)) (t ++ (l.drop i).map kb) := by
  induction n with
  | zero =>
    intro i t hi hle ht
    refine Ev.shift ?_
    simp only [contangolaw52_Pairs.l0]
    rw [show l.drop i = [] from List.drop_eq_nil_of_le (by omega), List.map_nil, List.append_nil]
    exact Ev.neg (by omega) (Ev.val _)
  | succ n ih =>
    intro i t hi hle ht
    have hlt : i < l.length := by omega
    refine Ev.shift ?_
    simp only [contangolaw52_Pairs.l0, rd_pr l i hlt, wsc i (by omega)]
    rw [List.drop_eq_getElem_cons hlt, List.map_cons]
    refine Ev.pos (by omega) (Ev.pos (by omega) (Ev.pos (by omega) (Ev.pos (by omega) ?_)))
    have := ih (i + 1) (t ++ [kb l[i]]) (by omega) (by omega) (by simp [ht])
    rw [List.append_assoc] at this
    exact this
theorem pairs52_ev (l : List S80) (hl : l.length ≤ 100000) : Ev (fun k => contangolaw52_Pairs.f k l) (l.map kb) := by
  have := pairs52L l hl l.length 0 [] (by omega) (by omega) rfl
  rw [List.drop_zero, List.nil_append] at this
  exact this
theorem same22L (l : List S63) (hl : l.length ≤ 100000) (n : Nat) : ∀ i : Nat, l.length - i = n → i ≤ l.length → Ev (fun k => contangoref22_Same.l0 k l l (i : Int)) true := by
  induction n with
  | zero =>
    intro i hi hle
    refine Ev.shift ?_
    simp only [contangoref22_Same.l0]
    exact Ev.neg (by omega) (Ev.val _)
  | succ n ih =>
    intro i hi hle
    refine Ev.shift ?_
    simp only [contangoref22_Same.l0, wsc i (by omega)]
    exact Ev.pos (by omega) (Ev.pos (by omega) (Ev.pos (by omega) (Ev.pos (by simp [eqD63]) (ih (i + 1) (by omega) (by omega)))))
theorem same22_ev (l : List S63) (hl : l.length ≤ 100000) : Ev (fun k => contangoref22_Same.f k l l) true := by
  simp only [contangoref22_Same.f]
  exact Ev.pos trivial (same22L l hl l.length 0 (by omega) (by omega))
theorem outV_len (cur : Int) (z : ByteArray → Int) (l : List ByteArray) : ∀ t, (outV cur z l t).1.length ≤ t.length + l.length := by
  induction l with
  | nil => intro t; exact Nat.le_refl _
  | cons s r ih =>
    intro t
    rw [outV, List.length_cons]
    split
    · split
      · have := ih t; omega
      · have := ih (t ++ [⟨s, cur, (sV (z s)).1, 4⟩])
        rw [List.length_append, List.length_singleton] at this
        omega
    · exact Nat.zero_le _
theorem fwV_len (p : S35) (u : Int) (l : List S56) : (fwV p u l).1.length ≤ 2048 := by
  unfold fwV
  split
  · split
    · exact Nat.zero_le _
    · have h1 := outV_len p.f1 (fun s => nm p u s l) (NL (alN l)) []
      have h2 := NL_len (alN l)
      rw [alN_len] at h2
      rw [List.length_nil] at h1
      omega
  · exact Nat.zero_le _
theorem goes_true : contangolaw52_goes.f 200 = some true := by decide +kernel
theorem goes_ev : Ev (fun k => contangolaw52_goes.f k) true := Ev.of goes_true (fun k => contangolaw52_goes.mono k)
theorem DeliverFlows : contangolaw52_DeliverFlows.Said := by
  intro p u l _ _ ho hp _ _
  refine Ev.get ?_
  have hsz : p.f0.size ≤ 9223372036854775806 := by have := hp.1; omega
  have j0 : ∀ b : Bool, (b = false → l.length ≤ 1100) → Ev (fun k => contangolaw52_DeliverFlows.j0 k u l b p.f0 p.f1 p.f2 p.f3 p.f4 p.f5 p.f6) true := by
    intro b hb
    refine Ev.shift ?_
    simp only [contangolaw52_DeliverFlows.j0]
    by_cases c : b = true
    · exact Ev.pos c (Ev.bind goes_ev (Ev.val _))
    · have hl := hb (Bool.eq_false_iff.mpr c)
      refine Ev.neg c ?_
      refine Ev.bind (pairs52_ev l (by omega)) (Ev.bind (fw_ev p u (l.map kb) (by rw [List.length_map]; omega) (fun x hx => ?_)) (Ev.bind (fwr_ev p hsz u l (by omega)) ?_))
      · obtain ⟨y, hy, rfl⟩ := List.mem_map.mp hx
        have h1 := ho.2 y hy
        exact ⟨h1.1.1, h1.2.1.1⟩
      · have hn := fwV_len p u (l.map kb)
        exact Ev.bind (same22_ev _ (by omega)) (Ev.pos rfl (Ev.pos rfl (Ev.bind goes_ev (Ev.val _))))
  simp only [contangolaw52_DeliverFlows.f]
  have hd : decide ((l.length : Int) > 1100) = false → l.length ≤ 1100 := fun h => by
    have := of_decide_eq_false h
    omega
  by_cases c1 : (l.length : Int) > 200
  · refine Ev.pos c1 ?_
    by_cases c2 : (l.length : Int) ≤ 1024
    · exact Ev.pos c2 (j0 true (fun h => by cases h))
    · exact Ev.neg c2 (j0 _ hd)
  · exact Ev.neg c1 (j0 _ hd)
end Go.Proofs.Ytmgeoombebkfaaa.Pure
