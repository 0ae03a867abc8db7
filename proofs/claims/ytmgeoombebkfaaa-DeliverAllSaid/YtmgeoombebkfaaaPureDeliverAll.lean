/- Each account delivers, and gets, just what it has; the flows come to nothing: the law, as a statement over numbers and lists. -/
import Derived.Test.YtmgeoombebkfaaaArgDeliverAll
namespace Go.Proofs.Ytmgeoombebkfaaa.Pure
set_option linter.unusedSimpArgs false
set_option linter.unusedVariables false
open Go.RowKit Go.Proofs.Ytmgeoombebkfaaa.PDeliverAll Go.Proofs.Ytmgeoombebkfaaa.Opens Go.Proofs.YtmgeoombebkfaaaW.PrintWords Go.Proofs.YtmgeoombebkfaaaW.PrintLast
/-- Comes to r, at all large numbers of rounds. -/
def Ev {α : Type} (g : Nat → Option α) (r : α) : Prop := ∃ K, ∀ k, K ≤ k → g k = some r
theorem Ev.shift {α : Type} {g : Nat → Option α} {r : α} (h : Ev (fun k => g (k + 1)) r) : Ev g r := by
  obtain ⟨K, h⟩ := h
  refine ⟨K + 1, fun k hk => ?_⟩
  obtain ⟨m, rfl⟩ : ∃ m, k = m + 1 := ⟨k - 1, by omega⟩
  exact h m (by omega)
theorem Ev.val {α : Type} (r : α) : Ev (fun _ => some r) r := ⟨0, fun _ _ => rfl⟩
theorem Ev.bind {α β : Type} {g : Nat → Option α} {f : Nat → α → Option β} {x : α} {r : β} (h : Ev g x) (h' : Ev (fun k => f k x) r) : Ev (fun k => (g k).bind (f k)) r := by
  obtain ⟨K, h⟩ := h
  obtain ⟨K', h'⟩ := h'
  exact ⟨max K K', fun k hk => by show (g k).bind (f k) = some r; rw [h k (by omega)]; exact h' k (by omega)⟩
theorem Ev.get {α : Type} {g : Nat → Option α} {r : α} (h : Ev g r) : ∃ k, g k = some r := by
  obtain ⟨K, h⟩ := h
  exact ⟨K, h K (Nat.le_refl _)⟩
theorem Ev.of {α : Type} {g : Nat → Option α} {r : α} {k0 : Nat} (h : g k0 = some r) (hm : ∀ k, LeO (g k) (g (k + 1))) : Ev g r := ⟨k0, fun _ hk => at_rounds hm hk h⟩
theorem Ev.pos {α : Type} {c : Prop} [Decidable c] {a b : Nat → Option α} {r : α} (hc : c) (h : Ev a r) : Ev (fun k => if c then a k else b k) r := by
  obtain ⟨K, h⟩ := h
  exact ⟨K, fun k hk => by show (if c then a k else b k) = some r; rw [if_pos hc]; exact h k hk⟩
theorem Ev.neg {α : Type} {c : Prop} [Decidable c] {a b : Nat → Option α} {r : α} (hc : ¬ c) (h : Ev b r) : Ev (fun k => if c then a k else b k) r := by
  obtain ⟨K, h⟩ := h
  exact ⟨K, fun k hk => by show (if c then a k else b k) = some r; rw [if_neg hc]; exact h k hk⟩
/-- Both ways, each where it is taken. -/
theorem Ev.ite {α : Type} {c : Prop} [Decidable c] {a b : Nat → Option α} {r : α} (h : c → Ev a r) (h' : ¬ c → Ev b r) : Ev (fun k => if c then a k else b k) r := by
  by_cases hc : c
  · exact Ev.pos hc (h hc)
  · exact Ev.neg hc (h' hc)
theorem wrap_small {n : Int} (h0 : -9223372036854775808 ≤ n) (h1 : n ≤ 9223372036854775807) : wrap64 n = n := by unfold wrap64; omega
/-- Both ways, each with its own end. -/
theorem Ev.both {α : Type} {c : Prop} [Decidable c] {a b : Nat → Option α} {r s : α} (h : c → Ev a r) (h' : ¬ c → Ev b s) : Ev (fun k => if c then a k else b k) (if c then r else s) := by
  by_cases hc : c
  · rw [if_pos hc]; exact Ev.pos hc (h hc)
  · rw [if_neg hc]; exact Ev.neg hc (h' hc)
theorem Ev.valOf {α : Type} {r s : α} (h : s = r) : Ev (fun _ => some r) s := by subst h; exact Ev.val _
def letB (c : Int) : Bool := decide (97 ≤ c) && decide (c ≤ 122)
def digB (c : Int) : Bool := decide (48 ≤ c) && decide (c ≤ 57)
/-- From place i on, d letters or digits. -/
def restB (s : ByteArray) : Nat → Nat → Bool
  | 0, _ => true
  | d + 1, i => (letB (bt s i) || digB (bt s i)) && restB s d (i + 1)
/-- Is a text a name? -/
def nameB (s : ByteArray) : Bool := decide (0 < s.size) && decide (s.size ≤ 12) && letB (bt s 0) && restB s s.size 0
theorem letter_some (c : Int) : words_letter.f c = some (letB c) := by
  unfold words_letter.f letB
  split <;> rename_i h <;> simp [h]
theorem digit_some (c : Int) : words_digit.f c = some (digB c) := by
  unfold words_digit.f digB
  split <;> rename_i h <;> simp [h]
theorem toList_nil (s : ByteArray) : s.toList = [] ↔ s.size = 0 := by
  rw [ByteArray.toList_eq]
  constructor
  · intro h
    have := congrArg List.length h
    simpa using this
  · intro h
    apply List.eq_nil_of_length_eq_zero
    simpa using h
theorem words_Name_loop (s : ByteArray) (hs : s.size ≤ 12) (d : Nat) : ∀ (k i : Nat), s.size - i = d → i ≤ s.size → d < k → words_Name.l0 k s (s.size : Int) i = some (restB s d i) := by
  induction d with
  | zero =>
    intro k i hd hi hk
    obtain ⟨k, rfl⟩ : ∃ m, k = m + 1 := ⟨k - 1, by omega⟩
    simp only [words_Name.l0]
    rw [if_neg (by omega)]
    rfl
  | succ d ih =>
    intro k i hd hi hk
    obtain ⟨k, rfl⟩ : ∃ m, k = m + 1 := ⟨k - 1, by omega⟩
    have hw : wrap64 ((i : Int) + 1) = ((i + 1 : Nat) : Int) := by unfold wrap64; omega
    simp only [words_Name.l0]
    rw [if_pos (by omega), if_pos (by omega), if_pos (by omega), letter_some, digit_some, hw, ih k (i + 1) (by omega) (by omega) (by omega)]
    simp only [Option.bind_some, restB]
    cases letB (bt s i) <;> cases digB (bt s i) <;> simp
theorem words_Name_some (s : ByteArray) : words_Name.f 20 s = some (nameB s) := by
  unfold words_Name.f nameB
  by_cases h0 : s.size = 0
  · rw [if_pos ((toList_nil s).mpr h0)]
    simp [words_Name.j0, h0]
  · rw [if_neg (fun h => h0 ((toList_nil s).mp h))]
    by_cases h1 : (s.size : Int) > 12
    · rw [if_pos h1]
      have : ¬ s.size ≤ 12 := by omega
      simp [words_Name.j0, this]
    · rw [if_neg h1, if_pos (by omega), letter_some]
      have h2 : s.size ≤ 12 := by omega
      have h3 : 0 < s.size := by omega
      simp only [Option.bind_some, h2, h3, decide_true, Bool.true_and]
      have hl := words_Name_loop s h2 s.size 19 0 (by omega) (by omega) (by omega)
      cases letB (bt s 0)
      · simp [words_Name.j0]
      · simp only [words_Name.j0, Bool.not_true, Bool.false_eq_true, if_false]
        rw [Bool.true_and]
        exact hl
/-- What is amiss with a product. -/
def prC (p : S35) : Int :=
  if nameB p.f0 = true then (if 0 ≤ p.f1 ∧ p.f1 ≤ 7 then (if 1 ≤ p.f2 ∧ p.f2 ≤ 4096 then (if 1 ≤ p.f3 ∧ p.f3 ≤ 16777216 then (if -16777216 ≤ p.f4 ∧ p.f4 ≤ 16777216 ∧ -16777216 ≤ p.f5 ∧ p.f5 ≤ 16777216 ∧ p.f4 ≤ p.f5 ∧ Int.tmod p.f4 p.f3 = 0 ∧ Int.tmod p.f5 p.f3 = 0 then 0 else 17) else 16) else 2) else 25) else 10
theorem within_some (n m : Int) (h0 : 0 ≤ m) (h1 : m ≤ 1000000000) : product_within.f n m = some (decide (-m ≤ n ∧ n ≤ m)) := by
  unfold product_within.f
  have hw : wrap64 (-m) = -m := by unfold wrap64; omega
  rw [hw]
  by_cases h : n ≥ -m
  · rw [if_pos h]
    congr 1
    exact decide_eq_decide.mpr ⟨fun h2 => ⟨h, h2⟩, fun h2 => h2.2⟩
  · rw [if_neg h]
    congr 1
    exact (decide_eq_false (by omega)).symm
theorem nameB_nil : nameB (⟨#[]⟩ : ByteArray) = false := by decide
theorem prC_ev (p : S35) : Ev (fun k => product_Check.f k p.f0 p.f1 p.f2 p.f3 p.f4 p.f5 p.f6) (prC p) := by
  have h3 : Ev (fun k => product_Check.j3 k (if p.f3 < 1 then true else decide (p.f3 > 16777216)) p.f0 p.f1 p.f2 p.f3 p.f4 p.f5 p.f6) (if 1 ≤ p.f3 ∧ p.f3 ≤ 16777216 then (if -16777216 ≤ p.f4 ∧ p.f4 ≤ 16777216 ∧ -16777216 ≤ p.f5 ∧ p.f5 ≤ 16777216 ∧ p.f4 ≤ p.f5 ∧ Int.tmod p.f4 p.f3 = 0 ∧ Int.tmod p.f5 p.f3 = 0 then 0 else 17) else 16) := by
    refine Ev.shift ?_
    simp only [product_Check.j3, within_some _ 16777216 (by omega) (by omega), Option.bind_some, decide_eq_true_eq]
    by_cases c : 1 ≤ p.f3 ∧ p.f3 ≤ 16777216
    · rw [if_pos c, if_neg (by omega : ¬ p.f3 < 1), decide_eq_false (by omega : ¬ p.f3 > 16777216)]
      refine Ev.neg (by decide) ?_
      by_cases hG : -16777216 ≤ p.f4 ∧ p.f4 ≤ 16777216 ∧ -16777216 ≤ p.f5 ∧ p.f5 ≤ 16777216 ∧ p.f4 ≤ p.f5 ∧ Int.tmod p.f4 p.f3 = 0 ∧ Int.tmod p.f5 p.f3 = 0
      · rw [if_pos hG]
        obtain ⟨g1, g2, g3, g4, g5, g6, g7⟩ := hG
        exact Ev.pos ⟨g1, g2⟩ (Ev.pos ⟨g3, g4⟩ (Ev.neg (by omega) (Ev.neg (by omega) (Ev.pos g6 (Ev.pos g7 (Ev.val _))))))
      · rw [if_neg hG]
        refine Ev.ite (fun c1 => Ev.ite (fun c2 => Ev.ite (fun c3 => Ev.val _) (fun c3 => Ev.neg (by omega) (Ev.ite (fun c4 => Ev.neg (fun c5 => ?_) (Ev.val _)) (fun c4 => Ev.val _)))) (fun c2 => Ev.val _)) (fun c1 => Ev.val _)
        exact hG ⟨c1.1, c1.2, c2.1, c2.2, by omega, c4, c5⟩
    · rw [if_neg c]
      have e : (if p.f3 < 1 then true else decide (p.f3 > 16777216)) = true := by
        split
        · rfl
        · exact decide_eq_true (by omega)
      rw [e]
      exact Ev.pos rfl (Ev.val _)
  have h2 : Ev (fun k => product_Check.j2 k (if p.f2 < 1 then true else decide (p.f2 > 4096)) p.f0 p.f1 p.f2 p.f3 p.f4 p.f5 p.f6) (if 1 ≤ p.f2 ∧ p.f2 ≤ 4096 then (if 1 ≤ p.f3 ∧ p.f3 ≤ 16777216 then (if -16777216 ≤ p.f4 ∧ p.f4 ≤ 16777216 ∧ -16777216 ≤ p.f5 ∧ p.f5 ≤ 16777216 ∧ p.f4 ≤ p.f5 ∧ Int.tmod p.f4 p.f3 = 0 ∧ Int.tmod p.f5 p.f3 = 0 then 0 else 17) else 16) else 2) := by
    refine Ev.shift ?_
    simp only [product_Check.j2]
    by_cases c : 1 ≤ p.f2 ∧ p.f2 ≤ 4096
    · rw [if_pos c, if_neg (by omega : ¬ p.f2 < 1), decide_eq_false (by omega : ¬ p.f2 > 4096)]
      refine Ev.neg (by decide) (Ev.ite (fun h => ?_) (fun h => ?_))
      · rw [if_pos h] at h3; exact h3
      · rw [if_neg h] at h3; exact h3
    · rw [if_neg c]
      have e : (if p.f2 < 1 then true else decide (p.f2 > 4096)) = true := by
        split
        · rfl
        · exact decide_eq_true (by omega)
      rw [e]
      exact Ev.pos rfl (Ev.val _)
  have h1 : Ev (fun k => product_Check.j1 k (if p.f1 < 0 then true else decide (p.f1 ≥ 8)) p.f0 p.f1 p.f2 p.f3 p.f4 p.f5 p.f6) (if 0 ≤ p.f1 ∧ p.f1 ≤ 7 then (if 1 ≤ p.f2 ∧ p.f2 ≤ 4096 then (if 1 ≤ p.f3 ∧ p.f3 ≤ 16777216 then (if -16777216 ≤ p.f4 ∧ p.f4 ≤ 16777216 ∧ -16777216 ≤ p.f5 ∧ p.f5 ≤ 16777216 ∧ p.f4 ≤ p.f5 ∧ Int.tmod p.f4 p.f3 = 0 ∧ Int.tmod p.f5 p.f3 = 0 then 0 else 17) else 16) else 2) else 25) := by
    refine Ev.shift ?_
    simp only [product_Check.j1]
    by_cases c : 0 ≤ p.f1 ∧ p.f1 ≤ 7
    · rw [if_pos c, if_neg (by omega : ¬ p.f1 < 0), decide_eq_false (by omega : ¬ p.f1 ≥ 8)]
      refine Ev.neg (by decide) (Ev.ite (fun h => ?_) (fun h => ?_))
      · rw [if_pos h] at h2; exact h2
      · rw [if_neg h] at h2; exact h2
    · rw [if_neg c]
      have e : (if p.f1 < 0 then true else decide (p.f1 ≥ 8)) = true := by
        split
        · rfl
        · exact decide_eq_true (by omega)
      rw [e]
      exact Ev.pos rfl (Ev.val _)
  have h0 : Ev (fun k => product_Check.j0 k (!nameB p.f0) p.f0 p.f1 p.f2 p.f3 p.f4 p.f5 p.f6) (prC p) := by
    refine Ev.shift ?_
    simp only [product_Check.j0]
    unfold prC
    cases nameB p.f0 with
    | false => exact Ev.pos rfl (Ev.val _)
    | true =>
      rw [if_pos rfl]
      refine Ev.neg (by decide) (Ev.ite (fun h => ?_) (fun h => ?_))
      · rw [if_pos h] at h1; exact h1
      · rw [if_neg h] at h1; exact h1
  simp only [product_Check.f]
  refine Ev.ite (fun h => ?_) (fun _ => Ev.bind (Ev.of (words_Name_some p.f0) (fun k => words_Name.mono _ k)) h0)
  have hn : nameB p.f0 = false := by
    unfold eqD35 at h
    simp only [Bool.and_eq_true, beq_iff_eq] at h
    have hs : p.f0.size = 0 := (toList_nil p.f0).mp (h.1.trans ((toList_nil _).mpr rfl))
    simp [nameB, hs]
  rw [hn] at h0
  exact h0
theorem mul_within {a b A B : Int} (h1 : -A ≤ a) (h2 : a ≤ A) (h3 : -B ≤ b) (h4 : b ≤ B) : -(A * B) ≤ a * b ∧ a * b ≤ A * B := by
  have h : (a * b).natAbs ≤ (A * B).natAbs := by
    rw [Int.natAbs_mul, Int.natAbs_mul]
    exact Nat.mul_le_mul (by omega) (by omega)
  have hp : 0 ≤ A * B := Int.mul_nonneg (by omega) (by omega)
  omega
/-- What lots are worth at a price, and what is amiss. -/
def vl (p : S35) (pr q : Int) : Int × Int :=
  if prC p = 0 then (if -33554432 ≤ pr ∧ pr ≤ 33554432 then (if -1048576 ≤ q ∧ q ≤ 1048576 then (pr * p.f2 * q, 0) else (0, 18)) else (0, 17)) else (0, prC p)
theorem prC_zero {p : S35} (h : prC p = 0) : (0 ≤ p.f1 ∧ p.f1 ≤ 7) ∧ (1 ≤ p.f2 ∧ p.f2 ≤ 4096) := by
  unfold prC at h
  by_cases c0 : nameB p.f0 = true
  case neg => rw [if_neg c0] at h; cases h
  rw [if_pos c0] at h
  by_cases c1 : 0 ≤ p.f1 ∧ p.f1 ≤ 7
  case neg => rw [if_neg c1] at h; cases h
  rw [if_pos c1] at h
  by_cases c2 : 1 ≤ p.f2 ∧ p.f2 ≤ 4096
  case neg => rw [if_neg c2] at h; cases h
  exact ⟨c1, c2⟩
theorem vl_ev (p : S35) (pr q : Int) : Ev (fun k => product_Value.f k p.f0 p.f1 p.f2 p.f3 p.f4 p.f5 p.f6 pr q) (vl p pr q) := by
  simp only [product_Value.f, within_some _ 33554432 (by omega) (by omega), within_some _ 1048576 (by omega) (by omega), Option.bind_some, decide_eq_true_eq]
  refine Ev.bind (prC_ev p) ?_
  unfold vl
  refine Ev.both (fun h0 => Ev.both (fun h1 => Ev.both (fun h2 => ?_) (fun _ => Ev.val _)) (fun _ => Ev.val _)) (fun _ => Ev.val _)
  have hm := (prC_zero h0).2
  have b1 := mul_within (a := pr) (b := p.f2) (A := 33554432) (B := 4096) h1.1 h1.2 (by omega) (by omega)
  have b2 := mul_within (a := pr * p.f2) (b := q) (A := 137438953472) (B := 1048576) (by omega) (by omega) (by omega) (by omega)
  rw [wrap_small (n := pr * p.f2) (by omega) (by omega), wrap_small (by omega) (by omega)]
  exact Ev.val _
/-- What is amiss with a price. -/
def prP (p : S35) (u : Int) : Int := if prC p = 0 then (if p.f4 ≤ u ∧ u ≤ p.f5 then (if Int.tmod u p.f3 = 0 then 0 else 16) else 17) else prC p
theorem prC_tick {p : S35} (h : prC p = 0) : 1 ≤ p.f3 := by
  unfold prC at h
  by_cases c0 : nameB p.f0 = true
  case neg => rw [if_neg c0] at h; cases h
  rw [if_pos c0] at h
  by_cases c1 : 0 ≤ p.f1 ∧ p.f1 ≤ 7
  case neg => rw [if_neg c1] at h; cases h
  rw [if_pos c1] at h
  by_cases c2 : 1 ≤ p.f2 ∧ p.f2 ≤ 4096
  case neg => rw [if_neg c2] at h; cases h
  rw [if_pos c2] at h
  by_cases c3 : 1 ≤ p.f3 ∧ p.f3 ≤ 16777216
  case neg => rw [if_neg c3] at h; cases h
  exact c3.1
theorem prP_ev (p : S35) (u : Int) : Ev (fun k => product_Price.f k p.f0 p.f1 p.f2 p.f3 p.f4 p.f5 p.f6 u) (prP p u) := by
  simp only [product_Price.f]
  refine Ev.bind (prC_ev p) ?_
  unfold prP
  refine Ev.both (fun h0 => ?_) (fun _ => Ev.val _)
  have ht := prC_tick h0
  by_cases h1 : u < p.f4
  · rw [if_neg (by omega : ¬ (p.f4 ≤ u ∧ u ≤ p.f5))]
    refine Ev.pos h1 (Ev.shift ?_)
    simp only [product_Price.j0]
    exact Ev.pos (by trivial) (Ev.val _)
  · refine Ev.neg h1 (Ev.shift ?_)
    simp only [product_Price.j0, decide_eq_true_eq]
    by_cases h2 : u > p.f5
    · rw [if_neg (by omega : ¬ (p.f4 ≤ u ∧ u ≤ p.f5))]
      exact Ev.pos h2 (Ev.val _)
    · rw [if_pos (by omega : p.f4 ≤ u ∧ u ≤ p.f5)]
      exact Ev.neg h2 (Ev.neg (by omega) (Ev.both (fun _ => Ev.val _) (fun _ => Ev.val _)))
/-- What lots cost at the final price, or why that is not told. -/
def inV (p : S35) (u q : Int) : Int × Int := if prP p u = 0 then (if q < 1 ∨ q > 1048576 then (0, 18) else if u < 0 then (0, 17) else vl p u q) else (0, prP p u)
theorem inV_ev (p : S35) (u q : Int) : Ev (fun k => deliver_Invoice.f k p.f0 p.f1 p.f2 p.f3 p.f4 p.f5 p.f6 u q) (inV p u q) := by
  unfold inV
  simp only [deliver_Invoice.f]
  refine Ev.bind (prP_ev p u) ?_
  by_cases c0 : prP p u = 0
  case neg => rw [if_neg c0]; exact Ev.neg c0 (Ev.val _)
  rw [if_pos c0]
  refine Ev.pos c0 ?_
  have j0 : ∀ b : Bool, b = decide (q < 1 ∨ q > 1048576) → Ev (fun k => deliver_Invoice.j0 k u q b p.f0 p.f1 p.f2 p.f3 p.f4 p.f5 p.f6) (if q < 1 ∨ q > 1048576 then (0, 18) else if u < 0 then (0, 17) else vl p u q) := by
    intro b hb
    refine Ev.shift ?_
    simp only [deliver_Invoice.j0]
    by_cases c1 : q < 1 ∨ q > 1048576
    · rw [if_pos c1]
      exact Ev.pos (by rw [hb]; exact decide_eq_true c1) (Ev.val _)
    · rw [if_neg c1]
      refine Ev.neg (by rw [hb, decide_eq_false c1]; decide) ?_
      by_cases c2 : u < 0
      · rw [if_pos c2]; exact Ev.pos c2 (Ev.val _)
      · rw [if_neg c2]; exact Ev.neg c2 (Ev.bind (vl_ev p u q) (Ev.val _))
  by_cases c1 : q < 1
  · exact Ev.pos c1 (j0 true (decide_eq_true (.inl c1)).symm)
  · refine Ev.neg c1 (j0 _ ?_)
    exact decide_eq_decide.mpr ⟨fun h => .inr h, fun h => by omega⟩
theorem inV_ok {p : S35} {u q : Int} (h : (inV p u q).2 = 0) : 0 ≤ u ∧ u ≤ 33554432 ∧ 1 ≤ q ∧ q ≤ 1048576 ∧ (1 ≤ p.f2 ∧ p.f2 ≤ 4096) ∧ (inV p u q).1 = u * p.f2 * q := by
  unfold inV at h ⊢
  by_cases c0 : prP p u = 0
  case neg => rw [if_neg c0] at h; exact absurd h c0
  rw [if_pos c0] at h ⊢
  by_cases c1 : q < 1 ∨ q > 1048576
  case pos => rw [if_pos c1] at h; cases h
  rw [if_neg c1] at h ⊢
  by_cases c2 : u < 0
  case pos => rw [if_pos c2] at h; cases h
  rw [if_neg c2] at h ⊢
  have hC : prC p = 0 := by
    unfold prP at c0
    split at c0
    · assumption
    · assumption
  unfold vl at h ⊢
  rw [if_pos hC] at h ⊢
  by_cases c3 : -33554432 ≤ u ∧ u ≤ 33554432
  case neg => rw [if_neg c3] at h; cases h
  rw [if_pos c3, if_pos (by omega)]
  exact ⟨by omega, c3.2, by omega, by omega, (prC_zero hC).2, rfl⟩
theorem inV_le {p : S35} {u q : Int} (h : (inV p u q).2 = 0) : 0 ≤ (inV p u q).1 ∧ (inV p u q).1 ≤ 144115188075855872 := by
  obtain ⟨h1, h2, h3, h4, ⟨h5, h6⟩, h7⟩ := inV_ok h
  rw [h7]
  have a1 : u * p.f2 ≤ 33554432 * 4096 := Int.mul_le_mul h2 h6 (by omega) (by omega)
  have a0 : 0 ≤ u * p.f2 := Int.mul_nonneg h1 (by omega)
  exact ⟨Int.mul_nonneg a0 (by omega), Int.le_trans (Int.mul_le_mul a1 h4 (by omega) (by omega)) (by omega)⟩
theorem less_irrefl (a : List UInt8) : Op.bytesLess a a = false := by
  induction a with
  | nil => rfl
  | cons x r ih =>
    have h : ¬ x < x := fun h => by have := UInt8.lt_iff_toNat_lt.mp h; omega
    simp [Op.bytesLess, ih, h]
theorem less_trans (a : List UInt8) : ∀ b c : List UInt8, Op.bytesLess a b = true → Op.bytesLess b c = true → Op.bytesLess a c = true := by
  induction a with
  | nil =>
    intro b c h1 h2
    cases c with
    | nil => cases b <;> simp [Op.bytesLess] at h2
    | cons z c => rfl
  | cons x a ih =>
    intro b c h1 h2
    cases b with
    | nil => simp [Op.bytesLess] at h1
    | cons y b =>
      cases c with
      | nil => simp [Op.bytesLess] at h2
      | cons z c =>
        simp only [Op.bytesLess, Bool.or_eq_true, decide_eq_true_eq, Bool.and_eq_true, beq_iff_eq, UInt8.lt_iff_toNat_lt] at h1 h2 ⊢
        rcases h1 with h1 | ⟨rfl, h1⟩
        · rcases h2 with h2 | ⟨rfl, h2⟩
          · exact Or.inl (by omega)
          · exact Or.inl h1
        · rcases h2 with h2 | ⟨rfl, h2⟩
          · exact Or.inl h2
          · exact Or.inr ⟨rfl, ih _ _ h1 h2⟩
theorem less_flip {a b : List UInt8} (h : ¬ Op.bytesLess a b = true) (hne : b ≠ a) : Op.bytesLess b a = true := by
  have := Go.Proofs.YtmgeoombebkfaaaHand.bytesLess_flip b a
  have h' : Op.bytesLess a b = false := by simpa using h
  rw [h', beq_eq_false_iff_ne.mpr hne] at this
  simpa using this
theorem less_ne {a b : List UInt8} (h : Op.bytesLess a b = true) : a ≠ b := by
  intro e
  subst e
  rw [less_irrefl] at h
  cases h
theorem and32 (n : Int) : Go.bits .and .i64 n 4294967295 = n % 4294967296 := by
  have h127 : (BitVec.ofInt 64 4294967295).toNat = 2 ^ 32 - 1 := by decide
  have key : (BitVec.ofInt 64 n &&& BitVec.ofInt 64 4294967295).toNat = (n % ((2 ^ 64 : Nat) : Int)).toNat % 2 ^ 32 := by
    rw [BitVec.toNat_and, BitVec.toNat_ofInt, h127, Nat.and_two_pow_sub_one_eq_mod]
  show IntKind.i64.wrap ((BitVec.ofInt 64 n &&& BitVec.ofInt 64 4294967295).toNat : Nat) = n % 4294967296
  rw [key, IntKind.wrap_i64]
  omega
/-- Is a number money? -/
def fitB (n : Int) : Bool := decide (-1152921504606846976 ≤ n ∧ n ≤ 1152921504606846976)
def sumI (l : List Int) : Int := l.foldr (· + ·) 0
/-- All together, or why that is not told. -/
def smV (l : List Int) (s : Int) : Int × Int := if l.all fitB = true then (if fitB (s + sumI l) = true then (s + sumI l, 0) else (0, 3)) else (0, 2)
theorem fits_some (n : Int) : cents_Fits.f n = some (fitB n) := by
  unfold cents_Fits.f fitB
  by_cases h : n ≥ -1152921504606846976
  · rw [if_pos h]
    congr 1
    exact decide_eq_decide.mpr ⟨fun h2 => ⟨h, h2⟩, fun h2 => h2.2⟩
  · rw [if_neg h]
    congr 1
    exact (decide_eq_false (by omega)).symm
theorem fitting_some (n : Int) : cents_fitting.f n = some (if fitB n = true then (n, 0) else (0, 3)) := by
  unfold cents_fitting.f
  rw [fits_some]
  simp only [Option.bind_some]
  split <;> rfl
theorem sumEnd (hi lo : Int) (h1 : -1152921504606846976 ≤ hi ∧ hi ≤ 1152921504606846976) (h2 : 0 ≤ lo ∧ lo ≤ 1152921504606846976) :
    (if (wrap64 (hi + (lo / 4294967296))) < (-268435456) then (some ((0 : Int), (3 : Int))) else (if (wrap64 (hi + (lo / 4294967296))) > 268435456 then (some (0, 3)) else ((cents_fitting.f (wrap64 ((wrap64 ((wrap64 (hi + (lo / 4294967296))) * 4294967296)) + (Go.bits .and .i64 lo 4294967295)))).bind fun bt => (some (bt.1, bt.2))))) = some (if fitB (hi * 4294967296 + lo) = true then (hi * 4294967296 + lo, 0) else (0, 3)) := by
  have e1 : wrap64 (hi + lo / 4294967296) = hi + lo / 4294967296 := wrap_small (by omega) (by omega)
  rw [e1, and32]
  by_cases c1 : hi + lo / 4294967296 < -268435456
  · rw [if_pos c1, if_neg]
    unfold fitB
    simp only [decide_eq_true_eq]
    omega
  · rw [if_neg c1]
    by_cases c2 : hi + lo / 4294967296 > 268435456
    · rw [if_pos c2, if_neg]
      unfold fitB
      simp only [decide_eq_true_eq]
      omega
    · rw [if_neg c2]
      have e2 : wrap64 ((hi + lo / 4294967296) * 4294967296) = (hi + lo / 4294967296) * 4294967296 := wrap_small (by omega) (by omega)
      have e3 : wrap64 ((hi + lo / 4294967296) * 4294967296 + lo % 4294967296) = hi * 4294967296 + lo := by
        rw [wrap_small (by omega) (by omega)]
        omega
      rw [e2, e3, fitting_some]
      rfl
theorem sumL (l : List Int) (hl : l.length ≤ 1000000) (n : Nat) : ∀ (i : Nat) (hi lo : Int), l.length - i = n → i ≤ l.length → -(268435456 * (i : Int)) ≤ hi → hi ≤ 268435456 * (i : Int) → 0 ≤ lo → lo ≤ 4294967296 * (i : Int) →
    Ev (fun k => cents_Sum.l0 k l hi lo (l.length : Int) (i : Int)) (smV (l.drop i) (hi * 4294967296 + lo)) := by
  induction n with
  | zero =>
    intro i hi lo hd hle h1 h2 h3 h4
    refine Ev.shift ?_
    simp only [cents_Sum.l0]
    rw [List.drop_eq_nil_of_le (by omega)]
    refine Ev.neg (by omega) ?_
    rw [sumEnd hi lo (by omega) (by omega)]
    exact Ev.valOf (by simp [smV, sumI])
  | succ n ih =>
    intro i hi lo hd hle h1 h2 h3 h4
    have hlt : i < l.length := by omega
    have hw : wrap64 ((i : Int) + 1) = ((i + 1 : Nat) : Int) := by unfold wrap64; omega
    refine Ev.shift ?_
    simp only [cents_Sum.l0, hw]
    have hr : rd l (i : Int) = l[i] := by simp [rd, List.getD_eq_getElem?_getD, hlt]
    rw [hr, List.drop_eq_getElem_cons hlt]
    refine Ev.pos (by omega) (Ev.pos (by omega) (Ev.pos (by omega) ?_))
    rw [fits_some, and32]
    simp only [Option.bind_some]
    by_cases hf : fitB l[i] = true
    · refine Ev.pos hf ?_
      have hf2 := hf
      unfold fitB at hf2
      simp only [decide_eq_true_eq] at hf2
      have e1 : wrap64 (hi + l[i] / 4294967296) = hi + l[i] / 4294967296 := wrap_small (by omega) (by omega)
      have e2 : wrap64 (lo + l[i] % 4294967296) = lo + l[i] % 4294967296 := wrap_small (by omega) (by omega)
      rw [e1, e2]
      have h := ih (i + 1) (hi + l[i] / 4294967296) (lo + l[i] % 4294967296) (by omega) (by omega) (by omega) (by omega) (by omega) (by omega)
      have e3 : smV (l[i] :: l.drop (i + 1)) (hi * 4294967296 + lo) = smV (l.drop (i + 1)) ((hi + l[i] / 4294967296) * 4294967296 + (lo + l[i] % 4294967296)) := by
        unfold smV
        rw [List.all_cons, hf, Bool.true_and]
        have e4 : hi * 4294967296 + lo + sumI (l[i] :: l.drop (i + 1)) = (hi + l[i] / 4294967296) * 4294967296 + (lo + l[i] % 4294967296) + sumI (l.drop (i + 1)) := by
          have : sumI (l[i] :: l.drop (i + 1)) = l[i] + sumI (l.drop (i + 1)) := rfl
          rw [this]
          omega
        rw [e4]
      rw [e3]
      exact h
    · have e : smV (l[i] :: l.drop (i + 1)) (hi * 4294967296 + lo) = (0, 2) := by
        unfold smV
        rw [List.all_cons, Bool.eq_false_iff.mpr hf, Bool.false_and]
        rfl
      rw [e]
      exact Ev.neg hf (Ev.val _)
/-- The sum of numbers of money, or why it is not told. -/
def sm (l : List Int) : Int × Int := smV l 0
theorem sm_ev (l : List Int) (hl : l.length ≤ 1000000) : Ev (fun k => cents_Sum.f k l) (sm l) := by
  simp only [cents_Sum.f]
  exact sumL l hl l.length 0 0 0 (by omega) (by omega) (by omega) (by omega) (by omega) (by omega)
theorem ba_eq {a b : ByteArray} (h : a.toList = b.toList) : a = b := (strQ_iff a b).mp (by simp [strQ, h])
/-- Names that rise. -/
def SS (l : List ByteArray) : Prop := l.Pairwise (fun a b => Op.bytesLess a.toList b.toList = true)
/-- A name into names that rise. -/
def insU (x : ByteArray) : List ByteArray → List ByteArray
  | [] => [x]
  | y :: r => if strQ y x = true then y :: r else if Op.bytesLess x.toList y.toList = true then x :: y :: r else y :: insU x r
theorem insU_mem (x : ByteArray) (l : List ByteArray) : ∀ s, s ∈ insU x l ↔ s = x ∨ s ∈ l := by
  induction l with
  | nil => intro s; simp [insU]
  | cons y r ih =>
    intro s
    rw [insU]
    by_cases h : strQ y x = true
    · rw [if_pos h]
      have := (strQ_iff _ _).mp h
      refine ⟨.inr, fun h2 => h2.elim (fun e => ?_) id⟩
      rw [e, ← this]; simp
    · rw [if_neg h]
      split
      · simp
      · rw [List.mem_cons, ih, List.mem_cons]
        constructor
        · rintro (h1 | h1 | h1)
          · exact .inr (.inl h1)
          · exact .inl h1
          · exact .inr (.inr h1)
        · rintro (h1 | h1 | h1)
          · exact .inr (.inl h1)
          · exact .inl h1
          · exact .inr (.inr h1)
theorem insU_len (x : ByteArray) (l : List ByteArray) : (insU x l).length ≤ l.length + 1 := by
  induction l with
  | nil => exact Nat.le_refl 1
  | cons y r ih =>
    rw [insU]
    split
    · exact Nat.le_succ _
    · split
      · exact Nat.le_refl _
      · simp only [List.length_cons]; omega
theorem strQ_ne {x y : ByteArray} (h : ¬ strQ x y = true) : x.toList ≠ y.toList := fun e => h ((strQ_iff x y).mpr (ba_eq e))
theorem insU_sorted (x : ByteArray) (l : List ByteArray) (h : SS l) : SS (insU x l) := by
  induction l with
  | nil => exact List.pairwise_singleton _ _
  | cons y r ih =>
    have h' := List.pairwise_cons.mp h
    rw [insU]
    by_cases c : strQ y x = true
    · rw [if_pos c]; exact h
    · rw [if_neg c]
      by_cases d : Op.bytesLess x.toList y.toList = true
      · rw [if_pos d]
        refine List.pairwise_cons.mpr ⟨fun b hb => ?_, h⟩
        rcases List.mem_cons.mp hb with rfl | hb
        · exact d
        · exact less_trans _ _ _ d (h'.1 b hb)
      · rw [if_neg d]
        refine List.pairwise_cons.mpr ⟨fun b hb => ?_, ih h'.2⟩
        rcases (insU_mem x r b).mp hb with rfl | hb
        · exact less_flip d (strQ_ne c)
        · exact h'.1 b hb
theorem SS_nodup {l : List ByteArray} (h : SS l) : l.Nodup := List.Pairwise.imp (R := fun a b => Op.bytesLess a.toList b.toList = true) (fun {a b} (hab : Op.bytesLess a.toList b.toList = true) => fun (e : a = b) => less_ne hab (by rw [e])) (show List.Pairwise (fun a b => Op.bytesLess a.toList b.toList = true) l from h)
theorem SS_uniq {a b : List ByteArray} (ha : SS a) (hb : SS b) (h : ∀ s, s ∈ a ↔ s ∈ b) : a = b := by
  refine List.Perm.eq_of_pairwise (le := fun (a b : ByteArray) => Op.bytesLess a.toList b.toList = true) (fun x y _ _ h1 h2 => ?_) ha hb ((List.perm_ext_iff_of_nodup (SS_nodup ha) (SS_nodup hb)).mpr h)
  have := less_trans _ _ _ h1 h2
  rw [less_irrefl] at this
  cases this
theorem sortS_SS {l : List ByteArray} (h : l.Nodup) : SS (sortS l) := by
  have h1 := sortS_sorted l
  have h2 : (sortS l).Nodup := (sortS_perm l).nodup_iff.mpr h
  refine (List.Pairwise.and h1 h2).imp (fun {a b} hab => ?_)
  have h3 := (leS a b).mpr hab.1
  exact less_flip (by rw [h3]; decide) (fun e => hab.2 (ba_eq e))
open Go.Proofs.YtmgeoombebkfaaaHand (put)
/-- What a pair costs. -/
def iv52 (p : S35) (u : Int) (x : S56) : Int := (inV p u x.f2).1
/-- The first pair that may not be, and why. -/
def feV (p : S35) (u : Int) : List S56 → Int
  | [] => 0
  | x :: r => if (inV p u x.f2).2 = 0 then feV p u r else (inV p u x.f2).2
/-- What a member gets. -/
def nm (p : S35) (u : Int) (s : ByteArray) : List S56 → Int
  | [] => 0
  | x :: r => (if strQ x.f0.f0 s = true then iv52 p u x else 0) - (if strQ x.f1.f0 s = true then iv52 p u x else 0) + nm p u s r
/-- The members of pairs. -/
def alN : List S56 → List ByteArray
  | [] => []
  | x :: r => x.f0.f0 :: x.f1.f0 :: alN r
def NL : List ByteArray → List ByteArray
  | [] => []
  | s :: r => insU s (NL r)
theorem NL_SS (l : List ByteArray) : SS (NL l) := by
  induction l with
  | nil => exact List.Pairwise.nil
  | cons s r ih => exact insU_sorted s _ ih
theorem NL_mem (l : List ByteArray) (s : ByteArray) : s ∈ NL l ↔ s ∈ l := by
  induction l with
  | nil => exact Iff.rfl
  | cons a r ih => rw [NL, insU_mem, ih, List.mem_cons]
theorem NL_len (l : List ByteArray) : (NL l).length ≤ l.length := by
  induction l with
  | nil => exact Nat.le_refl _
  | cons a r ih =>
    rw [NL, List.length_cons]
    have := insU_len a (NL r)
    omega
theorem alN_len (l : List S56) : (alN l).length = 2 * l.length := by
  induction l with
  | nil => rfl
  | cons x r ih => rw [alN, List.length_cons, List.length_cons, List.length_cons, ih]; omega
/-- A sum that is told, if it fits. -/
def sV (z : Int) : Int × Int := if fitB z = true then (z, 0) else (0, 3)
theorem sm_sV {v : List Int} {z : Int} (h : v.all fitB = true) (hz : sumI v = z) : sm v = sV z := by
  rw [sm, smV, if_pos h, hz, Int.zero_add]
  rfl
theorem sumI_append (a b : List Int) : sumI (a ++ b) = sumI a + sumI b := by
  induction a with
  | nil => simp [sumI]
  | cons x r ih =>
    simp only [sumI, List.cons_append, List.foldr_cons] at ih ⊢
    omega
/-- The groups and their names so far: what each comes to. -/
structure GI (z : ByteArray → Int) (A : ByteArray → Prop) (N : Nat) (t : List ByteArray) (m : List (ByteArray × List Int)) : Prop where
  sum : ∀ s, sumI ((Go.Proofs.YtmgeoombebkfaaaHand.look strQ m s).getD []) = z s
  fit : ∀ s, ((Go.Proofs.YtmgeoombebkfaaaHand.look strQ m s).getD []).all fitB = true
  len : ∀ s, ((Go.Proofs.YtmgeoombebkfaaaHand.look strQ m s).getD []).length ≤ N
  has : ∀ s, ((Go.Proofs.YtmgeoombebkfaaaHand.look strQ m s).getD []).length = 0 ↔ ¬ A s
  nod : t.Nodup
  mem : ∀ s, s ∈ t ↔ A s
  tln : t.length ≤ N
theorem GI.step {z : ByteArray → Int} {A : ByteArray → Prop} {N : Nat} {t : List ByteArray} {m : List (ByteArray × List Int)} (h : GI z A N t m) (a : ByteArray) (y : Int) (hy : fitB y = true) :
    GI (fun s => z s + if strQ a s = true then y else 0) (fun s => A s ∨ s = a) (N + 1) (if ((Go.Proofs.YtmgeoombebkfaaaHand.look strQ m a).getD []).length = 0 then t ++ [a] else t) (put strQ a ((Go.Proofs.YtmgeoombebkfaaaHand.look strQ m a).getD [] ++ [y]) m) := by
  have key : ∀ s, (Go.Proofs.YtmgeoombebkfaaaHand.look strQ (put strQ a ((Go.Proofs.YtmgeoombebkfaaaHand.look strQ m a).getD [] ++ [y]) m) s).getD [] = if strQ a s = true then (Go.Proofs.YtmgeoombebkfaaaHand.look strQ m s).getD [] ++ [y] else (Go.Proofs.YtmgeoombebkfaaaHand.look strQ m s).getD [] := fun s => by
    rw [Go.Proofs.YtmgeoombebkfaaaHand.look_put _ _ strQ_iff]
    by_cases c : strQ a s = true
    · rw [if_pos c, if_pos c, (strQ_iff _ _).mp c]; rfl
    · rw [if_neg c, if_neg c]
  refine ⟨fun s => ?_, fun s => ?_, fun s => ?_, fun s => ?_, ?_, fun s => ?_, ?_⟩
  · rw [key]
    by_cases c : strQ a s = true
    · rw [if_pos c, sumI_append, h.sum]
      show z s + sumI [y] = z s + if strQ a s = true then y else 0
      rw [if_pos c]; simp [sumI]
    · rw [if_neg c, h.sum]
      show z s = z s + if strQ a s = true then y else 0
      rw [if_neg c, Int.add_zero]
  · rw [key]
    split
    · rw [List.all_append, h.fit s]; simp [hy]
    · exact h.fit s
  · rw [key]
    have := h.len s
    split
    · rw [List.length_append, List.length_singleton]; omega
    · omega
  · rw [key]
    by_cases c : strQ a s = true
    · rw [if_pos c, List.length_append, List.length_singleton]
      have e := (strQ_iff _ _).mp c
      exact ⟨fun h => by omega, fun h => absurd (.inr e.symm) h⟩
    · rw [if_neg c, h.has s]
      exact ⟨fun h1 h2 => h2.elim h1 (fun e => c ((strQ_iff _ _).mpr e.symm)), fun h1 h2 => h1 (.inl h2)⟩
  · split
    · rename_i c
      refine List.nodup_append.mpr ⟨h.nod, by simp, ?_⟩
      intro b hb d hd e
      rw [List.mem_singleton.mp hd] at e
      rw [e] at hb
      exact (h.has a).mp c ((h.mem a).mp hb)
    · exact h.nod
  · by_cases c : ((Go.Proofs.YtmgeoombebkfaaaHand.look strQ m a).getD []).length = 0
    · rw [if_pos c, List.mem_append, List.mem_singleton, h.mem]
    · rw [if_neg c, h.mem]
      exact ⟨.inl, fun h2 => h2.elim id (fun e => by
        rw [e]
        by_cases ca : A a
        · exact ca
        · exact absurd ((h.has a).mpr ca) c)⟩
  · have := h.tln
    split
    · rw [List.length_append, List.length_singleton]; omega
    · omega
theorem GI.same {z z' : ByteArray → Int} {A A' : ByteArray → Prop} {N : Nat} {t : List ByteArray} {m : List (ByteArray × List Int)} (h : GI z A N t m) (hz : ∀ s, z s = z' s) (hA : ∀ s, A s ↔ A' s) : GI z' A' N t m :=
  ⟨fun s => (h.sum s).trans (hz s), h.fit, h.len, fun s => (h.has s).trans (not_congr (hA s)), h.nod, fun s => (h.mem s).trans (hA s), h.tln⟩
theorem fitB_iff (n : Int) : fitB n = true ↔ -1152921504606846976 ≤ n ∧ n ≤ 1152921504606846976 := by unfold fitB; exact decide_eq_true_iff
theorem neg_w {n : Int} (h0 : 0 ≤ n) (h1 : n ≤ 144115188075855872) : wrap64 (-n) = -n ∧ wrap64 (- -n) = n := by
  constructor <;> unfold wrap64 <;> omega
theorem two_ev {z : ByteArray → Int} {A : ByteArray → Prop} {N : Nat} {t : List ByteArray} {m : List (ByteArray × List Int)} (h : GI z A N t m) (hN : N + 1 < 1000000) (a b : ByteArray) (ha : a.size ≤ 9223372036854775807) (hb : b.size ≤ 9223372036854775807) {n : Int} (h0 : 0 ≤ n) (h1 : n ≤ 144115188075855872) :
    ∃ t' m', deliver_Flows.two [a, b] n t m = some (t', m') ∧ GI (fun s => z s + ((if strQ b s = true then n else 0) - (if strQ a s = true then n else 0))) (fun s => A s ∨ s = b ∨ s = a) (N + 2) t' m' := by
  obtain ⟨w1, w2⟩ := neg_w h0 h1
  have s1 := h.step a (-n) ((fitB_iff _).mpr (by omega))
  have s2 := s1.step b n ((fitB_iff _).mpr (by omega))
  refine ⟨_, _, ?_, s2.same (fun s => ?_) (fun s => ⟨fun h => by rcases h with (h | h) | h; exact .inl h; exact .inr (.inr h); exact .inr (.inl h), fun h => by rcases h with h | h | h; exact .inl (.inl h); exact .inr h; exact .inl (.inr h)⟩)⟩
  · have l1 := h.len a
    have l2 := h.tln
    have l3 := s1.len b
    have l4 := s1.tln
    clear s2
    rw [deliver_Flows.two, if_pos ha, if_pos (by omega), if_pos (by omega), w1]
    generalize (if ((Go.Proofs.YtmgeoombebkfaaaHand.look strQ m a).getD []).length = 0 then t ++ [a] else t) = T at *
    generalize put strQ a ((Go.Proofs.YtmgeoombebkfaaaHand.look strQ m a).getD [] ++ [-n]) m = M at *
    rw [deliver_Flows.two, if_pos hb, if_pos (by omega), if_pos (by omega), w2, deliver_Flows.two]
  · show z s + (if strQ a s = true then -n else 0) + (if strQ b s = true then n else 0) = z s + ((if strQ b s = true then n else 0) - (if strQ a s = true then n else 0))
    split <;> split <;> omega
theorem fgo_ev (p : S35) (u : Int) (l : List S56) (hs : ∀ x ∈ l, x.f0.f0.size ≤ 9223372036854775807 ∧ x.f1.f0.size ≤ 9223372036854775807) : ∀ (z : ByteArray → Int) (A : ByteArray → Prop) (N : Nat) (t : List ByteArray) (m : List (ByteArray × List Int)), GI z A N t m → N + 2 * l.length ≤ 10000 →
    ∃ t' m', Ev (fun k => deliver_Flows.go k p.f0 p.f1 p.f2 p.f3 p.f4 p.f5 p.f6 u l t m) (t', m', feV p u l) ∧ (feV p u l = 0 → GI (fun s => z s + nm p u s l) (fun s => A s ∨ s ∈ alN l) (N + 2 * l.length) t' m') ∧ (feV p u l ≠ 0 → t' = [] ∧ m' = []) := by
  induction l with
  | nil =>
    intro z A N t m h hN
    refine ⟨t, m, ?_, fun _ => h.same (fun s => by rw [nm, Int.add_zero]) (fun s => by simp [alN]), fun hh => absurd rfl hh⟩
    simp only [deliver_Flows.go]
    exact Ev.val _
  | cons x r ih =>
    intro z A N t m h hN
    rw [List.length_cons] at hN
    by_cases c0 : (inV p u x.f2).2 = 0
    · have hle := inV_le c0
      obtain ⟨hf, ht⟩ := hs x List.mem_cons_self
      obtain ⟨t1, m1, e1, g1⟩ := two_ev h (by omega) x.f1.f0 x.f0.f0 ht hf hle.1 hle.2
      obtain ⟨t', m', hE, hK, hK2⟩ := ih (fun y hy => hs y (List.mem_cons_of_mem _ hy)) _ _ (N + 2) t1 m1 g1 (by omega)
      rw [feV, if_pos c0]
      refine ⟨t', m', ?_, fun he => ?_, hK2⟩
      · simp only [deliver_Flows.go]
        refine Ev.bind (inV_ev p u x.f2) (Ev.pos c0 ?_)
        rw [e1]
        exact hE
      · have := hK he
        rw [List.length_cons, show N + 2 * (r.length + 1) = N + 2 + 2 * r.length by omega]
        refine this.same (fun s => ?_) (fun s => ?_)
        · rw [nm]; simp only [iv52]; omega
        · rw [alN, List.mem_cons, List.mem_cons]
          constructor
          · rintro ((h | h | h) | h)
            · exact .inl h
            · exact .inr (.inl h)
            · exact .inr (.inr (.inl h))
            · exact .inr (.inr (.inr h))
          · rintro (h | h | h | h)
            · exact .inl (.inl h)
            · exact .inl (.inr (.inl h))
            · exact .inl (.inr (.inr h))
            · exact .inr h
    · rw [feV, if_neg c0]
      refine ⟨[], [], ?_, fun he => absurd he c0, fun _ => ⟨rfl, rfl⟩⟩
      simp only [deliver_Flows.go]
      exact Ev.bind (inV_ev p u x.f2) (Ev.neg c0 (Ev.val _))
/-- What members pay and get, one behind the other. -/
def outV (cur : Int) (z : ByteArray → Int) : List ByteArray → List S63 → List S63 × Int
  | [], t => (t, 0)
  | s :: r, t => if (sV (z s)).2 = 0 then (if (sV (z s)).1 = 0 then outV cur z r t else outV cur z r (t ++ [⟨s, cur, (sV (z s)).1, 4⟩])) else ([], (sV (z s)).2)
theorem fout_ev {z : ByteArray → Int} {A : ByteArray → Prop} {N : Nat} {T : List ByteArray} {m : List (ByteArray × List Int)} (h : GI z A N T m) (hN : N ≤ 10000) (cur : Int) (l : List ByteArray) (hs : ∀ s ∈ l, s.size ≤ 9223372036854775807) : ∀ t : List S63, t.length + l.length ≤ 100000 →
    Ev (fun k => deliver_Flows.out k m cur l t) (outV cur z l t) := by
  induction l with
  | nil => intro t _; simp only [deliver_Flows.out]; exact Ev.val _
  | cons s r ih =>
    intro t ht
    rw [List.length_cons] at ht
    have ih2 := ih (fun y hy => hs y (List.mem_cons_of_mem _ hy))
    have e := sm_sV (h.fit s) (h.sum s)
    have hl := h.len s
    have hE := sm_ev _ (show ((Go.Proofs.YtmgeoombebkfaaaHand.look strQ m s).getD []).length ≤ 1000000 by omega)
    rw [e] at hE
    rw [outV]
    simp only [deliver_Flows.out]
    refine Ev.pos (hs s List.mem_cons_self) (Ev.bind hE ?_)
    by_cases c0 : (sV (z s)).2 = 0
    case neg => rw [if_neg c0]; exact Ev.neg c0 (Ev.val _)
    rw [if_pos c0]
    refine Ev.pos c0 ?_
    by_cases c1 : (sV (z s)).1 = 0
    · rw [if_pos c1]; exact Ev.pos c1 (ih2 t (by omega))
    · rw [if_neg c1]
      exact Ev.neg c1 (Ev.pos (by omega) (ih2 _ (by rw [List.length_append, List.length_singleton]; omega)))
/-- What members pay and get for pairs, or why that is not told. -/
def fwV (p : S35) (u : Int) (l : List S56) : List S63 × Int :=
  if feV p u l = 0 then (if l.length > 1024 then ([], 8) else outV p.f1 (fun s => nm p u s l) (NL (alN l)) []) else ([], feV p u l)
theorem alN_size {l : List S56} (hs : ∀ x ∈ l, x.f0.f0.size ≤ 9223372036854775807 ∧ x.f1.f0.size ≤ 9223372036854775807) : ∀ s ∈ alN l, s.size ≤ 9223372036854775807 := by
  induction l with
  | nil => intro s h; cases h
  | cons x r ih =>
    intro s h
    rw [alN, List.mem_cons, List.mem_cons] at h
    obtain ⟨h1, h2⟩ := hs x List.mem_cons_self
    rcases h with h | h | h
    · rw [h]; exact h1
    · rw [h]; exact h2
    · exact ih (fun y hy => hs y (List.mem_cons_of_mem _ hy)) s h
theorem fw_ev (p : S35) (u : Int) (l : List S56) (hl : l.length ≤ 2048) (hs : ∀ x ∈ l, x.f0.f0.size ≤ 9223372036854775807 ∧ x.f1.f0.size ≤ 9223372036854775807) : Ev (fun k => deliver_Flows.f k p.f0 p.f1 p.f2 p.f3 p.f4 p.f5 p.f6 u l) (fwV p u l) := by
  have h0 : GI (fun _ => 0) (fun _ => False) 0 [] [] := ⟨fun s => rfl, fun s => rfl, fun s => Nat.le_refl _, fun s => ⟨fun _ h => h, fun _ => rfl⟩, List.nodup_nil, fun s => by simp, Nat.le_refl _⟩
  obtain ⟨t', m', hE, hK, hK2⟩ := fgo_ev p u l hs _ _ 0 [] [] h0 (by omega)
  unfold fwV
  simp only [deliver_Flows.f]
  refine Ev.bind hE ?_
  by_cases c0 : feV p u l = 0
  case neg => rw [if_neg c0]; exact Ev.neg c0 (Ev.val _)
  rw [if_pos c0]
  refine Ev.pos c0 ?_
  have g := hK c0
  by_cases c1 : l.length > 1024
  · rw [if_pos c1]; exact Ev.pos c1 (Ev.val _)
  · rw [if_neg c1]
    have hn : sortS t' = NL (alN l) := SS_uniq (sortS_SS g.nod) (NL_SS _) (fun s => by
      rw [(sortS_perm _).mem_iff, NL_mem, g.mem]; simp)
    have ht := g.tln
    refine Ev.neg c1 (Ev.pos (show t'.length < 1000000 by omega) ?_)
    rw [hn]
    have hln := NL_len (alN l)
    rw [alN_len] at hln
    have := fout_ev (g.same (z' := fun s => nm p u s l) (A' := fun s => s ∈ alN l) (fun s => by omega) (fun s => by simp)) (by omega) p.f1 (NL (alN l)) (fun s hm => alN_size hs s ((NL_mem _ _).mp hm)) [] (by rw [List.length_nil]; omega)
    exact this
/-- All lots of a side. -/
def qs (l : List S60) : Int := (l.map (·.f1)).sum
/-- Lots of both sides against one another. -/
def PP : List S60 → List S60 → List S56
  | x :: X, y :: Y =>
    if x.f1 < y.f1 then ⟨y.f0, x.f0, x.f1⟩ :: PP X (⟨y.f0, y.f1 - x.f1⟩ :: Y)
    else if y.f1 < x.f1 then ⟨y.f0, x.f0, y.f1⟩ :: PP (⟨x.f0, x.f1 - y.f1⟩ :: X) Y
    else ⟨y.f0, x.f0, y.f1⟩ :: PP X Y
  | [], _ => []
  | _ :: _, [] => []
termination_by X Y => X.length + Y.length
theorem PP_nil (Y : List S60) : PP [] Y = [] := by rw [PP]
theorem PP_nil2 (X : List S60) : PP X [] = [] := by cases X <;> rw [PP]
theorem PP_lt {x y : S60} (h : x.f1 < y.f1) (X Y : List S60) : PP (x :: X) (y :: Y) = ⟨y.f0, x.f0, x.f1⟩ :: PP X (⟨y.f0, y.f1 - x.f1⟩ :: Y) := by rw [PP, if_pos h]
theorem PP_gt {x y : S60} (h : y.f1 < x.f1) (X Y : List S60) : PP (x :: X) (y :: Y) = ⟨y.f0, x.f0, y.f1⟩ :: PP (⟨x.f0, x.f1 - y.f1⟩ :: X) Y := by rw [PP, if_neg (by omega), if_pos h]
theorem PP_eq {x y : S60} (h : x.f1 = y.f1) (X Y : List S60) : PP (x :: X) (y :: Y) = ⟨y.f0, x.f0, y.f1⟩ :: PP X Y := by rw [PP, if_neg (by omega), if_neg (by omega)]
theorem qs_cons (x : S60) (l : List S60) : qs (x :: l) = x.f1 + qs l := by simp [qs]
theorem qs_nil : qs [] = 0 := rfl
/-- Each has lots, and not too many. -/
def Lots (l : List S60) : Prop := ∀ x ∈ l, 0 < x.f1 ∧ x.f1 ≤ 1048576
theorem Lots.tl {x : S60} {l : List S60} (h : Lots (x :: l)) : Lots l := fun y hy => h y (List.mem_cons_of_mem _ hy)
theorem Lots.hd {x : S60} {l : List S60} (h : Lots (x :: l)) : 0 < x.f1 ∧ x.f1 ≤ 1048576 := h x List.mem_cons_self
theorem Lots.mk {x : S60} {l : List S60} (h : Lots l) (hx : 0 < x.f1 ∧ x.f1 ≤ 1048576) : Lots (x :: l) := fun y hy => by
  rcases List.mem_cons.mp hy with e | e
  · rw [e]; exact hx
  · exact h y e
theorem Lots.nn {l : List S60} (h : Lots l) : 0 ≤ qs l := by
  induction l with
  | nil => rw [qs_nil]; omega
  | cons x l ih =>
    rw [qs_cons]
    have := h.hd
    have := ih h.tl
    omega
theorem Lots.nz {x : S60} {l : List S60} (h : Lots (x :: l)) : 0 < qs (x :: l) := by
  rw [qs_cons]
  have := h.hd
  have := h.tl.nn
  omega
theorem Lots.of_drop {l : List S60} (h : Lots l) (i : Nat) : Lots (l.drop i) := fun x hx => h x (List.mem_of_mem_drop hx)
theorem PP_len (n : Nat) : ∀ X Y : List S60, X.length + Y.length ≤ n → (PP X Y).length ≤ n := by
  induction n with
  | zero =>
    intro X Y h
    rw [List.length_eq_zero_iff.mp (by omega : X.length = 0), PP_nil]
    exact Nat.le_refl _
  | succ n ih =>
    intro X Y h
    cases X with
    | nil => rw [PP_nil]; exact Nat.zero_le _
    | cons x X =>
      cases Y with
      | nil => rw [PP_nil2]; exact Nat.zero_le _
      | cons y Y =>
        rw [List.length_cons, List.length_cons] at h
        by_cases h1 : x.f1 < y.f1
        · rw [PP_lt h1, List.length_cons]
          exact Nat.succ_le_succ (ih _ _ (by rw [List.length_cons]; omega))
        · by_cases h2 : y.f1 < x.f1
          · rw [PP_gt h2, List.length_cons]
            exact Nat.succ_le_succ (ih _ _ (by rw [List.length_cons]; omega))
          · rw [PP_eq (by omega), List.length_cons]
            exact Nat.succ_le_succ (ih _ _ (by omega))
/-- What is left of one side. -/
def rem52 (L : List S60) (n : Nat) (room : Int) : List S60 := if room = 0 then L.drop n else ⟨(rd_T60 L ((n - 1 : Nat) : Int)).f0, room⟩ :: L.drop n
theorem rd_pt (l : List S60) (i : Nat) (h : i < l.length) : rd_T60 l (i : Int) = l[i] := by simp [rd_T60, h]
theorem pin_ev (L : List S60) (hL : Lots L) (a : S54) (m : Nat) : ∀ (left : Int) (n : Nat) (room : Int), 0 < left → left ≤ 1048576 → 0 ≤ room → room ≤ 1048576 → n ≤ L.length → (0 < room → 1 ≤ n) → left ≤ qs (rem52 L n room) → (rem52 L n room).length < m →
    ∃ z n' room', Ev (fun k => pairs_in L a k left n room) (z, n', room') ∧ 0 ≤ room' ∧ room' ≤ 1048576 ∧ n' ≤ L.length ∧ (0 < room' → 1 ≤ n') ∧ qs (rem52 L n' room') = qs (rem52 L n room) - left ∧ ∀ Y, PP (rem52 L n room) (⟨a, left⟩ :: Y) = z ++ PP (rem52 L n' room') Y := by
  induction m with
  | zero => intro left n room _ _ _ _ _ _ _ h; exact absurd h (Nat.not_lt_zero _)
  | succ m ih =>
    have key : ∀ (left : Int) (n : Nat) (room : Int), 0 < left → left ≤ 1048576 → 0 < room → room ≤ 1048576 → n ≤ L.length → 1 ≤ n → left ≤ qs (rem52 L n room) → (rem52 L n room).length < m + 1 →
        ∃ z n' room', Ev (fun k => (pairs_in L a k (wrap64 (left - (if room < left then room else left))) n (wrap64 (room - (if room < left then room else left)))).bind fun z => some ((⟨a, (rd_T60 L ((n - 1 : Nat) : Int)).f0, (if room < left then room else left)⟩ : S56) :: z.1, z.2)) (z, n', room') ∧ 0 ≤ room' ∧ room' ≤ 1048576 ∧ n' ≤ L.length ∧ (0 < room' → 1 ≤ n') ∧ qs (rem52 L n' room') = qs (rem52 L n room) - left ∧ ∀ Y, PP (rem52 L n room) (⟨a, left⟩ :: Y) = z ++ PP (rem52 L n' room') Y := by
      intro left n room h1 h2 h3 h4 h5 h6 h7 h8
      have e0 : rem52 L n room = ⟨(rd_T60 L ((n - 1 : Nat) : Int)).f0, room⟩ :: L.drop n := if_neg (by omega)
      rw [e0] at h7 h8 ⊢
      rw [qs_cons] at h7 ⊢
      simp only at h7 ⊢
      by_cases c1 : room < left
      · rw [if_pos c1, show wrap64 (left - room) = left - room by unfold wrap64; omega, show wrap64 (room - room) = 0 by unfold wrap64; omega]
        have e1 : rem52 L n 0 = L.drop n := if_pos rfl
        obtain ⟨z, n', room', k1, k2, k3, k4, k5, k6, k7⟩ := ih (left - room) n 0 (by omega) (by omega) (by omega) (by omega) h5 (by omega) (by rw [e1]; omega) (by rw [e1]; rw [List.length_cons] at h8; omega)
        refine ⟨_ :: z, n', room', Ev.bind k1 (Ev.val _), k2, k3, k4, k5, by rw [k6, e1]; omega, fun Y => ?_⟩
        rw [PP_lt c1, List.cons_append, ← k7 Y, e1]
      · rw [if_neg c1, show wrap64 (left - left) = 0 by unfold wrap64; omega, show wrap64 (room - left) = room - left by unfold wrap64; omega]
        have hz : Ev (fun k => pairs_in L a k 0 n (room - left)) ([], n, room - left) := by
          refine Ev.shift ?_
          simp only [pairs_in]
          exact Ev.neg (by omega) (Ev.val _)
        refine ⟨[_], n, room - left, Ev.bind hz (Ev.val _), by omega, by omega, h5, fun _ => h6, ?_, fun Y => ?_⟩
        · by_cases c2 : room = left
          · rw [show rem52 L n (room - left) = L.drop n from if_pos (by omega)]; omega
          · rw [show rem52 L n (room - left) = ⟨(rd_T60 L ((n - 1 : Nat) : Int)).f0, room - left⟩ :: L.drop n from if_neg (by omega), qs_cons]
            show room - left + _ = _
            omega
        · by_cases c2 : room = left
          · rw [show rem52 L n (room - left) = L.drop n from if_pos (by omega), PP_eq c2]; rfl
          · rw [show rem52 L n (room - left) = ⟨(rd_T60 L ((n - 1 : Nat) : Int)).f0, room - left⟩ :: L.drop n from if_neg (by omega), PP_gt (by show left < room; omega)]; rfl
    intro left n room h1 h2 h3 h4 h5 h6 h7 h8
    by_cases c0 : room = 0
    · subst c0
      have e1 : rem52 L n 0 = L.drop n := if_pos rfl
      rw [e1] at h7 h8 ⊢
      have hlt : n < L.length := by
        rcases Nat.lt_or_ge n L.length with c | c
        · exact c
        · rw [List.drop_eq_nil_of_le c, qs_nil] at h7; omega
      have hd := hL.of_drop n
      rw [List.drop_eq_getElem_cons hlt] at h7 h8 hd ⊢
      have hq := hd.hd
      have e2 : rem52 L (n + 1) L[n].f1 = L[n] :: L.drop (n + 1) := by
        rw [rem52, if_neg (by omega), Nat.add_sub_cancel, rd_pt L n hlt]
      obtain ⟨z, n', room', k1, k2⟩ := key left (n + 1) L[n].f1 h1 h2 hq.1 hq.2 (by omega) (by omega) (by rw [e2]; exact h7) (by rw [e2]; exact h8)
      rw [e2] at k2
      refine ⟨z, n', room', ?_, k2⟩
      refine Ev.shift ?_
      simp only [pairs_in]
      refine Ev.pos h1 ?_
      simp only [if_pos hlt, ↓reduceIte, rd_pt L n hlt, Option.bind_some]
      exact Ev.pos (Nat.succ_pos n) k1
    · obtain ⟨z, n', room', k1, k2⟩ := key left n room h1 h2 (by omega) h4 h5 (h6 (by omega)) h7 h8
      refine ⟨z, n', room', ?_, k2⟩
      refine Ev.shift ?_
      simp only [pairs_in]
      refine Ev.pos h1 ?_
      simp only [if_neg c0, Option.bind_some]
      exact Ev.pos (by have := h6 (by omega); omega) k1
theorem pgo_ev (L : List S60) (hL : Lots L) (l : List S60) (hl : Lots l) : ∀ (n : Nat) (room : Int), 0 ≤ room → room ≤ 1048576 → n ≤ L.length → (0 < room → 1 ≤ n) → qs (rem52 L n room) = qs l →
    Ev (fun k => pairs_go k L l n room) (PP (rem52 L n room) l) := by
  induction l with
  | nil =>
    intro n room _ _ _ _ _
    rw [PP_nil2]
    simp only [pairs_go]
    exact Ev.val _
  | cons s r ih =>
    intro n room h1 h2 h3 h4 h5
    have hs := hl.hd
    have hn := hl.tl.nn
    rw [qs_cons] at h5
    obtain ⟨z, n', room', k1, k2, k3, k4, k5, k6, k7⟩ := pin_ev L hL s.f0 _ s.f1 n room hs.1 hs.2 h1 h2 h3 h4 (by omega) (Nat.lt_succ_self _)
    rw [k7 r]
    simp only [pairs_go]
    exact Ev.bind k1 (Ev.bind (ih hl.tl n' room' k2 k3 k4 k5 (by omega)) (Ev.val _))
/-- May these lots be? -/
def ltB (l : List S60) : Bool := l.all (fun x => decide (1 ≤ x.f1 ∧ x.f1 ≤ 1048576))
theorem ltB_iff (l : List S60) : ltB l = true ↔ Lots l := by
  unfold ltB Lots
  rw [List.all_eq_true]
  constructor
  · intro h x hx
    have := of_decide_eq_true (h x hx)
    omega
  · intro h x hx
    have := h x hx
    exact decide_eq_true (by omega)
theorem ltB_cons (x : S60) (l : List S60) : ltB (x :: l) = (decide (1 ≤ x.f1 ∧ x.f1 ≤ 1048576) && ltB l) := rfl
theorem lots_le {l : List S60} (h : Lots l) : qs l ≤ 1048576 * (l.length : Int) := by
  induction l with
  | nil => rw [qs_nil]; simp
  | cons x l ih =>
    rw [qs_cons, List.length_cons]
    have := h.hd
    have := ih h.tl
    omega
theorem lots52L (l : List S60) (hl : l.length ≤ 1024) (n : Nat) : ∀ (i : Nat) (a : Int), l.length - i = n → i ≤ l.length → 0 ≤ a → a ≤ 1048576 * (i : Int) →
    Ev (fun k => deliver_lots.l0 k a l (l.length : Int) (i : Int)) (if ltB (l.drop i) = true then (a + qs (l.drop i), 0) else (0, 18)) := by
  induction n with
  | zero =>
    intro i a hi hle h0 h1
    refine Ev.shift ?_
    simp only [deliver_lots.l0]
    rw [List.drop_eq_nil_of_le (by omega), qs_nil, Int.add_zero]
    exact Ev.neg (by omega) (Ev.val _)
  | succ n ih =>
    intro i a hi hle h0 h1
    have hlt : i < l.length := by omega
    have hw : wrap64 ((i : Int) + 1) = ((i + 1 : Nat) : Int) := by unfold wrap64; omega
    refine Ev.shift ?_
    simp only [deliver_lots.l0, rd_pt l i hlt, hw]
    rw [List.drop_eq_getElem_cons hlt, ltB_cons, qs_cons]
    refine Ev.pos (by omega) (Ev.pos (by omega) (Ev.pos (by omega) ?_))
    by_cases c1 : l[i].f1 < 1
    · rw [decide_eq_false (by omega), Bool.false_and, if_neg (by decide)]
      exact Ev.pos c1 (Ev.val _)
    · by_cases c2 : l[i].f1 > 1048576
      · rw [decide_eq_false (by omega), Bool.false_and, if_neg (by decide)]
        exact Ev.neg c1 (Ev.pos c2 (Ev.val _))
      · rw [decide_eq_true (by omega), Bool.true_and, wrap_small (by omega) (by omega)]
        have := ih (i + 1) (a + l[i].f1) (by omega) (by omega) (by omega) (by omega)
        rw [Int.add_assoc] at this
        exact Ev.neg c1 (Ev.neg c2 this)
theorem lots52_ev (l : List S60) (hl : l.length ≤ 1024) : Ev (fun k => deliver_lots.f k l) (if ltB l = true then (qs l, 0) else (0, 18)) := by
  have := lots52L l hl l.length 0 0 (by omega) (by omega) (by omega) (by omega)
  rw [List.drop_zero, Int.zero_add] at this
  exact this
/-- Pairs, or why there are none. -/
def prV (L R : List S60) : List S56 × Int :=
  if L.length > 1024 ∨ R.length > 1024 then ([], 8) else if ltB L = true ∧ ltB R = true then (if qs L = qs R then (PP L R, 0) else ([], 31)) else ([], 18)
theorem prs_ev (L R : List S60) : Ev (fun k => deliver_Pairs.f k L R) (prV L R) := by
  unfold prV
  simp only [deliver_Pairs.f]
  by_cases c0 : L.length > 1024 ∨ R.length > 1024
  · rw [if_pos c0]
    exact Ev.pos c0 (Ev.val _)
  · rw [if_neg c0]
    refine Ev.neg c0 ?_
    have hL := lots52_ev L (by omega)
    have hR := lots52_ev R (by omega)
    by_cases c1 : ltB L = true
    · rw [if_pos c1] at hL
      refine Ev.bind hL (Ev.pos rfl ?_)
      by_cases c2 : ltB R = true
      · rw [if_pos c2] at hR
        rw [if_pos ⟨c1, c2⟩]
        refine Ev.bind hR (Ev.pos rfl ?_)
        by_cases c3 : qs L = qs R
        · rw [if_pos c3]
          refine Ev.pos c3 ?_
          have h := pgo_ev L ((ltB_iff L).mp c1) R ((ltB_iff R).mp c2) 0 0 (by omega) (by omega) (by omega) (by omega) (by rw [rem52, if_pos rfl, List.drop_zero]; exact c3)
          rw [rem52, if_pos rfl, List.drop_zero] at h
          have hlen := PP_len (L.length + R.length) L R (by omega)
          exact Ev.bind h (Ev.pos (by omega) (Ev.val _))
        · rw [if_neg c3]
          exact Ev.neg c3 (Ev.val _)
      · rw [if_neg c2] at hR
        rw [if_neg (fun h => c2 h.2)]
        exact Ev.bind hR (Ev.neg (by decide) (Ev.val _))
    · rw [if_neg c1] at hL
      rw [if_neg (fun h => c1 h.1)]
      exact Ev.bind hL (Ev.neg (by decide) (Ev.val _))
theorem goes_true : contangolaw52_goes.f 200 = some true := by decide +kernel
theorem goes_ev : Ev (fun k => contangolaw52_goes.f k) true := Ev.of goes_true (fun k => contangolaw52_goes.mono k)
theorem wsc (i : Nat) (h : i < 1000000) : wrap64 ((i : Int) + 1) = ((i + 1 : Nat) : Int) := by unfold wrap64; omega
theorem rd_pp (l : List S56) (i : Nat) (h : i < l.length) : rd_T56 l (i : Int) = l[i] := by simp [rd_T56, h]
theorem rd_fl (l : List S63) (i : Nat) (h : i < l.length) : rd_T63 l (i : Int) = l[i] := by simp [rd_T63, h]
def acB (a b : S54) : Bool := eqD54 a.f0 b.f0 a.f1 b.f1
def gotV (a : S54) : List S56 → Int
  | [] => 0
  | x :: r => (if acB x.f1 a = true then x.f2 else 0) + gotV a r
def gaveV (a : S54) : List S56 → Int
  | [] => 0
  | x :: r => (if acB x.f0 a = true then x.f2 else 0) + gaveV a r
def lotV (a : S54) : List S60 → Int
  | [] => 0
  | x :: r => (if acB x.f0 a = true then x.f1 else 0) + lotV a r
theorem PP_sum (a : S54) (n : Nat) : ∀ X Y : List S60, X.length + Y.length ≤ n → Lots X → Lots Y → qs X = qs Y → gotV a (PP X Y) = lotV a X ∧ gaveV a (PP X Y) = lotV a Y := by
  induction n with
  | zero =>
    intro X Y h _ _ _
    rw [List.length_eq_zero_iff.mp (by omega : X.length = 0), List.length_eq_zero_iff.mp (by omega : Y.length = 0), PP_nil]
    exact ⟨rfl, rfl⟩
  | succ n ih =>
    intro X Y h hX hY hq
    cases X with
    | nil =>
      cases Y with
      | nil => rw [PP_nil]; exact ⟨rfl, rfl⟩
      | cons y Y => have := hY.nz; rw [← hq, qs_nil] at this; omega
    | cons x X =>
      cases Y with
      | nil => have := hX.nz; rw [hq, qs_nil] at this; omega
      | cons y Y =>
        rw [List.length_cons, List.length_cons] at h
        have hx := hX.hd
        have hy := hY.hd
        rw [qs_cons, qs_cons] at hq
        by_cases h1 : x.f1 < y.f1
        · rw [PP_lt h1]
          obtain ⟨i1, i2⟩ := ih X (⟨y.f0, y.f1 - x.f1⟩ :: Y) (by rw [List.length_cons]; omega) hX.tl (hY.tl.mk (by show 0 < y.f1 - x.f1 ∧ y.f1 - x.f1 ≤ 1048576; omega)) (by rw [qs_cons]; show qs X = y.f1 - x.f1 + qs Y; omega)
          rw [gotV, gaveV, i1, i2, lotV, lotV, lotV]
          refine ⟨rfl, ?_⟩
          show (if acB y.f0 a = true then x.f1 else 0) + ((if acB y.f0 a = true then y.f1 - x.f1 else 0) + lotV a Y) = _
          split <;> omega
        · by_cases h2 : y.f1 < x.f1
          · rw [PP_gt h2]
            obtain ⟨i1, i2⟩ := ih (⟨x.f0, x.f1 - y.f1⟩ :: X) Y (by rw [List.length_cons]; omega) (hX.tl.mk (by show 0 < x.f1 - y.f1 ∧ x.f1 - y.f1 ≤ 1048576; omega)) hY.tl (by rw [qs_cons]; show x.f1 - y.f1 + qs X = qs Y; omega)
            rw [gotV, gaveV, i1, i2, lotV, lotV, lotV]
            refine ⟨?_, rfl⟩
            show (if acB x.f0 a = true then y.f1 else 0) + ((if acB x.f0 a = true then x.f1 - y.f1 else 0) + lotV a X) = _
            split <;> omega
          · rw [PP_eq (by omega)]
            obtain ⟨i1, i2⟩ := ih X Y (by omega) hX.tl hY.tl (by omega)
            rw [gotV, gaveV, i1, i2, lotV, lotV]
            refine ⟨?_, rfl⟩
            show (if acB x.f0 a = true then y.f1 else 0) + lotV a X = _
            rw [show y.f1 = x.f1 by omega]
theorem PP_mem (Q : ByteArray → Prop) (n : Nat) : ∀ X Y : List S60, X.length + Y.length ≤ n → Lots X → Lots Y → (∀ x ∈ X, Q x.f0.f0) → (∀ y ∈ Y, Q y.f0.f0) → ∀ z ∈ PP X Y, Q z.f0.f0 ∧ Q z.f1.f0 ∧ 1 ≤ z.f2 ∧ z.f2 ≤ 1048576 := by
  induction n with
  | zero =>
    intro X Y h _ _ _ _ z hz
    rw [List.length_eq_zero_iff.mp (by omega : X.length = 0), PP_nil] at hz
    cases hz
  | succ n ih =>
    intro X Y h hX hY qX qY z hz
    cases X with
    | nil => rw [PP_nil] at hz; cases hz
    | cons x X =>
      cases Y with
      | nil => rw [PP_nil2] at hz; cases hz
      | cons y Y =>
        rw [List.length_cons, List.length_cons] at h
        have hx := hX.hd
        have hy := hY.hd
        have q1 := qX x List.mem_cons_self
        have q2 := qY y List.mem_cons_self
        have qX' : ∀ x ∈ X, Q x.f0.f0 := fun x hx => qX x (List.mem_cons_of_mem _ hx)
        have qY' : ∀ x ∈ Y, Q x.f0.f0 := fun x hx => qY x (List.mem_cons_of_mem _ hx)
        by_cases h1 : x.f1 < y.f1
        · rw [PP_lt h1] at hz
          rcases List.mem_cons.mp hz with e | hz
          · rw [e]; exact ⟨q2, q1, by show 1 ≤ x.f1; omega, hx.2⟩
          · exact ih X (⟨y.f0, y.f1 - x.f1⟩ :: Y) (by rw [List.length_cons]; omega) hX.tl (hY.tl.mk (by show 0 < y.f1 - x.f1 ∧ y.f1 - x.f1 ≤ 1048576; omega)) qX' (fun w hw => by
              rcases List.mem_cons.mp hw with e | hw
              · rw [e]; exact q2
              · exact qY' w hw) z hz
        · by_cases h2 : y.f1 < x.f1
          · rw [PP_gt h2] at hz
            rcases List.mem_cons.mp hz with e | hz
            · rw [e]; exact ⟨q2, q1, by show 1 ≤ y.f1; omega, hy.2⟩
            · exact ih (⟨x.f0, x.f1 - y.f1⟩ :: X) Y (by rw [List.length_cons]; omega) (hX.tl.mk (by show 0 < x.f1 - y.f1 ∧ x.f1 - y.f1 ≤ 1048576; omega)) hY.tl (fun w hw => by
                rcases List.mem_cons.mp hw with e | hw
                · rw [e]; exact q1
                · exact qX' w hw) qY' z hz
          · rw [PP_eq (by omega)] at hz
            rcases List.mem_cons.mp hz with e | hz
            · rw [e]; exact ⟨q2, q1, by show 1 ≤ y.f1; omega, hy.2⟩
            · exact ih X Y (by omega) hX.tl hY.tl qX' qY' z hz
theorem gotL (l : List S56) (hl : l.length ≤ 4096) (hb : ∀ z ∈ l, 1 ≤ z.f2 ∧ z.f2 ≤ 1048576) (a : S54) (n : Nat) : ∀ (i : Nat) (c : Int), l.length - i = n → i ≤ l.length → 0 ≤ c → c ≤ 1048576 * (i : Int) →
    Ev (fun k => contangolaw52_got.l0 k l c (l.length : Int) (i : Int) a.f0 a.f1) (c + gotV a (l.drop i)) := by
  induction n with
  | zero =>
    intro i c hi hle h0 h1
    refine Ev.shift ?_
    simp only [contangolaw52_got.l0]
    rw [show l.drop i = [] from List.drop_eq_nil_of_le (by omega), gotV, Int.add_zero]
    exact Ev.neg (by omega) (Ev.val _)
  | succ n ih =>
    intro i c hi hle h0 h1
    have hlt : i < l.length := by omega
    have hx := hb l[i] (List.getElem_mem hlt)
    refine Ev.shift ?_
    simp only [contangolaw52_got.l0, rd_pp l i hlt, wsc i (by omega)]
    rw [List.drop_eq_getElem_cons hlt, gotV]
    refine Ev.pos (by omega) (Ev.pos (by omega) (Ev.pos (by omega) ?_))
    by_cases c1 : acB l[i].f1 a = true
    · rw [if_pos c1, wrap_small (by omega) (by omega)]
      have := ih (i + 1) (c + l[i].f2) (by omega) (by omega) (by omega) (by omega)
      rw [Int.add_assoc] at this
      exact Ev.pos c1 this
    · rw [if_neg c1, Int.zero_add]
      exact Ev.neg c1 (ih (i + 1) c (by omega) (by omega) (by omega) (by omega))
theorem got_ev (l : List S56) (hl : l.length ≤ 4096) (hb : ∀ z ∈ l, 1 ≤ z.f2 ∧ z.f2 ≤ 1048576) (a : S54) : Ev (fun k => contangolaw52_got.f k l a.f0 a.f1) (gotV a l) := by
  have := gotL l hl hb a l.length 0 0 (by omega) (by omega) (by omega) (by omega)
  rw [List.drop_zero, Int.zero_add] at this
  exact this
theorem gaveL (l : List S56) (hl : l.length ≤ 4096) (hb : ∀ z ∈ l, 1 ≤ z.f2 ∧ z.f2 ≤ 1048576) (a : S54) (n : Nat) : ∀ (i : Nat) (c : Int), l.length - i = n → i ≤ l.length → 0 ≤ c → c ≤ 1048576 * (i : Int) →
    Ev (fun k => contangolaw52_gave.l0 k l c (l.length : Int) (i : Int) a.f0 a.f1) (c + gaveV a (l.drop i)) := by
  induction n with
  | zero =>
    intro i c hi hle h0 h1
    refine Ev.shift ?_
    simp only [contangolaw52_gave.l0]
    rw [show l.drop i = [] from List.drop_eq_nil_of_le (by omega), gaveV, Int.add_zero]
    exact Ev.neg (by omega) (Ev.val _)
  | succ n ih =>
    intro i c hi hle h0 h1
    have hlt : i < l.length := by omega
    have hx := hb l[i] (List.getElem_mem hlt)
    refine Ev.shift ?_
    simp only [contangolaw52_gave.l0, rd_pp l i hlt, wsc i (by omega)]
    rw [List.drop_eq_getElem_cons hlt, gaveV]
    refine Ev.pos (by omega) (Ev.pos (by omega) (Ev.pos (by omega) ?_))
    by_cases c1 : acB l[i].f0 a = true
    · rw [if_pos c1, wrap_small (by omega) (by omega)]
      have := ih (i + 1) (c + l[i].f2) (by omega) (by omega) (by omega) (by omega)
      rw [Int.add_assoc] at this
      exact Ev.pos c1 this
    · rw [if_neg c1, Int.zero_add]
      exact Ev.neg c1 (ih (i + 1) c (by omega) (by omega) (by omega) (by omega))
theorem gave_ev (l : List S56) (hl : l.length ≤ 4096) (hb : ∀ z ∈ l, 1 ≤ z.f2 ∧ z.f2 ≤ 1048576) (a : S54) : Ev (fun k => contangolaw52_gave.f k l a.f0 a.f1) (gaveV a l) := by
  have := gaveL l hl hb a l.length 0 0 (by omega) (by omega) (by omega) (by omega)
  rw [List.drop_zero, Int.zero_add] at this
  exact this
theorem lotL (l : List S60) (hl : l.length ≤ 4096) (hb : Lots l) (a : S54) (n : Nat) : ∀ (i : Nat) (c : Int), l.length - i = n → i ≤ l.length → 0 ≤ c → c ≤ 1048576 * (i : Int) →
    Ev (fun k => contangolaw52_lots.l0 k l c (l.length : Int) (i : Int) a.f0 a.f1) (c + lotV a (l.drop i)) := by
  induction n with
  | zero =>
    intro i c hi hle h0 h1
    refine Ev.shift ?_
    simp only [contangolaw52_lots.l0]
    rw [show l.drop i = [] from List.drop_eq_nil_of_le (by omega), lotV, Int.add_zero]
    exact Ev.neg (by omega) (Ev.val _)
  | succ n ih =>
    intro i c hi hle h0 h1
    have hlt : i < l.length := by omega
    have hx := hb l[i] (List.getElem_mem hlt)
    refine Ev.shift ?_
    simp only [contangolaw52_lots.l0, rd_pt l i hlt, wsc i (by omega)]
    rw [List.drop_eq_getElem_cons hlt, lotV]
    refine Ev.pos (by omega) (Ev.pos (by omega) (Ev.pos (by omega) ?_))
    by_cases c1 : acB l[i].f0 a = true
    · rw [if_pos c1, wrap_small (by omega) (by omega)]
      have := ih (i + 1) (c + l[i].f1) (by omega) (by omega) (by omega) (by omega)
      rw [Int.add_assoc] at this
      exact Ev.pos c1 this
    · rw [if_neg c1, Int.zero_add]
      exact Ev.neg c1 (ih (i + 1) c (by omega) (by omega) (by omega) (by omega))
theorem lot_ev (l : List S60) (hl : l.length ≤ 4096) (hb : Lots l) (a : S54) : Ev (fun k => contangolaw52_lots.f k l a.f0 a.f1) (lotV a l) := by
  have := lotL l hl hb a l.length 0 0 (by omega) (by omega) (by omega) (by omega)
  rw [List.drop_zero, Int.zero_add] at this
  exact this
/-- The flows, where each sum fits. -/
theorem outV_fit (cur : Int) (z : ByteArray → Int) (hz : ∀ s, fitB (z s) = true) (l : List ByteArray) : ∀ t, outV cur z l t = (t ++ (l.filter (fun s => decide (z s ≠ 0))).map (fun s => (⟨s, cur, z s, 4⟩ : S63)), 0) := by
  induction l with
  | nil => intro t; simp [outV]
  | cons s r ih =>
    intro t
    have e : sV (z s) = (z s, 0) := if_pos (hz s)
    rw [outV, e, if_pos rfl]
    by_cases c : z s = 0
    · rw [if_pos c, ih, List.filter_cons_of_neg (by simp [c])]
    · rw [if_neg c, ih, List.filter_cons_of_pos (by simp [c]), List.map_cons, List.append_assoc]
      rfl
def zsum (z : ByteArray → Int) (l : List ByteArray) : Int := (l.map z).sum
theorem zsum_filter (z : ByteArray → Int) (l : List ByteArray) : ((l.filter (fun s => decide (z s ≠ 0))).map z).sum = zsum z l := by
  unfold zsum
  induction l with
  | nil => rfl
  | cons s r ih =>
    by_cases c : z s = 0
    · rw [List.filter_cons_of_neg (by simp [c]), ih, List.map_cons, List.sum_cons, c, Int.zero_add]
    · rw [List.filter_cons_of_pos (by simp [c]), List.map_cons, List.sum_cons, ih, List.map_cons, List.sum_cons]
theorem zsum_one (a : ByteArray) (c : Int) (l : List ByteArray) (hn : l.Nodup) : (a ∈ l → (l.map (fun s => if strQ a s = true then c else 0)).sum = c) ∧ (a ∉ l → (l.map (fun s => if strQ a s = true then c else 0)).sum = 0) := by
  induction l with
  | nil => exact ⟨fun h => (by cases h), fun _ => rfl⟩
  | cons s r ih =>
    obtain ⟨h1, h2⟩ := List.nodup_cons.mp hn
    obtain ⟨i1, i2⟩ := ih h2
    rw [List.map_cons, List.sum_cons]
    by_cases e : strQ a s = true
    · have e' := (strQ_iff _ _).mp e
      rw [if_pos e]
      refine ⟨fun _ => by rw [i2 (by rw [e']; exact h1), Int.add_zero], fun h => absurd (by rw [e']; exact List.mem_cons_self) h⟩
    · rw [if_neg e, Int.zero_add]
      refine ⟨fun h => i1 ((List.mem_cons.mp h).resolve_left (fun e2 => e ((strQ_iff _ _).mpr e2))), fun h => i2 (fun h3 => h (List.mem_cons_of_mem _ h3))⟩
theorem zsum_nm (p : S35) (u : Int) (N : List ByteArray) (hn : N.Nodup) (l : List S56) (hm : ∀ s ∈ alN l, s ∈ N) : zsum (fun s => nm p u s l) N = 0 := by
  induction l with
  | nil =>
    unfold zsum
    clear hm hn
    induction N with
    | nil => rfl
    | cons a M ih => rw [List.map_cons, List.sum_cons, ih]; rfl
  | cons x r ih =>
    have ih2 := ih (fun s hs => hm s (by rw [alN]; exact List.mem_cons_of_mem _ (List.mem_cons_of_mem _ hs)))
    have h1 := (zsum_one x.f0.f0 (iv52 p u x) N hn).1 (hm _ (by rw [alN]; exact List.mem_cons_self))
    have h2 := (zsum_one x.f1.f0 (iv52 p u x) N hn).1 (hm _ (by rw [alN]; exact List.mem_cons_of_mem _ List.mem_cons_self))
    unfold zsum at ih2 ⊢
    have key : ∀ M : List ByteArray, (M.map (fun s => nm p u s (x :: r))).sum = (M.map (fun s => if strQ x.f0.f0 s = true then iv52 p u x else 0)).sum - (M.map (fun s => if strQ x.f1.f0 s = true then iv52 p u x else 0)).sum + (M.map (fun s => nm p u s r)).sum := by
      intro M
      induction M with
      | nil => rfl
      | cons a M ih =>
        rw [List.map_cons, List.map_cons, List.map_cons, List.map_cons, List.sum_cons, List.sum_cons, List.sum_cons, List.sum_cons, ih, nm]
        omega
    rw [key, h1, h2, ih2]
    omega
theorem nm_le (p : S35) (u : Int) (l : List S56) (s : ByteArray) (hb : ∀ x ∈ l, 0 ≤ iv52 p u x ∧ iv52 p u x ≤ 257698037760) : -(257698037760 * (l.length : Int)) ≤ nm p u s l ∧ nm p u s l ≤ 257698037760 * (l.length : Int) := by
  induction l with
  | nil => rw [nm]; simp
  | cons x r ih =>
    have := ih (fun y hy => hb y (List.mem_cons_of_mem _ hy))
    have := hb x List.mem_cons_self
    rw [nm, List.length_cons]
    split <;> split <;> omega
theorem feV_zero {p : S35} {u : Int} {l : List S56} (h : ∀ x ∈ l, (inV p u x.f2).2 = 0) : feV p u l = 0 := by
  induction l with
  | nil => rfl
  | cons x r ih => rw [feV, if_pos (h x List.mem_cons_self)]; exact ih (fun y hy => h y (List.mem_cons_of_mem _ hy))
def oil52 (m : Int) : S35 := ⟨⟨#[111, 105, 108]⟩, 0, m, 1, 0, 100, true⟩
theorem oil_prP (m : Int) (h1 : 1 ≤ m) (h2 : m ≤ 4096) : prP (oil52 m) 60 = 0 ∧ prC (oil52 m) = 0 := by
  have hC : prC (oil52 m) = 0 := by
    unfold prC oil52
    simp only
    rw [if_pos (by decide +kernel), if_pos (by decide), if_pos (by omega)]
    rfl
  refine ⟨?_, hC⟩
  unfold prP
  rw [if_pos hC]
  show (if (0 : Int) ≤ 60 ∧ (60 : Int) ≤ 100 then (if Int.tmod 60 1 = 0 then 0 else 16) else 17) = (0 : Int)
  decide
theorem oil_inV (m q : Int) (h1 : 1 ≤ m) (h2 : m ≤ 4096) (q1 : 1 ≤ q) (q2 : q ≤ 1048576) : (inV (oil52 m) 60 q).2 = 0 ∧ 0 ≤ (inV (oil52 m) 60 q).1 ∧ (inV (oil52 m) 60 q).1 ≤ 257698037760 := by
  obtain ⟨e1, e2⟩ := oil_prP m h1 h2
  have e : inV (oil52 m) 60 q = (60 * m * q, 0) := by
    unfold inV
    rw [if_pos e1, if_neg (by omega), if_neg (by decide)]
    unfold vl
    rw [if_pos e2, if_pos (by decide), if_pos (by omega)]
    rfl
  rw [e]
  have a1 : 60 * m ≤ 60 * 4096 := by omega
  exact ⟨rfl, Int.mul_nonneg (by omega) (by omega), Int.le_trans (Int.mul_le_mul a1 q2 (by omega) (by omega)) (by decide)⟩
theorem all_l3 (L R : List S60) (hL : L.length ≤ 300) (hR : R.length ≤ 300) (P : List S56) (hP : P.length ≤ L.length + R.length) (F : List S63) (hF : F.length ≤ 100000) (h4 : ∀ x ∈ F, x.f3 = 4 ∧ x.f2 ≠ 0) (hs : F.Pairwise (fun a b => Op.bytesLess a.f0.toList b.f0.toList = true)) (n : Nat) : ∀ (i : Nat) (a : Int), F.length - i = n → i ≤ F.length → wrap64 a = a → wrap64 (a + ((F.drop i).map (·.f2)).sum) = 0 →
    Ev (fun k => contangolaw52_DeliverAll.l3 k L R P F a (F.length : Int) (i : Int)) true := by
  induction n with
  | zero =>
    intro i a hi hle ha hz
    rw [show F.drop i = [] from List.drop_eq_nil_of_le (by omega), List.map_nil, List.sum_nil, Int.add_zero, ha] at hz
    refine Ev.shift ?_
    simp only [contangolaw52_DeliverAll.l3]
    have w : wrap64 (wrap64 ((L.length : Int) + (R.length : Int)) + 1) = (L.length : Int) + (R.length : Int) + 1 := by unfold wrap64; omega
    rw [w]
    clear w
    exact Ev.neg (by omega) (Ev.pos hz (Ev.pos (by omega) (Ev.bind goes_ev (Ev.val _))))
  | succ n ih =>
    intro i a hi hle ha hz
    have hlt : i < F.length := by omega
    rw [List.drop_eq_getElem_cons hlt, List.map_cons, List.sum_cons] at hz
    have hx := h4 F[i] (List.getElem_mem hlt)
    have ih2 := ih (i + 1) (wrap64 (a + F[i].f2)) (by omega) (by omega) (by generalize F[i].f2 = c; clear hz hx ih ha; unfold wrap64; omega) (by
      generalize F[i].f2 = c at *
      generalize ((F.drop (i + 1)).map (·.f2)).sum = d at *
      clear hx ih ha
      unfold wrap64 at hz ⊢
      omega)
    refine Ev.shift ?_
    simp only [contangolaw52_DeliverAll.l3, rd_fl F i hlt, wsc i (by omega)]
    refine Ev.pos (by omega) (Ev.pos (by omega) (Ev.pos (by omega) (Ev.pos hx.1 (Ev.neg hx.2 ?_))))
    by_cases c : (i : Int) > 0
    · have hj : i - 1 < F.length := by omega
      have w : wrap64 ((i : Int) - 1) = ((i - 1 : Nat) : Int) := by unfold wrap64; omega
      rw [w, rd_fl F (i - 1) hj]
      clear w
      have hlt2 := List.pairwise_iff_getElem.mp hs (i - 1) i hj hlt (by omega)
      exact Ev.pos c (Ev.pos (by omega) (Ev.pos (by omega) (Ev.pos hlt2 ih2)))
    · exact Ev.neg c ih2
theorem all_l2 (L R : List S60) (hL : L.length ≤ 300) (hR : R.length ≤ 300) (lR : Lots R) (m : Int) (P : List S56) (hP : P.length ≤ 600) (hb : ∀ z ∈ P, 1 ≤ z.f2 ∧ z.f2 ≤ 1048576) (hg : ∀ a, gaveV a P = lotV a R)
    (hE : Ev (fun k => contangolaw52_DeliverAll.l2 k L R m P R (R.length : Int) (R.length : Int)) true) (n : Nat) : ∀ i : Nat, R.length - i = n → i ≤ R.length → Ev (fun k => contangolaw52_DeliverAll.l2 k L R m P R (R.length : Int) (i : Int)) true := by
  induction n with
  | zero => intro i hi hle; rwa [show (i : Int) = (R.length : Int) by omega]
  | succ n ih =>
    intro i hi hle
    have hlt : i < R.length := by omega
    refine Ev.shift ?_
    simp only [contangolaw52_DeliverAll.l2, rd_pt R i hlt, wsc i (by omega)]
    exact Ev.pos (by omega) (Ev.pos (by omega) (Ev.pos (by omega) (Ev.bind (gave_ev P (by omega) hb R[i].f0) (Ev.bind (lot_ev R (by omega) lR R[i].f0) (Ev.pos (hg _) (ih (i + 1) (by omega) (by omega)))))))
theorem all_l1 (L R : List S60) (hL : L.length ≤ 300) (hR : R.length ≤ 300) (lL : Lots L) (m : Int) (P : List S56) (hP : P.length ≤ 600) (hb : ∀ z ∈ P, 1 ≤ z.f2 ∧ z.f2 ≤ 1048576) (hg : ∀ a, gotV a P = lotV a L)
    (hE : Ev (fun k => contangolaw52_DeliverAll.l2 k L R m P R (R.length : Int) 0) true) (n : Nat) : ∀ i : Nat, L.length - i = n → i ≤ L.length → Ev (fun k => contangolaw52_DeliverAll.l1 k L R m P L (L.length : Int) (i : Int)) true := by
  induction n with
  | zero =>
    intro i hi hle
    refine Ev.shift ?_
    simp only [contangolaw52_DeliverAll.l1]
    exact Ev.neg (by omega) hE
  | succ n ih =>
    intro i hi hle
    have hlt : i < L.length := by omega
    refine Ev.shift ?_
    simp only [contangolaw52_DeliverAll.l1, rd_pt L i hlt, wsc i (by omega)]
    exact Ev.pos (by omega) (Ev.pos (by omega) (Ev.pos (by omega) (Ev.bind (got_ev P (by omega) hb L[i].f0) (Ev.bind (lot_ev L (by omega) lL L[i].f0) (Ev.pos (hg _) (ih (i + 1) (by omega) (by omega)))))))
theorem all_l0 (L R : List S60) (hL : L.length ≤ 300) (hR : R.length ≤ 300) (lL : Lots L) (lR : Lots R) (m : Int) (P : List S56) (hP : P.length ≤ 600) (hb : ∀ z ∈ P, 1 ≤ z.f2 ∧ z.f2 ≤ 1048576) (hg : ∀ a, gotV a P = lotV a L) (hv : ∀ a, gaveV a P = lotV a R)
    (hE : Ev (fun k => contangolaw52_DeliverAll.l1 k L R m P L (L.length : Int) 0) true) (n : Nat) : ∀ i : Nat, P.length - i = n → i ≤ P.length → Ev (fun k => contangolaw52_DeliverAll.l0 k L R m P P (P.length : Int) (i : Int)) true := by
  induction n with
  | zero =>
    intro i hi hle
    refine Ev.shift ?_
    simp only [contangolaw52_DeliverAll.l0]
    exact Ev.neg (by omega) hE
  | succ n ih =>
    intro i hi hle
    have hlt : i < P.length := by omega
    have hx := hb P[i] (List.getElem_mem hlt)
    refine Ev.shift ?_
    simp only [contangolaw52_DeliverAll.l0, rd_pp P i hlt, wsc i (by omega)]
    exact Ev.pos (by omega) (Ev.pos (by omega) (Ev.pos (by omega) (Ev.neg (by omega) (Ev.bind (got_ev P (by omega) hb P[i].f1) (Ev.bind (lot_ev L (by omega) lL P[i].f1) (Ev.pos (hg _) (Ev.bind (gave_ev P (by omega) hb P[i].f0) (Ev.bind (lot_ev R (by omega) lR P[i].f0) (Ev.pos (hv _) (ih (i + 1) (by omega) (by omega)))))))))))
theorem DeliverAll : contangolaw52_DeliverAll.Said := by
  intro L R mu oL oR _ _ _ _
  refine Ev.get ?_
  have j0 : ∀ b : Bool, (b = false → L.length ≤ 300 ∧ R.length ≤ 300) → Ev (fun k => contangolaw52_DeliverAll.j0 k L R mu b) true := by
    intro b hb
    refine Ev.shift ?_
    simp only [contangolaw52_DeliverAll.j0]
    by_cases c : b = true
    · exact Ev.pos c (Ev.bind goes_ev (Ev.val _))
    obtain ⟨hL, hR⟩ := hb (Bool.eq_false_iff.mpr c)
    refine Ev.neg c (Ev.bind (prs_ev L R) ?_)
    unfold prV
    rw [if_neg (by omega)]
    by_cases c1 : ltB L = true ∧ ltB R = true
    case neg => rw [if_neg c1]; exact Ev.neg (by decide) (Ev.pos rfl (Ev.bind goes_ev (Ev.val _)))
    rw [if_pos c1]
    by_cases c2 : qs L = qs R
    case neg => rw [if_neg c2]; exact Ev.neg (by decide) (Ev.pos rfl (Ev.bind goes_ev (Ev.val _)))
    rw [if_pos c2]
    have lL := (ltB_iff L).mp c1.1
    have lR := (ltB_iff R).mp c1.2
    refine Ev.pos rfl ?_
    show Ev (fun k => contangolaw52_DeliverAll.l0 k L R mu (PP L R) (PP L R) ((PP L R).length : Int) 0) true
    have hlen := PP_len (L.length + R.length) L R (Nat.le_refl _)
    have hsum := fun a => PP_sum a (L.length + R.length) L R (Nat.le_refl _) lL lR c2
    have hmem := PP_mem (fun s => s.size ≤ 9223372036854775807) (L.length + R.length) L R (Nat.le_refl _) lL lR (fun x hx => (oL.2 x hx).1.1) (fun x hx => (oR.2 x hx).1.1)
    generalize PP L R = P at *
    have hb2 : ∀ z ∈ P, 1 ≤ z.f2 ∧ z.f2 ≤ 1048576 := fun z hz => (hmem z hz).2.2
    refine all_l0 L R hL hR lL lR mu P (by omega) hb2 (fun a => (hsum a).1) (fun a => (hsum a).2) ?_ P.length 0 (by omega) (by omega)
    refine all_l1 L R hL hR lL mu P (by omega) hb2 (fun a => (hsum a).1) ?_ L.length 0 (by omega) (by omega)
    refine all_l2 L R hL hR lR mu P (by omega) hb2 (fun a => (hsum a).2) ?_ R.length 0 (by omega) (by omega)
    refine Ev.shift ?_
    simp only [contangolaw52_DeliverAll.l2]
    refine Ev.neg (by omega) ?_
    have hm : ∃ m : Int, wrap64 (1 + wrap64 (Int.tmod (IntKind.u64.wrap mu) 4096)) = m ∧ 1 ≤ m ∧ m ≤ 4096 := by
      refine ⟨_, rfl, ?_⟩
      have h0 : 0 ≤ IntKind.u64.wrap mu := by rw [IntKind.wrap_u64]; omega
      rw [Int.tmod_eq_emod_of_nonneg h0]
      generalize IntKind.u64.wrap mu = v at *
      unfold wrap64
      omega
    obtain ⟨m, em, m1, m2⟩ := hm
    rw [em]
    clear em
    have hin : ∀ x ∈ P, (inV (oil52 m) 60 x.f2).2 = 0 ∧ 0 ≤ iv52 (oil52 m) 60 x ∧ iv52 (oil52 m) 60 x ≤ 257698037760 := fun x hx => oil_inV m x.f2 m1 m2 (hb2 x hx).1 (hb2 x hx).2
    have hfe : feV (oil52 m) 60 P = 0 := feV_zero (fun x hx => (hin x hx).1)
    have hz : ∀ s, fitB (nm (oil52 m) 60 s P) = true := fun s => by
      have := nm_le (oil52 m) 60 P s (fun x hx => (hin x hx).2)
      exact (fitB_iff _).mpr (by omega)
    have hf := fw_ev (oil52 m) 60 P (by omega) (fun x hx => ⟨(hmem x hx).1, (hmem x hx).2.1⟩)
    unfold fwV at hf
    rw [if_pos hfe, if_neg (by omega), outV_fit _ _ hz, List.nil_append] at hf
    refine Ev.bind hf (Ev.pos rfl ?_)
    have hSS := NL_SS (alN P)
    refine all_l3 L R hL hR P hlen _ ?_ ?_ ?_ _ 0 0 rfl (by omega) (by unfold wrap64; omega) ?_
    · rw [List.length_map]
      have h1 := List.length_filter_le (fun s => decide (nm (oil52 m) 60 s P ≠ 0)) (NL (alN P))
      have h2 := NL_len (alN P)
      rw [alN_len] at h2
      omega
    · intro x hx
      obtain ⟨s, hs, rfl⟩ := List.mem_map.mp hx
      exact ⟨rfl, of_decide_eq_true (List.mem_filter.mp hs).2⟩
    · refine List.pairwise_map.mpr ?_
      exact List.Pairwise.filter _ hSS
    · rw [List.drop_zero, List.map_map]
      have h1 := zsum_filter (fun s => nm (oil52 m) 60 s P) (NL (alN P))
      rw [zsum_nm _ _ _ (SS_nodup hSS) P (fun s hs => (NL_mem _ _).mpr hs)] at h1
      rw [show ((fun x : S63 => x.f2) ∘ fun s => (⟨s, (oil52 m).f1, nm (oil52 m) 60 s P, 4⟩ : S63)) = (fun s => nm (oil52 m) 60 s P) from rfl, h1]
      unfold wrap64
      omega
  simp only [contangolaw52_DeliverAll.f]
  by_cases c0 : (L.length : Int) > 300
  · exact Ev.pos c0 (j0 true (fun h => by cases h))
  · refine Ev.neg c0 (j0 _ (fun h => ?_))
    have := of_decide_eq_false h
    omega
end Go.Proofs.Ytmgeoombebkfaaa.Pure
