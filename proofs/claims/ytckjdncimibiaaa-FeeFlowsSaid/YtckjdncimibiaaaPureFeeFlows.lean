/- What members pay for any trades, and how these are counted, is what the document says: the law, as a statement over numbers and lists. -/
import Derived.Test.YtckjdncimibiaaaArgFeeFlows
namespace Go.Proofs.Ytckjdncimibiaaa.Pure
set_option linter.unusedSimpArgs false
set_option linter.unusedVariables false
open Go.RowKit Go.Proofs.Ytckjdncimibiaaa.PFeeFlows Go.Proofs.Ytckjdncimibiaaa.Opens Go.Proofs.YtckjdncimibiaaaW.PrintWords Go.Proofs.YtckjdncimibiaaaW.PrintLast
/-- Comes to r, at all large numbers of rounds. -/
def Ev {α : Type} (g : Nat → Option α) (r : α) : Prop := ∃ K, ∀ k, K ≤ k → g k = some r
theorem Ev.shift {α : Type} {g : Nat → Option α} {r : α} (h : Ev (fun k => g (k + 1)) r) : Ev g r := by
  obtain ⟨K, h⟩ := h
  refine ⟨K + 1, fun k hk => ?_⟩
  obtain ⟨m, rfl⟩ : ∃ m, k = m + 1 := ⟨k - 1, by omega⟩
  exact h m (by omega)
theorem Ev.val {α : Type} (r : α) : Ev (fun _ => some r) r := ⟨0, fun _ _ => rfl⟩
theorem Ev.bind {α β : Type} {g : Nat → Option α} {f : Nat → α → Option β} {x : α} {r : β} (h : Ev g x) (h' : Ev (fun k => f k x) r) : Ev (fun k => (g k).bind (f k)) r := by
  obtain ⟨K, h⟩ := h
  obtain ⟨K', h'⟩ := h'
  exact ⟨max K K', fun k hk => by show (g k).bind (f k) = some r; rw [h k (by omega)]; exact h' k (by omega)⟩
theorem Ev.get {α : Type} {g : Nat → Option α} {r : α} (h : Ev g r) : ∃ k, g k = some r := by
  obtain ⟨K, h⟩ := h
  exact ⟨K, h K (Nat.le_refl _)⟩
theorem Ev.of {α : Type} {g : Nat → Option α} {r : α} {k0 : Nat} (h : g k0 = some r) (hm : ∀ k, LeO (g k) (g (k + 1))) : Ev g r := ⟨k0, fun _ hk => at_rounds hm hk h⟩
theorem Ev.pos {α : Type} {c : Prop} [Decidable c] {a b : Nat → Option α} {r : α} (hc : c) (h : Ev a r) : Ev (fun k => if c then a k else b k) r := by
  obtain ⟨K, h⟩ := h
  exact ⟨K, fun k hk => by show (if c then a k else b k) = some r; rw [if_pos hc]; exact h k hk⟩
theorem Ev.neg {α : Type} {c : Prop} [Decidable c] {a b : Nat → Option α} {r : α} (hc : ¬ c) (h : Ev b r) : Ev (fun k => if c then a k else b k) r := by
  obtain ⟨K, h⟩ := h
  exact ⟨K, fun k hk => by show (if c then a k else b k) = some r; rw [if_neg hc]; exact h k hk⟩
/-- Both ways, each where it is taken. -/
theorem Ev.ite {α : Type} {c : Prop} [Decidable c] {a b : Nat → Option α} {r : α} (h : c → Ev a r) (h' : ¬ c → Ev b r) : Ev (fun k => if c then a k else b k) r := by
  by_cases hc : c
  · exact Ev.pos hc (h hc)
  · exact Ev.neg hc (h' hc)
theorem wrap_small {n : Int} (h0 : -9223372036854775808 ≤ n) (h1 : n ≤ 9223372036854775807) : wrap64 n = n := by unfold wrap64; omega
/-- Both ways, each with its own end. -/
theorem Ev.both {α : Type} {c : Prop} [Decidable c] {a b : Nat → Option α} {r s : α} (h : c → Ev a r) (h' : ¬ c → Ev b s) : Ev (fun k => if c then a k else b k) (if c then r else s) := by
  by_cases hc : c
  · rw [if_pos hc]; exact Ev.pos hc (h hc)
  · rw [if_neg hc]; exact Ev.neg hc (h' hc)
theorem Ev.valOf {α : Type} {r s : α} (h : s = r) : Ev (fun _ => some r) s := by subst h; exact Ev.val _
theorem less_irrefl (a : List UInt8) : Op.bytesLess a a = false := by
  induction a with
  | nil => rfl
  | cons x r ih =>
    have h : ¬ x < x := fun h => by have := UInt8.lt_iff_toNat_lt.mp h; omega
    simp [Op.bytesLess, ih, h]
theorem less_trans (a : List UInt8) : ∀ b c : List UInt8, Op.bytesLess a b = true → Op.bytesLess b c = true → Op.bytesLess a c = true := by
  induction a with
  | nil =>
    intro b c h1 h2
    cases c with
    | nil => cases b <;> simp [Op.bytesLess] at h2
    | cons z c => rfl
  | cons x a ih =>
    intro b c h1 h2
    cases b with
    | nil => simp [Op.bytesLess] at h1
    | cons y b =>
      cases c with
      | nil => simp [Op.bytesLess] at h2
      | cons z c =>
        simp only [Op.bytesLess, Bool.or_eq_true, decide_eq_true_eq, Bool.and_eq_true, beq_iff_eq, UInt8.lt_iff_toNat_lt] at h1 h2 ⊢
        rcases h1 with h1 | ⟨rfl, h1⟩
        · rcases h2 with h2 | ⟨rfl, h2⟩
          · exact Or.inl (by omega)
          · exact Or.inl h1
        · rcases h2 with h2 | ⟨rfl, h2⟩
          · exact Or.inl h2
          · exact Or.inr ⟨rfl, ih _ _ h1 h2⟩
theorem less_flip {a b : List UInt8} (h : ¬ Op.bytesLess a b = true) (hne : b ≠ a) : Op.bytesLess b a = true := by
  have := Go.Proofs.YtckjdncimibiaaaHand.bytesLess_flip b a
  have h' : Op.bytesLess a b = false := by simpa using h
  rw [h', beq_eq_false_iff_ne.mpr hne] at this
  simpa using this
theorem less_ne {a b : List UInt8} (h : Op.bytesLess a b = true) : a ≠ b := by
  intro e
  subst e
  rw [less_irrefl] at h
  cases h
def letB (c : Int) : Bool := decide (97 ≤ c) && decide (c ≤ 122)
def digB (c : Int) : Bool := decide (48 ≤ c) && decide (c ≤ 57)
/-- From place i on, d letters or digits. -/
def restB (s : ByteArray) : Nat → Nat → Bool
  | 0, _ => true
  | d + 1, i => (letB (bt s i) || digB (bt s i)) && restB s d (i + 1)
/-- Is a text a name? -/
def nameB (s : ByteArray) : Bool := decide (0 < s.size) && decide (s.size ≤ 12) && letB (bt s 0) && restB s s.size 0
theorem letter_some (c : Int) : words_letter.f c = some (letB c) := by
  unfold words_letter.f letB
  split <;> rename_i h <;> simp [h]
theorem digit_some (c : Int) : words_digit.f c = some (digB c) := by
  unfold words_digit.f digB
  split <;> rename_i h <;> simp [h]
theorem toList_nil (s : ByteArray) : s.toList = [] ↔ s.size = 0 := by
  rw [ByteArray.toList_eq]
  constructor
  · intro h
    have := congrArg List.length h
    simpa using this
  · intro h
    apply List.eq_nil_of_length_eq_zero
    simpa using h
theorem words_Name_loop (s : ByteArray) (hs : s.size ≤ 12) (d : Nat) : ∀ (k i : Nat), s.size - i = d → i ≤ s.size → d < k → words_Name.l0 k s (s.size : Int) i = some (restB s d i) := by
  induction d with
  | zero =>
    intro k i hd hi hk
    obtain ⟨k, rfl⟩ : ∃ m, k = m + 1 := ⟨k - 1, by omega⟩
    simp only [words_Name.l0]
    rw [if_neg (by omega)]
    rfl
  | succ d ih =>
    intro k i hd hi hk
    obtain ⟨k, rfl⟩ : ∃ m, k = m + 1 := ⟨k - 1, by omega⟩
    have hw : wrap64 ((i : Int) + 1) = ((i + 1 : Nat) : Int) := by unfold wrap64; omega
    simp only [words_Name.l0]
    rw [if_pos (by omega), if_pos (by omega), if_pos (by omega), letter_some, digit_some, hw, ih k (i + 1) (by omega) (by omega) (by omega)]
    simp only [Option.bind_some, restB]
    cases letB (bt s i) <;> cases digB (bt s i) <;> simp
theorem words_Name_some (s : ByteArray) : words_Name.f 20 s = some (nameB s) := by
  unfold words_Name.f nameB
  by_cases h0 : s.size = 0
  · rw [if_pos ((toList_nil s).mpr h0)]
    simp [words_Name.j0, h0]
  · rw [if_neg (fun h => h0 ((toList_nil s).mp h))]
    by_cases h1 : (s.size : Int) > 12
    · rw [if_pos h1]
      have : ¬ s.size ≤ 12 := by omega
      simp [words_Name.j0, this]
    · rw [if_neg h1, if_pos (by omega), letter_some]
      have h2 : s.size ≤ 12 := by omega
      have h3 : 0 < s.size := by omega
      simp only [Option.bind_some, h2, h3, decide_true, Bool.true_and]
      have hl := words_Name_loop s h2 s.size 19 0 (by omega) (by omega) (by omega)
      cases letB (bt s 0)
      · simp [words_Name.j0]
      · simp only [words_Name.j0, Bool.not_true, Bool.false_eq_true, if_false]
        rw [Bool.true_and]
        exact hl
theorem refName_loop (s : ByteArray) (hs : s.size ≤ 9223372036854775806) (d : Nat) : ∀ i : Nat, 1 ≤ i → s.size - i = d → i ≤ s.size → Ev (fun k => contangoref03_Name.l0 k s i) (restB s d i && decide (0 < s.size) && decide (s.size ≤ 12)) := by
  induction d with
  | zero =>
    intro i h1 hd hi
    refine Ev.shift ?_
    simp only [contangoref03_Name.l0]
    refine Ev.neg (by omega) (Ev.pos (by omega) ?_)
    have e1 : decide ((s.size : Int) ≤ 12) = decide (s.size ≤ 12) := decide_eq_decide.mpr (by omega)
    have e2 : decide (0 < s.size) = true := decide_eq_true (by omega)
    rw [e1, e2]
    exact Ev.val _
  | succ d ih =>
    intro i h1 hd hi
    refine Ev.shift ?_
    simp only [contangoref03_Name.l0]
    have hw : wrap64 ((i : Int) + 1) = ((i + 1 : Nat) : Int) := by unfold wrap64; omega
    have h := ih (i + 1) (by omega) (by omega) (by omega)
    rw [hw]
    refine Ev.pos (by omega) (Ev.pos (by omega) ?_)
    simp only [restB, letB, digB]
    by_cases c1 : 97 ≤ bt s i
    · by_cases c2 : bt s i ≤ 122
      · simpa [c1, c2] using h
      · have c3 : ¬ bt s i < 48 := by omega
        have c4 : 57 < bt s i := by omega
        have c5 : ¬ bt s i ≤ 57 := by omega
        have c6 : ¬ (i : Int) = 0 := by omega
        simp only [c1, c2, c3, c4, c5, c6, ge_iff_le, gt_iff_lt, if_true, if_false, decide_true, decide_false, Bool.and_false, Bool.or_false, Bool.false_and]
        exact Ev.val _
    · by_cases c3 : bt s i < 48
      · have c6 : ¬ (i : Int) = 0 := by omega
        have c7 : ¬ 48 ≤ bt s i := by omega
        simp only [c1, c3, c6, c7, ge_iff_le, gt_iff_lt, if_true, if_false, decide_false, Bool.false_and, Bool.or_false]
        exact Ev.val _
      · have c6 : ¬ (i : Int) = 0 := by omega
        have c7 : 48 ≤ bt s i := by omega
        by_cases c4 : 57 < bt s i
        · have c5 : ¬ bt s i ≤ 57 := by omega
          simp only [c1, c3, c4, c5, c6, c7, ge_iff_le, gt_iff_lt, if_true, if_false, decide_true, decide_false, Bool.and_false, Bool.false_and, Bool.or_false]
          exact Ev.val _
        · have c5 : bt s i ≤ 57 := by omega
          simp only [c1, c3, c4, c5, c6, c7, ge_iff_le, gt_iff_lt, if_true, if_false, decide_true, decide_false, Bool.and_true, Bool.false_and, Bool.true_and, Bool.false_or]
          exact h
/-- What the document says of a name is what the code says. -/
theorem refName (s : ByteArray) (hs : s.size ≤ 9223372036854775806) : Ev (fun k => contangoref03_Name.f k s) (nameB s) := by
  simp only [contangoref03_Name.f]
  refine Ev.shift ?_
  simp only [contangoref03_Name.l0]
  by_cases h0 : s.size = 0
  · refine Ev.neg (by omega) (Ev.neg (by omega) ?_)
    have : nameB s = false := by simp [nameB, h0]
    rw [this]
    exact Ev.val _
  · have hw : wrap64 ((0 : Int) + 1) = ((1 : Nat) : Int) := by unfold wrap64; omega
    have h := refName_loop s hs (s.size - 1) 1 (by omega) (by omega) (by omega)
    refine Ev.pos (by omega) (Ev.pos (by omega) ?_)
    rw [hw]
    have hd : decide (0 < s.size) = true := decide_eq_true (by omega)
    obtain ⟨d, hdd⟩ : ∃ d, s.size = d + 1 := ⟨s.size - 1, by omega⟩
    have hn : nameB s = (letB (bt s 0) && (restB s (s.size - 1) 1 && decide (0 < s.size) && decide (s.size ≤ 12))) := by
      rw [hd]
      simp only [nameB, hd]
      rw [show restB s s.size 0 = ((letB (bt s 0) || digB (bt s 0)) && restB s (s.size - 1) 1) from by rw [hdd]; rfl]
      cases letB (bt s 0) <;> cases decide (s.size ≤ 12) <;> cases restB s (s.size - 1) 1 <;> simp
    rw [hn]
    simp only [letB]
    by_cases c1 : 97 ≤ bt s 0
    · by_cases c2 : bt s 0 ≤ 122
      · simp only [c1, c2, ge_iff_le, if_true, decide_true, Bool.true_and]
        exact h
      · simp only [c1, c2, ge_iff_le, if_true, if_false, decide_true, decide_false, Bool.and_false, Bool.false_and]
        exact Ev.val _
    · simp only [c1, ge_iff_le, if_true, if_false, decide_false, Bool.false_and]
      exact Ev.val _
theorem and32 (n : Int) : Go.bits .and .i64 n 4294967295 = n % 4294967296 := by
  have h127 : (BitVec.ofInt 64 4294967295).toNat = 2 ^ 32 - 1 := by decide
  have key : (BitVec.ofInt 64 n &&& BitVec.ofInt 64 4294967295).toNat = (n % ((2 ^ 64 : Nat) : Int)).toNat % 2 ^ 32 := by
    rw [BitVec.toNat_and, BitVec.toNat_ofInt, h127, Nat.and_two_pow_sub_one_eq_mod]
  show IntKind.i64.wrap ((BitVec.ofInt 64 n &&& BitVec.ofInt 64 4294967295).toNat : Nat) = n % 4294967296
  rw [key, IntKind.wrap_i64]
  omega
/-- Is a number money? -/
def fitB (n : Int) : Bool := decide (-1152921504606846976 ≤ n ∧ n ≤ 1152921504606846976)
def sumI (l : List Int) : Int := l.foldr (· + ·) 0
/-- All together, or why that is not told. -/
def smV (l : List Int) (s : Int) : Int × Int := if l.all fitB = true then (if fitB (s + sumI l) = true then (s + sumI l, 0) else (0, 3)) else (0, 2)
theorem fits_some (n : Int) : cents_Fits.f n = some (fitB n) := by
  unfold cents_Fits.f fitB
  by_cases h : n ≥ -1152921504606846976
  · rw [if_pos h]
    congr 1
    exact decide_eq_decide.mpr ⟨fun h2 => ⟨h, h2⟩, fun h2 => h2.2⟩
  · rw [if_neg h]
    congr 1
    exact (decide_eq_false (by omega)).symm
theorem fitting_some (n : Int) : cents_fitting.f n = some (if fitB n = true then (n, 0) else (0, 3)) := by
  unfold cents_fitting.f
  rw [fits_some]
  simp only [Option.bind_some]
  split <;> rfl
theorem sumEnd (hi lo : Int) (h1 : -1152921504606846976 ≤ hi ∧ hi ≤ 1152921504606846976) (h2 : 0 ≤ lo ∧ lo ≤ 1152921504606846976) :
    (if (wrap64 (hi + (lo / 4294967296))) < (-268435456) then (some ((0 : Int), (3 : Int))) else (if (wrap64 (hi + (lo / 4294967296))) > 268435456 then (some (0, 3)) else ((cents_fitting.f (wrap64 ((wrap64 ((wrap64 (hi + (lo / 4294967296))) * 4294967296)) + (Go.bits .and .i64 lo 4294967295)))).bind fun bt => (some (bt.1, bt.2))))) = some (if fitB (hi * 4294967296 + lo) = true then (hi * 4294967296 + lo, 0) else (0, 3)) := by
  have e1 : wrap64 (hi + lo / 4294967296) = hi + lo / 4294967296 := wrap_small (by omega) (by omega)
  rw [e1, and32]
  by_cases c1 : hi + lo / 4294967296 < -268435456
  · rw [if_pos c1, if_neg]
    unfold fitB
    simp only [decide_eq_true_eq]
    omega
  · rw [if_neg c1]
    by_cases c2 : hi + lo / 4294967296 > 268435456
    · rw [if_pos c2, if_neg]
      unfold fitB
      simp only [decide_eq_true_eq]
      omega
    · rw [if_neg c2]
      have e2 : wrap64 ((hi + lo / 4294967296) * 4294967296) = (hi + lo / 4294967296) * 4294967296 := wrap_small (by omega) (by omega)
      have e3 : wrap64 ((hi + lo / 4294967296) * 4294967296 + lo % 4294967296) = hi * 4294967296 + lo := by
        rw [wrap_small (by omega) (by omega)]
        omega
      rw [e2, e3, fitting_some]
      rfl
theorem sumL (l : List Int) (hl : l.length ≤ 1000000) (n : Nat) : ∀ (i : Nat) (hi lo : Int), l.length - i = n → i ≤ l.length → -(268435456 * (i : Int)) ≤ hi → hi ≤ 268435456 * (i : Int) → 0 ≤ lo → lo ≤ 4294967296 * (i : Int) →
    Ev (fun k => cents_Sum.l0 k l hi lo (l.length : Int) (i : Int)) (smV (l.drop i) (hi * 4294967296 + lo)) := by
  induction n with
  | zero =>
    intro i hi lo hd hle h1 h2 h3 h4
    refine Ev.shift ?_
    simp only [cents_Sum.l0]
    rw [List.drop_eq_nil_of_le (by omega)]
    refine Ev.neg (by omega) ?_
    rw [sumEnd hi lo (by omega) (by omega)]
    exact Ev.valOf (by simp [smV, sumI])
  | succ n ih =>
    intro i hi lo hd hle h1 h2 h3 h4
    have hlt : i < l.length := by omega
    have hw : wrap64 ((i : Int) + 1) = ((i + 1 : Nat) : Int) := by unfold wrap64; omega
    refine Ev.shift ?_
    simp only [cents_Sum.l0, hw]
    have hr : rd l (i : Int) = l[i] := by simp [rd, List.getD_eq_getElem?_getD, hlt]
    rw [hr, List.drop_eq_getElem_cons hlt]
    refine Ev.pos (by omega) (Ev.pos (by omega) (Ev.pos (by omega) ?_))
    rw [fits_some, and32]
    simp only [Option.bind_some]
    by_cases hf : fitB l[i] = true
    · refine Ev.pos hf ?_
      have hf2 := hf
      unfold fitB at hf2
      simp only [decide_eq_true_eq] at hf2
      have e1 : wrap64 (hi + l[i] / 4294967296) = hi + l[i] / 4294967296 := wrap_small (by omega) (by omega)
      have e2 : wrap64 (lo + l[i] % 4294967296) = lo + l[i] % 4294967296 := wrap_small (by omega) (by omega)
      rw [e1, e2]
      have h := ih (i + 1) (hi + l[i] / 4294967296) (lo + l[i] % 4294967296) (by omega) (by omega) (by omega) (by omega) (by omega) (by omega)
      have e3 : smV (l[i] :: l.drop (i + 1)) (hi * 4294967296 + lo) = smV (l.drop (i + 1)) ((hi + l[i] / 4294967296) * 4294967296 + (lo + l[i] % 4294967296)) := by
        unfold smV
        rw [List.all_cons, hf, Bool.true_and]
        have e4 : hi * 4294967296 + lo + sumI (l[i] :: l.drop (i + 1)) = (hi + l[i] / 4294967296) * 4294967296 + (lo + l[i] % 4294967296) + sumI (l.drop (i + 1)) := by
          have : sumI (l[i] :: l.drop (i + 1)) = l[i] + sumI (l.drop (i + 1)) := rfl
          rw [this]
          omega
        rw [e4]
      rw [e3]
      exact h
    · have e : smV (l[i] :: l.drop (i + 1)) (hi * 4294967296 + lo) = (0, 2) := by
        unfold smV
        rw [List.all_cons, Bool.eq_false_iff.mpr hf, Bool.false_and]
        rfl
      rw [e]
      exact Ev.neg hf (Ev.val _)
/-- The sum of numbers of money, or why it is not told. -/
def sm (l : List Int) : Int × Int := smV l 0
theorem sm_ev (l : List Int) (hl : l.length ≤ 1000000) : Ev (fun k => cents_Sum.f k l) (sm l) := by
  simp only [cents_Sum.f]
  exact sumL l hl l.length 0 0 0 (by omega) (by omega) (by omega) (by omega) (by omega) (by omega)
/-- A band of the document as one of the program. -/
def cv (x : S73) : S70 := ⟨x.f0, x.f1⟩
/-- May a band stand behind another one? -/
def bdT (f r p q : Int) : Bool := decide (f < p ∧ p ≤ 1152921504606846976 ∧ 0 ≤ q ∧ q ≤ r)
theorem bdT_no {f r p q : Int} (h : ¬ (f < p ∧ p ≤ 1152921504606846976 ∧ 0 ≤ q ∧ q ≤ r)) : bdT f r p q = false := decide_eq_false h
theorem bdT_yes {f r p q : Int} (h : f < p ∧ p ≤ 1152921504606846976 ∧ 0 ≤ q ∧ q ≤ r) : bdT f r p q = true := decide_eq_true h
/-- Bands that rise in From and don't in Rate. -/
def bdG (f r : Int) : List S70 → Bool
  | [] => true
  | b :: t => bdT f r b.f0 b.f1 && bdG b.f0 b.f1 t
/-- The answer to whether bands may be. -/
def bdV (b : Bool) : Int := cond b 0 2
def bdH (l : List S70) : Int := (rd_T70 l 0).f0
/-- What may be wrong with bands. -/
def bdC (l : List S70) : Int := if l.length = 0 ∨ l.length > 1024 then 8 else if bdH l = 0 then bdV (bdG (-1) 68719476736 l) else 2
theorem rd_bf (l : List S70) (i : Nat) (h : i < l.length) : rd_T70 l (i : Int) = l[i] := by simp [rd_T70, h]
theorem rd_br (l : List S73) (i : Nat) (h : i < l.length) : rd_T73 l (i : Int) = l[i] := by simp [rd_T73, h]
theorem succ_w (i n : Nat) (h : i < n) (hn : n ≤ 9223372036854775806) : wrap64 ((i : Int) + 1) = ((i + 1 : Nat) : Int) := by unfold wrap64; omega
theorem bandsL (l : List S73) (hl : l.length ≤ 8796093022200) (n : Nat) : ∀ (i : Nat) (t : List S70), l.length - i = n → i ≤ l.length → t.length = i →
    Ev (fun k => contangolaw38_Bands.l0 k l t (i : Int)) (t ++ (l.drop i).map cv) := by
  induction n with
  | zero =>
    intro i t hi hle ht
    refine Ev.shift ?_
    simp only [contangolaw38_Bands.l0]
    rw [List.drop_eq_nil_of_le (by omega), List.map_nil, List.append_nil]
    exact Ev.neg (by omega) (Ev.val _)
  | succ n ih =>
    intro i t hi hle ht
    have hlt : i < l.length := by omega
    refine Ev.shift ?_
    simp only [contangolaw38_Bands.l0, rd_br l i hlt, succ_w i l.length hlt (by omega)]
    rw [List.drop_eq_getElem_cons hlt, List.map_cons]
    refine Ev.pos (by omega) (Ev.pos (by omega) (Ev.pos (by omega) ?_))
    have := ih (i + 1) (t ++ [cv l[i]]) (by omega) (by omega) (by simp [ht])
    rw [List.append_assoc] at this
    exact this
theorem bands_ev (l : List S73) (hl : l.length ≤ 8796093022200) : Ev (fun k => contangolaw38_Bands.f k l) (l.map cv) := by
  have := bandsL l hl l.length 0 [] (by omega) (by omega) rfl
  rw [List.drop_zero, List.nil_append] at this
  exact this
theorem may_some (a b c d : Int) : fee_Band_may.f a b c d = some (bdT c d a b) := by
  unfold fee_Band_may.f
  by_cases h0 : eqD70 a c b d = true
  · rw [if_pos h0]
    unfold eqD70 at h0
    simp only [Bool.and_eq_true, beq_iff_eq] at h0
    rw [bdT_no (by omega)]
  · rw [if_neg h0]
    clear h0
    by_cases h1 : a > c
    · rw [if_pos h1]
      by_cases h2 : a ≤ 1152921504606846976
      · rw [if_pos h2]
        by_cases h3 : b ≥ 0
        · rw [if_pos h3]; exact congrArg some (decide_eq_decide.mpr (by omega))
        · rw [if_neg h3]; rw [bdT_no (by omega)]
      · rw [if_neg h2]; rw [bdT_no (by omega)]
    · rw [if_neg h1]; rw [bdT_no (by omega)]
theorem chkfL (l : List S70) (hl : l.length ≤ 1024) (n : Nat) : ∀ (i : Nat) (f r : Int), l.length - i = n → i ≤ l.length →
    Ev (fun k => fee_Check.l0 k l (l.length : Int) (i : Int) f r) (bdV (bdG f r (l.drop i))) := by
  induction n with
  | zero =>
    intro i f r hi hle
    refine Ev.shift ?_
    simp only [fee_Check.l0]
    rw [List.drop_eq_nil_of_le (by omega)]
    exact Ev.neg (by omega) (Ev.valOf rfl)
  | succ n ih =>
    intro i f r hi hle
    have hlt : i < l.length := by omega
    refine Ev.shift ?_
    simp only [fee_Check.l0, rd_bf l i hlt, succ_w i l.length hlt (by omega), may_some, Option.bind_some]
    rw [List.drop_eq_getElem_cons hlt]
    refine Ev.pos (by omega) (Ev.pos (by omega) (Ev.pos (by omega) ?_))
    simp only [bdG]
    by_cases h : f < l[i].f0 ∧ l[i].f0 ≤ 1152921504606846976 ∧ 0 ≤ l[i].f1 ∧ l[i].f1 ≤ r
    · rw [bdT_yes h, Bool.true_and]
      exact Ev.pos rfl (ih (i + 1) _ _ (by omega) (by omega))
    · rw [bdT_no h, Bool.false_and]
      exact Ev.neg (by decide) (Ev.val _)
theorem bdC_ev (l : List S70) : Ev (fun k => fee_Check.f k l) (bdC l) := by
  have key : ∀ b : Bool, (b = false → l.length ≤ 1024 ∧ 0 < l.length) → Ev (fun k => fee_Check.j0 k l b) (if b = true then 8 else if bdH l = 0 then bdV (bdG (-1) 68719476736 l) else 2) := by
    intro b hb
    refine Ev.shift ?_
    simp only [fee_Check.j0]
    refine Ev.both (fun _ => Ev.val _) (fun h => ?_)
    obtain ⟨h1, h2⟩ := hb (by simpa using h)
    refine Ev.pos (by omega) (Ev.both (fun _ => ?_) (fun _ => Ev.val _))
    have := chkfL l h1 l.length 0 (-1) 68719476736 (by omega) (by omega)
    rwa [List.drop_zero] at this
  simp only [fee_Check.f]
  unfold bdC
  by_cases h0 : l.length = 0
  · rw [if_pos (.inl h0)]
    refine Ev.pos (by omega) ?_
    have := key true (fun h => by cases h)
    rwa [if_pos rfl] at this
  · refine Ev.neg (by omega) ?_
    by_cases h1 : l.length > 1024
    · rw [if_pos (.inr h1)]
      have := key (decide ((l.length : Int) > 1024)) (fun h => by simp at h; omega)
      rwa [if_pos (by simp; omega)] at this
    · rw [if_neg (fun h => h.elim h0 h1)]
      have := key (decide ((l.length : Int) > 1024)) (fun h => by omega)
      rwa [if_neg (by simp; omega)] at this
theorem chkrL (l : List S73) (hl : l.length ≤ 1024) (n : Nat) : ∀ (i : Nat) (h0 : 0 < i), l.length - i = n → (hle : i ≤ l.length) → (l[i - 1]'(by omega)).f1 ≤ 68719476736 →
    Ev (fun k => contangoref38_Check.l0 k l (i : Int)) (bdV (bdG (l[i - 1]'(by omega)).f0 (l[i - 1]'(by omega)).f1 ((l.drop i).map cv))) := by
  induction n with
  | zero =>
    intro i h0 hi hle hr
    refine Ev.shift ?_
    simp only [contangoref38_Check.l0]
    rw [List.drop_eq_nil_of_le (by omega)]
    exact Ev.neg (by omega) (Ev.valOf rfl)
  | succ n ih =>
    intro i h0 hi hle hr
    have hlt : i < l.length := by omega
    have hw2 : wrap64 ((i : Int) - 1) = ((i - 1 : Nat) : Int) := by unfold wrap64; omega
    have ih2 := ih (i + 1) (by omega) (by omega) (by omega)
    refine Ev.shift ?_
    simp only [contangoref38_Check.l0, rd_br l i hlt, hw2, rd_br l (i - 1) (by omega)]
    rw [List.drop_eq_getElem_cons hlt, List.map_cons]
    refine Ev.pos (by omega) (Ev.neg (by omega) (Ev.pos (by omega) (Ev.pos (by omega) (Ev.pos (by omega) (Ev.pos (by omega) ?_)))))
    have j2 : ∀ b : Bool, Ev (fun k => contangoref38_Check.j2 k l (i : Int) b) (if b = true then 2 else if l[i].f1 < 0 then 2 else if l[i].f1 > 68719476736 then 2 else if l[i].f1 > (l[i - 1]'(by omega)).f1 then 2 else bdV (bdG l[i].f0 l[i].f1 ((l.drop (i + 1)).map cv))) := by
      intro b
      refine Ev.shift ?_
      simp only [contangoref38_Check.j2, rd_br l i hlt, hw2, rd_br l (i - 1) (by omega), succ_w i l.length hlt (by omega)]
      refine Ev.both (fun _ => Ev.val _) (fun _ => Ev.pos (by omega) (Ev.pos (by omega) (Ev.both (fun _ => Ev.val _) (fun _ => Ev.both (fun _ => Ev.val _) (fun h3 => Ev.pos (by omega) (Ev.pos (by omega) (Ev.pos (by omega) (Ev.both (fun _ => Ev.val _) (fun _ => ?_)))))))))
      exact ih2 (by simpa using h3)
    simp only [bdG, cv]
    generalize hbd : bdG l[i].f0 l[i].f1 ((l.drop (i + 1)).map cv) = bd at *
    clear ih hbd
    by_cases c1 : l[i].f0 ≤ l[i - 1].f0
    · rw [bdT_no (by omega), Bool.false_and, show bdV false = 2 from rfl]
      refine Ev.pos c1 ?_
      have := j2 true
      rwa [if_pos rfl] at this
    · refine Ev.neg c1 ?_
      by_cases c2 : l[i].f0 > 1152921504606846976
      · have := j2 true
        rw [if_pos rfl] at this
        rw [show decide (l[i].f0 > 1152921504606846976) = true from decide_eq_true c2, bdT_no (by omega), Bool.false_and, show bdV false = 2 from rfl]; exact this
      have := j2 false
      rw [if_neg (by decide)] at this
      rw [show decide (l[i].f0 > 1152921504606846976) = false from decide_eq_false c2]
      by_cases c3 : l[i].f1 < 0
      · rw [if_pos c3] at this
        rw [bdT_no (by omega), Bool.false_and, show bdV false = 2 from rfl]; exact this
      rw [if_neg c3] at this
      by_cases c4 : l[i].f1 > 68719476736
      · rw [if_pos c4] at this
        rw [bdT_no (by omega), Bool.false_and, show bdV false = 2 from rfl]; exact this
      rw [if_neg c4] at this
      by_cases c5 : l[i].f1 > l[i - 1].f1
      · rw [if_pos c5] at this
        rw [bdT_no (by omega), Bool.false_and, show bdV false = 2 from rfl]; exact this
      rw [if_neg c5] at this
      rw [bdT_yes (by omega), Bool.true_and]; exact this
theorem bdCr_ev (l : List S73) : Ev (fun k => contangoref38_Check.f k l) (bdC (l.map cv)) := by
  have key : ∀ b : Bool, (b = false → l.length ≤ 1024 ∧ 0 < l.length) → Ev (fun k => contangoref38_Check.j0 k l b) (if b = true then 8 else if bdH (l.map cv) = 0 then bdV (bdG (-1) 68719476736 (l.map cv)) else 2) := by
    intro b hb
    refine Ev.shift ?_
    simp only [contangoref38_Check.j0]
    refine Ev.both (fun _ => Ev.val _) (fun h => ?_)
    obtain ⟨h1, h2⟩ := hb (by simpa using h)
    have hd : bdH (l.map cv) = l[0].f0 := by
      unfold bdH
      rw [show (0 : Int) = ((0 : Nat) : Int) from rfl, rd_bf (l.map cv) 0 (by simpa using h2), List.getElem_map]
      rfl
    have hr0 : rd_T73 l 0 = l[0] := rd_br l 0 h2
    have e0 : l.map cv = cv l[0] :: (l.drop 1).map cv := by
      cases l with
      | nil => simp at h2
      | cons a t => rfl
    refine Ev.shift ?_
    simp only [contangoref38_Check.l0, hr0]
    refine Ev.pos (by omega) (Ev.pos (by trivial) (Ev.pos (by omega) ?_))
    rw [hd]
    have j2 : ∀ b : Bool, Ev (fun k => contangoref38_Check.j2 k l 0 b) (if b = true then 2 else if l[0].f1 < 0 then 2 else if l[0].f1 > 68719476736 then 2 else bdV (bdG l[0].f0 l[0].f1 ((l.drop 1).map cv))) := by
      intro b
      refine Ev.shift ?_
      simp only [contangoref38_Check.j2, hr0]
      refine Ev.both (fun _ => Ev.val _) (fun _ => Ev.pos (by omega) (Ev.pos (by omega) (Ev.both (fun _ => Ev.val _) (fun _ => Ev.both (fun _ => Ev.val _) (fun h3 => Ev.neg (by omega) ?_)))))
      rw [show wrap64 (0 + 1) = ((1 : Nat) : Int) from by unfold wrap64; omega]
      exact chkrL l h1 (l.length - 1) 1 (by omega) (by omega) (by omega) (show l[0].f1 ≤ 68719476736 by omega)
    rw [e0]
    simp only [bdG, cv]
    generalize bdG l[0].f0 l[0].f1 ((l.drop 1).map cv) = bd at *
    clear hd hr0 e0
    by_cases c0 : l[0].f0 = 0
    · rw [if_pos c0]
      refine Ev.pos c0 (Ev.neg (by omega) ?_)
      have := j2 false
      rw [if_neg (by decide)] at this
      rw [show decide (l[0].f0 > 1152921504606846976) = false from decide_eq_false (by omega)]
      by_cases c3 : l[0].f1 < 0
      · rw [if_pos c3] at this
        rw [bdT_no (by omega), Bool.false_and, show bdV false = 2 from rfl]; exact this
      rw [if_neg c3] at this
      by_cases c4 : l[0].f1 > 68719476736
      · rw [if_pos c4] at this
        rw [bdT_no (by omega), Bool.false_and, show bdV false = 2 from rfl]; exact this
      rw [if_neg c4] at this
      rw [bdT_yes (by omega), Bool.true_and]; exact this
    · rw [if_neg c0]
      refine Ev.neg c0 ?_
      have := j2 true
      rwa [if_pos rfl] at this
  simp only [contangoref38_Check.f]
  unfold bdC
  rw [List.length_map]
  by_cases h0 : l.length = 0
  · rw [if_pos (.inl h0)]
    refine Ev.pos (by omega) ?_
    have := key true (fun h => by cases h)
    rwa [if_pos rfl] at this
  · refine Ev.neg (by omega) ?_
    by_cases h1 : l.length > 1024
    · rw [if_pos (.inr h1)]
      have := key (decide ((l.length : Int) > 1024)) (fun h => by simp at h; omega)
      rwa [if_pos (by simp; omega)] at this
    · rw [if_neg (fun h => h.elim h0 h1)]
      have := key (decide ((l.length : Int) > 1024)) (fun h => by omega)
      rwa [if_neg (by simp; omega)] at this
theorem andu32 (n : Int) (h0 : 0 ≤ n) (h1 : n ≤ 18446744073709551615) : Go.bits .and .u64 n 4294967295 = n % 4294967296 := by
  have h127 : (BitVec.ofInt 64 4294967295).toNat = 2 ^ 32 - 1 := by decide
  have key : (BitVec.ofInt 64 n &&& BitVec.ofInt 64 4294967295).toNat = (n % ((2 ^ 64 : Nat) : Int)).toNat % 2 ^ 32 := by
    rw [BitVec.toNat_and, BitVec.toNat_ofInt, h127, Nat.and_two_pow_sub_one_eq_mod]
  show IntKind.u64.wrap ((BitVec.ofInt 64 n &&& BitVec.ofInt 64 4294967295).toNat : Nat) = n % 4294967296
  rw [key, IntKind.wrap_u64]
  omega
theorem wrapu_small {n : Int} (h0 : 0 ≤ n) (h1 : n ≤ 18446744073709551615) : IntKind.u64.wrap n = n := by rw [IntKind.wrap_u64]; omega
/-- The product of a rate and a number of lots, in two words. -/
theorem mul_two (a b : Int) (a0 : 0 ≤ a) (a1 : a ≤ 68719476736) (b0 : 0 ≤ b) (b1 : b ≤ 2147483648) : bits_Mul64.f a b = some (a * b / 18446744073709551616, IntKind.u64.wrap (a * b)) := by
  unfold bits_Mul64.f
  congr 2
  have hb : b / 4294967296 = 0 := by omega
  rw [hb, andu32 b b0 (by omega), andu32 a a0 (by omega), show b % 4294967296 = b by omega]
  have hp : 0 ≤ a / 4294967296 * b ∧ a / 4294967296 * b ≤ 16 * 2147483648 := ⟨Int.mul_nonneg (by omega) b0, Int.mul_le_mul (by omega) b1 b0 (by omega)⟩
  have hq : 0 ≤ a % 4294967296 * b ∧ a % 4294967296 * b ≤ 4294967295 * 2147483648 := ⟨Int.mul_nonneg (by omega) b0, Int.mul_le_mul (by omega) b1 b0 (by omega)⟩
  have hab : a * b = a / 4294967296 * b * 4294967296 + a % 4294967296 * b := by
    have h : a = a / 4294967296 * 4294967296 + a % 4294967296 := by omega
    have h2 : a * b = (a / 4294967296 * 4294967296 + a % 4294967296) * b := congrArg (· * b) h
    rw [h2, Int.add_mul, Int.mul_right_comm]
  rw [Int.mul_zero, Int.mul_zero, hab]
  generalize a / 4294967296 * b = P at *
  generalize a % 4294967296 * b = Q at *
  clear hab
  rw [wrapu_small (n := 0) (by omega) (by omega), wrapu_small (n := P) (by omega) (by omega), wrapu_small (n := Q) (by omega) (by omega), wrapu_small (n := P + Q / 4294967296) (by omega) (by omega), andu32 (P + Q / 4294967296) (by omega) (by omega)]
  rw [wrapu_small (n := 0 + (P + Q / 4294967296) / 4294967296) (by omega) (by omega), wrapu_small (n := (P + Q / 4294967296) % 4294967296 + 0) (by omega) (by omega), wrapu_small (by omega) (by omega)]
  omega
/-- A product that is money, or none. -/
def mu (a b : Int) : Int × Int := if a * b ≤ 1152921504606846976 then (a * b, 0) else (0, 3)
theorem mu_yes {a b : Int} (h : a * b ≤ 1152921504606846976) : mu a b = (a * b, 0) := if_pos h
theorem mu_no {a b : Int} (h : ¬ a * b ≤ 1152921504606846976) : mu a b = (0, 3) := if_neg h
theorem mul_ev (a b : Int) (a0 : 0 ≤ a) (a1 : a ≤ 68719476736) (b0 : 0 ≤ b) (b1 : b ≤ 2147483648) : Ev (fun k => cents_Mul.f k a b) (mu a b) := by
  have ha : fitB a = true := by unfold fitB; simp only [decide_eq_true_eq]; omega
  have hb : fitB b = true := by unfold fitB; simp only [decide_eq_true_eq]; omega
  have hp : 0 ≤ a * b ∧ a * b ≤ 68719476736 * 2147483648 := ⟨Int.mul_nonneg a0 b0, Int.mul_le_mul a1 b1 b0 (by omega)⟩
  have sz : ∀ x : Int, 0 ≤ x → x ≤ 68719476736 → cents_size.f x = some x := fun x x0 x1 => by
    unfold cents_size.f
    rw [if_neg (by omega), wrapu_small x0 (by omega)]
  simp only [cents_Mul.f, fits_some, ha, hb, Option.bind_some, Bool.not_true]
  refine Ev.pos (by trivial) (Ev.shift ?_)
  simp only [cents_Mul.j0, sz a a0 a1, sz b b0 (by omega), mul_two a b a0 a1 b0 b1, Option.bind_some]
  refine Ev.neg (by decide) ?_
  have hs : ((decide (a < 0)) != (decide (b < 0))) = false := by rw [decide_eq_false (by omega : ¬ a < 0), decide_eq_false (by omega : ¬ b < 0)]; rfl
  rw [hs]
  by_cases h : a * b / 18446744073709551616 > 0
  · rw [mu_no (by omega)]
    exact Ev.pos h (Ev.val _)
  · refine Ev.neg h ?_
    rw [wrapu_small (by omega) (by omega)]
    unfold cents_signed.f
    by_cases h2 : a * b > 1152921504606846976
    · rw [mu_no (by omega), if_pos h2]
      exact Ev.val _
    · rw [mu_yes (by omega), if_neg h2, if_neg (by decide), wrap_small (by omega) (by omega)]
      exact Ev.val _
theorem cost_ev (f a b : Int) (a0 : 0 ≤ a) (a1 : a ≤ 68719476736) (b0 : 0 ≤ b) (b1 : b ≤ 2147483648) : Ev (fun k => fee_Band_cost.f k f a b) (mu a b) := by
  simp only [fee_Band_cost.f]
  exact Ev.bind (mul_ev a b a0 a1 b0 b1) (Ev.val _)
theorem fitsr_some (n : Int) : contangoref01_Fits.f n = some (fitB n) := by
  unfold contangoref01_Fits.f fitB
  by_cases h : n ≥ -1152921504606846976
  · rw [if_pos h]
    congr 1
    exact decide_eq_decide.mpr ⟨fun h2 => ⟨h, h2⟩, fun h2 => h2.2⟩
  · rw [if_neg h]
    congr 1
    exact (decide_eq_false (by omega)).symm
theorem mulr_ev (a b : Int) (a0 : 0 ≤ a) (a1 : a ≤ 68719476736) (b0 : 0 ≤ b) (b1 : b ≤ 2147483648) : Ev (fun k => contangoref01_Mul.f k b a) (mu a b) := by
  have ha : fitB a = true := by unfold fitB; simp only [decide_eq_true_eq]; omega
  have hb : fitB b = true := by unfold fitB; simp only [decide_eq_true_eq]; omega
  have hp : 0 ≤ a * b ∧ a * b ≤ 68719476736 * 2147483648 := ⟨Int.mul_nonneg a0 b0, Int.mul_le_mul a1 b1 b0 (by omega)⟩
  have sz : ∀ x : Int, 0 ≤ x → contangoref01_size.f x = some x := fun x x0 => by
    unfold contangoref01_size.f
    rw [if_neg (by omega)]
  simp only [contangoref01_Mul.f, fitsr_some, ha, hb, Option.bind_some, Bool.not_true]
  refine Ev.pos (by trivial) (Ev.shift ?_)
  simp only [contangoref01_Mul.j0, sz a a0, sz b b0, Option.bind_some]
  refine Ev.neg (by decide) ?_
  by_cases h0 : b = 0
  · subst h0
    rw [mu_yes (by omega), Int.mul_zero, Int.zero_mul, wrap_small (by omega) (by omega)]
    exact Ev.pos (by trivial) (Ev.val _)
  · refine Ev.neg h0 (Ev.neg h0 ?_)
    rw [Int.tdiv_eq_ediv_of_nonneg (by omega)]
    have hd : a ≤ 1152921504606846976 / b ↔ a * b ≤ 1152921504606846976 := Int.le_ediv_iff_mul_le (by omega)
    have hd2 : 0 ≤ 1152921504606846976 / b ∧ 1152921504606846976 / b ≤ 1152921504606846976 := ⟨Int.ediv_nonneg (by omega) b0, Int.ediv_le_self _ (by omega)⟩
    rw [wrap_small (n := 1152921504606846976 / b) (by omega) (by omega)]
    by_cases h : a > 1152921504606846976 / b
    · rw [mu_no (fun h2 => by have := hd.mpr h2; omega)]
      exact Ev.pos h (Ev.val _)
    · have h2 := hd.mp (by omega)
      rw [mu_yes h2, Int.mul_comm b a, wrap_small (by omega) (by omega)]
      exact Ev.neg h (Ev.val _)
/-- Lots of a band. -/
def lotB (a e : Int) (b : S70) (r : List S70) : Int := mx (fee_Lots.to e r - mx b.f0 a) 0
/-- What each band costs. -/
def csts (a e : Int) : List S70 → List Int
  | [] => []
  | b :: r => b.f1 * lotB a e b r :: csts a e r
def mnyB (n : Int) : Bool := decide (n ≤ 1152921504606846976)
/-- Bands as they go on behind others. -/
theorem lotB_bd {f r0 : Int} {b : S70} {r : List S70} (h : bdG f r0 (b :: r) = true) (hf : -1 ≤ f) (hr : r0 ≤ 68719476736) {a e : Int} (ha : 0 ≤ a ∧ a ≤ 1073741824) (he : 0 ≤ e ∧ e ≤ 2147483648) :
    wrap64 (fee_Lots.to e r - mx b.f0 a) = fee_Lots.to e r - mx b.f0 a ∧ (0 ≤ lotB a e b r ∧ lotB a e b r ≤ 2147483648) ∧ (0 ≤ b.f1 ∧ b.f1 ≤ 68719476736) ∧ (-1 ≤ b.f0) ∧ bdG b.f0 b.f1 r = true := by
  have h1 : bdT f r0 b.f0 b.f1 = true ∧ bdG b.f0 b.f1 r = true := by simpa only [bdG, Bool.and_eq_true] using h
  obtain ⟨h1, h2⟩ := h1
  have h1 := of_decide_eq_true h1
  have ht : 0 ≤ fee_Lots.to e r ∧ fee_Lots.to e r ≤ 2147483648 := by
    cases r with
    | nil => exact he
    | cons c t =>
      have h3 : bdT b.f0 b.f1 c.f0 c.f1 = true ∧ bdG c.f0 c.f1 t = true := by simpa only [bdG, Bool.and_eq_true] using h2
      have h3 := of_decide_eq_true h3.1
      simp only [fee_Lots.to, mn]
      split <;> omega
  have hm : 0 ≤ mx b.f0 a ∧ mx b.f0 a ≤ 1152921504606846976 := by
    simp only [mx]
    split <;> omega
  refine ⟨wrap_small (by omega) (by omega), ?_, by omega, by omega, h2⟩
  unfold lotB
  generalize fee_Lots.to e r = T at *
  generalize mx b.f0 a = M at *
  simp only [mx]
  split <;> omega
theorem goL (a e : Int) (ha : 0 ≤ a ∧ a ≤ 1073741824) (he : 0 ≤ e ∧ e ≤ 2147483648) (l : List S70) : ∀ (t : List Int) (f r0 : Int), bdG f r0 l = true → -1 ≤ f → r0 ≤ 68719476736 → t.length + l.length ≤ 1024 →
    Ev (fun k => fee_Lots.go k a e l t) (if (csts a e l).all mnyB = true then (t ++ csts a e l, 0) else ([], 3)) := by
  induction l with
  | nil =>
    intro t f r0 _ _ _ _
    exact Ev.valOf (by simp [csts])
  | cons b r ih =>
    intro t f r0 h hf hr hl
    obtain ⟨w1, w2, w3, w4, w5⟩ := lotB_bd h hf hr ha he
    simp only [List.length_cons] at hl
    simp only [fee_Lots.go, w1]
    refine Ev.bind (cost_ev b.f0 b.f1 (lotB a e b r) w3.1 w3.2 w2.1 w2.2) ?_
    rw [show csts a e (b :: r) = b.f1 * lotB a e b r :: csts a e r from rfl, List.all_cons]
    by_cases hc : b.f1 * lotB a e b r ≤ 1152921504606846976
    · rw [mu_yes hc, show mnyB (b.f1 * lotB a e b r) = true from decide_eq_true hc, Bool.true_and]
      refine Ev.pos rfl (Ev.pos (by omega) ?_)
      have := ih (t ++ [b.f1 * lotB a e b r]) b.f0 b.f1 w5 w4 w3.2 (by simp; omega)
      rw [List.append_assoc] at this
      exact this
    · rw [mu_no hc, show mnyB (b.f1 * lotB a e b r) = false from decide_eq_false hc, Bool.false_and]
      refine Ev.neg (by show ¬ ((3 : Int) = 0); decide) (Ev.val _)
theorem csts_nn (a e : Int) (ha : 0 ≤ a ∧ a ≤ 1073741824) (he : 0 ≤ e ∧ e ≤ 2147483648) (l : List S70) : ∀ (f r0 : Int), bdG f r0 l = true → -1 ≤ f → r0 ≤ 68719476736 → ∀ c ∈ csts a e l, 0 ≤ c := by
  induction l with
  | nil => intro f r0 _ _ _ c hc; cases hc
  | cons b r ih =>
    intro f r0 h hf hr c hc
    obtain ⟨_, w2, w3, w4, w5⟩ := lotB_bd h hf hr ha he
    simp only [csts, List.mem_cons] at hc
    rcases hc with rfl | hc
    · exact Int.mul_nonneg w3.1 w2.1
    · exact ih b.f0 b.f1 w5 w4 w3.2 c hc
theorem sumI_nn (l : List Int) (h : ∀ c ∈ l, 0 ≤ c) : 0 ≤ sumI l := by
  induction l with
  | nil => exact Int.le_refl 0
  | cons a t ih =>
    have h1 := h a (by simp)
    have h2 := ih (fun c hc => h c (by simp [hc]))
    show 0 ≤ a + sumI t
    omega
theorem csts_len (a e : Int) (l : List S70) : (csts a e l).length = l.length := by
  induction l with
  | nil => rfl
  | cons b r ih => simp [csts, ih]
/-- What numbers that are money come to with another one, or that they come to too much. -/
def lotV (n : Int) (l : List Int) : Int × Int := if l.all mnyB = true ∧ n + sumI l ≤ 1152921504606846976 then (n + sumI l, 0) else (0, 3)
theorem lotV_cons (n c : Int) (l : List Int) (h0 : 0 ≤ n) (hc0 : 0 ≤ c) (hl : ∀ x ∈ l, 0 ≤ x) : lotV n (c :: l) = if c ≤ 1152921504606846976 then (if n + c ≤ 1152921504606846976 then lotV (n + c) l else (0, 3)) else (0, 3) := by
  have hs := sumI_nn l hl
  have e : sumI (c :: l) = c + sumI l := rfl
  by_cases hc : c ≤ 1152921504606846976
  · rw [if_pos hc]
    have ec : (c :: l).all mnyB = l.all mnyB := by rw [List.all_cons, show mnyB c = true from decide_eq_true hc, Bool.true_and]
    by_cases h2 : n + c ≤ 1152921504606846976
    · rw [if_pos h2]
      unfold lotV
      rw [ec, e, Int.add_assoc]
    · rw [if_neg h2]
      exact if_neg (fun h => by have := h.2; omega)
  · rw [if_neg hc]
    refine if_neg (fun h => hc ?_)
    have := List.all_eq_true.mp h.1 c (by simp)
    exact of_decide_eq_true this
theorem sm_lotV (l : List Int) (hl : ∀ x ∈ l, 0 ≤ x) (ha : l.all mnyB = true) : sm l = lotV 0 l := by
  have hs := sumI_nn l hl
  have hf : l.all fitB = true := by
    rw [List.all_eq_true] at ha ⊢
    intro x hx
    have h1 := hl x hx
    have h2 : x ≤ 1152921504606846976 := of_decide_eq_true (ha x hx)
    exact decide_eq_true (by omega)
  unfold sm smV
  rw [if_pos hf]
  by_cases h : 0 + sumI l ≤ 1152921504606846976
  · exact (if_pos (decide_eq_true (by omega))).trans (if_pos ⟨ha, h⟩).symm
  · exact (if_neg (by unfold fitB; simp only [decide_eq_true_eq]; omega)).trans (if_neg (fun h2 => h h2.2)).symm
/-- May so many lots be? -/
def cntB (n : Int) : Bool := decide (0 ≤ n ∧ n ≤ 1073741824)
theorem count_some (n : Int) : fee_count.f n = some (cntB n) := by
  unfold fee_count.f cntB
  by_cases h : n ≥ 0
  · rw [if_pos h]; exact congrArg some (decide_eq_decide.mpr (by omega))
  · rw [if_neg h]; exact congrArg some (decide_eq_false (by omega)).symm
/-- What lots cost behind others, or why that is not told. -/
def ltV (a n : Int) (l : List S70) : Int × Int := if bdC l = 0 then (if (cntB a && cntB n) = true then lotV 0 (csts a (a + n) l) else (0, 18)) else (0, bdC l)
theorem bdC_zero {l : List S70} (h : bdC l = 0) : 0 < l.length ∧ l.length ≤ 1024 ∧ bdG (-1) 68719476736 l = true := by
  unfold bdC at h
  by_cases c0 : l.length = 0 ∨ l.length > 1024
  · rw [if_pos c0] at h; cases h
  rw [if_neg c0] at h
  by_cases c1 : bdH l = 0
  · rw [if_pos c1] at h
    cases hb : bdG (-1) 68719476736 l with
    | true => exact ⟨by omega, by omega, rfl⟩
    | false => rw [hb] at h; cases h
  · rw [if_neg c1] at h; cases h
theorem ltV_ev (a n : Int) (l : List S70) : Ev (fun k => fee_Lots.f k a n l) (ltV a n l) := by
  simp only [fee_Lots.f, count_some, Option.bind_some]
  refine Ev.bind (bdC_ev l) ?_
  unfold ltV
  refine Ev.both (fun h0 => ?_) (fun _ => Ev.val _)
  obtain ⟨h1, h2, h3⟩ := bdC_zero h0
  cases ha : cntB a with
  | false => rw [Bool.false_and, if_neg (by decide)]; exact Ev.neg (by decide) (Ev.val _)
  | true =>
    refine Ev.pos rfl ?_
    cases hn : cntB n with
    | false => rw [Bool.true_and, if_neg (by decide)]; exact Ev.neg (by decide) (Ev.val _)
    | true =>
      rw [Bool.true_and, if_pos rfl]
      refine Ev.pos rfl ?_
      have ha := of_decide_eq_true ha
      have hn := of_decide_eq_true hn
      rw [wrap_small (n := a + n) (by omega) (by omega)]
      refine Ev.bind (goL a (a + n) ha (by omega) l [] (-1) 68719476736 h3 (by omega) (by omega) (by simp; omega)) ?_
      have hnn := csts_nn a (a + n) ha (by omega) l (-1) 68719476736 h3 (by omega) (by omega)
      by_cases hall : (csts a (a + n) l).all mnyB = true
      · rw [if_pos hall, ← sm_lotV _ hnn hall, List.nil_append]
        exact Ev.pos rfl (sm_ev _ (by rw [csts_len]; omega))
      · rw [if_neg hall, show lotV 0 (csts a (a + n) l) = (0, 3) from if_neg (fun h => hall h.1)]
        exact Ev.neg (by show ¬ ((3 : Int) = 0); decide) (Ev.val _)
theorem fitB_add {n p : Int} (h0 : 0 ≤ n) (h1 : n ≤ 1152921504606846976) (p0 : 0 ≤ p) (p1 : p ≤ 1152921504606846976) : Ev (fun k => contangoref01_Add.f k n p) (if n + p ≤ 1152921504606846976 then (n + p, 0) else (0, 3)) := by
  have hn : fitB n = true := decide_eq_true (by omega)
  have hp : fitB p = true := decide_eq_true (by omega)
  simp only [contangoref01_Add.f, fitsr_some, hn, hp, Option.bind_some, Bool.not_true]
  refine Ev.pos (by trivial) (Ev.shift ?_)
  simp only [contangoref01_Add.j0, fitsr_some, Option.bind_some]
  rw [wrap_small (n := n + p) (by omega) (by omega)]
  refine Ev.neg (by decide) ?_
  by_cases h : n + p ≤ 1152921504606846976
  · rw [if_pos h]; exact Ev.pos (decide_eq_true (by omega)) (Ev.val _)
  · rw [if_neg h]; exact Ev.neg (by unfold fitB; simp only [decide_eq_true_eq]; omega) (Ev.val _)
theorem mx_comm (a b : Int) : mx a b = mx b a := by
  simp only [mx]
  split <;> split <;> omega
theorem lotrL (a n : Int) (ha : 0 ≤ a ∧ a ≤ 1073741824) (hn : 0 ≤ n ∧ n ≤ 1073741824) (l : List S73) (hl : l.length ≤ 1024) (m : Nat) : ∀ (i : Nat) (s f r0 : Int), l.length - i = m → i ≤ l.length → 0 ≤ s → s ≤ 1152921504606846976 → bdG f r0 ((l.drop i).map cv) = true → -1 ≤ f → r0 ≤ 68719476736 →
    Ev (fun k => contangoref38_Lots.l0 k a n l s (i : Int)) (lotV s (csts a (a + n) ((l.drop i).map cv))) := by
  induction m with
  | zero =>
    intro i s f r0 hi hle s0 s1 hb hf hr
    refine Ev.shift ?_
    simp only [contangoref38_Lots.l0]
    rw [List.drop_eq_nil_of_le (by omega)]
    refine Ev.neg (by omega) (Ev.valOf ?_)
    show lotV s [] = _
    refine (if_pos ⟨rfl, by show s + 0 ≤ _; omega⟩).trans ?_
    show (s + 0, (0 : Int)) = (s, 0)
    rw [Int.add_zero]
  | succ m ih =>
    intro i s f r0 hi hle s0 s1 hb hf hr
    have hlt : i < l.length := by omega
    rw [List.drop_eq_getElem_cons hlt, List.map_cons] at hb ⊢
    obtain ⟨w1, w2, w3, w4, w5⟩ := lotB_bd hb hf hr ha (e := a + n) (by omega)
    have hnn := csts_nn a (a + n) ha (by omega) _ _ _ w5 w4 w3.2
    have hc0 := Int.mul_nonneg w3.1 w2.1
    have ew : wrap64 (a + n) = a + n := wrap_small (by omega) (by omega)
    have key : Ev (fun k => contangoref38_Lots.j2 k a n l s (i : Int) (mx a l[i].f0) (fee_Lots.to (a + n) ((l.drop (i + 1)).map cv))) (lotV s (csts a (a + n) (cv l[i] :: (l.drop (i + 1)).map cv))) := by
      refine Ev.shift ?_
      simp only [contangoref38_Lots.j2, rd_br l i hlt, succ_w i l.length hlt (by omega)]
      rw [mx_comm a l[i].f0, show wrap64 (fee_Lots.to (a + n) ((l.drop (i + 1)).map cv) - mx l[i].f0 a) = fee_Lots.to (a + n) ((l.drop (i + 1)).map cv) - mx l[i].f0 a from w1]
      refine Ev.pos (by omega) (Ev.pos (by omega) (Ev.bind (mulr_ev l[i].f1 (lotB a (a + n) (cv l[i]) ((l.drop (i + 1)).map cv)) w3.1 w3.2 w2.1 w2.2) ?_))
      simp only [csts]
      rw [lotV_cons _ _ _ s0 hc0 hnn]
      by_cases hc : (cv l[i]).f1 * lotB a (a + n) (cv l[i]) ((l.drop (i + 1)).map cv) ≤ 1152921504606846976
      · rw [if_pos hc, show mu l[i].f1 (lotB a (a + n) (cv l[i]) ((l.drop (i + 1)).map cv)) = _ from mu_yes hc]
        refine Ev.pos rfl ?_
        have hadd := fitB_add s0 s1 hc0 hc
        by_cases h2 : s + (cv l[i]).f1 * lotB a (a + n) (cv l[i]) ((l.drop (i + 1)).map cv) ≤ 1152921504606846976
        · rw [if_pos h2] at hadd ⊢
          exact Ev.bind hadd (Ev.pos rfl (ih (i + 1) _ _ _ (by omega) (by omega) (by omega) h2 w5 w4 w3.2))
        · rw [if_neg h2] at hadd ⊢
          exact Ev.bind hadd (Ev.neg (by show ¬ ((3 : Int) = 0); decide) (Ev.val _))
      · rw [if_neg hc, show mu l[i].f1 (lotB a (a + n) (cv l[i]) ((l.drop (i + 1)).map cv)) = _ from mu_no hc]
        exact Ev.neg (by show ¬ ((3 : Int) = 0); decide) (Ev.val _)
    refine Ev.shift ?_
    simp only [contangoref38_Lots.l0, rd_br l i hlt, succ_w i l.length hlt (by omega), ew]
    refine Ev.pos (by omega) (Ev.pos (by omega) ?_)
    have hw2 : wrap64 ((l.length : Int) - 1) = (l.length : Int) - 1 := wrap_small (by omega) (by omega)
    rw [hw2]
    by_cases hi2 : i + 1 < l.length
    · refine Ev.pos (by omega) (Ev.pos (by omega) (Ev.pos (by omega) ?_))
      rw [List.drop_eq_getElem_cons hi2, List.map_cons] at key
      rw [rd_br l (i + 1) hi2]
      rw [List.drop_eq_getElem_cons hi2, List.map_cons]
      exact key
    · refine Ev.neg (by omega) ?_
      rw [List.drop_eq_nil_of_le (show l.length ≤ i + 1 by omega)] at key ⊢
      exact key
theorem ltVr_ev (a n : Int) (l : List S73) : Ev (fun k => contangoref38_Lots.f k a n l) (ltV a n (l.map cv)) := by
  have j0 : ∀ b : Bool, (b = false → bdC (l.map cv) = 0 ∧ (cntB a && cntB n) = true) → Ev (fun k => contangoref38_Lots.j0 k a n l b) (if b = true then (0, 18) else lotV 0 (csts a (a + n) (l.map cv))) := by
    intro b hb
    refine Ev.shift ?_
    simp only [contangoref38_Lots.j0]
    refine Ev.both (fun _ => Ev.val _) (fun h => ?_)
    obtain ⟨h0, h1⟩ := hb (by simpa using h)
    obtain ⟨_, h2, h3⟩ := bdC_zero h0
    rw [List.length_map] at h2
    rw [Bool.and_eq_true] at h1
    have ha := of_decide_eq_true h1.1
    have hn := of_decide_eq_true h1.2
    have := lotrL a n ha hn l h2 l.length 0 0 (-1) 68719476736 (by omega) (by omega) (by omega) (by omega) (by rw [List.drop_zero]; exact h3) (by omega) (by omega)
    rw [List.drop_zero] at this
    exact this
  simp only [contangoref38_Lots.f]
  refine Ev.bind (bdCr_ev l) ?_
  unfold ltV
  refine Ev.both (fun h0 => ?_) (fun _ => Ev.val _)
  have jt := j0 true (fun h => by cases h)
  rw [if_pos rfl] at jt
  by_cases c1 : a < 0
  · rw [show cntB a = false from decide_eq_false (by omega), Bool.false_and, if_neg (by decide)]
    exact Ev.pos c1 jt
  refine Ev.neg c1 ?_
  by_cases c2 : a > 1073741824
  · rw [show cntB a = false from decide_eq_false (by omega), Bool.false_and, if_neg (by decide)]
    exact Ev.pos c2 jt
  refine Ev.neg c2 ?_
  rw [show cntB a = true from decide_eq_true (by omega), Bool.true_and]
  by_cases c3 : n < 0
  · rw [show cntB n = false from decide_eq_false (by omega), if_neg (by decide)]
    exact Ev.pos c3 jt
  refine Ev.neg c3 ?_
  by_cases c4 : n > 1073741824
  · rw [show cntB n = false from decide_eq_false (by omega), if_neg (by decide), decide_eq_true c4]
    exact jt
  · have e1 : cntB a = true := decide_eq_true (by omega)
    have e2 : cntB n = true := decide_eq_true (by omega)
    rw [e2, if_pos rfl, decide_eq_false c4]
    have := j0 false (fun _ => ⟨h0, by rw [e1, e2]; rfl⟩)
    rwa [if_neg (by decide)] at this
theorem goes_true : contangolaw38_goes.f 60 = some true := by decide +kernel
theorem goes_ev : Ev (fun k => contangolaw38_goes.f k) true := Ev.of goes_true (fun k => contangolaw38_goes.mono k)
theorem ba_eq {a b : ByteArray} (h : a.toList = b.toList) : a = b := (strQ_iff a b).mp (by simp [strQ, h])
theorem name_ev (s : ByteArray) : Ev (fun k => words_Name.f k s) (nameB s) := Ev.of (words_Name_some s) (fun k => words_Name.mono _ k)
theorem nameB_size {s : ByteArray} (h : nameB s = true) : s.size ≤ 12 := by
  unfold nameB at h
  simp only [Bool.and_eq_true, decide_eq_true_eq] at h
  exact h.1.1.2
/-- What may be wrong with a trade. -/
def trB (x : S61) : Int := if x.f4 < 1 ∨ x.f4 > 1048576 then 18 else if (nameB x.f6.f0 && nameB x.f7.f0) = true then 0 else 10
/-- What may be wrong with trades. -/
def trC : List S61 → Int
  | [] => 0
  | x :: r => if trB x = 0 then trC r else trB x
theorem trC_bad {x : S61} {r : List S61} {e : Int} (h : trB x = e) (he : e ≠ 0) : trC (x :: r) = e := by
  rw [trC, if_neg (by rw [h]; exact he), h]
theorem trC_good {x : S61} {r : List S61} (h : trB x = 0) : trC (x :: r) = trC r := by rw [trC, if_pos h]
theorem trB_zero {x : S61} (h : trB x = 0) : 1 ≤ x.f4 ∧ x.f4 ≤ 1048576 ∧ nameB x.f6.f0 = true ∧ nameB x.f7.f0 = true := by
  unfold trB at h
  by_cases c : x.f4 < 1 ∨ x.f4 > 1048576
  · rw [if_pos c] at h; cases h
  rw [if_neg c] at h
  by_cases d : (nameB x.f6.f0 && nameB x.f7.f0) = true
  · rw [Bool.and_eq_true] at d
    exact ⟨by omega, by omega, d.1, d.2⟩
  · rw [if_neg d] at h; cases h
theorem trB_lots {x : S61} (c : x.f4 < 1 ∨ x.f4 > 1048576) : trB x = 18 := if_pos c
theorem trB_name {x : S61} (c : ¬ (x.f4 < 1 ∨ x.f4 > 1048576)) (d : nameB x.f6.f0 = false ∨ nameB x.f7.f0 = false) : trB x = 10 := by
  unfold trB
  rw [if_neg c, if_neg]
  rw [Bool.and_eq_true]
  rintro ⟨h1, h2⟩
  rcases d with d | d
  · rw [d] at h1; cases h1
  · rw [d] at h2; cases h2
theorem trB_ok {x : S61} (c : ¬ (x.f4 < 1 ∨ x.f4 > 1048576)) (d1 : nameB x.f6.f0 = true) (d2 : nameB x.f7.f0 = true) : trB x = 0 := by
  unfold trB
  rw [if_neg c, d1, d2]
  rfl
theorem trC_zero {l : List S61} (h : trC l = 0) : ∀ x ∈ l, trB x = 0 := by
  induction l with
  | nil => intro x hx; cases hx
  | cons y r ih =>
    intro x hx
    by_cases hy : trB y = 0
    · rw [trC_good hy] at h
      rcases List.mem_cons.mp hx with rfl | hx
      · exact hy
      · exact ih h x hx
    · rw [trC_bad rfl hy] at h
      exact absurd h hy
/-- Lots by member, as trades have them. -/
def hadM : List S61 → List (ByteArray × Int) → List (ByteArray × Int)
  | [], m => m
  | x :: r, m => hadM r (had_put (had_put m x.f6.f0 x.f4) x.f7.f0 x.f4)
theorem hadM_ev (l : List S61) : ∀ m, Ev (fun k => fee_had.go k l m) (if trC l = 0 then (hadM l m, 0) else ([], trC l)) := by
  induction l with
  | nil => intro m; exact Ev.valOf rfl
  | cons x r ih =>
    intro m
    simp only [fee_had.go]
    by_cases c : x.f4 < 1 ∨ x.f4 > 1048576
    · rw [trC_bad (trB_lots c) (by decide), if_neg (show ¬ ((18 : Int) = 0) by decide)]
      exact Ev.pos c (Ev.val _)
    refine Ev.neg c (Ev.bind (name_ev _) ?_)
    cases d1 : nameB x.f6.f0 with
    | false =>
      rw [trC_bad (trB_name c (.inl d1)) (by decide), if_neg (show ¬ ((10 : Int) = 0) by decide)]
      exact Ev.neg (by decide) (Ev.val _)
    | true =>
      refine Ev.pos rfl (Ev.bind (name_ev _) ?_)
      cases d2 : nameB x.f7.f0 with
      | false =>
        rw [trC_bad (trB_name c (.inr d2)) (by decide), if_neg (show ¬ ((10 : Int) = 0) by decide)]
        exact Ev.neg (by decide) (Ev.val _)
      | true =>
        rw [trC_good (trB_ok c d1 d2)]
        have e1 := nameB_size d1
        have e2 := nameB_size d2
        exact Ev.pos rfl (Ev.pos (by omega) (Ev.pos (by omega) (ih _)))
/-- A member's lots in a map. -/
def lookD (m : List (ByteArray × Int)) (s : ByteArray) : Int := (YtckjdncimibiaaaHand.look strQ m s).getD 0
theorem look_had (m : List (ByteArray × Int)) (g s : ByteArray) (q : Int) : lookD (had_put m g q) s = if strQ g s = true then wrap64 (lookD m s + q) else lookD m s := by
  unfold lookD had_put
  rw [YtckjdncimibiaaaHand.look_put _ _ strQ_iff]
  by_cases h : strQ g s = true
  · rw [if_pos h, if_pos h]
    obtain rfl := (strQ_iff g s).mp h
    rfl
  · rw [if_neg h, if_neg h]
/-- A member's lots of trades, both sides. -/
def lotsOf (s : ByteArray) : List S61 → Int
  | [] => 0
  | x :: r => (if strQ x.f6.f0 s = true then x.f4 else 0) + (if strQ x.f7.f0 s = true then x.f4 else 0) + lotsOf s r
theorem lotsOf_bd (s : ByteArray) (l : List S61) (h : trC l = 0) : 0 ≤ lotsOf s l ∧ lotsOf s l ≤ 2097152 * (l.length : Int) := by
  induction l with
  | nil => exact ⟨Int.le_refl 0, Int.le_refl 0⟩
  | cons x r ih =>
    have hx := trB_zero (trC_zero h x (by simp))
    have h2 := ih (by rw [trC_good (trC_zero h x (by simp))] at h; exact h)
    rw [lotsOf, List.length_cons]
    split <;> split <;> omega
theorem hadM_look (l : List S61) : ∀ (m : List (ByteArray × Int)) (B : Int), trC l = 0 → (∀ s, 0 ≤ lookD m s ∧ lookD m s ≤ B) → B + 2097152 * (l.length : Int) ≤ 1152921504606846976 → ∀ s, lookD (hadM l m) s = lookD m s + lotsOf s l := by
  induction l with
  | nil => intro m B _ _ _ s; show lookD m s = lookD m s + 0; omega
  | cons x r ih =>
    intro m B h hB hb s
    have hx := trB_zero (trC_zero h x (by simp))
    rw [List.length_cons] at hb
    have e1 : ∀ s, lookD (had_put m x.f6.f0 x.f4) s = lookD m s + (if strQ x.f6.f0 s = true then x.f4 else 0) := fun s => by
      have := hB s
      rw [look_had]
      split
      · exact wrap_small (by omega) (by omega)
      · omega
    have e2 : ∀ s, lookD (had_put (had_put m x.f6.f0 x.f4) x.f7.f0 x.f4) s = lookD m s + (if strQ x.f6.f0 s = true then x.f4 else 0) + (if strQ x.f7.f0 s = true then x.f4 else 0) := fun s => by
      have := hB s
      rw [look_had, e1]
      split <;> split <;> first | exact wrap_small (by omega) (by omega) | omega
    rw [hadM, ih _ (B + 2097152) (by rw [trC_good (trC_zero h x (by simp))] at h; exact h) (fun s => by have := hB s; rw [e2]; split <;> split <;> omega) (by omega), e2, lotsOf]
    omega
/-- The members of a map. -/
def keysOf (m : List (ByteArray × Int)) : List ByteArray := m.map (·.1)
theorem keys_had (m : List (ByteArray × Int)) (g : ByteArray) (q : Int) (hn : (keysOf m).Nodup) : (keysOf (had_put m g q)).Nodup ∧ ∀ s, s ∈ keysOf (had_put m g q) ↔ s = g ∨ s ∈ keysOf m := by
  have hk : keysOf (had_put m g q) = if (YtckjdncimibiaaaHand.look strQ m g).isSome then keysOf m else keysOf m ++ [g] := YtckjdncimibiaaaHand.put_keys _
  rw [hk]
  cases hl : YtckjdncimibiaaaHand.look strQ m g with
  | some v =>
    rw [if_pos (show (some v).isSome = true from rfl)]
    refine ⟨hn, fun s => ⟨.inr, fun h => h.elim (fun e => ?_) id⟩⟩
    obtain ⟨j, p, hj, hp, _⟩ := YtckjdncimibiaaaHand.look_some hl
    have := (strQ_iff _ _).mp hp
    rw [e, ← this]
    exact List.mem_map_of_mem (List.mem_of_getElem? hj)
  | none =>
    rw [if_neg (by decide)]
    have hno := YtckjdncimibiaaaHand.look_none hl
    have hg : g ∉ keysOf m := fun h => by
      obtain ⟨p, hp, e⟩ := List.mem_map.mp h
      have h1 := hno p hp
      rw [(strQ_iff _ _).mpr e] at h1
      cases h1
    refine ⟨List.nodup_append.mpr ⟨hn, by simp, fun a ha b hb => ?_⟩, fun s => ?_⟩
    · obtain rfl := List.mem_singleton.mp hb
      exact fun e => hg (e ▸ ha)
    · rw [List.mem_append, List.mem_singleton]
      exact Or.comm
/-- Names that rise. -/
def SS (l : List ByteArray) : Prop := l.Pairwise (fun a b => Op.bytesLess a.toList b.toList = true)
/-- A name into names that rise. -/
def insU (x : ByteArray) : List ByteArray → List ByteArray
  | [] => [x]
  | y :: r => if strQ y x = true then y :: r else if Op.bytesLess x.toList y.toList = true then x :: y :: r else y :: insU x r
theorem insU_mem (x : ByteArray) (l : List ByteArray) : ∀ s, s ∈ insU x l ↔ s = x ∨ s ∈ l := by
  induction l with
  | nil => intro s; simp [insU]
  | cons y r ih =>
    intro s
    rw [insU]
    by_cases h : strQ y x = true
    · rw [if_pos h]
      have := (strQ_iff _ _).mp h
      refine ⟨.inr, fun h2 => h2.elim (fun e => ?_) id⟩
      rw [e, ← this]; simp
    · rw [if_neg h]
      split
      · simp
      · rw [List.mem_cons, ih, List.mem_cons]
        constructor
        · rintro (h1 | h1 | h1)
          · exact .inr (.inl h1)
          · exact .inl h1
          · exact .inr (.inr h1)
        · rintro (h1 | h1 | h1)
          · exact .inr (.inl h1)
          · exact .inl h1
          · exact .inr (.inr h1)
theorem insU_len (x : ByteArray) (l : List ByteArray) : (insU x l).length ≤ l.length + 1 := by
  induction l with
  | nil => exact Nat.le_refl 1
  | cons y r ih =>
    rw [insU]
    split
    · exact Nat.le_succ _
    · split
      · exact Nat.le_refl _
      · simp only [List.length_cons]; omega
theorem strQ_ne {x y : ByteArray} (h : ¬ strQ x y = true) : x.toList ≠ y.toList := fun e => h ((strQ_iff x y).mpr (ba_eq e))
theorem insU_sorted (x : ByteArray) (l : List ByteArray) (h : SS l) : SS (insU x l) := by
  induction l with
  | nil => exact List.pairwise_singleton _ _
  | cons y r ih =>
    have h' := List.pairwise_cons.mp h
    rw [insU]
    by_cases c : strQ y x = true
    · rw [if_pos c]; exact h
    · rw [if_neg c]
      by_cases d : Op.bytesLess x.toList y.toList = true
      · rw [if_pos d]
        refine List.pairwise_cons.mpr ⟨fun b hb => ?_, h⟩
        rcases List.mem_cons.mp hb with rfl | hb
        · exact d
        · exact less_trans _ _ _ d (h'.1 b hb)
      · rw [if_neg d]
        refine List.pairwise_cons.mpr ⟨fun b hb => ?_, ih h'.2⟩
        rcases (insU_mem x r b).mp hb with rfl | hb
        · exact less_flip d (strQ_ne c)
        · exact h'.1 b hb
theorem SS_nodup {l : List ByteArray} (h : SS l) : l.Nodup := List.Pairwise.imp (R := fun a b => Op.bytesLess a.toList b.toList = true) (fun {a b} (hab : Op.bytesLess a.toList b.toList = true) => fun (e : a = b) => less_ne hab (by rw [e])) (show List.Pairwise (fun a b => Op.bytesLess a.toList b.toList = true) l from h)
theorem SS_uniq {a b : List ByteArray} (ha : SS a) (hb : SS b) (h : ∀ s, s ∈ a ↔ s ∈ b) : a = b := by
  refine List.Perm.eq_of_pairwise (le := fun (a b : ByteArray) => Op.bytesLess a.toList b.toList = true) (fun x y _ _ h1 h2 => ?_) ha hb ((List.perm_ext_iff_of_nodup (SS_nodup ha) (SS_nodup hb)).mpr h)
  have := less_trans _ _ _ h1 h2
  rw [less_irrefl] at this
  cases this
theorem sortS_SS {l : List ByteArray} (h : l.Nodup) : SS (sortS l) := by
  have h1 := sortS_sorted l
  have h2 : (sortS l).Nodup := (sortS_perm l).nodup_iff.mpr h
  refine (List.Pairwise.and h1 h2).imp (fun {a b} hab => ?_)
  have h3 := (leS a b).mpr hab.1
  exact less_flip (by rw [h3]; decide) (fun e => hab.2 (ba_eq e))
/-- The names of trades, with others. -/
def namesT : List S61 → List ByteArray → List ByteArray
  | [], n => n
  | x :: r, n => namesT r (insU x.f7.f0 (insU x.f6.f0 n))
theorem namesT_SS (l : List S61) : ∀ n, SS n → SS (namesT l n) := by
  induction l with
  | nil => intro n h; exact h
  | cons x r ih => intro n h; exact ih _ (insU_sorted _ _ (insU_sorted _ _ h))
theorem namesT_len (l : List S61) : ∀ n, (namesT l n).length ≤ n.length + 2 * l.length := by
  induction l with
  | nil => intro n; exact Nat.le_refl _
  | cons x r ih =>
    intro n
    have h1 := ih (insU x.f7.f0 (insU x.f6.f0 n))
    have h2 := insU_len x.f7.f0 (insU x.f6.f0 n)
    have h3 := insU_len x.f6.f0 n
    rw [namesT, List.length_cons]
    omega
theorem namesT_mem (l : List S61) : ∀ n s, s ∈ namesT l n ↔ s ∈ n ∨ ∃ x ∈ l, s = x.f6.f0 ∨ s = x.f7.f0 := by
  induction l with
  | nil => intro n s; exact ⟨.inl, fun h => h.elim id (fun ⟨x, hx, _⟩ => by cases hx)⟩
  | cons x r ih =>
    intro n s
    rw [namesT, ih, insU_mem, insU_mem]
    constructor
    · rintro ((h | h | h) | ⟨y, hy, h⟩)
      · exact .inr ⟨x, by simp, .inr h⟩
      · exact .inr ⟨x, by simp, .inl h⟩
      · exact .inl h
      · exact .inr ⟨y, by simp [hy], h⟩
    · rintro (h | ⟨y, hy, h⟩)
      · exact .inl (.inr (.inr h))
      · rcases List.mem_cons.mp hy with rfl | hy
        · exact .inl (h.elim (fun h => .inr (.inl h)) .inl)
        · exact .inr ⟨y, hy, h⟩
theorem hadM_keys (l : List S61) : ∀ m, (keysOf m).Nodup → (keysOf (hadM l m)).Nodup ∧ ∀ s, s ∈ keysOf (hadM l m) ↔ s ∈ keysOf m ∨ ∃ x ∈ l, s = x.f6.f0 ∨ s = x.f7.f0 := by
  induction l with
  | nil => intro m h; exact ⟨h, fun s => ⟨.inl, fun h => h.elim id (fun ⟨x, hx, _⟩ => by cases hx)⟩⟩
  | cons x r ih =>
    intro m h
    obtain ⟨a1, a2⟩ := keys_had m x.f6.f0 x.f4 h
    obtain ⟨b1, b2⟩ := keys_had _ x.f7.f0 x.f4 a1
    obtain ⟨c1, c2⟩ := ih _ b1
    refine ⟨c1, fun s => ?_⟩
    rw [hadM, c2, b2, a2]
    constructor
    · rintro ((h | h | h) | ⟨y, hy, h⟩)
      · exact .inr ⟨x, by simp, .inr h⟩
      · exact .inr ⟨x, by simp, .inl h⟩
      · exact .inl h
      · exact .inr ⟨y, by simp [hy], h⟩
    · rintro (h | ⟨y, hy, h⟩)
      · exact .inl (.inr (.inr h))
      · rcases List.mem_cons.mp hy with rfl | hy
        · exact .inl (h.elim (fun h => .inr (.inl h)) .inl)
        · exact .inr ⟨y, hy, h⟩
theorem sorted_keys (l : List S61) : sortS (keysOf (hadM l [])) = namesT l [] := by
  obtain ⟨h1, h2⟩ := hadM_keys l [] List.nodup_nil
  refine SS_uniq (sortS_SS h1) (namesT_SS l [] List.Pairwise.nil) (fun s => ?_)
  rw [(sortS_perm _).mem_iff, h2, namesT_mem]
  rfl
theorem rd_tr (l : List S61) (i : Nat) (h : i < l.length) : rd_T61 l (i : Int) = l[i] := by simp [rd_T61, h]
theorem rd_cr (l : List S52) (i : Nat) (h : i < l.length) : rd_T52 l (i : Int) = l[i] := by simp [rd_T52, h]
theorem rd_cf (l : List S51) (i : Nat) (h : i < l.length) : rd_T51 l (i : Int) = l[i] := by simp [rd_T51, h]
theorem rd_fl (l : List S64) (i : Nat) (h : i < l.length) : rd_T64 l (i : Int) = l[i] := by simp [rd_T64, h]
theorem rd_nm (l : List ByteArray) (i : Nat) (h : i < l.length) : rdOf ByteArray.empty l (i : Int) = l[i] := by simp [rdOf, h]
/-- A count of the document as one of the program. -/
def cc (x : S52) : S51 := ⟨x.f0, x.f1⟩
theorem countsL (l : List S52) (hl : l.length ≤ 5864062014800) (n : Nat) : ∀ (i : Nat) (t : List S51), l.length - i = n → i ≤ l.length → t.length = i →
    Ev (fun k => contangolaw38_Counts.l0 k l t (i : Int)) (t ++ (l.drop i).map cc) := by
  induction n with
  | zero =>
    intro i t hi hle ht
    refine Ev.shift ?_
    simp only [contangolaw38_Counts.l0]
    rw [List.drop_eq_nil_of_le (by omega), List.map_nil, List.append_nil]
    exact Ev.neg (by omega) (Ev.val _)
  | succ n ih =>
    intro i t hi hle ht
    have hlt : i < l.length := by omega
    refine Ev.shift ?_
    simp only [contangolaw38_Counts.l0, rd_cr l i hlt, succ_w i l.length hlt (by omega)]
    rw [List.drop_eq_getElem_cons hlt, List.map_cons]
    refine Ev.pos (by omega) (Ev.pos (by omega) (Ev.pos (by omega) ?_))
    have := ih (i + 1) (t ++ [cc l[i]]) (by omega) (by omega) (by simp [ht])
    rw [List.append_assoc] at this
    exact this
theorem counts_ev (l : List S52) (hl : l.length ≤ 5864062014800) : Ev (fun k => contangolaw38_Counts.f k l) (l.map cc) := by
  have := countsL l hl l.length 0 [] (by omega) (by omega) rfl
  rw [List.drop_zero, List.nil_append] at this
  exact this
theorem hadrL (s : ByteArray) (l : List S52) (hl : l.length ≤ 1000000) (n : Nat) : ∀ i : Nat, l.length - i = n → i ≤ l.length →
    Ev (fun k => contangoref38_had.l0 k l s (i : Int)) (fee_first.go s ((l.drop i).map cc)) := by
  induction n with
  | zero =>
    intro i hi hle
    refine Ev.shift ?_
    simp only [contangoref38_had.l0]
    rw [List.drop_eq_nil_of_le (by omega)]
    exact Ev.neg (by omega) (Ev.val _)
  | succ n ih =>
    intro i hi hle
    have hlt : i < l.length := by omega
    refine Ev.shift ?_
    simp only [contangoref38_had.l0, rd_cr l i hlt, succ_w i l.length hlt (by omega)]
    rw [List.drop_eq_getElem_cons hlt, List.map_cons]
    refine Ev.pos (by omega) (Ev.pos (by omega) ?_)
    by_cases h : l[i].f0.toList = s.toList
    · have e : fee_first.go s (cc l[i] :: (l.drop (i + 1)).map cc) = l[i].f1 := if_pos (by simp [fee_first.p, cc, h])
      rw [e]
      exact Ev.pos h (Ev.val _)
    · have e : fee_first.go s (cc l[i] :: (l.drop (i + 1)).map cc) = fee_first.go s ((l.drop (i + 1)).map cc) := if_neg (by simp [fee_first.p, cc, h])
      rw [e]
      exact Ev.neg h (ih (i + 1) (by omega) (by omega))
theorem hadr_ev (s : ByteArray) (l : List S52) (hl : l.length ≤ 1000000) : Ev (fun k => contangoref38_had.f k l s) (fee_first.go s (l.map cc)) := hadrL s l hl l.length 0 (by omega) (by omega)
theorem strQ_l (x y : ByteArray) : strQ x y = true ↔ x.toList = y.toList := by simp [strQ]
theorem lotsrL (s : ByteArray) (l : List S61) (hl : l.length ≤ 1024) (ht : trC l = 0) (n : Nat) : ∀ (i : Nat) (q : Int), l.length - i = n → i ≤ l.length → 0 ≤ q → q ≤ 2097152 * (i : Int) →
    Ev (fun k => contangoref38_lots.l0 k l s q (i : Int)) (q + lotsOf s (l.drop i)) := by
  induction n with
  | zero =>
    intro i q hi hle q0 q1
    refine Ev.shift ?_
    simp only [contangoref38_lots.l0]
    rw [List.drop_eq_nil_of_le (by omega), show lotsOf s [] = 0 from rfl, Int.add_zero]
    exact Ev.neg (by omega) (Ev.val _)
  | succ n ih =>
    intro i q hi hle q0 q1
    have hlt : i < l.length := by omega
    have hx := trB_zero (trC_zero ht l[i] (List.getElem_mem hlt))
    refine Ev.shift ?_
    simp only [contangoref38_lots.l0, rd_tr l i hlt, succ_w i l.length hlt (by omega)]
    rw [List.drop_eq_getElem_cons hlt, lotsOf]
    refine Ev.pos (by omega) (Ev.pos (by omega) ?_)
    by_cases h1 : l[i].f6.f0.toList = s.toList
    · rw [if_pos ((strQ_l _ _).mpr h1)]
      refine Ev.pos h1 ?_
      by_cases h2 : l[i].f7.f0.toList = s.toList
      · rw [if_pos ((strQ_l _ _).mpr h2)]
        refine Ev.pos h2 ?_
        rw [wrap_small (n := q + l[i].f4) (by omega) (by omega), wrap_small (by omega) (by omega)]
        have := ih (i + 1) (q + l[i].f4 + l[i].f4) (by omega) (by omega) (by omega) (by omega)
        rwa [show q + (l[i].f4 + l[i].f4 + lotsOf s (l.drop (i + 1))) = q + l[i].f4 + l[i].f4 + lotsOf s (l.drop (i + 1)) by omega]
      · rw [if_neg (fun h => h2 ((strQ_l _ _).mp h))]
        refine Ev.neg h2 ?_
        rw [wrap_small (by omega) (by omega)]
        have := ih (i + 1) (q + l[i].f4) (by omega) (by omega) (by omega) (by omega)
        rwa [show q + (l[i].f4 + 0 + lotsOf s (l.drop (i + 1))) = q + l[i].f4 + lotsOf s (l.drop (i + 1)) by omega]
    · rw [if_neg (fun h => h1 ((strQ_l _ _).mp h))]
      refine Ev.neg h1 ?_
      by_cases h2 : l[i].f7.f0.toList = s.toList
      · rw [if_pos ((strQ_l _ _).mpr h2)]
        refine Ev.pos h2 ?_
        rw [wrap_small (by omega) (by omega)]
        have := ih (i + 1) (q + l[i].f4) (by omega) (by omega) (by omega) (by omega)
        rwa [show q + (0 + l[i].f4 + lotsOf s (l.drop (i + 1))) = q + l[i].f4 + lotsOf s (l.drop (i + 1)) by omega]
      · rw [if_neg (fun h => h2 ((strQ_l _ _).mp h))]
        refine Ev.neg h2 ?_
        have := ih (i + 1) q (by omega) (by omega) (by omega) (by omega)
        rwa [show q + (0 + 0 + lotsOf s (l.drop (i + 1))) = q + lotsOf s (l.drop (i + 1)) by omega]
theorem lotsr_ev (s : ByteArray) (l : List S61) (hl : l.length ≤ 1024) (ht : trC l = 0) : Ev (fun k => contangoref38_lots.f k l s) (lotsOf s l) := by
  have := lotsrL s l hl ht l.length 0 0 (by omega) (by omega) (by omega) (by omega)
  rw [List.drop_zero, Int.zero_add] at this
  exact this
theorem trrL (l : List S61) (hl : l.length ≤ 1024) (hs : ∀ x ∈ l, x.f6.f0.size ≤ 9223372036854775806 ∧ x.f7.f0.size ≤ 9223372036854775806) (n : Nat) : ∀ i : Nat, l.length - i = n → i ≤ l.length →
    Ev (fun k => contangoref38_trades.l0 k l (i : Int)) (trC (l.drop i)) := by
  induction n with
  | zero =>
    intro i hi hle
    refine Ev.shift ?_
    simp only [contangoref38_trades.l0]
    rw [List.drop_eq_nil_of_le (by omega)]
    exact Ev.neg (by omega) (Ev.val _)
  | succ n ih =>
    intro i hi hle
    have hlt : i < l.length := by omega
    have hz := hs l[i] (List.getElem_mem hlt)
    have ih2 := ih (i + 1) (by omega) (by omega)
    have j1 : ∀ b : Bool, b = decide (l[i].f4 < 1 ∨ l[i].f4 > 1048576) → Ev (fun k => contangoref38_trades.j1 k l (i : Int) b) (trC (l[i] :: l.drop (i + 1))) := by
      intro b hb
      refine Ev.shift ?_
      simp only [contangoref38_trades.j1, rd_tr l i hlt, succ_w i l.length hlt (by omega)]
      by_cases c : l[i].f4 < 1 ∨ l[i].f4 > 1048576
      · rw [decide_eq_true c] at hb
        rw [trC_bad (trB_lots c) (by decide)]
        exact Ev.pos hb (Ev.val _)
      rw [decide_eq_false c] at hb
      refine Ev.neg (by rw [hb]; decide) (Ev.pos (by omega) (Ev.pos (by omega) (Ev.bind (refName _ hz.1) ?_)))
      cases d1 : nameB l[i].f6.f0 with
      | false =>
        rw [trC_bad (trB_name c (.inl d1)) (by decide)]
        exact Ev.neg (by decide) (Ev.val _)
      | true =>
        refine Ev.pos rfl (Ev.bind (refName _ hz.2) ?_)
        cases d2 : nameB l[i].f7.f0 with
        | false =>
          rw [trC_bad (trB_name c (.inr d2)) (by decide)]
          exact Ev.neg (by decide) (Ev.val _)
        | true =>
          rw [trC_good (trB_ok c d1 d2)]
          exact Ev.pos rfl ih2
    refine Ev.shift ?_
    simp only [contangoref38_trades.l0, rd_tr l i hlt]
    rw [List.drop_eq_getElem_cons hlt]
    refine Ev.pos (by omega) (Ev.pos (by omega) ?_)
    by_cases c : l[i].f4 < 1
    · exact Ev.pos c (j1 true (decide_eq_true (.inl c)).symm)
    · refine Ev.neg c (j1 _ (decide_eq_decide.mpr ⟨.inr, fun h => h.elim (fun h => absurd h c) id⟩))
theorem trr_ev (l : List S61) (hl : l.length ≤ 1024) (hs : ∀ x ∈ l, x.f6.f0.size ≤ 9223372036854775806 ∧ x.f7.f0.size ≤ 9223372036854775806) : Ev (fun k => contangoref38_trades.f k l) (trC l) := trrL l hl hs l.length 0 (by omega) (by omega)
theorem withD (x : ByteArray) (l : List ByteArray) (hl : l.length ≤ 1000000) (n : Nat) : ∀ (i : Nat) (o : List ByteArray), l.length - i = n → i ≤ l.length → o.length = i + 1 → (∀ y ∈ l.drop i, y.toList ≠ x.toList) →
    Ev (fun k => contangoref38_with.l0 k l x o true (i : Int)) (o ++ l.drop i) := by
  induction n with
  | zero =>
    intro i o hi hle ho hy
    refine Ev.shift ?_
    simp only [contangoref38_with.l0]
    rw [List.drop_eq_nil_of_le (by omega), List.append_nil]
    exact Ev.neg (by omega) (Ev.pos (by trivial) (Ev.val _))
  | succ n ih =>
    intro i o hi hle ho hy
    have hlt : i < l.length := by omega
    rw [List.drop_eq_getElem_cons hlt] at hy ⊢
    refine Ev.shift ?_
    simp only [contangoref38_with.l0, rd_nm l i hlt, succ_w i l.length hlt (by omega)]
    refine Ev.pos (by omega) (Ev.pos (by omega) (Ev.neg (hy _ List.mem_cons_self) (Ev.pos (by trivial) (Ev.pos (by omega) ?_))))
    have := ih (i + 1) (o ++ [l[i]]) (by omega) (by omega) (by simp [ho]) (fun y h => hy y (List.mem_cons_of_mem _ h))
    rw [List.append_assoc] at this
    exact this
theorem withL (x : ByteArray) (l : List ByteArray) (hl : l.length ≤ 1000000) (hss : SS l) (n : Nat) : ∀ (i : Nat), l.length - i = n → i ≤ l.length →
    Ev (fun k => contangoref38_with.l0 k l x (l.take i) false (i : Int)) (l.take i ++ insU x (l.drop i)) := by
  induction n with
  | zero =>
    intro i hi hle
    refine Ev.shift ?_
    simp only [contangoref38_with.l0]
    rw [List.drop_eq_nil_of_le (by omega)]
    exact Ev.neg (by omega) (Ev.neg (by decide) (Ev.pos (by rw [List.length_take]; omega) (Ev.val _)))
  | succ n ih =>
    intro i hi hle
    have hlt : i < l.length := by omega
    have hsp : l.take i ++ l[i] :: l.drop (i + 1) = l := by rw [← List.drop_eq_getElem_cons hlt, List.take_append_drop]
    have hss2 : SS (l[i] :: l.drop (i + 1)) := by rw [← List.drop_eq_getElem_cons hlt]; exact hss.sublist (List.drop_sublist _ _)
    have hss3 := List.pairwise_cons.mp hss2
    have hlen : (l.take i).length = i := by rw [List.length_take]; omega
    rw [List.drop_eq_getElem_cons hlt, insU]
    refine Ev.shift ?_
    simp only [contangoref38_with.l0, rd_nm l i hlt, succ_w i l.length hlt (by omega)]
    refine Ev.pos (by omega) (Ev.pos (by omega) ?_)
    by_cases h : l[i].toList = x.toList
    · rw [if_pos ((strQ_l _ _).mpr h), hsp]
      exact Ev.pos h (Ev.val _)
    rw [if_neg (fun e => h ((strQ_l _ _).mp e))]
    refine Ev.neg h (Ev.neg (by decide) ?_)
    by_cases d : Op.bytesLess x.toList l[i].toList = true
    · rw [if_pos d]
      refine Ev.pos d (Ev.pos (by omega) ?_)
      simp only [Option.bind_some]
      refine Ev.pos (by simp; omega) ?_
      have := withD x l hl n (i + 1) ((l.take i ++ [x]) ++ [l[i]]) (by omega) (by omega) (by simp [hlen]) (fun y hy e => by
        have h1 := less_trans _ _ _ d (hss3.1 y hy)
        rw [e, less_irrefl] at h1
        cases h1)
      rw [show l.take i ++ x :: l[i] :: l.drop (i + 1) = (l.take i ++ [x] ++ [l[i]]) ++ l.drop (i + 1) by simp only [List.append_assoc, List.cons_append, List.nil_append]]
      exact this
    · rw [if_neg d]
      refine Ev.neg d (Ev.pos (by omega) ?_)
      have := ih (i + 1) (by omega) (by omega)
      rw [List.take_succ_eq_append_getElem hlt, List.append_assoc] at this
      exact this
theorem with_ev (x : ByteArray) (l : List ByteArray) (hl : l.length ≤ 1000000) (hss : SS l) : Ev (fun k => contangoref38_with.f k l x) (insU x l) := by
  have := withL x l hl hss l.length 0 (by omega) (by omega)
  rw [List.drop_zero] at this
  exact this
/-- What members pay, or why that is not told. -/
def flV (h g : ByteArray → Int) (B : List S70) (a : Int) : List ByteArray → List S64 → List S64 × Int
  | [], t => (t, 0)
  | s :: r, t => if (ltV (h s) (g s) B).2 = 0 then (if (ltV (h s) (g s) B).1 = 0 then flV h g B a r t else flV h g B a r (t ++ [⟨s, a, wrap64 (-(ltV (h s) (g s) B).1), 5⟩])) else ([], (ltV (h s) (g s) B).2)
theorem flV_ev (m : List (ByteArray × Int)) (l1 : List S51) (B : List S70) (a : Int) (l : List ByteArray) (hn : ∀ s ∈ l, nameB s = true) : ∀ t : List S64, t.length + l.length ≤ 10000 →
    Ev (fun k => fee_Flows.go k m l1 B a l t) (flV (fun s => fee_first.go s l1) (lookD m) B a l t) := by
  induction l with
  | nil => intro t _; exact Ev.val _
  | cons s r ih =>
    intro t ht
    rw [List.length_cons] at ht
    have hz := nameB_size (hn s (by simp))
    have ih2 := ih (fun s hs => hn s (by simp [hs]))
    simp only [fee_Flows.go]
    rw [flV]
    refine Ev.pos (by omega) (Ev.bind (ltV_ev (fee_first.go s l1) (lookD m s) B) ?_)
    exact Ev.both (fun _ => Ev.both (fun _ => ih2 t (by omega)) (fun _ => Ev.pos (by omega) (ih2 _ (by simp; omega)))) (fun _ => Ev.val _)
theorem flVrL (l0 : List S61) (hl0 : l0.length ≤ 1024) (ht0 : trC l0 = 0) (l1 : List S52) (hl1 : l1.length ≤ 1024) (B : List S73) (a : Int) (l : List ByteArray) (hl : l.length ≤ 10000) (n : Nat) : ∀ (i : Nat) (t : List S64), l.length - i = n → i ≤ l.length → t.length ≤ i →
    Ev (fun k => contangoref38_Flows.l1 k l0 l1 B a l t (i : Int)) (flV (fun s => fee_first.go s (l1.map cc)) (fun s => lotsOf s l0) (B.map cv) a (l.drop i) t) := by
  induction n with
  | zero =>
    intro i t hi hle htl
    refine Ev.shift ?_
    simp only [contangoref38_Flows.l1]
    rw [List.drop_eq_nil_of_le (by omega)]
    exact Ev.neg (by omega) (Ev.val _)
  | succ n ih =>
    intro i t hi hle htl
    have hlt : i < l.length := by omega
    refine Ev.shift ?_
    simp only [contangoref38_Flows.l1, rd_nm l i hlt, succ_w i l.length hlt (by omega)]
    rw [List.drop_eq_getElem_cons hlt, flV]
    refine Ev.pos (by omega) (Ev.pos (by omega) (Ev.bind (hadr_ev l[i] l1 (by omega)) (Ev.bind (lotsr_ev l[i] l0 hl0 ht0) (Ev.bind (ltVr_ev _ _ B) ?_))))
    exact Ev.both (fun _ => Ev.both (fun _ => ih (i + 1) t (by omega) (by omega) (by omega)) (fun _ => Ev.pos (by omega) (ih (i + 1) _ (by omega) (by omega) (by simp; omega)))) (fun _ => Ev.val _)
theorem namesrL (l0 : List S61) (hl0 : l0.length ≤ 1024) (l1 : List S52) (B : List S73) (a : Int) (R : List S64 × Int) (M : List ByteArray) (hR : Ev (fun k => contangoref38_Flows.l1 k l0 l1 B a M [] 0) R) (n : Nat) : ∀ (i : Nat) (ns : List ByteArray), l0.length - i = n → i ≤ l0.length → SS ns → ns.length ≤ 2 * i → namesT (l0.drop i) ns = M →
    Ev (fun k => contangoref38_Flows.l0 k l0 l1 B a ns (i : Int)) R := by
  induction n with
  | zero =>
    intro i ns hi hle hss hln hM
    refine Ev.shift ?_
    simp only [contangoref38_Flows.l0]
    rw [List.drop_eq_nil_of_le (by omega)] at hM
    refine Ev.neg (by omega) ?_
    rw [show ns = M from hM]
    exact hR
  | succ n ih =>
    intro i ns hi hle hss hln hM
    have hlt : i < l0.length := by omega
    have h1 := insU_len l0[i].f6.f0 ns
    have h2 := insU_len l0[i].f7.f0 (insU l0[i].f6.f0 ns)
    rw [List.drop_eq_getElem_cons hlt] at hM
    refine Ev.shift ?_
    simp only [contangoref38_Flows.l0, rd_tr l0 i hlt, succ_w i l0.length hlt (by omega)]
    refine Ev.pos (by omega) (Ev.pos (by omega) (Ev.bind (with_ev _ _ (by omega) hss) (Ev.bind (with_ev _ _ (by omega) (insU_sorted _ _ hss)) ?_)))
    exact ih (i + 1) _ (by omega) (by omega) (insU_sorted _ _ (insU_sorted _ _ hss)) (by omega) hM
/-- What members pay for trades, or why that is not told. -/
def fwV (l0 : List S61) (l1 : List S51) (B : List S70) (a : Int) : List S64 × Int :=
  if bdC B = 0 then (if l0.length > 1024 ∨ l1.length > 1024 then ([], 8) else if a < 0 ∨ a ≥ 8 then ([], 25) else if trC l0 = 0 then flV (fun s => fee_first.go s l1) (fun s => lotsOf s l0) B a (namesT l0 []) [] else ([], trC l0)) else ([], bdC B)
theorem names_ok (l : List S61) (h : trC l = 0) : ∀ s ∈ namesT l [], nameB s = true := by
  intro s hs
  rcases (namesT_mem l [] s).mp hs with h1 | ⟨x, hx, h1⟩
  · cases h1
  · have := trB_zero (trC_zero h x hx)
    rcases h1 with rfl | rfl
    · exact this.2.2.1
    · exact this.2.2.2
theorem keys_len (l : List S61) : (hadM l []).length ≤ 2 * l.length := by
  have h1 := namesT_len l []
  rw [← sorted_keys, (sortS_perm _).length_eq] at h1
  simpa [keysOf] using h1
theorem look_lots (l : List S61) (hl : l.length ≤ 1024) (h : trC l = 0) (s : ByteArray) : lookD (hadM l []) s = lotsOf s l := by
  have := hadM_look l [] 0 h (fun s => ⟨Int.le_refl 0, Int.le_refl 0⟩) (by omega) s
  rw [this]
  show (0 : Int) + _ = _
  omega
theorem long_some (l : List S61) (l1 : List S51) : fee_long.f l l1 = some (decide (l.length > 1024 ∨ l1.length > 1024)) := by
  unfold fee_long.f
  by_cases h : (l.length : Int) > 1024
  · rw [if_pos h]; exact congrArg some (decide_eq_true (by omega)).symm
  · rw [if_neg h]; exact congrArg some (decide_eq_decide.mpr (by omega))
theorem fwV_ev (l0 : List S61) (l1 : List S51) (B : List S70) (a : Int) : Ev (fun k => fee_Flows.f k l0 l1 B a) (fwV l0 l1 B a) := by
  simp only [fee_Flows.f, long_some, Option.bind_some]
  refine Ev.bind (bdC_ev B) ?_
  unfold fwV
  refine Ev.both (fun h0 => ?_) (fun _ => Ev.val _)
  by_cases c : l0.length > 1024 ∨ l1.length > 1024
  · rw [if_pos c]; exact Ev.pos (decide_eq_true c) (Ev.val _)
  rw [if_neg c]
  refine Ev.neg (by simpa using c) (Ev.both (fun _ => Ev.val _) (fun _ => Ev.bind (hadM_ev l0 []) ?_))
  by_cases ht : trC l0 = 0
  · rw [if_pos ht, if_pos ht]
    have hk := keys_len l0
    refine Ev.pos rfl (Ev.pos (show (hadM l0 []).length ≤ 1000000 by omega) ?_)
    have hln := namesT_len l0 []
    have := flV_ev (hadM l0 []) l1 B a (namesT l0 []) (names_ok l0 ht) [] (by simp at hln ⊢; omega)
    rw [show (lookD (hadM l0 [])) = (fun s => lotsOf s l0) from funext (fun s => look_lots l0 (by omega) ht s), ← sorted_keys] at this
    rw [← sorted_keys]
    exact this
  · rw [if_neg ht, if_neg ht]
    exact Ev.neg ht (Ev.val _)
theorem fwVr_ev (l0 : List S61) (hs : ∀ x ∈ l0, x.f6.f0.size ≤ 9223372036854775806 ∧ x.f7.f0.size ≤ 9223372036854775806) (l1 : List S52) (B : List S73) (a : Int) : Ev (fun k => contangoref38_Flows.f k l0 l1 B a) (fwV l0 (l1.map cc) (B.map cv) a) := by
  simp only [contangoref38_Flows.f]
  refine Ev.bind (bdCr_ev B) ?_
  unfold fwV
  rw [List.length_map]
  refine Ev.both (fun h0 => ?_) (fun _ => Ev.val _)
  have j0 : ∀ b : Bool, b = decide (l0.length > 1024 ∨ l1.length > 1024) → Ev (fun k => contangoref38_Flows.j0 k l0 l1 B a b) (if l0.length > 1024 ∨ l1.length > 1024 then ([], 8) else if a < 0 ∨ a ≥ 8 then ([], 25) else if trC l0 = 0 then flV (fun s => fee_first.go s (l1.map cc)) (fun s => lotsOf s l0) (B.map cv) a (namesT l0 []) [] else ([], trC l0)) := by
    intro b hb
    refine Ev.shift ?_
    simp only [contangoref38_Flows.j0]
    by_cases c : l0.length > 1024 ∨ l1.length > 1024
    · rw [if_pos c]; exact Ev.pos (by rw [hb]; exact decide_eq_true c) (Ev.val _)
    rw [if_neg c]
    refine Ev.neg (by rw [hb]; simpa using c) ?_
    have j1 : ∀ b : Bool, b = decide (a < 0 ∨ a ≥ 8) → Ev (fun k => contangoref38_Flows.j1 k l0 l1 B a b) (if a < 0 ∨ a ≥ 8 then ([], 25) else if trC l0 = 0 then flV (fun s => fee_first.go s (l1.map cc)) (fun s => lotsOf s l0) (B.map cv) a (namesT l0 []) [] else ([], trC l0)) := by
      intro b hb
      refine Ev.shift ?_
      simp only [contangoref38_Flows.j1]
      by_cases d : a < 0 ∨ a ≥ 8
      · rw [if_pos d]; exact Ev.pos (by rw [hb]; exact decide_eq_true d) (Ev.val _)
      rw [if_neg d]
      refine Ev.neg (by rw [hb]; simpa using d) (Ev.bind (trr_ev l0 (by omega) hs) (Ev.both (fun ht => ?_) (fun _ => Ev.val _)))
      have hln := namesT_len l0 []
      have hf := flVrL l0 (by omega) ht l1 (by omega) B a (namesT l0 []) (by simp at hln; omega) (namesT l0 []).length 0 [] (by omega) (by omega) (by simp)
      rw [List.drop_zero] at hf
      exact namesrL l0 (by omega) l1 B a _ (namesT l0 []) hf l0.length 0 [] (by omega) (by omega) List.Pairwise.nil (by simp) (by rw [List.drop_zero])
    by_cases d : a < 0
    · exact Ev.pos d (j1 true (decide_eq_true (.inl d)).symm)
    · exact Ev.neg d (j1 _ (decide_eq_decide.mpr (by omega)))
  by_cases c : (l0.length : Int) > 1024
  · exact Ev.pos c (j0 true (decide_eq_true (by omega)).symm)
  · exact Ev.neg c (j0 _ (decide_eq_decide.mpr (by omega)))
/-- What may be wrong with a count. -/
def cnB (c : S51) : Int := if c.f1 < 0 ∨ c.f1 > 1152921504606846976 then 18 else if nameB c.f0 = true then 0 else 10
/-- What may be wrong with counts. -/
def cnC : List S51 → Int
  | [] => 0
  | c :: r => if cnB c = 0 then cnC r else cnB c
theorem cnC_bad {x : S51} {r : List S51} {e : Int} (h : cnB x = e) (he : e ≠ 0) : cnC (x :: r) = e := by
  rw [cnC, if_neg (by rw [h]; exact he), h]
theorem cnC_good {x : S51} {r : List S51} (h : cnB x = 0) : cnC (x :: r) = cnC r := by rw [cnC, if_pos h]
theorem cnB_lots {x : S51} (c : x.f1 < 0 ∨ x.f1 > 1152921504606846976) : cnB x = 18 := if_pos c
theorem cnB_name {x : S51} (c : ¬ (x.f1 < 0 ∨ x.f1 > 1152921504606846976)) (d : nameB x.f0 = false) : cnB x = 10 := by
  unfold cnB
  rw [if_neg c, d, if_neg (by decide)]
theorem cnB_ok {x : S51} (c : ¬ (x.f1 < 0 ∨ x.f1 > 1152921504606846976)) (d : nameB x.f0 = true) : cnB x = 0 := by
  unfold cnB
  rw [if_neg c, d, if_pos rfl]
theorem cnB_zero {x : S51} (h : cnB x = 0) : 0 ≤ x.f1 ∧ x.f1 ≤ 1152921504606846976 ∧ nameB x.f0 = true := by
  unfold cnB at h
  by_cases c : x.f1 < 0 ∨ x.f1 > 1152921504606846976
  · rw [if_pos c] at h; cases h
  rw [if_neg c] at h
  by_cases d : nameB x.f0 = true
  · exact ⟨by omega, by omega, d⟩
  · rw [if_neg d] at h; cases h
theorem cnC_zero {l : List S51} (h : cnC l = 0) : ∀ x ∈ l, cnB x = 0 := by
  induction l with
  | nil => intro x hx; cases hx
  | cons y r ih =>
    intro x hx
    by_cases hy : cnB y = 0
    · rw [cnC_good hy] at h
      rcases List.mem_cons.mp hx with rfl | hx
      · exact hy
      · exact ih h x hx
    · rw [cnC_bad rfl hy] at h
      exact absurd h hy
theorem cnC_ev (l : List S51) : Ev (fun k => fee_Add.chk k l) (cnC l) := by
  induction l with
  | nil => exact Ev.val _
  | cons x r ih =>
    simp only [fee_Add.chk]
    by_cases c : x.f1 < 0 ∨ x.f1 > 1152921504606846976
    · rw [cnC_bad (cnB_lots c) (by decide)]
      exact Ev.pos c (Ev.val _)
    refine Ev.neg c (Ev.bind (name_ev _) ?_)
    cases d : nameB x.f0 with
    | false =>
      rw [cnC_bad (cnB_name c d) (by decide)]
      exact Ev.neg (by decide) (Ev.val _)
    | true =>
      rw [cnC_good (cnB_ok c d)]
      exact Ev.pos rfl ih
/-- Counts' members into a map. -/
def zeroM : List S51 → List (ByteArray × Int) → List (ByteArray × Int)
  | [], m => m
  | c :: r, m => zeroM r (had_put m c.f0 0)
theorem zeroM_some (l : List S51) : ∀ m, cnC l = 0 → fee_Add.zero l m = some (zeroM l m) := by
  induction l with
  | nil => intro m _; rfl
  | cons x r ih =>
    intro m h
    have hx := cnC_zero h x (by simp)
    have hz := nameB_size (cnB_zero hx).2.2
    rw [cnC_good hx] at h
    rw [fee_Add.zero, if_pos (by omega), ih _ h, zeroM]
theorem zeroM_look (l : List S51) : ∀ (m : List (ByteArray × Int)), (∀ s, 0 ≤ lookD m s ∧ lookD m s ≤ 1152921504606846976) → ∀ s, lookD (zeroM l m) s = lookD m s := by
  induction l with
  | nil => intro m _ s; rfl
  | cons x r ih =>
    intro m h s
    have e : ∀ s, lookD (had_put m x.f0 0) s = lookD m s := fun s => by
      have := h s
      rw [look_had]
      split
      · rw [Int.add_zero]; exact wrap_small (by omega) (by omega)
      · rfl
    rw [zeroM, ih _ (fun s => by rw [e]; exact h s), e]
theorem zeroM_keys (l : List S51) : ∀ m, (keysOf m).Nodup → (keysOf (zeroM l m)).Nodup ∧ ∀ s, s ∈ keysOf (zeroM l m) ↔ s ∈ keysOf m ∨ ∃ x ∈ l, s = x.f0 := by
  induction l with
  | nil => intro m h; exact ⟨h, fun s => ⟨.inl, fun h => h.elim id (fun ⟨x, hx, _⟩ => by cases hx)⟩⟩
  | cons x r ih =>
    intro m h
    obtain ⟨a1, a2⟩ := keys_had m x.f0 0 h
    obtain ⟨c1, c2⟩ := ih _ a1
    refine ⟨c1, fun s => ?_⟩
    rw [zeroM, c2, a2]
    constructor
    · rintro ((h | h) | ⟨y, hy, h⟩)
      · exact .inr ⟨x, by simp, h⟩
      · exact .inl h
      · exact .inr ⟨y, by simp [hy], h⟩
    · rintro (h | ⟨y, hy, h⟩)
      · exact .inl (.inr h)
      · rcases List.mem_cons.mp hy with rfl | hy
        · exact .inl (.inl h)
        · exact .inr ⟨y, hy, h⟩
/-- The names of counts. -/
def namesC : List S51 → List ByteArray → List ByteArray
  | [], n => n
  | x :: r, n => namesC r (insU x.f0 n)
theorem namesC_SS (l : List S51) : ∀ n, SS n → SS (namesC l n) := by
  induction l with
  | nil => intro n h; exact h
  | cons x r ih => intro n h; exact ih _ (insU_sorted _ _ h)
theorem namesC_len (l : List S51) : ∀ n, (namesC l n).length ≤ n.length + l.length := by
  induction l with
  | nil => intro n; exact Nat.le_refl _
  | cons x r ih =>
    intro n
    have h1 := ih (insU x.f0 n)
    have h3 := insU_len x.f0 n
    rw [namesC, List.length_cons]
    omega
theorem namesC_mem (l : List S51) : ∀ n s, s ∈ namesC l n ↔ s ∈ n ∨ ∃ x ∈ l, s = x.f0 := by
  induction l with
  | nil => intro n s; exact ⟨.inl, fun h => h.elim id (fun ⟨x, hx, _⟩ => by cases hx)⟩
  | cons x r ih =>
    intro n s
    rw [namesC, ih, insU_mem]
    constructor
    · rintro ((h | h) | ⟨y, hy, h⟩)
      · exact .inr ⟨x, by simp, h⟩
      · exact .inl h
      · exact .inr ⟨y, by simp [hy], h⟩
    · rintro (h | ⟨y, hy, h⟩)
      · exact .inl (.inr h)
      · rcases List.mem_cons.mp hy with rfl | hy
        · exact .inl (.inl h)
        · exact .inr ⟨y, hy, h⟩
/-- The names of counts and trades. -/
def allN (c : List S51) (l : List S61) : List ByteArray := namesT l (namesC c [])
theorem sorted_all (c : List S51) (l : List S61) : sortS (keysOf (zeroM c (hadM l []))) = allN c l := by
  obtain ⟨a1, a2⟩ := hadM_keys l [] List.nodup_nil
  obtain ⟨h1, h2⟩ := zeroM_keys c _ a1
  refine SS_uniq (sortS_SS h1) (namesT_SS l _ (namesC_SS c [] List.Pairwise.nil)) (fun s => ?_)
  rw [(sortS_perm _).mem_iff, h2, a2, allN, namesT_mem, namesC_mem]
  constructor
  · rintro ((h | h) | h)
    · cases h
    · exact .inr h
    · exact .inl (.inr h)
  · rintro ((h | h) | h)
    · cases h
    · exact .inr h
    · exact .inl (.inr h)
theorem allN_len (c : List S51) (l : List S61) : (allN c l).length ≤ c.length + 2 * l.length := by
  have h1 := namesT_len l (namesC c [])
  have h2 := namesC_len c []
  rw [List.length_nil] at h2
  unfold allN
  omega
theorem allN_ok (c : List S51) (l : List S61) (hc : cnC c = 0) (h : trC l = 0) : ∀ s ∈ allN c l, nameB s = true := by
  intro s hs
  rcases (namesT_mem l _ s).mp hs with h1 | ⟨x, hx, h1⟩
  · rcases (namesC_mem c _ s).mp h1 with h2 | ⟨x, hx, rfl⟩
    · cases h2
    · exact (cnB_zero (cnC_zero hc x hx)).2.2
  · have := trB_zero (trC_zero h x hx)
    rcases h1 with rfl | rfl
    · exact this.2.2.1
    · exact this.2.2.2
theorem addgo_some (m : List (ByteArray × Int)) (l0 : List S51) (l : List ByteArray) (hn : ∀ s ∈ l, nameB s = true) : ∀ t : List S51, t.length + l.length ≤ 10000 →
    fee_Add.go m l0 l t = some (t ++ l.map (fun s => ⟨s, wrap64 (fee_first.go s l0 + lookD m s)⟩)) := by
  induction l with
  | nil => intro t _; rw [fee_Add.go, List.map_nil, List.append_nil]
  | cons s r ih =>
    intro t ht
    rw [List.length_cons] at ht
    have hz := nameB_size (hn s (by simp))
    rw [fee_Add.go, if_pos (by omega), if_pos (by omega), ih (fun s hs => hn s (by simp [hs])) _ (by simp; omega), List.append_assoc]
    rfl
/-- Counts with trades, or why that is not told. -/
def adV {α : Type} (f : ByteArray → Int → α) (c : List S51) (l : List S61) : List α × Int :=
  if l.length > 1024 ∨ c.length > 1024 then ([], 8) else if cnC c = 0 then (if trC l = 0 then ((allN c l).map (fun s => f s (wrap64 (fee_first.go s c + lotsOf s l))), 0) else ([], trC l)) else ([], cnC c)
theorem adV_ev (c : List S51) (l : List S61) : Ev (fun k => fee_Add.f k c l) (adV (fun s n => ⟨s, n⟩) c l) := by
  simp only [fee_Add.f, long_some, Option.bind_some]
  unfold adV
  by_cases d : l.length > 1024 ∨ c.length > 1024
  · rw [if_pos d]; exact Ev.pos (decide_eq_true d) (Ev.val _)
  rw [if_neg d]
  refine Ev.neg (by simpa using d) (Ev.bind (cnC_ev c) (Ev.both (fun hc => Ev.bind (hadM_ev l []) ?_) (fun _ => Ev.val _)))
  by_cases ht : trC l = 0
  · rw [if_pos ht, if_pos ht]
    have hln := allN_len c l
    have hk : (zeroM c (hadM l [])).length ≤ c.length + 2 * l.length := by
      have h1 := hln
      rw [← sorted_all, (sortS_perm _).length_eq] at h1
      simpa [keysOf] using h1
    have hlk : ∀ s, lookD (zeroM c (hadM l [])) s = lotsOf s l := fun s => by
      rw [zeroM_look c _ (fun s => by rw [look_lots l (by omega) ht]; have := lotsOf_bd s l ht; omega), look_lots l (by omega) ht]
    have hg := addgo_some (zeroM c (hadM l [])) c (allN c l) (allN_ok c l hc ht) [] (by simp; omega)
    rw [List.nil_append, show (fun s => (⟨s, wrap64 (fee_first.go s c + lookD (zeroM c (hadM l [])) s)⟩ : S51)) = (fun s => (⟨s, wrap64 (fee_first.go s c + lotsOf s l)⟩ : S51)) from funext (fun s => by rw [hlk])] at hg
    refine Ev.pos rfl ?_
    rw [zeroM_some c _ hc]
    simp only [Option.bind_some]
    refine Ev.pos (show (zeroM c (hadM l [])).length ≤ 1000000 by omega) ?_
    rw [show (zeroM c (hadM l [])).map (·.1) = keysOf (zeroM c (hadM l [])) from rfl, sorted_all, hg]
    exact Ev.val _
  · rw [if_neg ht]
    refine Ev.neg ht ?_
    rw [if_neg ht]
    exact Ev.val _
theorem adrL2 (c : List S52) (hc : c.length ≤ 1024) (l : List S61) (hl : l.length ≤ 1024) (ht : trC l = 0) (ns : List ByteArray) (hns : ns.length ≤ 10000) (n : Nat) : ∀ (i : Nat) (t : List S52), ns.length - i = n → i ≤ ns.length → t.length = i →
    Ev (fun k => contangoref38_Add.l2 k c l ns t (i : Int)) (t ++ (ns.drop i).map (fun s => ⟨s, wrap64 (fee_first.go s (c.map cc) + lotsOf s l)⟩), 0) := by
  induction n with
  | zero =>
    intro i t hi hle htl
    refine Ev.shift ?_
    simp only [contangoref38_Add.l2]
    rw [List.drop_eq_nil_of_le (by omega), List.map_nil, List.append_nil]
    exact Ev.neg (by omega) (Ev.val _)
  | succ n ih =>
    intro i t hi hle htl
    have hlt : i < ns.length := by omega
    refine Ev.shift ?_
    simp only [contangoref38_Add.l2, rd_nm ns i hlt, succ_w i ns.length hlt (by omega)]
    rw [List.drop_eq_getElem_cons hlt, List.map_cons]
    refine Ev.pos (by omega) (Ev.pos (by omega) (Ev.bind (hadr_ev ns[i] c (by omega)) (Ev.bind (lotsr_ev ns[i] l hl ht) (Ev.pos (by omega) ?_))))
    have := ih (i + 1) (t ++ [⟨ns[i], wrap64 (fee_first.go ns[i] (c.map cc) + lotsOf ns[i] l)⟩]) (by omega) (by omega) (by simp [htl])
    rw [List.append_assoc] at this
    exact this
theorem adrL1 (c : List S52) (l0 : List S61) (hl0 : l0.length ≤ 1024) (R : List S52 × Int) (M : List ByteArray) (hR : Ev (fun k => contangoref38_Add.l2 k c l0 M [] 0) R) (n : Nat) : ∀ (i : Nat) (ns : List ByteArray), l0.length - i = n → i ≤ l0.length → SS ns → ns.length ≤ 1024 + 2 * i → namesT (l0.drop i) ns = M →
    Ev (fun k => contangoref38_Add.l1 k c l0 ns (i : Int)) R := by
  induction n with
  | zero =>
    intro i ns hi hle hss hln hM
    refine Ev.shift ?_
    simp only [contangoref38_Add.l1]
    rw [List.drop_eq_nil_of_le (by omega)] at hM
    refine Ev.neg (by omega) ?_
    rw [show ns = M from hM]
    exact hR
  | succ n ih =>
    intro i ns hi hle hss hln hM
    have hlt : i < l0.length := by omega
    have h1 := insU_len l0[i].f6.f0 ns
    have h2 := insU_len l0[i].f7.f0 (insU l0[i].f6.f0 ns)
    rw [List.drop_eq_getElem_cons hlt] at hM
    refine Ev.shift ?_
    simp only [contangoref38_Add.l1, rd_tr l0 i hlt, succ_w i l0.length hlt (by omega)]
    refine Ev.pos (by omega) (Ev.pos (by omega) (Ev.bind (with_ev _ _ (by omega) hss) (Ev.bind (with_ev _ _ (by omega) (insU_sorted _ _ hss)) ?_)))
    exact ih (i + 1) _ (by omega) (by omega) (insU_sorted _ _ (insU_sorted _ _ hss)) (by omega) hM
theorem adrL0 (c : List S52) (hc : c.length ≤ 1024) (hcs : ∀ x ∈ c, x.f0.size ≤ 9223372036854775806) (l : List S61) (hl : l.length ≤ 1024) (hs : ∀ x ∈ l, x.f6.f0.size ≤ 9223372036854775806 ∧ x.f7.f0.size ≤ 9223372036854775806) (n : Nat) : ∀ (i : Nat) (ns : List ByteArray), c.length - i = n → i ≤ c.length → SS ns → ns.length ≤ i → namesC ((c.drop i).map cc) ns = namesC (c.map cc) [] →
    Ev (fun k => contangoref38_Add.l0 k c l ns (i : Int)) (if cnC ((c.drop i).map cc) = 0 then (if trC l = 0 then ((allN (c.map cc) l).map (fun s => ⟨s, wrap64 (fee_first.go s (c.map cc) + lotsOf s l)⟩), 0) else ([], trC l)) else ([], cnC ((c.drop i).map cc))) := by
  induction n with
  | zero =>
    intro i ns hi hle hss hln hM
    rw [List.drop_eq_nil_of_le (by omega)] at hM ⊢
    refine Ev.shift ?_
    simp only [contangoref38_Add.l0]
    rw [List.map_nil, if_pos (show cnC [] = 0 from rfl)]
    refine Ev.neg (by omega) (Ev.bind (trr_ev l hl hs) (Ev.both (fun ht => ?_) (fun _ => Ev.val _)))
    have hln2 := allN_len (c.map cc) l
    rw [List.length_map] at hln2
    have h2 := adrL2 c hc l hl ht (allN (c.map cc) l) (by omega) (allN (c.map cc) l).length 0 [] (by omega) (by omega) rfl
    rw [List.drop_zero, List.nil_append] at h2
    exact adrL1 c l hl _ (allN (c.map cc) l) h2 l.length 0 ns (by omega) (by omega) hss (by omega) (by rw [List.drop_zero, show ns = namesC (c.map cc) [] from hM]; rfl)
  | succ n ih =>
    intro i ns hi hle hss hln hM
    have hlt : i < c.length := by omega
    rw [List.drop_eq_getElem_cons hlt, List.map_cons] at hM ⊢
    have h1 := insU_len c[i].f0 ns
    have j2 : ∀ b : Bool, b = decide (c[i].f1 < 0 ∨ c[i].f1 > 1152921504606846976) → Ev (fun k => contangoref38_Add.j2 k c l ns (i : Int) b) (if cnC (cc c[i] :: (c.drop (i + 1)).map cc) = 0 then (if trC l = 0 then ((allN (c.map cc) l).map (fun s => ⟨s, wrap64 (fee_first.go s (c.map cc) + lotsOf s l)⟩), 0) else ([], trC l)) else ([], cnC (cc c[i] :: (c.drop (i + 1)).map cc))) := by
      intro b hb
      refine Ev.shift ?_
      simp only [contangoref38_Add.j2, rd_cr c i hlt, succ_w i c.length hlt (by omega)]
      by_cases d : c[i].f1 < 0 ∨ c[i].f1 > 1152921504606846976
      · rw [decide_eq_true d] at hb
        rw [cnC_bad (cnB_lots (x := cc c[i]) d) (by decide), if_neg (show ¬ ((18 : Int) = 0) by decide)]
        exact Ev.pos hb (Ev.val _)
      rw [decide_eq_false d] at hb
      refine Ev.neg (by rw [hb]; decide) (Ev.pos (by omega) (Ev.pos (by omega) (Ev.bind (refName _ (hcs _ (List.getElem_mem hlt))) ?_)))
      cases e : nameB c[i].f0 with
      | false =>
        rw [cnC_bad (cnB_name (x := cc c[i]) d e) (by decide), if_neg (show ¬ ((10 : Int) = 0) by decide)]
        exact Ev.neg (by decide) (Ev.val _)
      | true =>
        rw [cnC_good (cnB_ok (x := cc c[i]) d e)]
        exact Ev.pos rfl (Ev.bind (with_ev _ _ (by omega) hss) (ih (i + 1) _ (by omega) (by omega) (insU_sorted _ _ hss) (by omega) hM))
    refine Ev.shift ?_
    simp only [contangoref38_Add.l0, rd_cr c i hlt]
    refine Ev.pos (by omega) (Ev.pos (by omega) ?_)
    by_cases d : c[i].f1 < 0
    · exact Ev.pos d (j2 true (decide_eq_true (.inl d)).symm)
    · exact Ev.neg d (j2 _ (decide_eq_decide.mpr ⟨.inr, fun h => h.elim (fun h => absurd h d) id⟩))
theorem adVr_ev (c : List S52) (hcs : ∀ x ∈ c, x.f0.size ≤ 9223372036854775806) (l : List S61) (hs : ∀ x ∈ l, x.f6.f0.size ≤ 9223372036854775806 ∧ x.f7.f0.size ≤ 9223372036854775806) : Ev (fun k => contangoref38_Add.f k c l) (adV (fun s n => ⟨s, n⟩) (c.map cc) l) := by
  have j0 : ∀ b : Bool, b = decide (l.length > 1024 ∨ c.length > 1024) → Ev (fun k => contangoref38_Add.j0 k c l b) (adV (fun s n => ⟨s, n⟩) (c.map cc) l) := by
    intro b hb
    refine Ev.shift ?_
    simp only [contangoref38_Add.j0]
    unfold adV
    rw [List.length_map]
    by_cases d : l.length > 1024 ∨ c.length > 1024
    · rw [if_pos d]; exact Ev.pos (by rw [hb]; exact decide_eq_true d) (Ev.val _)
    rw [if_neg d]
    refine Ev.neg (by rw [hb]; simpa using d) ?_
    have := adrL0 c (by omega) hcs l (by omega) hs c.length 0 [] (by omega) (by omega) List.Pairwise.nil (by simp) (by rw [List.drop_zero])
    rw [List.drop_zero] at this
    exact this
  simp only [contangoref38_Add.f]
  by_cases d : (l.length : Int) > 1024
  · exact Ev.pos d (j0 true (decide_eq_true (by omega)).symm)
  · exact Ev.neg d (j0 _ (decide_eq_decide.mpr (by omega)))
theorem sameL (l : List S64) (hl : l.length ≤ 1000000) (n : Nat) : ∀ i : Nat, l.length - i = n → i ≤ l.length → Ev (fun k => contangoref38_Same.l0 k l l (i : Int)) true := by
  induction n with
  | zero =>
    intro i hi hle
    refine Ev.shift ?_
    simp only [contangoref38_Same.l0]
    refine Ev.neg (by omega) (Ev.shift ?_)
    simp only [contangoref38_Same.j1]
    exact Ev.neg (by decide) (Ev.valOf (by simp))
  | succ n ih =>
    intro i hi hle
    have hlt : i < l.length := by omega
    refine Ev.shift ?_
    simp only [contangoref38_Same.l0]
    refine Ev.pos (by omega) (Ev.shift ?_)
    simp only [contangoref38_Same.j1, rd_fl l i hlt, succ_w i l.length hlt (by omega)]
    exact Ev.pos (decide_eq_true (by omega)) (Ev.pos (by omega) (Ev.pos (by omega) (Ev.pos (by omega) (Ev.pos (by simp [eqD64]) (ih (i + 1) (by omega) (by omega))))))
theorem same_ev (l : List S64) (hl : l.length ≤ 1000000) : Ev (fun k => contangoref38_Same.f k l l) true := sameL l hl l.length 0 (by omega) (by omega)
theorem flV_len (h g : ByteArray → Int) (B : List S70) (a : Int) (l : List ByteArray) : ∀ t, (flV h g B a l t).1.length ≤ t.length + l.length := by
  induction l with
  | nil => intro t; exact Nat.le_refl _
  | cons s r ih =>
    intro t
    rw [flV, List.length_cons]
    split
    · split
      · have := ih t; omega
      · have := ih (t ++ [⟨s, a, wrap64 (-(ltV (h s) (g s) B).1), 5⟩])
        simp only [List.length_append, List.length_cons, List.length_nil] at this
        omega
    · exact Nat.zero_le _
theorem fwV_len (l0 : List S61) (l1 : List S51) (B : List S70) (a : Int) : (fwV l0 l1 B a).1.length ≤ 1000000 := by
  unfold fwV
  split
  · split
    · exact Nat.zero_le _
    · rename_i hc
      split
      · exact Nat.zero_le _
      · split
        · have h1 := flV_len (fun s => fee_first.go s l1) (fun s => lotsOf s l0) B a (namesT l0 []) []
          have h2 := namesT_len l0 []
          rw [List.length_nil] at h1 h2
          omega
        · exact Nat.zero_le _
  · exact Nat.zero_le _
theorem eqaL (m : List S52) (hm : m.length ≤ 1000000) (n : Nat) : ∀ i : Nat, m.length - i = n → i ≤ m.length → Ev (fun k => contangolaw38_FeeFlows.l0 k (m.map cc) m (i : Int)) true := by
  induction n with
  | zero =>
    intro i hi hle
    refine Ev.shift ?_
    simp only [contangolaw38_FeeFlows.l0, List.length_map]
    exact Ev.neg (by omega) (Ev.bind goes_ev (Ev.val _))
  | succ n ih =>
    intro i hi hle
    have hlt : i < m.length := by omega
    refine Ev.shift ?_
    simp only [contangolaw38_FeeFlows.l0, rd_cr m i hlt, rd_cf (m.map cc) i (by rw [List.length_map]; exact hlt), List.getElem_map, List.length_map, succ_w i m.length hlt (by omega)]
    exact Ev.pos (by omega) (Ev.pos (by omega) (Ev.pos (by omega) (Ev.pos rfl (Ev.pos rfl (ih (i + 1) (by omega) (by omega))))))
theorem adV_two (c : List S51) (l : List S61) : (adV (fun s n => (⟨s, n⟩ : S51)) c l) = ((adV (fun s n => (⟨s, n⟩ : S52)) c l).1.map cc, (adV (fun s n => (⟨s, n⟩ : S52)) c l).2) := by
  unfold adV
  split
  · rfl
  · split
    · split
      · rw [List.map_map]; rfl
      · rfl
    · rfl
theorem adV_len {α : Type} (f : ByteArray → Int → α) (c : List S51) (l : List S61) : (adV f c l).1.length ≤ 1000000 := by
  unfold adV
  split
  · exact Nat.zero_le _
  · split
    · split
      · have := allN_len c l
        rw [List.length_map]
        omega
      · exact Nat.zero_le _
    · exact Nat.zero_le _
theorem FeeFlows : contangolaw38_FeeFlows.Said := by
  intro l x _ _ hsl hsx
  refine Ev.get ?_
  obtain ⟨c, B, a⟩ := x
  have hs : ∀ x ∈ l, x.f6.f0.size ≤ 9223372036854775806 ∧ x.f7.f0.size ≤ 9223372036854775806 := fun x hm => by
    have h := hsl.2 x hm
    simp only [sz61, sz59] at h
    omega
  have hcs : ∀ x ∈ c, x.f0.size ≤ 9223372036854775806 := fun x hm => by
    have h := hsx.1.2 x hm
    simp only [sz52] at h
    omega
  have hc : c.length ≤ 5864062014800 := by have := hsx.1.1; simp only at this; omega
  have hB : B.length ≤ 8796093022200 := by have := hsx.2.1.1; simp only at this; omega
  have j0 : ∀ b : Bool, Ev (fun k => contangolaw38_FeeFlows.j0 k l b c B a) true := by
    intro b
    refine Ev.shift ?_
    simp only [contangolaw38_FeeFlows.j0]
    cases b with
    | true => exact Ev.pos rfl (Ev.bind goes_ev (Ev.val _))
    | false =>
      refine Ev.neg (by decide) (Ev.bind (counts_ev c hc) (Ev.bind (bands_ev B hB) (Ev.bind (fwV_ev l (c.map cc) (B.map cv) a) (Ev.bind (fwVr_ev l hs c B a) (Ev.bind (counts_ev c hc) (Ev.bind (adV_ev (c.map cc) l) (Ev.bind (adVr_ev c hcs l hs) (Ev.bind (same_ev _ (fwV_len _ _ _ _)) (Ev.pos rfl (Ev.pos rfl ?_))))))))))
      rw [adV_two]
      refine Ev.pos rfl (Ev.shift ?_)
      simp only [contangolaw38_FeeFlows.j1, List.length_map]
      exact Ev.neg (by simp) (eqaL _ (adV_len _ _ _) _ 0 rfl (Nat.zero_le _))
  simp only [contangolaw38_FeeFlows.f]
  by_cases h1 : (l.length : Int) > 60
  · refine Ev.pos h1 ?_
    by_cases h2 : (l.length : Int) ≤ 1024
    · exact Ev.pos h2 (j0 _)
    · refine Ev.neg h2 ?_
      by_cases h3 : (c.length : Int) > 60
      · exact Ev.pos h3 (j0 _)
      · exact Ev.neg h3 (j0 _)
  · refine Ev.neg h1 ?_
    by_cases h3 : (c.length : Int) > 60
    · exact Ev.pos h3 (j0 _)
    · exact Ev.neg h3 (j0 _)
end Go.Proofs.Ytckjdncimibiaaa.Pure
