/- The two greatest together and any group's worst, or why that is not told, are what the document says: the law, as a statement over numbers and lists. -/
import Derived.Test.YtaookghbppimnaaArgStressTwos
namespace Go.Proofs.Ytaookghbppimnaa.Pure
set_option linter.unusedSimpArgs false
set_option linter.unusedVariables false
open Go.RowKit Go.Proofs.Ytaookghbppimnaa.PStressTwos Go.Proofs.Ytaookghbppimnaa.Opens Go.Proofs.YtaookghbppimnaaW.PrintWords Go.Proofs.YtaookghbppimnaaW.PrintLast
/-- Comes to r, at all large numbers of rounds. -/
def Ev {α : Type} (g : Nat → Option α) (r : α) : Prop := ∃ K, ∀ k, K ≤ k → g k = some r
theorem Ev.shift {α : Type} {g : Nat → Option α} {r : α} (h : Ev (fun k => g (k + 1)) r) : Ev g r := by
  obtain ⟨K, h⟩ := h
  refine ⟨K + 1, fun k hk => ?_⟩
  obtain ⟨m, rfl⟩ : ∃ m, k = m + 1 := ⟨k - 1, by omega⟩
  exact h m (by omega)
theorem Ev.val {α : Type} (r : α) : Ev (fun _ => some r) r := ⟨0, fun _ _ => rfl⟩
theorem Ev.bind {α β : Type} {g : Nat → Option α} {f : Nat → α → Option β} {x : α} {r : β} (h : Ev g x) (h' : Ev (fun k => f k x) r) : Ev (fun k => (g k).bind (f k)) r := by
  obtain ⟨K, h⟩ := h
  obtain ⟨K', h'⟩ := h'
  exact ⟨max K K', fun k hk => by show (g k).bind (f k) = some r; rw [h k (by omega)]; exact h' k (by omega)⟩
theorem Ev.get {α : Type} {g : Nat → Option α} {r : α} (h : Ev g r) : ∃ k, g k = some r := by
  obtain ⟨K, h⟩ := h
  exact ⟨K, h K (Nat.le_refl _)⟩
theorem Ev.of {α : Type} {g : Nat → Option α} {r : α} {k0 : Nat} (h : g k0 = some r) (hm : ∀ k, LeO (g k) (g (k + 1))) : Ev g r := ⟨k0, fun _ hk => at_rounds hm hk h⟩
theorem Ev.pos {α : Type} {c : Prop} [Decidable c] {a b : Nat → Option α} {r : α} (hc : c) (h : Ev a r) : Ev (fun k => if c then a k else b k) r := by
  obtain ⟨K, h⟩ := h
  exact ⟨K, fun k hk => by show (if c then a k else b k) = some r; rw [if_pos hc]; exact h k hk⟩
theorem Ev.neg {α : Type} {c : Prop} [Decidable c] {a b : Nat → Option α} {r : α} (hc : ¬ c) (h : Ev b r) : Ev (fun k => if c then a k else b k) r := by
  obtain ⟨K, h⟩ := h
  exact ⟨K, fun k hk => by show (if c then a k else b k) = some r; rw [if_neg hc]; exact h k hk⟩
/-- Both ways, each where it is taken. -/
theorem Ev.ite {α : Type} {c : Prop} [Decidable c] {a b : Nat → Option α} {r : α} (h : c → Ev a r) (h' : ¬ c → Ev b r) : Ev (fun k => if c then a k else b k) r := by
  by_cases hc : c
  · exact Ev.pos hc (h hc)
  · exact Ev.neg hc (h' hc)
theorem wrap_small {n : Int} (h0 : -9223372036854775808 ≤ n) (h1 : n ≤ 9223372036854775807) : wrap64 n = n := by unfold wrap64; omega
/-- Both ways, each with its own end. -/
theorem Ev.both {α : Type} {c : Prop} [Decidable c] {a b : Nat → Option α} {r s : α} (h : c → Ev a r) (h' : ¬ c → Ev b s) : Ev (fun k => if c then a k else b k) (if c then r else s) := by
  by_cases hc : c
  · rw [if_pos hc]; exact Ev.pos hc (h hc)
  · rw [if_neg hc]; exact Ev.neg hc (h' hc)
theorem Ev.valOf {α : Type} {r s : α} (h : s = r) : Ev (fun _ => some r) s := by subst h; exact Ev.val _
theorem less_irrefl (a : List UInt8) : Op.bytesLess a a = false := by
  induction a with
  | nil => rfl
  | cons x r ih =>
    have h : ¬ x < x := fun h => by have := UInt8.lt_iff_toNat_lt.mp h; omega
    simp [Op.bytesLess, ih, h]
theorem less_trans (a : List UInt8) : ∀ b c : List UInt8, Op.bytesLess a b = true → Op.bytesLess b c = true → Op.bytesLess a c = true := by
  induction a with
  | nil =>
    intro b c h1 h2
    cases c with
    | nil => cases b <;> simp [Op.bytesLess] at h2
    | cons z c => rfl
  | cons x a ih =>
    intro b c h1 h2
    cases b with
    | nil => simp [Op.bytesLess] at h1
    | cons y b =>
      cases c with
      | nil => simp [Op.bytesLess] at h2
      | cons z c =>
        simp only [Op.bytesLess, Bool.or_eq_true, decide_eq_true_eq, Bool.and_eq_true, beq_iff_eq, UInt8.lt_iff_toNat_lt] at h1 h2 ⊢
        rcases h1 with h1 | ⟨rfl, h1⟩
        · rcases h2 with h2 | ⟨rfl, h2⟩
          · exact Or.inl (by omega)
          · exact Or.inl h1
        · rcases h2 with h2 | ⟨rfl, h2⟩
          · exact Or.inl h2
          · exact Or.inr ⟨rfl, ih _ _ h1 h2⟩
theorem less_flip {a b : List UInt8} (h : ¬ Op.bytesLess a b = true) (hne : b ≠ a) : Op.bytesLess b a = true := by
  have := Go.Proofs.YtaookghbppimnaaHand.bytesLess_flip b a
  have h' : Op.bytesLess a b = false := by simpa using h
  rw [h', beq_eq_false_iff_ne.mpr hne] at this
  simpa using this
theorem less_ne {a b : List UInt8} (h : Op.bytesLess a b = true) : a ≠ b := by
  intro e
  subst e
  rw [less_irrefl] at h
  cases h
def letB (c : Int) : Bool := decide (97 ≤ c) && decide (c ≤ 122)
def digB (c : Int) : Bool := decide (48 ≤ c) && decide (c ≤ 57)
/-- From place i on, d letters or digits. -/
def restB (s : ByteArray) : Nat → Nat → Bool
  | 0, _ => true
  | d + 1, i => (letB (bt s i) || digB (bt s i)) && restB s d (i + 1)
/-- Is a text a name? -/
def nameB (s : ByteArray) : Bool := decide (0 < s.size) && decide (s.size ≤ 12) && letB (bt s 0) && restB s s.size 0
theorem letter_some (c : Int) : words_letter.f c = some (letB c) := by
  unfold words_letter.f letB
  split <;> rename_i h <;> simp [h]
theorem digit_some (c : Int) : words_digit.f c = some (digB c) := by
  unfold words_digit.f digB
  split <;> rename_i h <;> simp [h]
theorem toList_nil (s : ByteArray) : s.toList = [] ↔ s.size = 0 := by
  rw [ByteArray.toList_eq]
  constructor
  · intro h
    have := congrArg List.length h
    simpa using this
  · intro h
    apply List.eq_nil_of_length_eq_zero
    simpa using h
theorem words_Name_loop (s : ByteArray) (hs : s.size ≤ 12) (d : Nat) : ∀ (k i : Nat), s.size - i = d → i ≤ s.size → d < k → words_Name.l0 k s (s.size : Int) i = some (restB s d i) := by
  induction d with
  | zero =>
    intro k i hd hi hk
    obtain ⟨k, rfl⟩ : ∃ m, k = m + 1 := ⟨k - 1, by omega⟩
    simp only [words_Name.l0]
    rw [if_neg (by omega)]
    rfl
  | succ d ih =>
    intro k i hd hi hk
    obtain ⟨k, rfl⟩ : ∃ m, k = m + 1 := ⟨k - 1, by omega⟩
    have hw : wrap64 ((i : Int) + 1) = ((i + 1 : Nat) : Int) := by unfold wrap64; omega
    simp only [words_Name.l0]
    rw [if_pos (by omega), if_pos (by omega), if_pos (by omega), letter_some, digit_some, hw, ih k (i + 1) (by omega) (by omega) (by omega)]
    simp only [Option.bind_some, restB]
    cases letB (bt s i) <;> cases digB (bt s i) <;> simp
theorem words_Name_some (s : ByteArray) : words_Name.f 20 s = some (nameB s) := by
  unfold words_Name.f nameB
  by_cases h0 : s.size = 0
  · rw [if_pos ((toList_nil s).mpr h0)]
    simp [words_Name.j0, h0]
  · rw [if_neg (fun h => h0 ((toList_nil s).mp h))]
    by_cases h1 : (s.size : Int) > 12
    · rw [if_pos h1]
      have : ¬ s.size ≤ 12 := by omega
      simp [words_Name.j0, this]
    · rw [if_neg h1, if_pos (by omega), letter_some]
      have h2 : s.size ≤ 12 := by omega
      have h3 : 0 < s.size := by omega
      simp only [Option.bind_some, h2, h3, decide_true, Bool.true_and]
      have hl := words_Name_loop s h2 s.size 19 0 (by omega) (by omega) (by omega)
      cases letB (bt s 0)
      · simp [words_Name.j0]
      · simp only [words_Name.j0, Bool.not_true, Bool.false_eq_true, if_false]
        rw [Bool.true_and]
        exact hl
theorem refName_loop (s : ByteArray) (hs : s.size ≤ 9223372036854775806) (d : Nat) : ∀ i : Nat, 1 ≤ i → s.size - i = d → i ≤ s.size → Ev (fun k => contangoref03_Name.l0 k s i) (restB s d i && decide (0 < s.size) && decide (s.size ≤ 12)) := by
  induction d with
  | zero =>
    intro i h1 hd hi
    refine Ev.shift ?_
    simp only [contangoref03_Name.l0]
    refine Ev.neg (by omega) (Ev.pos (by omega) ?_)
    have e1 : decide ((s.size : Int) ≤ 12) = decide (s.size ≤ 12) := decide_eq_decide.mpr (by omega)
    have e2 : decide (0 < s.size) = true := decide_eq_true (by omega)
    rw [e1, e2]
    exact Ev.val _
  | succ d ih =>
    intro i h1 hd hi
    refine Ev.shift ?_
    simp only [contangoref03_Name.l0]
    have hw : wrap64 ((i : Int) + 1) = ((i + 1 : Nat) : Int) := by unfold wrap64; omega
    have h := ih (i + 1) (by omega) (by omega) (by omega)
    rw [hw]
    refine Ev.pos (by omega) (Ev.pos (by omega) ?_)
    simp only [restB, letB, digB]
    by_cases c1 : 97 ≤ bt s i
    · by_cases c2 : bt s i ≤ 122
      · simpa [c1, c2] using h
      · have c3 : ¬ bt s i < 48 := by omega
        have c4 : 57 < bt s i := by omega
        have c5 : ¬ bt s i ≤ 57 := by omega
        have c6 : ¬ (i : Int) = 0 := by omega
        simp only [c1, c2, c3, c4, c5, c6, ge_iff_le, gt_iff_lt, if_true, if_false, decide_true, decide_false, Bool.and_false, Bool.or_false, Bool.false_and]
        exact Ev.val _
    · by_cases c3 : bt s i < 48
      · have c6 : ¬ (i : Int) = 0 := by omega
        have c7 : ¬ 48 ≤ bt s i := by omega
        simp only [c1, c3, c6, c7, ge_iff_le, gt_iff_lt, if_true, if_false, decide_false, Bool.false_and, Bool.or_false]
        exact Ev.val _
      · have c6 : ¬ (i : Int) = 0 := by omega
        have c7 : 48 ≤ bt s i := by omega
        by_cases c4 : 57 < bt s i
        · have c5 : ¬ bt s i ≤ 57 := by omega
          simp only [c1, c3, c4, c5, c6, c7, ge_iff_le, gt_iff_lt, if_true, if_false, decide_true, decide_false, Bool.and_false, Bool.false_and, Bool.or_false]
          exact Ev.val _
        · have c5 : bt s i ≤ 57 := by omega
          simp only [c1, c3, c4, c5, c6, c7, ge_iff_le, gt_iff_lt, if_true, if_false, decide_true, decide_false, Bool.and_true, Bool.false_and, Bool.true_and, Bool.false_or]
          exact h
/-- What the document says of a name is what the code says. -/
theorem refName (s : ByteArray) (hs : s.size ≤ 9223372036854775806) : Ev (fun k => contangoref03_Name.f k s) (nameB s) := by
  simp only [contangoref03_Name.f]
  refine Ev.shift ?_
  simp only [contangoref03_Name.l0]
  by_cases h0 : s.size = 0
  · refine Ev.neg (by omega) (Ev.neg (by omega) ?_)
    have : nameB s = false := by simp [nameB, h0]
    rw [this]
    exact Ev.val _
  · have hw : wrap64 ((0 : Int) + 1) = ((1 : Nat) : Int) := by unfold wrap64; omega
    have h := refName_loop s hs (s.size - 1) 1 (by omega) (by omega) (by omega)
    refine Ev.pos (by omega) (Ev.pos (by omega) ?_)
    rw [hw]
    have hd : decide (0 < s.size) = true := decide_eq_true (by omega)
    obtain ⟨d, hdd⟩ : ∃ d, s.size = d + 1 := ⟨s.size - 1, by omega⟩
    have hn : nameB s = (letB (bt s 0) && (restB s (s.size - 1) 1 && decide (0 < s.size) && decide (s.size ≤ 12))) := by
      rw [hd]
      simp only [nameB, hd]
      rw [show restB s s.size 0 = ((letB (bt s 0) || digB (bt s 0)) && restB s (s.size - 1) 1) from by rw [hdd]; rfl]
      cases letB (bt s 0) <;> cases decide (s.size ≤ 12) <;> cases restB s (s.size - 1) 1 <;> simp
    rw [hn]
    simp only [letB]
    by_cases c1 : 97 ≤ bt s 0
    · by_cases c2 : bt s 0 ≤ 122
      · simp only [c1, c2, ge_iff_le, if_true, decide_true, Bool.true_and]
        exact h
      · simp only [c1, c2, ge_iff_le, if_true, if_false, decide_true, decide_false, Bool.and_false, Bool.false_and]
        exact Ev.val _
    · simp only [c1, ge_iff_le, if_true, if_false, decide_false, Bool.false_and]
      exact Ev.val _
/-- The first fault of a list, each element looked at beside the one ahead of it. -/
def scan {α : Type} (f : Option α → α → Int) : Option α → List α → Int
  | _, [] => 0
  | q, p :: r => if f q p = 0 then scan f (some p) r else f q p
/-- The element ahead of a place. -/
def prevAt {α : Type} (l : List α) (i : Nat) : Option α := if i = 0 then none else l[i - 1]?
theorem prevAt_succ {α : Type} (l : List α) (i : Nat) (h : i < l.length) : prevAt l (i + 1) = some l[i] := by
  simp [prevAt, h]
theorem prevAt_pos {α : Type} (l : List α) (i : Nat) (h0 : 0 < i) (h : i - 1 < l.length) : prevAt l i = some l[i - 1] := by
  rw [prevAt, if_neg (by omega), List.getElem?_eq_getElem h]
theorem scan_cons {α : Type} (f : Option α → α → Int) (q : Option α) (p : α) (r : List α) : scan f q (p :: r) = if f q p = 0 then scan f (some p) r else f q p := rfl
theorem and32 (n : Int) : Go.bits .and .i64 n 4294967295 = n % 4294967296 := by
  have h127 : (BitVec.ofInt 64 4294967295).toNat = 2 ^ 32 - 1 := by decide
  have key : (BitVec.ofInt 64 n &&& BitVec.ofInt 64 4294967295).toNat = (n % ((2 ^ 64 : Nat) : Int)).toNat % 2 ^ 32 := by
    rw [BitVec.toNat_and, BitVec.toNat_ofInt, h127, Nat.and_two_pow_sub_one_eq_mod]
  show IntKind.i64.wrap ((BitVec.ofInt 64 n &&& BitVec.ofInt 64 4294967295).toNat : Nat) = n % 4294967296
  rw [key, IntKind.wrap_i64]
  omega
/-- Is a number money? -/
def fitB (n : Int) : Bool := decide (-1152921504606846976 ≤ n ∧ n ≤ 1152921504606846976)
def sumI (l : List Int) : Int := l.foldr (· + ·) 0
/-- All together, or why that is not told. -/
def smV (l : List Int) (s : Int) : Int × Int := if l.all fitB = true then (if fitB (s + sumI l) = true then (s + sumI l, 0) else (0, 3)) else (0, 2)
theorem fits_some (n : Int) : cents_Fits.f n = some (fitB n) := by
  unfold cents_Fits.f fitB
  by_cases h : n ≥ -1152921504606846976
  · rw [if_pos h]
    congr 1
    exact decide_eq_decide.mpr ⟨fun h2 => ⟨h, h2⟩, fun h2 => h2.2⟩
  · rw [if_neg h]
    congr 1
    exact (decide_eq_false (by omega)).symm
theorem fitting_some (n : Int) : cents_fitting.f n = some (if fitB n = true then (n, 0) else (0, 3)) := by
  unfold cents_fitting.f
  rw [fits_some]
  simp only [Option.bind_some]
  split <;> rfl
theorem sumEnd (hi lo : Int) (h1 : -1152921504606846976 ≤ hi ∧ hi ≤ 1152921504606846976) (h2 : 0 ≤ lo ∧ lo ≤ 1152921504606846976) :
    (if (wrap64 (hi + (lo / 4294967296))) < (-268435456) then (some ((0 : Int), (3 : Int))) else (if (wrap64 (hi + (lo / 4294967296))) > 268435456 then (some (0, 3)) else ((cents_fitting.f (wrap64 ((wrap64 ((wrap64 (hi + (lo / 4294967296))) * 4294967296)) + (Go.bits .and .i64 lo 4294967295)))).bind fun bt => (some (bt.1, bt.2))))) = some (if fitB (hi * 4294967296 + lo) = true then (hi * 4294967296 + lo, 0) else (0, 3)) := by
  have e1 : wrap64 (hi + lo / 4294967296) = hi + lo / 4294967296 := wrap_small (by omega) (by omega)
  rw [e1, and32]
  by_cases c1 : hi + lo / 4294967296 < -268435456
  · rw [if_pos c1, if_neg]
    unfold fitB
    simp only [decide_eq_true_eq]
    omega
  · rw [if_neg c1]
    by_cases c2 : hi + lo / 4294967296 > 268435456
    · rw [if_pos c2, if_neg]
      unfold fitB
      simp only [decide_eq_true_eq]
      omega
    · rw [if_neg c2]
      have e2 : wrap64 ((hi + lo / 4294967296) * 4294967296) = (hi + lo / 4294967296) * 4294967296 := wrap_small (by omega) (by omega)
      have e3 : wrap64 ((hi + lo / 4294967296) * 4294967296 + lo % 4294967296) = hi * 4294967296 + lo := by
        rw [wrap_small (by omega) (by omega)]
        omega
      rw [e2, e3, fitting_some]
      rfl
theorem sumL (l : List Int) (hl : l.length ≤ 1000000) (n : Nat) : ∀ (i : Nat) (hi lo : Int), l.length - i = n → i ≤ l.length → -(268435456 * (i : Int)) ≤ hi → hi ≤ 268435456 * (i : Int) → 0 ≤ lo → lo ≤ 4294967296 * (i : Int) →
    Ev (fun k => cents_Sum.l0 k l hi lo (l.length : Int) (i : Int)) (smV (l.drop i) (hi * 4294967296 + lo)) := by
  induction n with
  | zero =>
    intro i hi lo hd hle h1 h2 h3 h4
    refine Ev.shift ?_
    simp only [cents_Sum.l0]
    rw [List.drop_eq_nil_of_le (by omega)]
    refine Ev.neg (by omega) ?_
    rw [sumEnd hi lo (by omega) (by omega)]
    exact Ev.valOf (by simp [smV, sumI])
  | succ n ih =>
    intro i hi lo hd hle h1 h2 h3 h4
    have hlt : i < l.length := by omega
    have hw : wrap64 ((i : Int) + 1) = ((i + 1 : Nat) : Int) := by unfold wrap64; omega
    refine Ev.shift ?_
    simp only [cents_Sum.l0, hw]
    have hr : rd l (i : Int) = l[i] := by simp [rd, List.getD_eq_getElem?_getD, hlt]
    rw [hr, List.drop_eq_getElem_cons hlt]
    refine Ev.pos (by omega) (Ev.pos (by omega) (Ev.pos (by omega) ?_))
    rw [fits_some, and32]
    simp only [Option.bind_some]
    by_cases hf : fitB l[i] = true
    · refine Ev.pos hf ?_
      have hf2 := hf
      unfold fitB at hf2
      simp only [decide_eq_true_eq] at hf2
      have e1 : wrap64 (hi + l[i] / 4294967296) = hi + l[i] / 4294967296 := wrap_small (by omega) (by omega)
      have e2 : wrap64 (lo + l[i] % 4294967296) = lo + l[i] % 4294967296 := wrap_small (by omega) (by omega)
      rw [e1, e2]
      have h := ih (i + 1) (hi + l[i] / 4294967296) (lo + l[i] % 4294967296) (by omega) (by omega) (by omega) (by omega) (by omega) (by omega)
      have e3 : smV (l[i] :: l.drop (i + 1)) (hi * 4294967296 + lo) = smV (l.drop (i + 1)) ((hi + l[i] / 4294967296) * 4294967296 + (lo + l[i] % 4294967296)) := by
        unfold smV
        rw [List.all_cons, hf, Bool.true_and]
        have e4 : hi * 4294967296 + lo + sumI (l[i] :: l.drop (i + 1)) = (hi + l[i] / 4294967296) * 4294967296 + (lo + l[i] % 4294967296) + sumI (l.drop (i + 1)) := by
          have : sumI (l[i] :: l.drop (i + 1)) = l[i] + sumI (l.drop (i + 1)) := rfl
          rw [this]
          omega
        rw [e4]
      rw [e3]
      exact h
    · have e : smV (l[i] :: l.drop (i + 1)) (hi * 4294967296 + lo) = (0, 2) := by
        unfold smV
        rw [List.all_cons, Bool.eq_false_iff.mpr hf, Bool.false_and]
        rfl
      rw [e]
      exact Ev.neg hf (Ev.val _)
/-- The sum of numbers of money, or why it is not told. -/
def sm (l : List Int) : Int × Int := smV l 0
theorem sm_ev (l : List Int) (hl : l.length ≤ 1000000) : Ev (fun k => cents_Sum.f k l) (sm l) := by
  simp only [cents_Sum.f]
  exact sumL l hl l.length 0 0 0 (by omega) (by omega) (by omega) (by omega) (by omega) (by omega)
theorem tq (x : Int) : x = 1073741824 * x.tdiv 1073741824 + x.tmod 1073741824 ∧ -1073741824 < x.tmod 1073741824 ∧ x.tmod 1073741824 < 1073741824 := by
  by_cases h : 0 ≤ x
  · rw [Int.tdiv_eq_ediv_of_nonneg h, Int.tmod_eq_emod_of_nonneg h]
    omega
  · obtain ⟨y, rfl⟩ : ∃ y, x = -y := ⟨-x, by omega⟩
    rw [Int.neg_tdiv, Int.neg_tmod, Int.tdiv_eq_ediv_of_nonneg (by omega), Int.tmod_eq_emod_of_nonneg (by omega)]
    omega
theorem fitsr_some (n : Int) : contangoref01_Fits.f n = some (fitB n) := by
  unfold contangoref01_Fits.f fitB
  by_cases h : n ≥ -1152921504606846976
  · rw [if_pos h]
    congr 1
    exact decide_eq_decide.mpr ⟨fun h2 => ⟨h, h2⟩, fun h2 => h2.2⟩
  · rw [if_neg h]
    congr 1
    exact (decide_eq_false (by omega)).symm
theorem sumrL (l : List Int) (hl : l.length ≤ 1000000) (n : Nat) : ∀ (i : Nat) (hi lo : Int), l.length - i = n → i ≤ l.length → -(1073741825 * (i : Int)) ≤ hi → hi ≤ 1073741825 * (i : Int) → -(1073741824 * (i : Int)) ≤ lo → lo ≤ 1073741824 * (i : Int) →
    Ev (fun k => contangoref01_Sum.l0 k l hi lo (i : Int)) (smV (l.drop i) (hi * 1073741824 + lo)) := by
  induction n with
  | zero =>
    intro i hi lo hd hle h1 h2 h3 h4
    refine Ev.shift ?_
    simp only [contangoref01_Sum.l0]
    rw [List.drop_eq_nil_of_le (by omega)]
    refine Ev.neg (by omega) ?_
    have ht := tq lo
    generalize hq : lo.tdiv 1073741824 = q at *
    generalize hr : lo.tmod 1073741824 = r at *
    clear hq hr
    have e0 : wrap64 q = q := wrap_small (by omega) (by omega)
    have e1 : wrap64 (hi + q) = hi + q := wrap_small (by omega) (by omega)
    rw [e0, e1]
    have e : smV ([] : List Int) (hi * 1073741824 + lo) = if fitB (hi * 1073741824 + lo) = true then (hi * 1073741824 + lo, 0) else (0, 3) := by simp [smV, sumI]
    rw [e]
    by_cases c1 : hi + q < -1073741825
    · have hn : ¬ fitB (hi * 1073741824 + lo) = true := by unfold fitB; simp only [decide_eq_true_eq]; omega
      rw [if_neg hn]
      exact Ev.pos c1 (Ev.val _)
    · refine Ev.neg c1 ?_
      by_cases c2 : hi + q > 1073741825
      · have hn : ¬ fitB (hi * 1073741824 + lo) = true := by unfold fitB; simp only [decide_eq_true_eq]; omega
        rw [if_neg hn]
        exact Ev.pos c2 (Ev.val _)
      · refine Ev.neg c2 ?_
        have e2 : wrap64 ((hi + q) * 1073741824) = (hi + q) * 1073741824 := wrap_small (by omega) (by omega)
        have e3 : wrap64 ((hi + q) * 1073741824 + r) = hi * 1073741824 + lo := by
          rw [wrap_small (by omega) (by omega)]
          omega
        rw [e2, e3, fitsr_some]
        simp only [Option.bind_some]
        exact Ev.both (fun _ => Ev.val _) (fun _ => Ev.val _)
  | succ n ih =>
    intro i hi lo hd hle h1 h2 h3 h4
    have hlt : i < l.length := by omega
    have hw : wrap64 ((i : Int) + 1) = ((i + 1 : Nat) : Int) := by unfold wrap64; omega
    refine Ev.shift ?_
    simp only [contangoref01_Sum.l0, hw]
    have hr : rd l (i : Int) = l[i] := by simp [rd, List.getD_eq_getElem?_getD, hlt]
    rw [hr, List.drop_eq_getElem_cons hlt]
    refine Ev.pos (by omega) (Ev.pos (by omega) ?_)
    rw [fitsr_some]
    simp only [Option.bind_some]
    by_cases hf : fitB l[i] = true
    · refine Ev.pos hf ?_
      have hf2 := hf
      unfold fitB at hf2
      simp only [decide_eq_true_eq] at hf2
      have ht := tq l[i]
      generalize hq : l[i].tdiv 1073741824 = q at *
      generalize hr : l[i].tmod 1073741824 = r at *
      have e0 : wrap64 q = q := wrap_small (by omega) (by omega)
      have e1 : wrap64 (hi + q) = hi + q := wrap_small (by omega) (by omega)
      have e2 : wrap64 (lo + r) = lo + r := wrap_small (by omega) (by omega)
      rw [e0, e1, e2]
      have h := ih (i + 1) (hi + q) (lo + r) (by omega) (by omega) (by omega) (by omega) (by omega) (by omega)
      have e3 : smV (l[i] :: l.drop (i + 1)) (hi * 1073741824 + lo) = smV (l.drop (i + 1)) ((hi + q) * 1073741824 + (lo + r)) := by
        unfold smV
        rw [List.all_cons, hf, Bool.true_and]
        have e4 : hi * 1073741824 + lo + sumI (l[i] :: l.drop (i + 1)) = (hi + q) * 1073741824 + (lo + r) + sumI (l.drop (i + 1)) := by
          have : sumI (l[i] :: l.drop (i + 1)) = l[i] + sumI (l.drop (i + 1)) := rfl
          rw [this]
          omega
        rw [e4]
      rw [e3]
      exact h
    · have e : smV (l[i] :: l.drop (i + 1)) (hi * 1073741824 + lo) = (0, 2) := by
        unfold smV
        rw [List.all_cons, Bool.eq_false_iff.mpr hf, Bool.false_and]
        rfl
      rw [e]
      exact Ev.neg hf (Ev.val _)
theorem smr_ev (l : List Int) (hl : l.length ≤ 1000000) : Ev (fun k => contangoref01_Sum.f k l) (sm l) := by
  simp only [contangoref01_Sum.f]
  exact sumrL l hl l.length 0 0 0 (by omega) (by omega) (by omega) (by omega) (by omega) (by omega)
/-- What may be wrong with a member's losses, of n scenarios. -/
def lsE (n : Int) (x : S49) : Int := if (x.f2.length : Int) < 1 ∨ (x.f2.length : Int) > 32 ∨ (x.f2.length : Int) ≠ n then 27 else if x.f2.all fitB = true then (if x.f3 < 0 ∨ x.f3 > 1152921504606846976 then 2 else 0) else 2
def lsF (n : Int) (q : Option S49) (x : S49) : Int :=
  if (nameB x.f0 && nameB x.f1) = true then (match q with | none => lsE n x | some q => if Op.bytesLess q.f0.toList x.f0.toList = true then lsE n x else 12) else 10
def lsA (l : List S49) : Int := if l.length = 0 ∨ l.length > 32 then 8 else scan (lsF ((rd_T49 l 0).f2.length : Int)) none l
theorem rd_ls (l : List S49) (i : Nat) (h : i < l.length) : rd_T49 l (i : Int) = l[i] := by simp [rd_T49, h]
theorem name_ev (s : ByteArray) : Ev (fun k => words_Name.f k s) (nameB s) := Ev.of (words_Name_some s) (fun k => words_Name.mono _ k)
theorem rd_at (l : List Int) (i : Nat) (h : i < l.length) : rd l (i : Int) = l[i] := by simp [rd, h]
theorem oneL (x0 x1 : ByteArray) (xs : List Int) (m : Int) (hx : xs.length ≤ 32) (n : Nat) : ∀ i : Nat, xs.length - i = n → i ≤ xs.length →
    Ev (fun k => stress_one.l0 k xs (xs.length : Int) (i : Int) x0 x1 xs m) (if (xs.drop i).all fitB = true then (if m < 0 ∨ m > 1152921504606846976 then 2 else 0) else 2) := by
  induction n with
  | zero =>
    intro i hi hle
    refine Ev.shift ?_
    simp only [stress_one.l0]
    rw [List.drop_eq_nil_of_le (by omega), List.all_nil, if_pos rfl]
    refine Ev.neg (by omega) ?_
    by_cases h1 : m < 0
    · rw [if_pos (show m < 0 ∨ m > 1152921504606846976 from .inl h1)]; exact Ev.pos h1 (Ev.val _)
    · refine Ev.neg h1 ?_
      by_cases h2 : m > 1152921504606846976
      · rw [if_pos (show m < 0 ∨ m > 1152921504606846976 from .inr h2)]; exact Ev.pos h2 (Ev.val _)
      · rw [if_neg (show ¬ (m < 0 ∨ m > 1152921504606846976) from fun h => h.elim h1 h2)]; exact Ev.neg h2 (Ev.val _)
  | succ n ih =>
    intro i hi hle
    have hlt : i < xs.length := by omega
    have hw : wrap64 ((i : Int) + 1) = ((i + 1 : Nat) : Int) := by unfold wrap64; omega
    refine Ev.shift ?_
    simp only [stress_one.l0, hw, rd_at xs i hlt, fits_some]
    rw [List.drop_eq_getElem_cons hlt, List.all_cons]
    refine Ev.pos (by omega) (Ev.pos (by omega) (Ev.pos (by omega) ?_))
    simp only [Option.bind_some]
    cases hf : fitB xs[i] with
    | true => rw [Bool.true_and]; exact Ev.pos rfl (ih (i + 1) (by omega) (by omega))
    | false => rw [Bool.false_and, if_neg (by decide)]; exact Ev.neg (by decide) (Ev.val _)
theorem lsE_ev (n : Int) (x : S49) : Ev (fun k => stress_one.f k x.f0 x.f1 x.f2 x.f3 n) (lsE n x) := by
  simp only [stress_one.f, lsE]
  have key : ∀ b : Bool, (b = false → x.f2.length ≤ 32) → Ev (fun k => stress_one.j0 k b x.f0 x.f1 x.f2 x.f3) (if b = true then 27 else if x.f2.all fitB = true then (if x.f3 < 0 ∨ x.f3 > 1152921504606846976 then 2 else 0) else 2) := by
    intro b hb
    refine Ev.shift ?_
    simp only [stress_one.j0]
    cases b with
    | true => rw [if_pos rfl]; exact Ev.pos rfl (Ev.val _)
    | false =>
      rw [if_neg (by decide)]
      refine Ev.neg (by decide) ?_
      have := oneL x.f0 x.f1 x.f2 x.f3 (hb rfl) x.f2.length 0 (by omega) (by omega)
      simpa using this
  by_cases h1 : (x.f2.length : Int) < 1
  · rw [if_pos (.inl h1)]
    refine Ev.pos h1 ?_
    have := key true (fun h => by cases h)
    rwa [if_pos rfl] at this
  · refine Ev.neg h1 ?_
    by_cases h2 : (x.f2.length : Int) > 32
    · rw [if_pos (.inr (.inl h2))]
      refine Ev.pos h2 ?_
      have := key true (fun h => by cases h)
      rwa [if_pos rfl] at this
    · refine Ev.neg h2 ?_
      have := key ((x.f2.length : Int) != n) (fun _ => by omega)
      by_cases h3 : (x.f2.length : Int) ≠ n
      · rw [if_pos (.inr (.inr h3))]
        rwa [if_pos (by simpa using h3)] at this
      · rw [if_neg (fun h => h.elim h1 (fun h => h.elim h2 h3))]
        rwa [if_neg (by simpa using h3)] at this
theorem lsL (l : List S49) (hl : l.length ≤ 32) (h0 : 0 < l.length) (n : Nat) : ∀ i : Nat, l.length - i = n → i ≤ l.length →
    Ev (fun k => stress_Check.l0 k l l (l.length : Int) (i : Int)) (scan (lsF ((rd_T49 l 0).f2.length : Int)) (prevAt l i) (l.drop i)) := by
  induction n with
  | zero =>
    intro i hi hle
    refine Ev.shift ?_
    simp only [stress_Check.l0]
    rw [List.drop_eq_nil_of_le (by omega)]
    exact Ev.neg (by omega) (Ev.val _)
  | succ n ih =>
    intro i hi hle
    have hlt : i < l.length := by omega
    have hw : wrap64 ((i : Int) + 1) = ((i + 1 : Nat) : Int) := by unfold wrap64; omega
    have ih2 := ih (i + 1) (by omega) (by omega)
    rw [prevAt_succ l i hlt] at ih2
    have j3 : ∀ b : Bool, Ev (fun k => stress_Check.j3 k l l (l.length : Int) (i : Int) b l[i].f0 l[i].f1 l[i].f2 l[i].f3) (if b = true then 12 else if lsE ((rd_T49 l 0).f2.length : Int) l[i] = 0 then scan (lsF ((rd_T49 l 0).f2.length : Int)) (some l[i]) (l.drop (i + 1)) else lsE ((rd_T49 l 0).f2.length : Int) l[i]) := by
      intro b
      refine Ev.shift ?_
      simp only [stress_Check.j3, hw]
      refine Ev.both (fun _ => Ev.val _) (fun _ => Ev.pos (by omega) (Ev.bind (lsE_ev _ _) (Ev.both (fun _ => ih2) (fun _ => Ev.val _))))
    have j2 : ∀ b : Bool, Ev (fun k => stress_Check.j2 k l (i : Int) l (l.length : Int) (i : Int) b l[i].f0 l[i].f1 l[i].f2 l[i].f3) (if b = true then 10 else (match prevAt l i with | none => (if lsE ((rd_T49 l 0).f2.length : Int) l[i] = 0 then scan (lsF ((rd_T49 l 0).f2.length : Int)) (some l[i]) (l.drop (i + 1)) else lsE ((rd_T49 l 0).f2.length : Int) l[i]) | some q => if Op.bytesLess q.f0.toList l[i].f0.toList = true then (if lsE ((rd_T49 l 0).f2.length : Int) l[i] = 0 then scan (lsF ((rd_T49 l 0).f2.length : Int)) (some l[i]) (l.drop (i + 1)) else lsE ((rd_T49 l 0).f2.length : Int) l[i]) else 12)) := by
      intro b
      refine Ev.shift ?_
      simp only [stress_Check.j2]
      refine Ev.both (fun _ => Ev.val _) (fun _ => ?_)
      by_cases hz : i = 0
      · subst hz
        refine Ev.neg (by omega) ?_
        have := j3 false
        rwa [if_neg (by decide)] at this
      · have hw2 : wrap64 ((i : Int) - 1) = ((i - 1 : Nat) : Int) := by unfold wrap64; omega
        rw [prevAt_pos l i (by omega) (by omega)]
        simp only [hw2, rd_ls l (i - 1) (by omega)]
        refine Ev.pos (by omega) (Ev.pos (by omega) (Ev.pos (by omega) ?_))
        have := j3 (!(Op.bytesLess l[i - 1].f0.toList l[i].f0.toList))
        cases hb : Op.bytesLess l[i - 1].f0.toList l[i].f0.toList with
        | true => rw [hb] at this; simpa using this
        | false => rw [hb] at this; simpa using this
    refine Ev.shift ?_
    simp only [stress_Check.l0, rd_ls l i hlt]
    rw [List.drop_eq_getElem_cons hlt, scan_cons]
    refine Ev.pos (by omega) (Ev.pos (by omega) (Ev.pos (by omega) (Ev.bind (name_ev _) ?_)))
    cases hn0 : nameB l[i].f0 with
    | false =>
      refine Ev.neg (by decide) ?_
      have := j2 true
      rw [if_pos rfl] at this
      unfold lsF
      rw [hn0, Bool.false_and, if_neg (show ¬ (false = true) by decide), if_neg (show ¬ ((10 : Int) = 0) by decide)]
      exact this
    | true =>
      refine Ev.pos rfl (Ev.bind (name_ev _) ?_)
      cases hn1 : nameB l[i].f1 with
      | false =>
        have := j2 true
        rw [if_pos rfl] at this
        unfold lsF
        rw [hn0, hn1, Bool.true_and, if_neg (show ¬ (false = true) by decide), if_neg (show ¬ ((10 : Int) = 0) by decide)]
        exact this
      | true =>
        have := j2 false
        rw [if_neg (by decide)] at this
        unfold lsF
        rw [hn0, hn1, Bool.true_and, if_pos rfl]
        cases hq : prevAt l i with
        | none => rw [hq] at this; exact this
        | some q =>
          rw [hq] at this
          simp only at this ⊢
          by_cases hb : Op.bytesLess q.f0.toList l[i].f0.toList = true
          · rw [if_pos hb] at this
            rw [if_pos hb]
            exact this
          · rw [if_neg hb] at this
            rw [if_neg hb, if_neg (by decide)]
            exact this
theorem lsA_ev (l : List S49) : Ev (fun k => stress_Check.f k l) (lsA l) := by
  simp only [stress_Check.f]
  unfold lsA
  have key : ∀ b : Bool, (b = false → l.length ≤ 32 ∧ 0 < l.length) → Ev (fun k => stress_Check.j0 k l b) (if b = true then 8 else scan (lsF ((rd_T49 l 0).f2.length : Int)) none l) := by
    intro b hb
    refine Ev.shift ?_
    simp only [stress_Check.j0]
    cases b with
    | true => rw [if_pos rfl]; exact Ev.pos rfl (Ev.val _)
    | false =>
      rw [if_neg (by decide)]
      exact Ev.neg (by decide) (lsL l (hb rfl).1 (hb rfl).2 l.length 0 (by omega) (by omega))
  by_cases h : l.length = 0
  · rw [if_pos (.inl h)]
    refine Ev.pos (by omega) ?_
    have := key true (fun h => by cases h)
    rwa [if_pos rfl] at this
  · refine Ev.neg (by omega) ?_
    have := key (decide ((l.length : Int) > 32)) (fun hb => by have := of_decide_eq_false hb; omega)
    by_cases h2 : l.length > 32
    · rw [if_pos (.inr h2)]
      rwa [if_pos (decide_eq_true (by omega))] at this
    · rw [if_neg (fun hc => hc.elim h h2)]
      rwa [if_neg (by rw [decide_eq_true_eq]; omega)] at this
/-- What lies behind a check that passes. -/
theorem scan_all {α : Type} (f : Option α → α → Int) : ∀ (l : List α) (q : Option α), scan f q l = 0 → ∀ x ∈ l, ∃ q', f q' x = 0 := by
  intro l
  induction l with
  | nil => intro q h x hx; cases hx
  | cons p r ih =>
    intro q h x hx
    rw [scan_cons] at h
    by_cases hc : f q p = 0
    · rw [if_pos hc] at h
      rcases List.mem_cons.mp hx with rfl | hx
      · exact ⟨q, hc⟩
      · exact ih _ h x hx
    · rw [if_neg hc] at h
      exact absurd h hc
theorem name_size {s : ByteArray} (h : nameB s = true) : 0 < s.size ∧ s.size ≤ 12 := by
  unfold nameB at h
  simp only [Bool.and_eq_true, decide_eq_true_eq] at h
  exact ⟨h.1.1.1, h.1.1.2⟩
structure Good (N : Nat) (x : S49) : Prop where
  n0 : nameB x.f0 = true
  n1 : nameB x.f1 = true
  len : x.f2.length = N
  le : N ≤ 32
  pos : 0 < N
  fit : x.f2.all fitB = true
  m0 : 0 ≤ x.f3
  m1 : x.f3 ≤ 1152921504606846976
theorem lsE_zero {n : Int} {x : S49} (h : lsE n x = 0) : 1 ≤ (x.f2.length : Int) ∧ (x.f2.length : Int) ≤ 32 ∧ (x.f2.length : Int) = n ∧ x.f2.all fitB = true ∧ 0 ≤ x.f3 ∧ x.f3 ≤ 1152921504606846976 := by
  unfold lsE at h
  split at h
  · cases h
  · rename_i h1
    split at h
    · rename_i h2
      split at h
      · cases h
      · rename_i h3
        refine ⟨?_, ?_, ?_, h2, ?_, ?_⟩ <;> omega
    · cases h
theorem lsA_good {l : List S49} (h : lsA l = 0) : 0 < l.length ∧ l.length ≤ 32 ∧ ∀ x ∈ l, Good (rd_T49 l 0).f2.length x := by
  unfold lsA at h
  split at h
  · cases h
  · rename_i hl
    refine ⟨by omega, by omega, fun x hx => ?_⟩
    obtain ⟨q, hq⟩ := scan_all _ _ _ h x hx
    unfold lsF at hq
    split at hq
    · rename_i hn
      simp only [Bool.and_eq_true] at hn
      have he : lsE ((rd_T49 l 0).f2.length : Int) x = 0 := by
        split at hq
        · exact hq
        · split at hq
          · exact hq
          · cases hq
      obtain ⟨h1, h2, h3, h4, h5, h6⟩ := lsE_zero he
      exact ⟨hn.1, hn.2, by omega, by omega, by omega, h4, h5, h6⟩
    · cases hq
def bvx (a : Int) (x : S49) : Int := mx (wrap64 (rd x.f2 a - x.f3)) 0
/-- What a group's members have bare. -/
def bv (l : List S49) (a : Int) (g : ByteArray) : List Int := (l.filter (fun x => strQ x.f1 g)).map (bvx a)
/-- The groups, as they come. -/
def ded : List ByteArray → List S49 → List ByteArray
  | t, [] => t
  | t, x :: r => ded (if t.any (fun y => strQ y x.f1) = true then t else t ++ [x.f1]) r
def gn (l : List S49) : List ByteArray := sortS (ded [] l)
def nsA (l : List S49) (a : Int) : List ByteArray → List Int → List Int × Int
  | [], t => (t, 0)
  | s :: r, t => if (sm (bv l a s)).2 = 0 then nsA l a r (t ++ [(sm (bv l a s)).1]) else ([], (sm (bv l a s)).2)
def bareV (l : List S49) (a : Int) : List ByteArray × List Int × Int :=
  if lsA l = 0 then (if a < 0 ∨ a ≥ ((rd_T49 l 0).f2.length : Int) then ([], [], 27) else if (nsA l a (gn l) []).2 = 0 then (gn l, (nsA l a (gn l) []).1, 0) else ([], [], (nsA l a (gn l) []).2)) else ([], [], lsA l)
theorem strQ_refl (x : ByteArray) : strQ x x = true := by simp [strQ]
theorem ded_mem (g : ByteArray) : ∀ (l : List S49) (t : List ByteArray), g ∈ ded t l ↔ g ∈ t ∨ ∃ x ∈ l, x.f1 = g := by
  intro l
  induction l with
  | nil => intro t; simp [ded]
  | cons x r ih =>
    intro t
    rw [ded, ih]
    by_cases h : t.any (fun y => strQ y x.f1) = true
    · rw [if_pos h]
      obtain ⟨y, hy, hq⟩ := List.any_eq_true.mp h
      have := (strQ_iff _ _).mp hq
      subst this
      constructor
      · rintro (h1 | ⟨z, hz, e⟩)
        · exact .inl h1
        · exact .inr ⟨z, List.mem_cons_of_mem _ hz, e⟩
      · rintro (h1 | ⟨z, hz, e⟩)
        · exact .inl h1
        · rcases List.mem_cons.mp hz with rfl | hz
          · exact .inl (e ▸ hy)
          · exact .inr ⟨z, hz, e⟩
    · rw [if_neg h]
      constructor
      · rintro (h1 | ⟨z, hz, e⟩)
        · rcases List.mem_append.mp h1 with h1 | h1
          · exact .inl h1
          · exact .inr ⟨x, List.mem_cons_self, (List.mem_singleton.mp h1).symm⟩
        · exact .inr ⟨z, List.mem_cons_of_mem _ hz, e⟩
      · rintro (h1 | ⟨z, hz, e⟩)
        · exact .inl (List.mem_append_left _ h1)
        · rcases List.mem_cons.mp hz with rfl | hz
          · exact .inl (List.mem_append_right _ (List.mem_singleton.mpr e.symm))
          · exact .inr ⟨z, hz, e⟩
theorem ded_len : ∀ (l : List S49) (t : List ByteArray), (ded t l).length ≤ t.length + l.length := by
  intro l
  induction l with
  | nil => intro t; simp [ded]
  | cons x r ih =>
    intro t
    rw [ded]
    have := ih (if t.any (fun y => strQ y x.f1) = true then t else t ++ [x.f1])
    split at this
    · rename_i h
      rw [if_pos h]
      simp only [List.length_cons]
      omega
    · rename_i h
      rw [if_neg h]
      simp only [List.length_append, List.length_cons, List.length_nil] at this ⊢
      omega
theorem ded_nodup : ∀ (l : List S49) (t : List ByteArray), t.Nodup → (ded t l).Nodup := by
  intro l
  induction l with
  | nil => intro t h; exact h
  | cons x r ih =>
    intro t h
    rw [ded]
    apply ih
    by_cases hc : t.any (fun y => strQ y x.f1) = true
    · rw [if_pos hc]; exact h
    · rw [if_neg hc, List.nodup_append]
      refine ⟨h, by simp, fun y hy z hz e => hc (List.any_eq_true.mpr ⟨y, hy, ?_⟩)⟩
      rw [List.mem_singleton] at hz
      rw [e, hz]
      exact strQ_refl _
theorem gn_mem (l : List S49) (g : ByteArray) : g ∈ gn l ↔ ∃ x ∈ l, x.f1 = g := by
  unfold gn
  rw [(sortS_perm _).mem_iff, ded_mem]
  simp
theorem gn_len (l : List S49) : (gn l).length ≤ l.length := by
  unfold gn
  rw [(sortS_perm _).length_eq]
  have := ded_len l []
  simpa using this
/-- The groups rise. -/
theorem gn_sorted (l : List S49) : (gn l).Pairwise fun a b => Op.bytesLess a.toList b.toList = true := by
  have h1 := sortS_sorted (ded [] l)
  have h2 : (sortS (ded [] l)).Pairwise fun a b => a ≠ b := (sortS_perm _).nodup_iff.mpr (ded_nodup l [] List.nodup_nil)
  refine (h1.and h2).imp (fun {a b} h => ?_)
  have h3 := (leS a b).mpr h.1
  exact less_flip (by rw [h3]; decide) (fun e => h.2 (by
    have e1 : strQ a b = true := by unfold strQ; rw [e, beq_self_eq_true]
    exact (strQ_iff _ _).mp e1))
theorem bv_cons (x : S49) (r : List S49) (a : Int) (g : ByteArray) : bv (x :: r) a g = (if strQ x.f1 g = true then [bvx a x] else []) ++ bv r a g := by
  unfold bv
  rw [List.filter_cons]
  split <;> simp
theorem go_ok (a : Int) : ∀ (l : List S49) (t : List ByteArray) (m : List (ByteArray × List Int)), (∀ x ∈ l, x.f1.size ≤ 1000000 ∧ 0 ≤ a ∧ a < x.f2.length) → t.length + l.length ≤ 1000 →
    (∀ g, ((YtaookghbppimnaaHand.look strQ m g).getD []).length + l.length ≤ 1000) → (∀ g, ((YtaookghbppimnaaHand.look strQ m g).getD []).length = 0 ↔ t.any (fun y => strQ y g) = false) →
    ∃ m', stress_Bare.go a l t m = some (ded t l, m') ∧ ∀ g, (YtaookghbppimnaaHand.look strQ m' g).getD [] = (YtaookghbppimnaaHand.look strQ m g).getD [] ++ bv l a g := by
  intro l
  induction l with
  | nil => intro t m _ _ _ _; exact ⟨m, rfl, fun g => by simp [bv]⟩
  | cons x r ih =>
    intro t m hx ht hm hz
    obtain ⟨h1, h2, h3⟩ := hx x List.mem_cons_self
    have hmx := hm x.f1
    simp only [List.length_cons] at ht hmx
    rw [stress_Bare.go, if_pos h1, if_pos (by omega), if_pos (by omega), if_pos ⟨h2, h3⟩]
    have hlook : ∀ g, (YtaookghbppimnaaHand.look strQ (YtaookghbppimnaaHand.put strQ x.f1 (((YtaookghbppimnaaHand.look strQ m x.f1).getD []) ++ [mx (wrap64 (rd x.f2 a - x.f3)) 0]) m) g).getD [] = (YtaookghbppimnaaHand.look strQ m g).getD [] ++ (if strQ x.f1 g = true then [bvx a x] else []) := by
      intro g
      rw [YtaookghbppimnaaHand.look_put _ _ strQ_iff]
      by_cases hg : strQ x.f1 g = true
      · rw [if_pos hg, if_pos hg]
        have := (strQ_iff _ _).mp hg
        subst this
        rfl
      · rw [if_neg hg, if_neg hg, List.append_nil]
    have hif : (if ((YtaookghbppimnaaHand.look strQ m x.f1).getD []).length = 0 then t ++ [x.f1] else t) = (if t.any (fun y => strQ y x.f1) = true then t else t ++ [x.f1]) := by
      by_cases hc : t.any (fun y => strQ y x.f1) = true
      · rw [if_pos hc, if_neg (fun e => by rw [(hz _).mp e] at hc; cases hc)]
      · rw [if_neg hc, if_pos ((hz _).mpr (eq_false_of_ne_true hc))]
    rw [hif, ded]
    obtain ⟨m', e1, e2⟩ := ih (if t.any (fun y => strQ y x.f1) = true then t else t ++ [x.f1]) (YtaookghbppimnaaHand.put strQ x.f1 (((YtaookghbppimnaaHand.look strQ m x.f1).getD []) ++ [mx (wrap64 (rd x.f2 a - x.f3)) 0]) m) (fun y hy => hx y (List.mem_cons_of_mem _ hy)) (by split <;> (try simp) <;> omega) (fun g => by
      rw [hlook]
      have := hm g
      simp only [List.length_cons] at this
      split <;> (try simp) <;> omega) (fun g => by
      rw [hlook]
      by_cases hg : strQ x.f1 g = true
      · rw [if_pos hg]
        have := (strQ_iff _ _).mp hg
        subst this
        by_cases hc : t.any (fun y => strQ y x.f1) = true
        · rw [if_pos hc, hc]
          simp
        · rw [if_neg hc]
          simp [strQ_refl]
      · rw [if_neg hg, List.append_nil, hz g]
        have hg' := eq_false_of_ne_true hg
        by_cases hc : t.any (fun y => strQ y x.f1) = true
        · rw [if_pos hc]
        · rw [if_neg hc]
          simp [hg'])
    refine ⟨m', e1, fun g => ?_⟩
    rw [e2, hlook, bv_cons, List.append_assoc]
theorem bv_len (l : List S49) (a : Int) (g : ByteArray) : (bv l a g).length ≤ l.length := by
  unfold bv
  rw [List.length_map]
  exact List.length_filter_le _ _
theorem sums_ev (l : List S49) (a : Int) (m : List (ByteArray × List Int)) (hl : l.length ≤ 1000) (hm : ∀ g, (YtaookghbppimnaaHand.look strQ m g).getD [] = bv l a g) : ∀ (r : List ByteArray) (t : List Int), (∀ s ∈ r, s.size ≤ 1000000) → t.length + r.length ≤ 1000 →
    Ev (fun k => stress_Bare.sums k m r t) (nsA l a r t) := by
  intro r
  induction r with
  | nil => intro t _ _; exact Ev.val _
  | cons s r ih =>
    intro t hs ht
    simp only [List.length_cons] at ht
    simp only [stress_Bare.sums, nsA, hm]
    refine Ev.pos (hs s List.mem_cons_self) (Ev.bind (sm_ev _ (by have := bv_len l a s; omega)) (Ev.both (fun _ => Ev.pos (by omega) ?_) (fun _ => Ev.val _)))
    exact ih _ (fun y hy => hs y (List.mem_cons_of_mem _ hy)) (by simp; omega)
theorem bare_ev (l : List S49) (a : Int) : Ev (fun k => stress_Bare.f k l a) (bareV l a) := by
  simp only [stress_Bare.f, bareV]
  refine Ev.bind (lsA_ev l) (Ev.both (fun h0 => ?_) (fun _ => Ev.val _))
  obtain ⟨hl0, hl1, hg⟩ := lsA_good h0
  by_cases ha : a < 0
  · rw [if_pos (show a < 0 ∨ _ from .inl ha)]
    exact Ev.pos ha (Ev.val _)
  · refine Ev.neg ha (Ev.pos (by omega) ?_)
    by_cases hb : a < ((rd_T49 l 0).f2.length : Int)
    · rw [if_neg (show ¬ (a < 0 ∨ a ≥ ((rd_T49 l 0).f2.length : Int)) by omega)]
      refine Ev.pos hb ?_
      obtain ⟨m', e1, e2⟩ := go_ok a l [] [] (fun x hx => ⟨by have := name_size (hg x hx).n1; omega, by omega, by rw [(hg x hx).len]; exact hb⟩) (by simp; omega) (fun g => by simp [YtaookghbppimnaaHand.look_nil]; omega) (fun g => by simp [YtaookghbppimnaaHand.look_nil])
      rw [e1]
      simp only [Option.bind_some]
      have hd := ded_len l []
      simp only [List.length_nil] at hd
      refine Ev.pos (by omega) (Ev.bind (sums_ev l a m' (by omega) (fun g => by rw [e2]; simp [YtaookghbppimnaaHand.look_nil]) (sortS (ded [] l)) [] (fun s hs => ?_) ?_) (Ev.both (fun _ => Ev.val _) (fun _ => Ev.val _)))
      · obtain ⟨x, hx, rfl⟩ := (gn_mem l s).mp hs
        have := name_size (hg x hx).n1
        omega
      · have := gn_len l
        unfold gn at this
        simp only [List.length_nil]
        omega
    · rw [if_pos (show a < 0 ∨ a ≥ ((rd_T49 l 0).f2.length : Int) by omega)]
      exact Ev.neg hb (Ev.val _)
theorem onerL (x0 x1 : ByteArray) (xs : List Int) (m : Int) (hx : xs.length ≤ 32) (n : Nat) : ∀ i : Nat, xs.length - i = n → i ≤ xs.length →
    Ev (fun k => contangoref39_one.l0 k (i : Int) x0 x1 xs m) (if (xs.drop i).all fitB = true then (if m < 0 ∨ m > 1152921504606846976 then 2 else 0) else 2) := by
  induction n with
  | zero =>
    intro i hi hle
    refine Ev.shift ?_
    simp only [contangoref39_one.l0]
    rw [List.drop_eq_nil_of_le (by omega), List.all_nil, if_pos rfl]
    refine Ev.neg (by omega) ?_
    by_cases h1 : m < 0
    · rw [if_pos (show m < 0 ∨ m > 1152921504606846976 from .inl h1)]; exact Ev.pos h1 (Ev.val _)
    · refine Ev.neg h1 ?_
      rw [fitsr_some]
      simp only [Option.bind_some]
      by_cases h2 : m > 1152921504606846976
      · rw [if_pos (show m < 0 ∨ m > 1152921504606846976 from .inr h2)]; exact Ev.neg (by unfold fitB; simp only [decide_eq_true_eq]; omega) (Ev.val _)
      · rw [if_neg (show ¬ (m < 0 ∨ m > 1152921504606846976) from fun h => h.elim h1 h2)]; exact Ev.pos (by unfold fitB; simp only [decide_eq_true_eq]; omega) (Ev.val _)
  | succ n ih =>
    intro i hi hle
    have hlt : i < xs.length := by omega
    have hw : wrap64 ((i : Int) + 1) = ((i + 1 : Nat) : Int) := by unfold wrap64; omega
    refine Ev.shift ?_
    simp only [contangoref39_one.l0, hw, rd_at xs i hlt, fitsr_some]
    rw [List.drop_eq_getElem_cons hlt, List.all_cons]
    refine Ev.pos (by omega) (Ev.pos (by omega) ?_)
    simp only [Option.bind_some]
    cases hf : fitB xs[i] with
    | true => rw [Bool.true_and]; exact Ev.pos rfl (ih (i + 1) (by omega) (by omega))
    | false => rw [Bool.false_and, if_neg (by decide)]; exact Ev.neg (by decide) (Ev.val _)
theorem lsEr_ev (n : Int) (x : S49) : Ev (fun k => contangoref39_one.f k x.f0 x.f1 x.f2 x.f3 n) (lsE n x) := by
  simp only [contangoref39_one.f, lsE]
  have key : ∀ b : Bool, (b = false → x.f2.length ≤ 32) → Ev (fun k => contangoref39_one.j0 k b x.f0 x.f1 x.f2 x.f3) (if b = true then 27 else if x.f2.all fitB = true then (if x.f3 < 0 ∨ x.f3 > 1152921504606846976 then 2 else 0) else 2) := by
    intro b hb
    refine Ev.shift ?_
    simp only [contangoref39_one.j0]
    cases b with
    | true => rw [if_pos rfl]; exact Ev.pos rfl (Ev.val _)
    | false =>
      rw [if_neg (by decide)]
      refine Ev.neg (by decide) ?_
      have := onerL x.f0 x.f1 x.f2 x.f3 (hb rfl) x.f2.length 0 (by omega) (by omega)
      simpa using this
  by_cases h1 : (x.f2.length : Int) < 1
  · rw [if_pos (.inl h1)]
    refine Ev.pos h1 ?_
    have := key true (fun h => by cases h)
    rwa [if_pos rfl] at this
  · refine Ev.neg h1 ?_
    by_cases h2 : (x.f2.length : Int) > 32
    · rw [if_pos (.inr (.inl h2))]
      refine Ev.pos h2 ?_
      have := key true (fun h => by cases h)
      rwa [if_pos rfl] at this
    · refine Ev.neg h2 ?_
      have := key ((x.f2.length : Int) != n) (fun _ => by omega)
      by_cases h3 : (x.f2.length : Int) ≠ n
      · rw [if_pos (.inr (.inr h3))]
        rwa [if_pos (by simpa using h3)] at this
      · rw [if_neg (fun h => h.elim h1 (fun h => h.elim h2 h3))]
        rwa [if_neg (by simpa using h3)] at this
theorem lsrL (l : List S49) (hs : ∀ x ∈ l, x.f0.size ≤ 9223372036854775806 ∧ x.f1.size ≤ 9223372036854775806) (hl : l.length ≤ 32) (h0 : 0 < l.length) (n : Nat) : ∀ i : Nat, l.length - i = n → i ≤ l.length →
    Ev (fun k => contangoref39_Check.l0 k l (i : Int)) (scan (lsF ((rd_T49 l 0).f2.length : Int)) (prevAt l i) (l.drop i)) := by
  induction n with
  | zero =>
    intro i hi hle
    refine Ev.shift ?_
    simp only [contangoref39_Check.l0]
    rw [List.drop_eq_nil_of_le (by omega)]
    exact Ev.neg (by omega) (Ev.val _)
  | succ n ih =>
    intro i hi hle
    have hlt : i < l.length := by omega
    have hw : wrap64 ((i : Int) + 1) = ((i + 1 : Nat) : Int) := by unfold wrap64; omega
    have ih2 := ih (i + 1) (by omega) (by omega)
    rw [prevAt_succ l i hlt] at ih2
    have j3 : ∀ b : Bool, Ev (fun k => contangoref39_Check.j3 k l (i : Int) b) (if b = true then 12 else if lsE ((rd_T49 l 0).f2.length : Int) l[i] = 0 then scan (lsF ((rd_T49 l 0).f2.length : Int)) (some l[i]) (l.drop (i + 1)) else lsE ((rd_T49 l 0).f2.length : Int) l[i]) := by
      intro b
      refine Ev.shift ?_
      simp only [contangoref39_Check.j3, hw, rd_ls l i hlt]
      refine Ev.both (fun _ => Ev.val _) (fun _ => Ev.pos (by omega) (Ev.pos (by omega) (Ev.pos (by omega) (Ev.bind (lsEr_ev _ _) (Ev.both (fun _ => ih2) (fun _ => Ev.val _))))))
    have j2 : ∀ b : Bool, Ev (fun k => contangoref39_Check.j2 k l (i : Int) b) (if b = true then 10 else (match prevAt l i with | none => (if lsE ((rd_T49 l 0).f2.length : Int) l[i] = 0 then scan (lsF ((rd_T49 l 0).f2.length : Int)) (some l[i]) (l.drop (i + 1)) else lsE ((rd_T49 l 0).f2.length : Int) l[i]) | some q => if Op.bytesLess q.f0.toList l[i].f0.toList = true then (if lsE ((rd_T49 l 0).f2.length : Int) l[i] = 0 then scan (lsF ((rd_T49 l 0).f2.length : Int)) (some l[i]) (l.drop (i + 1)) else lsE ((rd_T49 l 0).f2.length : Int) l[i]) else 12)) := by
      intro b
      refine Ev.shift ?_
      simp only [contangoref39_Check.j2]
      refine Ev.both (fun _ => Ev.val _) (fun _ => ?_)
      by_cases hz : i = 0
      · subst hz
        refine Ev.neg (by omega) ?_
        have := j3 false
        rwa [if_neg (by decide)] at this
      · have hw2 : wrap64 ((i : Int) - 1) = ((i - 1 : Nat) : Int) := by unfold wrap64; omega
        rw [prevAt_pos l i (by omega) (by omega)]
        simp only [hw2, rd_ls l (i - 1) (by omega), rd_ls l i hlt]
        refine Ev.pos (by omega) (Ev.pos (by omega) (Ev.pos (by omega) (Ev.pos (by omega) (Ev.pos (by omega) ?_))))
        have := j3 (!(Op.bytesLess l[i - 1].f0.toList l[i].f0.toList))
        cases hb : Op.bytesLess l[i - 1].f0.toList l[i].f0.toList with
        | true => rw [hb] at this; simpa using this
        | false => rw [hb] at this; simpa using this
    refine Ev.shift ?_
    simp only [contangoref39_Check.l0, rd_ls l i hlt]
    rw [List.drop_eq_getElem_cons hlt, scan_cons]
    refine Ev.pos (by omega) (Ev.pos (by omega) (Ev.bind (refName _ (hs _ (List.getElem_mem hlt)).1) ?_))
    cases hn0 : nameB l[i].f0 with
    | false =>
      refine Ev.neg (by decide) ?_
      have := j2 true
      rw [if_pos rfl] at this
      unfold lsF
      rw [hn0, Bool.false_and, if_neg (show ¬ (false = true) by decide), if_neg (show ¬ ((10 : Int) = 0) by decide)]
      exact this
    | true =>
      refine Ev.pos rfl (Ev.bind (refName _ (hs _ (List.getElem_mem hlt)).2) ?_)
      cases hn1 : nameB l[i].f1 with
      | false =>
        have := j2 true
        rw [if_pos rfl] at this
        unfold lsF
        rw [hn0, hn1, Bool.true_and, if_neg (show ¬ (false = true) by decide), if_neg (show ¬ ((10 : Int) = 0) by decide)]
        exact this
      | true =>
        have := j2 false
        rw [if_neg (by decide)] at this
        unfold lsF
        rw [hn0, hn1, Bool.true_and, if_pos rfl]
        cases hq : prevAt l i with
        | none => rw [hq] at this; exact this
        | some q =>
          rw [hq] at this
          simp only at this ⊢
          by_cases hb : Op.bytesLess q.f0.toList l[i].f0.toList = true
          · rw [if_pos hb] at this
            rw [if_pos hb]
            exact this
          · rw [if_neg hb] at this
            rw [if_neg hb, if_neg (by decide)]
            exact this
theorem lsAr_ev (l : List S49) (hs : ∀ x ∈ l, x.f0.size ≤ 9223372036854775806 ∧ x.f1.size ≤ 9223372036854775806) : Ev (fun k => contangoref39_Check.f k l) (lsA l) := by
  simp only [contangoref39_Check.f]
  unfold lsA
  have key : ∀ b : Bool, (b = false → l.length ≤ 32 ∧ 0 < l.length) → Ev (fun k => contangoref39_Check.j0 k l b) (if b = true then 8 else scan (lsF ((rd_T49 l 0).f2.length : Int)) none l) := by
    intro b hb
    refine Ev.shift ?_
    simp only [contangoref39_Check.j0]
    cases b with
    | true => rw [if_pos rfl]; exact Ev.pos rfl (Ev.val _)
    | false =>
      rw [if_neg (by decide)]
      exact Ev.neg (by decide) (lsrL l hs (hb rfl).1 (hb rfl).2 l.length 0 (by omega) (by omega))
  by_cases h : l.length = 0
  · rw [if_pos (.inl h)]
    refine Ev.pos (by omega) ?_
    have := key true (fun h => by cases h)
    rwa [if_pos rfl] at this
  · refine Ev.neg (by omega) ?_
    have := key (decide ((l.length : Int) > 32)) (fun hb => by have := of_decide_eq_false hb; omega)
    by_cases h2 : l.length > 32
    · rw [if_pos (.inr h2)]
      rwa [if_pos (decide_eq_true (by omega))] at this
    · rw [if_neg (fun hc => hc.elim h h2)]
      rwa [if_neg (by rw [decide_eq_true_eq]; omega)] at this
/-! the document's groups: the least one above the last one, again and again -/
def above (lo : Option ByteArray) (g : ByteArray) : Bool := match lo with | none => true | some y => Op.bytesLess y.toList g.toList
def least (lo : Option ByteArray) : ByteArray → List S49 → ByteArray
  | b, [] => b
  | b, x :: r => least lo (if above lo x.f1 = true ∧ (b.toList = [] ∨ Op.bytesLess x.f1.toList b.toList = true) then x.f1 else b) r
def lastOf (t : List ByteArray) : Option ByteArray := t.getLast?
theorem rdOf_at (t : List ByteArray) (i : Nat) (h : i < t.length) : rdOf ByteArray.empty t (i : Int) = t[i] := by simp [rdOf, h]
theorem grpL (l : List S49) (hl : l.length ≤ 1000) (t : List ByteArray) (ht : t.length ≤ 1000) (R : List ByteArray) (n : Nat) : ∀ (i : Nat) (b : ByteArray), l.length - i = n → i ≤ l.length →
    (∀ z, least (lastOf t) b (l.drop i) = z → Ev (fun k => if z.toList = ([] : List UInt8) then some t else (if t.length < 8796093022208 then contangoref39_groups.l0 k l (t ++ [z]) else none)) R) →
    Ev (fun k => contangoref39_groups.l1 k l t b (i : Int)) R := by
  induction n with
  | zero =>
    intro i b hi hle h
    refine Ev.shift ?_
    simp only [contangoref39_groups.l1]
    refine Ev.neg (by omega) (h b ?_)
    rw [List.drop_eq_nil_of_le (by omega)]
    rfl
  | succ n ih =>
    intro i b hi hle h
    have hlt : i < l.length := by omega
    have hw : wrap64 ((i : Int) + 1) = ((i + 1 : Nat) : Int) := by unfold wrap64; omega
    have hst : ∀ z, least (lastOf t) (if above (lastOf t) l[i].f1 = true ∧ (b.toList = [] ∨ Op.bytesLess l[i].f1.toList b.toList = true) then l[i].f1 else b) (l.drop (i + 1)) = z → Ev (fun k => if z.toList = ([] : List UInt8) then some t else (if t.length < 8796093022208 then contangoref39_groups.l0 k l (t ++ [z]) else none)) R := fun z hz => h z (by rw [List.drop_eq_getElem_cons hlt, least]; exact hz)
    refine Ev.shift ?_
    simp only [contangoref39_groups.l1, rd_ls l i hlt, hw]
    refine Ev.pos (by omega) (Ev.pos (by omega) ?_)
    have go : ∀ c : Bool, above (lastOf t) l[i].f1 = c → Ev (fun k => if c = true then (if b.toList = ([] : List UInt8) then (contangoref39_groups.l1 k l t l[i].f1 ((i + 1 : Nat) : Int)) else (if (Op.bytesLess (l[i].f1.toList) b.toList) = true then (contangoref39_groups.l1 k l t l[i].f1 ((i + 1 : Nat) : Int)) else (contangoref39_groups.l1 k l t b ((i + 1 : Nat) : Int)))) else contangoref39_groups.l1 k l t b ((i + 1 : Nat) : Int)) R := by
      intro c hc
      refine Ev.ite (fun h1 => ?_) (fun h1 => ?_)
      · refine Ev.ite (fun h2 => ?_) (fun h2 => ?_)
        · rw [if_pos (show above (lastOf t) l[i].f1 = true ∧ (b.toList = [] ∨ Op.bytesLess l[i].f1.toList b.toList = true) from ⟨hc.trans h1, .inl h2⟩)] at hst
          exact ih _ _ (by omega) (by omega) hst
        · refine Ev.ite (fun h3 => ?_) (fun h3 => ?_)
          · rw [if_pos (show above (lastOf t) l[i].f1 = true ∧ (b.toList = [] ∨ Op.bytesLess l[i].f1.toList b.toList = true) from ⟨hc.trans h1, .inr h3⟩)] at hst
            exact ih _ _ (by omega) (by omega) hst
          · rw [if_neg (show ¬ (above (lastOf t) l[i].f1 = true ∧ (b.toList = [] ∨ Op.bytesLess l[i].f1.toList b.toList = true)) from fun hh => hh.2.elim h2 h3)] at hst
            exact ih _ _ (by omega) (by omega) hst
      · rw [if_neg (show ¬ (above (lastOf t) l[i].f1 = true ∧ (b.toList = [] ∨ Op.bytesLess l[i].f1.toList b.toList = true)) from fun hh => h1 (hc.symm.trans hh.1))] at hst
        exact ih _ _ (by omega) (by omega) hst
    by_cases h0 : t.length = 0
    · refine Ev.pos (by omega) ?_
      have ht0 : t = [] := List.length_eq_zero_iff.mp h0
      have := go true (by subst ht0; rfl)
      simpa using this
    · refine Ev.neg (by omega) ?_
      have hw2 : wrap64 ((t.length : Int) - 1) = ((t.length - 1 : Nat) : Int) := by unfold wrap64; omega
      simp only [hw2]
      refine Ev.pos (by omega) (Ev.pos (by omega) ?_)
      rw [rdOf_at t (t.length - 1) (by omega)]
      exact go _ (by
        unfold lastOf above
        rw [List.getLast?_eq_getElem?, List.getElem?_eq_getElem (by omega : t.length - 1 < t.length)])
theorem least_spec (lo : Option ByteArray) : ∀ (l : List S49) (b : ByteArray), (∀ x ∈ l, x.f1.toList ≠ []) →
    ((least lo b l).toList = [] → b.toList = [] ∧ ∀ x ∈ l, above lo x.f1 = false) ∧
    ((least lo b l).toList ≠ [] → (least lo b l = b ∨ ∃ x ∈ l, x.f1 = least lo b l ∧ above lo x.f1 = true) ∧ (b.toList = [] ∨ Op.bytesLess b.toList (least lo b l).toList = false) ∧ ∀ x ∈ l, above lo x.f1 = true → Op.bytesLess x.f1.toList (least lo b l).toList = false) := by
  intro l
  induction l with
  | nil =>
    intro b _
    exact ⟨fun h => ⟨h, fun x hx => (by cases hx)⟩, fun _ => ⟨.inl rfl, .inr (less_irrefl _), fun x hx => (by cases hx)⟩⟩
  | cons x r ih =>
    intro b hne
    have hx := hne x List.mem_cons_self
    have hr : ∀ y ∈ r, y.f1.toList ≠ [] := fun y hy => hne y (List.mem_cons_of_mem _ hy)
    rw [least]
    by_cases hc : above lo x.f1 = true ∧ (b.toList = [] ∨ Op.bytesLess x.f1.toList b.toList = true)
    · rw [if_pos hc]
      obtain ⟨i1, i2⟩ := ih x.f1 hr
      refine ⟨fun h => absurd (i1 h).1 hx, fun h => ?_⟩
      obtain ⟨j1, j2, j3⟩ := i2 h
      have jx : Op.bytesLess x.f1.toList (least lo x.f1 r).toList = false := j2.elim (fun h => absurd h hx) id
      refine ⟨?_, ?_, ?_⟩
      · rcases j1 with j1 | ⟨y, hy, e1, e2⟩
        · exact .inr ⟨x, List.mem_cons_self, j1.symm, hc.1⟩
        · exact .inr ⟨y, List.mem_cons_of_mem _ hy, e1, e2⟩
      · rcases hc.2 with h2 | h2
        · exact .inl h2
        · refine .inr (Bool.eq_false_iff.mpr (fun h3 => ?_))
          rw [less_trans _ _ _ h2 h3] at jx
          cases jx
      · intro y hy ha
        rcases List.mem_cons.mp hy with rfl | hy
        · exact jx
        · exact j3 y hy ha
    · rw [if_neg hc]
      obtain ⟨i1, i2⟩ := ih b hr
      refine ⟨fun h => ?_, fun h => ?_⟩
      · obtain ⟨k1, k2⟩ := i1 h
        refine ⟨k1, fun y hy => ?_⟩
        rcases List.mem_cons.mp hy with rfl | hy
        · exact eq_false_of_ne_true (fun ha => hc ⟨ha, .inl k1⟩)
        · exact k2 y hy
      · obtain ⟨j1, j2, j3⟩ := i2 h
        refine ⟨?_, j2, ?_⟩
        · rcases j1 with j1 | ⟨y, hy, e1, e2⟩
          · exact .inl j1
          · exact .inr ⟨y, List.mem_cons_of_mem _ hy, e1, e2⟩
        · intro y hy ha
          rcases List.mem_cons.mp hy with rfl | hy
          · by_cases hb : b.toList = []
            · exact absurd ⟨ha, .inl hb⟩ hc
            · have hxb : ¬ Op.bytesLess y.f1.toList b.toList = true := fun h => hc ⟨ha, .inr h⟩
              have hbl := j2.resolve_left hb
              refine Bool.eq_false_iff.mpr (fun h3 => ?_)
              by_cases e : b.toList = y.f1.toList
              · rw [e] at hbl; rw [hbl] at h3; cases h3
              · have h4 := less_flip hxb e
                rw [less_trans _ _ _ h4 h3] at hbl
                cases hbl
          · exact j3 y hy ha
theorem toList_inj {a b : ByteArray} (h : a.toList = b.toList) : a = b := (strQ_iff a b).mp (by unfold strQ; rw [h, beq_self_eq_true])
theorem groups_step (l : List S49) (hne : ∀ x ∈ l, x.f1.toList ≠ []) (t r : List ByteArray) (h : gn l = t ++ r) :
    (r = [] → (least (lastOf t) ⟨#[]⟩ l).toList = []) ∧ ∀ s r', r = s :: r' → least (lastOf t) ⟨#[]⟩ l = s ∧ (least (lastOf t) ⟨#[]⟩ l).toList ≠ [] := by
  have hs := gn_sorted l
  rw [h] at hs
  obtain ⟨s1, s2, s3⟩ := List.pairwise_append.mp hs
  obtain ⟨p1, p2⟩ := least_spec (lastOf t) l ⟨#[]⟩ hne
  have e0 : (⟨#[]⟩ : ByteArray).toList = [] := (toList_nil _).mpr rfl
  -- what stands above the last one stands in r
  have habove : ∀ x ∈ l, above (lastOf t) x.f1 = true → x.f1 ∈ r := by
    intro x hx ha
    have hm : x.f1 ∈ t ++ r := by rw [← h]; exact (gn_mem l _).mpr ⟨x, hx, rfl⟩
    rcases List.mem_append.mp hm with hm | hm
    · exfalso
      obtain ⟨i, hi, e⟩ := List.getElem_of_mem hm
      unfold above lastOf at ha
      rw [List.getLast?_eq_getElem?, List.getElem?_eq_getElem (by omega : t.length - 1 < t.length)] at ha
      simp only at ha
      rcases Nat.lt_or_ge i (t.length - 1) with h1 | h1
      · have := List.pairwise_iff_getElem.mp s1 i (t.length - 1) hi (by omega) h1
        rw [e] at this
        have := less_trans _ _ _ ha this
        rw [less_irrefl] at this
        cases this
      · have h2 : i = t.length - 1 := by omega
        subst h2
        rw [e, less_irrefl] at ha
        cases ha
    · exact hm
  have hin : ∀ g ∈ r, above (lastOf t) g = true := by
    intro g hg
    unfold above lastOf
    cases hl : t.getLast? with
    | none => rfl
    | some y => exact s3 y (List.mem_of_getLast? hl) g hg
  constructor
  · intro hr
    subst hr
    refine Classical.byContradiction (fun hc => ?_)
    obtain ⟨j1, _, _⟩ := p2 hc
    rcases j1 with j1 | ⟨x, hx, e1, e2⟩
    · exact hc (by rw [j1]; exact e0)
    · cases habove x hx e2
  · intro s r' hr
    subst hr
    have hsm : s ∈ gn l := by rw [h]; exact List.mem_append_right _ List.mem_cons_self
    obtain ⟨x, hx, hxs⟩ := (gn_mem l s).mp hsm
    have hab : above (lastOf t) x.f1 = true := by rw [hxs]; exact hin s List.mem_cons_self
    have hnn : (least (lastOf t) ⟨#[]⟩ l).toList ≠ [] := fun hc => by
      have := (p1 hc).2 x hx
      rw [hab] at this
      cases this
    refine ⟨?_, hnn⟩
    obtain ⟨j1, _, j3⟩ := p2 hnn
    have h1 := j3 x hx hab
    rw [hxs] at h1
    rcases j1 with j1 | ⟨y, hy, e1, e2⟩
    · exact absurd (by rw [j1]; exact e0) hnn
    · have hyr := habove y hy e2
      rw [e1] at hyr
      rcases List.mem_cons.mp hyr with e | e
      · exact e
      · have := (List.pairwise_cons.mp s2).1 _ e
        rw [this] at h1
        cases h1
theorem groups_ev (l : List S49) (hl : l.length ≤ 1000) (hne : ∀ x ∈ l, x.f1.toList ≠ []) : ∀ (r t : List ByteArray), gn l = t ++ r → Ev (fun k => contangoref39_groups.l0 k l t) (gn l) := by
  intro r
  have hgl := gn_len l
  induction r with
  | nil =>
    intro t h
    have hlen := congrArg List.length h
    rw [List.append_nil] at h hlen
    refine Ev.shift ?_
    simp only [contangoref39_groups.l0]
    refine Ev.pos (by omega) ?_
    have hst := (groups_step l hne t [] (by rw [h, List.append_nil])).1 rfl
    refine grpL l hl t (by omega) (gn l) l.length 0 ⟨#[]⟩ (by omega) (by omega) ?_
    intro z hz
    rw [List.drop_zero] at hz
    subst hz
    refine Ev.pos hst ?_
    rw [h]
    exact Ev.val _
  | cons s r ih =>
    intro t h
    have hlen := congrArg List.length h
    simp only [List.length_append, List.length_cons] at hlen
    refine Ev.shift ?_
    simp only [contangoref39_groups.l0]
    refine Ev.pos (by omega) ?_
    obtain ⟨e1, e2⟩ := (groups_step l hne t (s :: r) h).2 s r rfl
    refine grpL l hl t (by omega) (gn l) l.length 0 ⟨#[]⟩ (by omega) (by omega) ?_
    intro z hz
    rw [List.drop_zero] at hz
    subst hz
    refine Ev.neg e2 (Ev.pos (by omega) ?_)
    rw [e1]
    exact ih (t ++ [s]) (by rw [h]; simp)
/-- What a group's members lose above their margin. -/
def rv (l : List S49) (a : Int) (g : ByteArray) : List Int := (l.filter (fun x => strQ x.f1 g && decide (rd x.f2 a > x.f3))).map (fun x => rd x.f2 a - x.f3)
theorem rv_cons (x : S49) (r : List S49) (a : Int) (g : ByteArray) : rv (x :: r) a g = (if strQ x.f1 g = true then (if rd x.f2 a > x.f3 then [rd x.f2 a - x.f3] else []) else []) ++ rv r a g := by
  unfold rv
  rw [List.filter_cons]
  by_cases h1 : strQ x.f1 g = true
  · by_cases h2 : rd x.f2 a > x.f3 <;> simp [h1, h2]
  · simp [h1]
theorem brL (l : List S49) (hl : l.length ≤ 1000) (a : Nat) (N : Nat) (ha : a < N) (hg : ∀ x ∈ l, Good N x) (names : List ByteArray) (t : List Int) (i : Nat) (hi : i < names.length) (R : List ByteArray × List Int × Int) (n : Nat) : ∀ (j : Nat) (all : List Int), l.length - j = n → j ≤ l.length → all.length + (l.length - j) ≤ 1000 →
    Ev (fun k => (contangoref01_Sum.f k (all ++ rv (l.drop j) a names[i])).bind fun bt => (if bt.2 = 0 then (if t.length < 17592186044416 then (contangoref39_Bare.l0 k l (a : Int) names (t ++ [bt.1]) (wrap64 ((i : Int) + 1))) else (none)) else (some (([] : List ByteArray), ([] : List Int), bt.2)))) R →
    Ev (fun k => contangoref39_Bare.l1 k l (a : Int) names t (i : Int) all (j : Int)) R := by
  induction n with
  | zero =>
    intro j all hj hle hal h
    refine Ev.shift ?_
    simp only [contangoref39_Bare.l1]
    rw [List.drop_eq_nil_of_le (by omega)] at h
    refine Ev.neg (by omega) ?_
    simpa [rv] using h
  | succ n ih =>
    intro j all hj hle hal h
    have hlt : j < l.length := by omega
    have hw : wrap64 ((j : Int) + 1) = ((j + 1 : Nat) : Int) := by unfold wrap64; omega
    have hx := hg _ (List.getElem_mem hlt)
    have hlen := hx.len
    have hfa : fitB (rd l[j].f2 (a : Int)) = true := by
      rw [rd_at _ a (by omega)]
      exact List.all_eq_true.mp hx.fit _ (List.getElem_mem _)
    unfold fitB at hfa
    simp only [decide_eq_true_eq] at hfa
    have hm0 := hx.m0
    have hm1 := hx.m1
    have hwr : wrap64 (rd l[j].f2 (a : Int) - l[j].f3) = rd l[j].f2 (a : Int) - l[j].f3 := wrap_small (by omega) (by omega)
    rw [List.drop_eq_getElem_cons hlt, rv_cons] at h
    refine Ev.shift ?_
    simp only [contangoref39_Bare.l1, rd_ls l j hlt, hw, rdOf_at names i hi, hwr]
    refine Ev.pos (by omega) (Ev.pos (by omega) (Ev.pos (by omega) (Ev.pos (by omega) ?_)))
    by_cases hq : l[j].f1.toList = names[i].toList
    · have hq2 : strQ l[j].f1 names[i] = true := by unfold strQ; rw [hq, beq_self_eq_true]
      rw [if_pos hq2] at h
      refine Ev.pos hq (Ev.pos (by omega) (Ev.pos (by omega) ?_))
      by_cases hgt : rd l[j].f2 (a : Int) > l[j].f3
      · rw [if_pos hgt] at h
        refine Ev.pos hgt (Ev.pos (by omega) ?_)
        exact ih (j + 1) _ (by omega) (by omega) (by simp; omega) (by simpa using h)
      · rw [if_neg hgt] at h
        exact Ev.neg hgt (ih (j + 1) _ (by omega) (by omega) (by omega) (by simpa using h))
    · have hq2 : ¬ strQ l[j].f1 names[i] = true := fun e => hq (by rw [(strQ_iff _ _).mp e])
      rw [if_neg hq2] at h
      exact Ev.neg hq (ih (j + 1) _ (by omega) (by omega) (by omega) (by simpa using h))
theorem bvx_good {N : Nat} {x : S49} {a : Nat} (ha : a < N) (h : Good N x) : bvx a x = (if rd x.f2 a > x.f3 then rd x.f2 a - x.f3 else 0) ∧ fitB (bvx a x) = true ∧ 0 ≤ bvx a x := by
  have hlen := h.len
  have hfa : fitB (rd x.f2 (a : Int)) = true := by
    rw [rd_at _ a (by omega)]
    exact List.all_eq_true.mp h.fit _ (List.getElem_mem _)
  unfold fitB at hfa ⊢
  simp only [decide_eq_true_eq] at hfa ⊢
  have hm0 := h.m0
  have hm1 := h.m1
  have hwr : wrap64 (rd x.f2 (a : Int) - x.f3) = rd x.f2 (a : Int) - x.f3 := wrap_small (by omega) (by omega)
  unfold bvx mx
  rw [hwr]
  refine ⟨?_, ?_, ?_⟩ <;> split <;> (try split) <;> omega
theorem sm_rv (a : Nat) (N : Nat) (ha : a < N) (g : ByteArray) (l : List S49) (hg : ∀ x ∈ l, Good N x) : (rv l a g).all fitB = true ∧ (bv l a g).all fitB = true ∧ sumI (rv l a g) = sumI (bv l a g) ∧ 0 ≤ sumI (bv l a g) := by
  induction l with
  | nil => exact ⟨rfl, rfl, rfl, Int.le_refl _⟩
  | cons x r ih =>
    obtain ⟨i1, i2, i3, i4⟩ := ih (fun y hy => hg y (List.mem_cons_of_mem _ hy))
    obtain ⟨e1, e2, e3⟩ := bvx_good ha (hg x List.mem_cons_self)
    rw [rv_cons, bv_cons]
    by_cases h1 : strQ x.f1 g = true
    · rw [if_pos h1, if_pos h1]
      have hs : ∀ (c : Int) (z : List Int), sumI ([c] ++ z) = c + sumI z := fun c z => rfl
      by_cases h2 : rd x.f2 (a : Int) > x.f3
      · rw [if_pos h2] at e1 ⊢
        rw [e1] at e2 e3 ⊢
        refine ⟨by simp [e2, i1], by simp [e2, i2], by rw [hs, hs, i3], by rw [hs]; omega⟩
      · rw [if_neg h2] at e1 ⊢
        rw [e1] at e2 e3 ⊢
        refine ⟨by simpa using i1, by simp [e2, i2], by rw [hs, List.nil_append, i3]; omega, by rw [hs]; omega⟩
    · rw [if_neg h1, if_neg h1]
      exact ⟨i1, i2, i3, i4⟩
theorem sm_same (a : Nat) (N : Nat) (ha : a < N) (g : ByteArray) (l : List S49) (hg : ∀ x ∈ l, Good N x) : sm (rv l a g) = sm (bv l a g) := by
  obtain ⟨i1, i2, i3, _⟩ := sm_rv a N ha g l hg
  unfold sm smV
  rw [i1, i2, i3]
theorem rv_len (l : List S49) (a : Int) (g : ByteArray) : (rv l a g).length ≤ l.length := by
  unfold rv
  rw [List.length_map]
  exact List.length_filter_le _ _
def brO (names : List ByteArray) (y : List Int × Int) : List ByteArray × List Int × Int := if y.2 = 0 then (names, y.1, 0) else ([], [], y.2)
theorem brN (l : List S49) (hl : l.length ≤ 1000) (a : Nat) (N : Nat) (ha : a < N) (hg : ∀ x ∈ l, Good N x) (names : List ByteArray) (hn : names.length ≤ 1000) (n : Nat) : ∀ (i : Nat) (t : List Int), names.length - i = n → i ≤ names.length → t.length + (names.length - i) ≤ 1000 →
    Ev (fun k => contangoref39_Bare.l0 k l (a : Int) names t (i : Int)) (brO names (nsA l a (names.drop i) t)) := by
  induction n with
  | zero =>
    intro i t hi hle ht
    refine Ev.shift ?_
    simp only [contangoref39_Bare.l0]
    rw [List.drop_eq_nil_of_le (by omega)]
    exact Ev.neg (by omega) (Ev.val _)
  | succ n ih =>
    intro i t hi hle ht
    have hlt : i < names.length := by omega
    have hw : wrap64 ((i : Int) + 1) = ((i + 1 : Nat) : Int) := by unfold wrap64; omega
    refine Ev.shift ?_
    simp only [contangoref39_Bare.l0]
    rw [List.drop_eq_getElem_cons hlt]
    refine Ev.pos (by omega) ?_
    refine brL l hl a N ha hg names t i hlt _ l.length 0 [] (by omega) (by omega) (by simpa using hl) ?_
    rw [List.drop_zero, List.nil_append, hw]
    have hse := smr_ev (rv l a names[i]) (by have := rv_len l a names[i]; omega)
    rw [sm_same a N ha names[i] l hg] at hse
    refine Ev.bind hse ?_
    rw [nsA]
    by_cases hc : (sm (bv l a names[i])).2 = 0
    · rw [if_pos hc]
      refine Ev.pos hc (Ev.pos (by omega) ?_)
      exact ih (i + 1) _ (by omega) (by omega) (by simp; omega)
    · rw [if_neg hc]
      refine Ev.neg hc (Ev.valOf ?_)
      unfold brO
      rw [if_neg hc]
theorem barer_ev (l : List S49) (hs : ∀ x ∈ l, x.f0.size ≤ 9223372036854775806 ∧ x.f1.size ≤ 9223372036854775806) (a : Int) : Ev (fun k => contangoref39_Bare.f k l a) (bareV l a) := by
  simp only [contangoref39_Bare.f, bareV]
  refine Ev.bind (lsAr_ev l hs) (Ev.both (fun h0 => ?_) (fun _ => Ev.val _))
  obtain ⟨hl0, hl1, hg⟩ := lsA_good h0
  by_cases ha : a < 0
  · rw [if_pos (show a < 0 ∨ _ from .inl ha)]
    refine Ev.pos ha (Ev.shift ?_)
    simp only [contangoref39_Bare.j0]
    exact Ev.pos trivial (Ev.val _)
  · refine Ev.neg ha (Ev.pos (by omega) (Ev.shift ?_))
    simp only [contangoref39_Bare.j0]
    by_cases hb : a < ((rd_T49 l 0).f2.length : Int)
    · rw [if_neg (show ¬ (a < 0 ∨ a ≥ ((rd_T49 l 0).f2.length : Int)) by omega)]
      refine Ev.neg (by simp; omega) ?_
      obtain ⟨n, rfl⟩ := Int.eq_ofNat_of_zero_le (show 0 ≤ a by omega)
      have hne : ∀ x ∈ l, x.f1.toList ≠ [] := fun x hx e => by
        have := name_size (hg x hx).n1
        rw [(toList_nil _).mp e] at this
        omega
      have hgl := gn_len l
      refine Ev.bind (show Ev (fun k => contangoref39_groups.f k l) (gn l) from groups_ev l (by omega) hne (gn l) [] rfl) ?_
      have := brN l (by omega) n _ (by omega) hg (gn l) (by omega) (gn l).length 0 [] (by omega) (by omega) (by simp; omega)
      rw [List.drop_zero] at this
      exact this
    · rw [if_pos (show a < 0 ∨ a ≥ ((rd_T49 l 0).f2.length : Int) by omega)]
      exact Ev.pos (by simp; omega) (Ev.val _)
theorem goes_true : contangolaw39_goes.f 60 = some true := by decide +kernel
theorem goes_ev : Ev (fun k => contangolaw39_goes.f k) true := Ev.of goes_true (fun k => contangolaw39_goes.mono k)
def fewB (l : List S49) : Bool := l.all (fun x => decide (x.f2.length ≤ 100)) && decide (l.length ≤ 100)
theorem fewL (l : List S49) (hl : l.length ≤ 9223372036854775806) (n : Nat) : ∀ i : Nat, l.length - i = n → i ≤ l.length →
    Ev (fun k => contangolaw39_few.l0 k l (l.length : Int) (i : Int)) ((l.drop i).all (fun x => decide (x.f2.length ≤ 100)) && decide (l.length ≤ 100)) := by
  induction n with
  | zero =>
    intro i hi hle
    refine Ev.shift ?_
    simp only [contangolaw39_few.l0]
    rw [List.drop_eq_nil_of_le (by omega), List.all_nil, Bool.true_and]
    refine Ev.neg (by omega) (Ev.valOf (decide_eq_decide.mpr (by omega)))
  | succ n ih =>
    intro i hi hle
    have hlt : i < l.length := by omega
    have hw : wrap64 ((i : Int) + 1) = ((i + 1 : Nat) : Int) := by unfold wrap64; omega
    refine Ev.shift ?_
    simp only [contangolaw39_few.l0, rd_ls l i hlt, hw]
    rw [List.drop_eq_getElem_cons hlt, List.all_cons]
    refine Ev.pos (by omega) (Ev.pos (by omega) (Ev.pos (by omega) ?_))
    by_cases h : (l[i].f2.length : Int) > 100
    · rw [decide_eq_false (by omega : ¬ l[i].f2.length ≤ 100), Bool.false_and, Bool.false_and]
      exact Ev.pos h (Ev.val _)
    · rw [decide_eq_true (by omega : l[i].f2.length ≤ 100), Bool.true_and]
      exact Ev.neg h (ih (i + 1) (by omega) (by omega))
theorem few_ev (l : List S49) (hl : l.length ≤ 9223372036854775806) : Ev (fun k => contangolaw39_few.f k l) (fewB l) := by
  have := fewL l hl l.length 0 (by omega) (by omega)
  rw [List.drop_zero] at this
  exact this
theorem fewB_some {l : List S49} (h : fewB l = true) : l.length ≤ 100 ∧ ∀ x ∈ l, x.f2.length ≤ 100 := by
  unfold fewB at h
  simp only [Bool.and_eq_true, List.all_eq_true, decide_eq_true_eq] at h
  exact ⟨h.2, h.1⟩
theorem ownL (l : List S49) (hl : l.length ≤ 100) (hx : ∀ x ∈ l, x.f2.length ≤ 100) (n : Nat) : ∀ i : Nat, l.length - i = n → i ≤ l.length → Ev (fun k => contangolaw39_own.l0 k l (l.length : Int) (i : Int)) l := by
  induction n with
  | zero =>
    intro i hi hle
    refine Ev.shift ?_
    simp only [contangolaw39_own.l0]
    exact Ev.neg (by omega) (Ev.val _)
  | succ n ih =>
    intro i hi hle
    have hlt : i < l.length := by omega
    have hw : wrap64 ((i : Int) + 1) = ((i + 1 : Nat) : Int) := by unfold wrap64; omega
    have h1 := hx _ (List.getElem_mem hlt)
    refine Ev.shift ?_
    simp only [contangolaw39_own.l0, rd_ls l i hlt, hw, Option.bind_some, List.nil_append, Int.toNat_natCast, List.length_nil]
    refine Ev.pos (by omega) (Ev.pos (by omega) (Ev.pos (by omega) (Ev.pos (by omega) ?_)))
    have e : l.set i (⟨l[i].f0, l[i].f1, l[i].f2, l[i].f3⟩ : S49) = l := List.set_getElem_self hlt
    rw [e]
    exact ih (i + 1) (by omega) (by omega)
theorem own_ev (l : List S49) (hl : l.length ≤ 100) (hx : ∀ x ∈ l, x.f2.length ≤ 100) : Ev (fun k => contangolaw39_own.f k l) l := by
  simp only [contangolaw39_own.f, Option.bind_some, List.nil_append, List.length_nil]
  exact Ev.pos (by omega) (ownL l hl hx l.length 0 (by omega) (by omega))
theorem intsL (l : List Int) (hl : l.length ≤ 1000000) (n : Nat) : ∀ i : Nat, l.length - i = n → i ≤ l.length → Ev (fun k => contangoref39_Ints.l0 k l l (i : Int)) true := by
  induction n with
  | zero =>
    intro i hi hle
    refine Ev.shift ?_
    simp only [contangoref39_Ints.l0]
    exact Ev.neg (by omega) (Ev.val _)
  | succ n ih =>
    intro i hi hle
    have hw : wrap64 ((i : Int) + 1) = ((i + 1 : Nat) : Int) := by unfold wrap64; omega
    refine Ev.shift ?_
    simp only [contangoref39_Ints.l0, hw]
    exact Ev.pos (by omega) (Ev.pos (by omega) (Ev.pos (by omega) (Ev.pos (by trivial) (ih (i + 1) (by omega) (by omega)))))
theorem ints_self (l : List Int) (hl : l.length ≤ 1000000) : Ev (fun k => contangoref39_Ints.f k l l) true := by
  simp only [contangoref39_Ints.f]
  exact Ev.pos (by trivial) (intsL l hl l.length 0 (by omega) (by omega))
theorem textsL (l : List ByteArray) (hl : l.length ≤ 1000000) (n : Nat) : ∀ i : Nat, l.length - i = n → i ≤ l.length → Ev (fun k => contangoref39_Texts.l0 k l l (i : Int)) true := by
  induction n with
  | zero =>
    intro i hi hle
    refine Ev.shift ?_
    simp only [contangoref39_Texts.l0]
    exact Ev.neg (by omega) (Ev.val _)
  | succ n ih =>
    intro i hi hle
    have hw : wrap64 ((i : Int) + 1) = ((i + 1 : Nat) : Int) := by unfold wrap64; omega
    refine Ev.shift ?_
    simp only [contangoref39_Texts.l0, hw]
    exact Ev.pos (by omega) (Ev.pos (by omega) (Ev.pos (by omega) (Ev.pos (by trivial) (ih (i + 1) (by omega) (by omega)))))
theorem texts_self (l : List ByteArray) (hl : l.length ≤ 1000000) : Ev (fun k => contangoref39_Texts.f k l l) true := by
  simp only [contangoref39_Texts.f]
  exact Ev.pos (by trivial) (textsL l hl l.length 0 (by omega) (by omega))
theorem keptL (l : List S49) (hl : l.length ≤ 100) (hx : ∀ x ∈ l, x.f2.length ≤ 100) (n : Nat) : ∀ i : Nat, l.length - i = n → i ≤ l.length → Ev (fun k => contangolaw39_kept.l0 k l l (l.length : Int) (i : Int)) true := by
  induction n with
  | zero =>
    intro i hi hle
    refine Ev.shift ?_
    simp only [contangolaw39_kept.l0]
    exact Ev.neg (by omega) (Ev.val _)
  | succ n ih =>
    intro i hi hle
    have hlt : i < l.length := by omega
    have hw : wrap64 ((i : Int) + 1) = ((i + 1 : Nat) : Int) := by unfold wrap64; omega
    have h1 := hx _ (List.getElem_mem hlt)
    refine Ev.shift ?_
    simp only [contangolaw39_kept.l0, rd_ls l i hlt, hw]
    exact Ev.pos (by omega) (Ev.pos (by omega) (Ev.pos (by omega) (Ev.pos (by omega) (Ev.pos (by trivial) (Ev.pos (by trivial) (Ev.pos (by trivial) (Ev.bind (ints_self _ (by omega)) (Ev.pos (by trivial) (ih (i + 1) (by omega) (by omega))))))))))
theorem kept_ev (l : List S49) (hl : l.length ≤ 100) (hx : ∀ x ∈ l, x.f2.length ≤ 100) : Ev (fun k => contangolaw39_kept.f k l l) true := keptL l hl hx l.length 0 (by omega) (by omega)
theorem nsA_len (l : List S49) (a : Int) : ∀ (r : List ByteArray) (t : List Int), (nsA l a r t).1.length ≤ t.length + r.length := by
  intro r
  induction r with
  | nil => intro t; exact Nat.le_refl _
  | cons s r ih =>
    intro t
    rw [nsA]
    split
    · have := ih (t ++ [(sm (bv l a s)).1])
      simp only [List.length_append, List.length_cons, List.length_nil] at this ⊢
      omega
    · simp
theorem bareV_len (l : List S49) (a : Int) : (bareV l a).1.length ≤ l.length ∧ (bareV l a).2.1.length ≤ l.length := by
  have h1 := gn_len l
  have h2 := nsA_len l a (gn l) []
  simp only [List.length_nil] at h2
  unfold bareV
  split
  · split
    · exact ⟨Nat.zero_le _, Nat.zero_le _⟩
    · split
      · exact ⟨h1, by simp only; omega⟩
      · exact ⟨Nat.zero_le _, Nat.zero_le _⟩
  · exact ⟨Nat.zero_le _, Nat.zero_le _⟩
/-! the first greatest number, one place left out -/
def FM (n : List Int) (m : Nat) (out : Int) (a : Nat) : Prop := a < m ∧ (a : Int) ≠ out ∧ (∀ j : Nat, j < m → (j : Int) ≠ out → rd n (j : Int) ≤ rd n (a : Int)) ∧ ∀ j : Nat, j < a → (j : Int) ≠ out → rd n (j : Int) < rd n (a : Int)
theorem FM.unique {n : List Int} {m : Nat} {out : Int} {a b : Nat} (h : FM n m out a) (h' : FM n m out b) : a = b := by
  obtain ⟨a1, a2, a3, a4⟩ := h
  obtain ⟨b1, b2, b3, b4⟩ := h'
  rcases Nat.lt_trichotomy a b with c | c | c
  · have := b4 a c a2; have := a3 b b1 b2; omega
  · exact c
  · have := a4 b c b2; have := b3 a a1 a2; omega
theorem FM.keep {n : List Int} {m : Nat} {out : Int} {a : Nat} (h : FM n m out a) (hc : (m : Int) = out ∨ rd n (m : Int) ≤ rd n (a : Int)) : FM n (m + 1) out a := by
  obtain ⟨a1, a2, a3, a4⟩ := h
  refine ⟨by omega, a2, fun j hj ho => ?_, a4⟩
  by_cases e : j = m
  · subst e
    rcases hc with hc | hc
    · exact absurd hc ho
    · exact hc
  · exact a3 j (by omega) ho
theorem FM.new {n : List Int} {m : Nat} {out : Int} {a : Nat} (h : FM n m out a) (ho : (m : Int) ≠ out) (hc : rd n (a : Int) < rd n (m : Int)) : FM n (m + 1) out m := by
  obtain ⟨a1, a2, a3, a4⟩ := h
  refine ⟨by omega, ho, fun j hj hj2 => ?_, fun j hj hj2 => ?_⟩
  · by_cases e : j = m
    · subst e; exact Int.le_refl _
    · have := a3 j (by omega) hj2; omega
  · have := a3 j hj hj2; omega
theorem FM.one {n : List Int} {m : Nat} {out : Int} (h : ∀ j : Nat, j < m → (j : Int) = out) (ho : (m : Int) ≠ out) : FM n (m + 1) out m := by
  refine ⟨by omega, ho, fun j hj hj2 => ?_, fun j hj hj2 => absurd (h j hj) hj2⟩
  by_cases e : j = m
  · subst e; exact Int.le_refl _
  · exact absurd (h j (by omega)) hj2
/-- The greatest one gone: the one behind it. -/
theorem FM.second {n : List Int} {m : Nat} {a : Nat} (h : FM n m (-1) a) : FM n (m + 1) (m : Int) a := by
  obtain ⟨a1, a2, a3, a4⟩ := h
  exact ⟨by omega, by omega, fun j hj ho => a3 j (by omega) (by omega), fun j hj _ => a4 j hj (by omega)⟩
/-- What 'greatest' hands back, behind m of the numbers. -/
def GS (names : List ByteArray) (n : List Int) (m : Nat) (s0 : ByteArray) (n0 : Int) (s1 : ByteArray) (n1 : Int) (k : Nat) : Prop :=
  ∃ a : Nat, FM n m (-1) a ∧ n0 = rd n (a : Int) ∧ s0 = rdOf ByteArray.empty names (a : Int) ∧ ((m = 1 ∧ k = 1 ∧ n1 = 0) ∨ (2 ≤ m ∧ k = 2 ∧ ∃ b : Nat, FM n m (a : Int) b ∧ n1 = rd n (b : Int) ∧ s1 = rdOf ByteArray.empty names (b : Int)))
theorem great_go (names : List ByteArray) (n : List Int) (hn : names.length = n.length) (d : Nat) : ∀ (m : Nat) (s0 : ByteArray) (n0 : Int) (s1 : ByteArray) (n1 : Int) (k : Nat), n.length - m = d → 1 ≤ m → m ≤ n.length → GS names n m s0 n0 s1 n1 k →
    ∃ r : ByteArray × Int × ByteArray × Int × Nat, stress_greatest.go (names.drop m) (n.drop m) s0 n0 s1 n1 k = some r ∧ GS names n n.length r.1 r.2.1 r.2.2.1 r.2.2.2.1 r.2.2.2.2 := by
  induction d with
  | zero =>
    intro m s0 n0 s1 n1 k hd h1 hle h
    have e : m = n.length := by omega
    subst e
    rw [List.drop_eq_nil_of_le (by omega)]
    exact ⟨(s0, n0, s1, n1, k), by rw [stress_greatest.go], h⟩
  | succ d ih =>
    intro m s0 n0 s1 n1 k hd h1 hle h
    have hlt : m < n.length := by omega
    have hlt2 : m < names.length := by omega
    rw [List.drop_eq_getElem_cons hlt, List.drop_eq_getElem_cons hlt2]
    have er : n[m] = rd n (m : Int) := (rd_at n m hlt).symm
    have es : names[m] = rdOf ByteArray.empty names (m : Int) := by simp [rdOf, hlt2]
    obtain ⟨a, ha, rfl, rfl, hk⟩ := h
    have ham := ha.1
    rcases hk with ⟨hm, rfl, rfl⟩ | ⟨hm, rfl, b, hb, rfl, rfl⟩
    · rw [stress_greatest.go, er, es]
      by_cases c : rd n (a : Int) < rd n (m : Int)
      · rw [if_pos c]
        exact ih (m + 1) _ _ _ _ _ (by omega) (by omega) (by omega) ⟨m, ha.new (by omega) c, rfl, rfl, .inr ⟨by omega, rfl, a, ha.second, rfl, rfl⟩⟩
      · rw [if_neg c, if_pos rfl]
        exact ih (m + 1) _ _ _ _ _ (by omega) (by omega) (by omega) ⟨a, ha.keep (.inr (by omega)), rfl, rfl, .inr ⟨by omega, rfl, m, FM.one (fun j hj => by omega) (by omega), rfl, rfl⟩⟩
    · rw [stress_greatest.go, er, es]
      by_cases c : rd n (a : Int) < rd n (m : Int)
      · rw [if_pos c]
        exact ih (m + 1) _ _ _ _ _ (by omega) (by omega) (by omega) ⟨m, ha.new (by omega) c, rfl, rfl, .inr ⟨by omega, rfl, a, ha.second, rfl, rfl⟩⟩
      · rw [if_neg c, if_neg (by decide)]
        by_cases c2 : rd n (b : Int) < rd n (m : Int)
        · rw [if_pos c2]
          exact ih (m + 1) _ _ _ _ _ (by omega) (by omega) (by omega) ⟨a, ha.keep (.inr (by omega)), rfl, rfl, .inr ⟨by omega, rfl, m, hb.new (by omega) c2, rfl, rfl⟩⟩
        · rw [if_neg c2]
          exact ih (m + 1) _ _ _ _ _ (by omega) (by omega) (by omega) ⟨a, ha.keep (.inr (by omega)), rfl, rfl, .inr ⟨by omega, rfl, b, hb.keep (.inr (by omega)), rfl, rfl⟩⟩
theorem great_ok (names : List ByteArray) (n : List Int) (hn : names.length = n.length) (h0 : 0 < n.length) :
    ∃ r : ByteArray × Int × ByteArray × Int × Nat, stress_greatest.go names n ⟨#[]⟩ 0 ⟨#[]⟩ 0 0 = some r ∧ GS names n n.length r.1 r.2.1 r.2.2.1 r.2.2.2.1 r.2.2.2.2 := by
  have hn0 : 0 < names.length := by omega
  have e1 : n = n[0] :: n.drop 1 := by
    have := List.drop_eq_getElem_cons h0
    rwa [List.drop_zero] at this
  have e2 : names = names[0] :: names.drop 1 := by
    have := List.drop_eq_getElem_cons hn0
    rwa [List.drop_zero] at this
  have hg := great_go names n hn (n.length - 1) 1 names[0] n[0] ⟨#[]⟩ 0 1 rfl (Nat.le_refl _) h0 ⟨0, FM.one (fun j hj => by omega) (by omega), (rd_at n 0 h0).symm, by simp [rdOf, hn0], .inl ⟨rfl, rfl, rfl⟩⟩
  obtain ⟨r, h1, h2⟩ := hg
  refine ⟨r, ?_, h2⟩
  rw [e1, e2, stress_greatest.go]
  exact h1
theorem greatrL (n : List Int) (hl : n.length ≤ 1000) (out : Int) (d : Nat) : ∀ (i : Nat) (a0 : Int), n.length - i = d → i ≤ n.length → ((∀ j : Nat, j < i → (j : Int) = out) ∧ a0 = -1 ∨ ∃ a : Nat, a0 = (a : Int) ∧ FM n i out a) →
    ∃ r : Int, Ev (fun k => contangoref39_greatest.l0 k n out a0 (i : Int)) r ∧ ((∀ j : Nat, j < n.length → (j : Int) = out) ∧ r = -1 ∨ ∃ a : Nat, r = (a : Int) ∧ FM n n.length out a) := by
  induction d with
  | zero =>
    intro i a0 hd hle h
    have e : i = n.length := by omega
    subst e
    refine ⟨a0, Ev.shift ?_, h⟩
    simp only [contangoref39_greatest.l0]
    exact Ev.neg (by omega) (Ev.val _)
  | succ d ih =>
    intro i a0 hd hle h
    have hlt : i < n.length := by omega
    have hw : wrap64 ((i : Int) + 1) = ((i + 1 : Nat) : Int) := by unfold wrap64; omega
    have fin : ∀ a1 : Int, ((∀ j : Nat, j < i + 1 → (j : Int) = out) ∧ a1 = -1 ∨ ∃ a : Nat, a1 = (a : Int) ∧ FM n (i + 1) out a) → (∀ r, Ev (fun k => contangoref39_greatest.l0 k n out a1 ((i + 1 : Nat) : Int)) r → Ev (fun k => contangoref39_greatest.l0 k n out a0 (i : Int)) r) →
        ∃ r : Int, Ev (fun k => contangoref39_greatest.l0 k n out a0 (i : Int)) r ∧ ((∀ j : Nat, j < n.length → (j : Int) = out) ∧ r = -1 ∨ ∃ a : Nat, r = (a : Int) ∧ FM n n.length out a) := by
      intro a1 h1 h2
      obtain ⟨r, e1, e2⟩ := ih (i + 1) a1 (by clear h h1 h2; omega) (by clear h h1 h2; omega) h1
      exact ⟨r, h2 r e1, e2⟩
    by_cases ho : (i : Int) = out
    · refine fin a0 ?_ (fun r hr => Ev.shift ?_)
      · rcases h with ⟨h1, h2⟩ | ⟨a, h1, h2⟩
        · exact .inl ⟨fun j hj => by by_cases e : j = i; (subst e; exact ho); exact h1 j (by omega), h2⟩
        · exact .inr ⟨a, h1, h2.keep (.inl ho)⟩
      · simp only [contangoref39_greatest.l0, hw]
        exact Ev.pos (by omega) (Ev.pos ho hr)
    · rcases h with ⟨h1, h2⟩ | ⟨a, h1, h2⟩
      · subst h2
        refine fin (i : Int) (.inr ⟨i, rfl, FM.one h1 ho⟩) (fun r hr => Ev.shift ?_)
        simp only [contangoref39_greatest.l0, hw]
        exact Ev.pos (by omega) (Ev.neg ho (Ev.pos (by omega) hr))
      · subst h1
        have ha := h2.1
        by_cases c : rd n (i : Int) > rd n (a : Int)
        · refine fin (i : Int) (.inr ⟨i, rfl, h2.new ho c⟩) (fun r hr => Ev.shift ?_)
          simp only [contangoref39_greatest.l0, hw]
          exact Ev.pos (by omega) (Ev.neg ho (Ev.neg (by omega) (Ev.pos (by omega) (Ev.pos (by omega) (Ev.pos (by omega) (Ev.pos c hr))))))
        · refine fin (a : Int) (.inr ⟨a, rfl, h2.keep (.inr (by omega))⟩) (fun r hr => Ev.shift ?_)
          simp only [contangoref39_greatest.l0, hw]
          exact Ev.pos (by omega) (Ev.neg ho (Ev.neg (by omega) (Ev.pos (by omega) (Ev.pos (by omega) (Ev.pos (by omega) (Ev.neg c hr))))))
theorem greatr_ok (n : List Int) (hl : n.length ≤ 1000) (out : Int) : ∃ r : Int, Ev (fun k => contangoref39_greatest.f k n out) r ∧ ((∀ j : Nat, j < n.length → (j : Int) = out) ∧ r = -1 ∨ ∃ a : Nat, r = (a : Int) ∧ FM n n.length out a) := by
  simp only [contangoref39_greatest.f]
  exact greatrL n hl out n.length 0 (-1) (by omega) (by omega) (.inl ⟨fun j hj => by omega, rfl⟩)
/-! what holds of a scenario of losses that may be -/
theorem nsA_ok (l : List S49) (a : Int) : ∀ (r : List ByteArray) (t : List Int), (nsA l a r t).2 = 0 → (nsA l a r t).1 = t ++ r.map (fun g => (sm (bv l a g)).1) ∧ ∀ g ∈ r, (sm (bv l a g)).2 = 0 := by
  intro r
  induction r with
  | nil => intro t _; simp [nsA]
  | cons s r ih =>
    intro t h
    rw [nsA] at h ⊢
    by_cases hc : (sm (bv l a s)).2 = 0
    · rw [if_pos hc] at h ⊢
      obtain ⟨h1, h2⟩ := ih _ h
      refine ⟨by rw [h1]; simp, fun g hg => ?_⟩
      rcases List.mem_cons.mp hg with rfl | hg
      · exact hc
      · exact h2 g hg
    · rw [if_neg hc] at h
      exact absurd h hc
theorem smv_ok {xs : List Int} (h1 : xs.all fitB = true) (h2 : (sm xs).2 = 0) : (sm xs).1 = sumI xs ∧ fitB (sumI xs) = true := by
  unfold sm smV at h2 ⊢
  rw [if_pos h1, Int.zero_add] at h2 ⊢
  by_cases hc : fitB (sumI xs) = true
  · rw [if_pos hc]; exact ⟨rfl, hc⟩
  · rw [if_neg hc] at h2; cases h2
def vg (l : List S49) (a : Int) (g : ByteArray) : Int := sumI (bv l a g)
structure Sc (l : List S49) (y : Nat) : Prop where
  names : (bareV l y).1 = gn l
  ns : (bareV l y).2.1 = (gn l).map (vg l y)
  fit : ∀ g ∈ gn l, 0 ≤ vg l y g ∧ vg l y g ≤ 1152921504606846976
theorem sm_bv_all {l : List S49} (h0 : lsA l = 0) {y : Nat} (hy : y < (rd_T49 l 0).f2.length) (g : ByteArray) : (bv l y g).all fitB = true ∧ 0 ≤ vg l y g := by
  have hg := (lsA_good h0).2.2
  unfold vg
  have key : ∀ l' : List S49, (∀ x ∈ l', Good (rd_T49 l 0).f2.length x) → (bv l' y g).all fitB = true ∧ 0 ≤ sumI (bv l' y g) := by
    intro l'
    induction l' with
    | nil => intro _; exact ⟨rfl, Int.le_refl _⟩
    | cons x r ih =>
      intro hh
      obtain ⟨i1, i2⟩ := ih (fun z hz => hh z (List.mem_cons_of_mem _ hz))
      have hx := hh x List.mem_cons_self
      have hlen := hx.len
      have hfa : fitB (rd x.f2 (y : Int)) = true := by
        rw [rd_at _ y (by omega)]
        exact List.all_eq_true.mp hx.fit _ (List.getElem_mem _)
      have hm0 := hx.m0
      have hm1 := hx.m1
      have hb : fitB (bvx y x) = true ∧ 0 ≤ bvx y x := by
        unfold fitB at hfa ⊢
        simp only [decide_eq_true_eq] at hfa ⊢
        have hwr : wrap64 (rd x.f2 (y : Int) - x.f3) = rd x.f2 (y : Int) - x.f3 := wrap_small (by omega) (by omega)
        unfold bvx mx
        rw [hwr]
        refine ⟨?_, ?_⟩ <;> split <;> omega
      rw [bv_cons]
      by_cases hq : strQ x.f1 g = true
      · rw [if_pos hq]
        have hs : sumI ([bvx y x] ++ bv r y g) = bvx y x + sumI (bv r y g) := rfl
        refine ⟨by simp [hb.1, i1], by rw [hs]; omega⟩
      · rw [if_neg hq]
        exact ⟨i1, i2⟩
  exact key l hg
theorem sc_of {l : List S49} (h0 : lsA l = 0) {y : Nat} (hy : y < (rd_T49 l 0).f2.length) (he : (bareV l y).2.2 = 0) : Sc l y := by
  have e : bareV l y = if (nsA l y (gn l) []).2 = 0 then (gn l, (nsA l y (gn l) []).1, 0) else ([], [], (nsA l y (gn l) []).2) := by
    unfold bareV
    rw [if_pos h0, if_neg (by omega)]
  by_cases hc : (nsA l y (gn l) []).2 = 0
  · rw [if_pos hc] at e
    obtain ⟨n1, n2⟩ := nsA_ok l y (gn l) [] hc
    have hv : ∀ g ∈ gn l, (sm (bv l y g)).1 = vg l y g ∧ fitB (vg l y g) = true := fun g hg => smv_ok (sm_bv_all h0 hy g).1 (n2 g hg)
    refine ⟨by rw [e], ?_, fun g hg => ?_⟩
    · rw [e]
      show (nsA l y (gn l) []).1 = _
      rw [n1, List.nil_append]
      exact List.map_congr_left (fun g hg => (hv g hg).1)
    · have := (hv g hg).2
      unfold fitB at this
      simp only [decide_eq_true_eq] at this
      exact ⟨(sm_bv_all h0 hy g).2, this.2⟩
  · rw [if_neg hc] at e
    rw [e] at he
    exact absurd he hc
theorem gn_pos {l : List S49} (h : 0 < l.length) : 0 < (gn l).length := by
  have : l[0].f1 ∈ gn l := (gn_mem l _).mpr ⟨l[0], List.getElem_mem h, rfl⟩
  exact List.length_pos_of_mem this
/-- The greatest of what two groups have together, of a scenario. -/
def tyV (l : List S49) (y : Int) : Int × List ByteArray × Int :=
  if (bareV l y).2.2 = 0 then (match stress_greatest.go (bareV l y).1 (bareV l y).2.1 ⟨#[]⟩ 0 ⟨#[]⟩ 0 0 with
    | none => (0, [], 99)
    | some g => if fitB (g.2.1 + g.2.2.2.1) = true then (g.2.1 + g.2.2.2.1, [g.1, g.2.2.1].take g.2.2.2.2, 0) else (0, [], 3)) else (0, [], (bareV l y).2.2)
def twV (l : List S49) : Nat → Int → Int → Int → List ByteArray → Int × Int × List ByteArray × Int
  | 0, _, size, sc, gr => (size, sc, gr, 0)
  | d + 1, y, size, sc, gr => if (tyV l y).2.2 = 0 then (if y = 0 ∨ size < (tyV l y).1 then twV l d (y + 1) (tyV l y).1 y (tyV l y).2.1 else twV l d (y + 1) size sc gr) else (0, 0, [], (tyV l y).2.2)
def twoV (l : List S49) : Int × Int × List ByteArray × Int := if lsA l = 0 then twV l (rd_T49 l 0).f2.length 0 0 0 [] else (0, 0, [], lsA l)
/-- What 'greatest' finds of a scenario: its numbers are two of the groups'. -/
theorem sc_great {l : List S49} (h0 : 0 < l.length) {y : Nat} (hs : Sc l y) :
    ∃ g : ByteArray × Int × ByteArray × Int × Nat, stress_greatest.go (bareV l y).1 (bareV l y).2.1 ⟨#[]⟩ 0 ⟨#[]⟩ 0 0 = some g ∧ GS (gn l) ((gn l).map (vg l y)) (gn l).length g.1 g.2.1 g.2.2.1 g.2.2.2.1 g.2.2.2.2 ∧ 0 ≤ g.2.1 ∧ g.2.1 ≤ 1152921504606846976 ∧ 0 ≤ g.2.2.2.1 ∧ g.2.2.2.1 ≤ 1152921504606846976 := by
  have hp := gn_pos h0
  obtain ⟨g, h1, h2⟩ := great_ok (gn l) ((gn l).map (vg l y)) (by simp) (by simpa using hp)
  rw [hs.names, hs.ns]
  rw [List.length_map] at h2
  refine ⟨g, h1, h2, ?_⟩
  have hv : ∀ a : Nat, a < (gn l).length → 0 ≤ rd ((gn l).map (vg l y)) (a : Int) ∧ rd ((gn l).map (vg l y)) (a : Int) ≤ 1152921504606846976 := fun a ha => by
    rw [rd_at _ a (by simpa using ha), List.getElem_map]
    exact hs.fit _ (List.getElem_mem ha)
  obtain ⟨a, ha, e1, e2, hk⟩ := h2
  have := hv a ha.1
  rw [e1]
  rcases hk with ⟨_, _, e3⟩ | ⟨_, _, b, hb, e3, _⟩
  · rw [e3]; omega
  · have := hv b hb.1
    rw [e3]; omega
theorem add_some (a b : Int) (ha : -1152921504606846976 ≤ a ∧ a ≤ 1152921504606846976) (hb : -1152921504606846976 ≤ b ∧ b ≤ 1152921504606846976) : cents_Add.f a b = some (if fitB (a + b) = true then (a + b, 0) else (0, 3)) := by
  have fa : fitB a = true := by unfold fitB; exact decide_eq_true ha
  have fb : fitB b = true := by unfold fitB; exact decide_eq_true hb
  have hw : wrap64 (a + b) = a + b := wrap_small (by omega) (by omega)
  unfold cents_Add.f
  rw [fits_some, fits_some, fa, fb, hw, fitting_some]
  rfl
theorem two_go (l : List S49) (h0 : lsA l = 0) : ∀ (d y : Nat) (size sc : Int) (gr : List ByteArray), y + d = (rd_T49 l 0).f2.length → Ev (fun k => stress_Two.go k l d y size sc gr) (twV l d y size sc gr) := by
  intro d
  obtain ⟨hl0, hl1, hg⟩ := lsA_good h0
  induction d with
  | zero => intro y size sc gr _; exact Ev.val _
  | succ d ih =>
    intro y size sc gr hyd
    simp only [stress_Two.go, twV]
    refine Ev.bind (bare_ev l y) ?_
    by_cases he : (bareV l y).2.2 = 0
    · refine Ev.pos he ?_
      have hs := sc_of h0 (by omega) he
      obtain ⟨g, e1, _, b1, b2, b3, b4⟩ := sc_great hl0 hs
      have et : tyV l y = if fitB (g.2.1 + g.2.2.2.1) = true then (g.2.1 + g.2.2.2.1, [g.1, g.2.2.1].take g.2.2.2.2, 0) else (0, [], 3) := by
        unfold tyV
        rw [if_pos he, e1]
      rw [e1, et]
      simp only [Option.bind_some]
      rw [add_some _ _ (by omega) (by omega)]
      simp only [Option.bind_some]
      have hi := fun a b c => ih (y + 1) a b c (by omega)
      by_cases hf : fitB (g.2.1 + g.2.2.2.1) = true
      · simp only [if_pos hf]
        exact Ev.pos (by trivial) (Ev.both (fun _ => hi _ _ _) (fun _ => hi _ _ _))
      · simp only [if_neg hf]
        exact Ev.neg (by decide) (Ev.val _)
    · have et : tyV l y = (0, [], (bareV l y).2.2) := by unfold tyV; rw [if_neg he]
      rw [et, if_neg he]
      exact Ev.neg he (Ev.val _)
theorem two_ev (l : List S49) : Ev (fun k => stress_Two.f k l) (twoV l) := by
  simp only [stress_Two.f, twoV]
  refine Ev.bind (lsA_ev l) (Ev.both (fun h0 => Ev.pos (by have := (lsA_good h0).1; omega) ?_) (fun _ => Ev.val _))
  exact two_go l h0 _ 0 0 0 [] (by omega)
theorem tworL (l : List S49) (hsz : ∀ x ∈ l, x.f0.size ≤ 9223372036854775806 ∧ x.f1.size ≤ 9223372036854775806) (h0 : lsA l = 0) : ∀ (d y : Nat) (size sc : Int) (gr : List ByteArray), y + d = (rd_T49 l 0).f2.length → (y = 0 → size = -1) → Ev (fun k => contangoref39_Two.l0 k l size sc gr (y : Int)) (twV l d y size sc gr) := by
  intro d
  obtain ⟨hl0, hl1, hg⟩ := lsA_good h0
  have hN : (rd_T49 l 0).f2.length ≤ 32 := (hg _ (List.getElem_mem hl0)).le
  induction d with
  | zero =>
    intro y size sc gr hy _
    refine Ev.shift ?_
    simp only [contangoref39_Two.l0]
    exact Ev.pos (by omega) (Ev.neg (by omega) (Ev.val _))
  | succ d ih =>
    intro y size sc gr hyd hz
    have hw : wrap64 ((y : Int) + 1) = ((y + 1 : Nat) : Int) := by unfold wrap64; omega
    refine Ev.shift ?_
    simp only [contangoref39_Two.l0, twV]
    refine Ev.pos (by omega) (Ev.pos (by omega) (Ev.bind (barer_ev l hsz y) ?_))
    by_cases he : (bareV l y).2.2 = 0
    · refine Ev.pos he ?_
      have hs := sc_of h0 (by omega) he
      obtain ⟨g, e1, hGS, b1, b2, b3, b4⟩ := sc_great hl0 hs
      have et : tyV l y = if fitB (g.2.1 + g.2.2.2.1) = true then (g.2.1 + g.2.2.2.1, [g.1, g.2.2.1].take g.2.2.2.2, 0) else (0, [], 3) := by
        unfold tyV
        rw [if_pos he, e1]
      have hgl := gn_len l
      have hgp := gn_pos hl0
      rw [hs.names, hs.ns]
      obtain ⟨ra, ea, ha⟩ := greatr_ok ((gn l).map (vg l y)) (by simp; omega) (-1)
      obtain ⟨rb, eb, hb⟩ := greatr_ok ((gn l).map (vg l y)) (by simp; omega) ra
      refine Ev.bind ea (Ev.bind eb ?_)
      rw [List.length_map] at ha hb
      obtain ⟨a, fa, ga, gs, hk⟩ := hGS
      have era : ra = (a : Int) := by
        rcases ha with ⟨h1, _⟩ | ⟨a', h1, h2⟩
        · have := h1 0 hgp; omega
        · rw [h1, h2.unique fa]
      have hj1 : ∀ (s : Int) (own : List ByteArray), s = g.2.1 + g.2.2.2.1 → own = [g.1, g.2.2.1].take g.2.2.2.2 → Ev (fun k => contangoref39_Two.j1 k l size sc gr (y : Int) s own) (if (tyV l y).2.2 = 0 then (if (y : Int) = 0 ∨ size < (tyV l y).1 then twV l d (y + 1) (tyV l y).1 y (tyV l y).2.1 else twV l d (y + 1) size sc gr) else (0, 0, [], (tyV l y).2.2)) := by
        intro s own hs1 hs2
        subst hs1 hs2
        refine Ev.shift ?_
        simp only [contangoref39_Two.j1, hw]
        rw [fitsr_some, et]
        simp only [Option.bind_some]
        by_cases hf : fitB (g.2.1 + g.2.2.2.1) = true
        · simp only [if_pos hf]
          rw [if_pos trivial]
          by_cases hc : (y : Int) = 0 ∨ size < g.2.1 + g.2.2.2.1
          · rw [if_pos hc]
            have hgt : g.2.1 + g.2.2.2.1 > size := by
              rcases hc with hc | hc
              · have := hz (by omega); omega
              · omega
            exact Ev.pos hgt (ih (y + 1) _ _ _ (by omega) (by omega))
          · rw [if_neg hc]
            exact Ev.neg (by omega) (ih (y + 1) _ _ _ (by omega) (by omega))
        · simp only [if_neg hf]
          exact Ev.val _
      have hal := fa.1
      have hal2 : (a : Int) < (((gn l).map (vg l y)).length : Int) := by simp; omega
      subst era
      have hwr : ∀ u v : Int, 0 ≤ u → u ≤ 1152921504606846976 → 0 ≤ v → v ≤ 1152921504606846976 → wrap64 (u + v) = u + v := fun u v _ _ _ _ => wrap_small (by omega) (by omega)
      refine Ev.pos (by omega) (Ev.pos hal2 (Ev.pos (by omega) ?_))
      simp only [Option.bind_some]
      rcases hk with ⟨hm, hk, hn1⟩ | ⟨hm, hk, b, fb, hn1, hs1⟩
      · have erb : rb = -1 := by
          rcases hb with ⟨_, h2⟩ | ⟨b', _, h2⟩
          · exact h2
          · have := h2.1; have := h2.2.1; omega
        subst erb
        refine Ev.neg (by omega) (hj1 _ _ (by rw [ga, hn1, Int.add_zero]) (by rw [hk, gs]; rfl))
      · have erb : rb = (b : Int) := by
          rcases hb with ⟨h1, _⟩ | ⟨b', h1, h2⟩
          · have h3 := h1 0 (by omega); have h4 := h1 1 (by omega); omega
          · rw [h1, h2.unique fb]
        subst erb
        have hbl := fb.1
        have hbl2 : (b : Int) < (((gn l).map (vg l y)).length : Int) := by simp; omega
        rw [ga] at b1 b2
        rw [hn1] at b3 b4
        refine Ev.pos (by omega) (Ev.pos (by omega) (Ev.pos hbl2 (Ev.pos (by omega) (Ev.pos (by simp) ?_))))
        exact hj1 _ _ (by rw [hwr _ _ b1 b2 b3 b4, ga, hn1]) (by rw [hk, gs, hs1]; rfl)
    · have et : tyV l y = (0, [], (bareV l y).2.2) := by unfold tyV; rw [if_neg he]
      rw [et, if_neg he]
      exact Ev.neg he (Ev.val _)
theorem twV_start (l : List S49) (d : Nat) (a b : Int) (g : List ByteArray) (a' b' : Int) (g' : List ByteArray) : twV l (d + 1) 0 a b g = twV l (d + 1) 0 a' b' g' := by
  simp only [twV, true_or, if_true]
theorem twor_ev (l : List S49) (hsz : ∀ x ∈ l, x.f0.size ≤ 9223372036854775806 ∧ x.f1.size ≤ 9223372036854775806) : Ev (fun k => contangoref39_Two.f k l) (twoV l) := by
  simp only [contangoref39_Two.f, twoV]
  refine Ev.bind (lsAr_ev l hsz) (Ev.both (fun h0 => ?_) (fun _ => Ev.val _))
  have hN : 0 < (rd_T49 l 0).f2.length := by
    obtain ⟨hl0, _, hg⟩ := lsA_good h0
    exact (hg _ (List.getElem_mem hl0)).pos
  obtain ⟨d, hd⟩ : ∃ d, (rd_T49 l 0).f2.length = d + 1 := ⟨_, (Nat.succ_pred_eq_of_pos hN).symm⟩
  have := tworL l hsz h0 (d + 1) 0 (-1) 0 [] (by omega) (fun _ => rfl)
  rw [hd, twV_start l d 0 0 [] (-1) 0 []]
  exact this
theorem rdOf_mid (t : List ByteArray) (i : Nat) (h : i < t.length) : rdOf ByteArray.empty t (i : Int) = t[i] := by simp [rdOf, h]
/-! the place of a text in a rising list, by halves -/
theorem less_some (a b : ByteArray) : cmp_Less_string.f a b = some (Op.bytesLess a.toList b.toList) := by
  unfold cmp_Less_string.f cmp_isNaN_string.f
  simp
theorem searchL (names : List ByteArray) (hn : names.length ≤ 1000) (hs : names.Pairwise fun a b => Op.bytesLess a.toList b.toList = true) (j : Nat) (hj : j < names.length) (c : Nat) : ∀ (lo hi : Nat), hi - lo = c → lo ≤ j → j ≤ hi → hi ≤ names.length →
    Ev (fun k => slices_BinarySearch_string_string.l0 k names names[j] (names.length : Int) (lo : Int) (hi : Int)) ((j : Int), true) := by
  induction c using Nat.strongRecOn with
  | ind c ih =>
    intro lo hi hc h1 h2 h3
    refine Ev.shift ?_
    simp only [slices_BinarySearch_string_string.l0]
    by_cases hlt : lo < hi
    · have e : wrap64 (IntKind.u64.wrap (wrap64 ((lo : Int) + (hi : Int))) / 2) = (((lo + hi) / 2 : Nat) : Int) := by
        have e1 : wrap64 ((lo : Int) + (hi : Int)) = (lo : Int) + (hi : Int) := wrap_small (by omega) (by omega)
        rw [e1]
        have e2 : IntKind.u64.wrap ((lo : Int) + (hi : Int)) = (lo : Int) + (hi : Int) := by
          simp only [IntKind.wrap, IntKind.bits, IntKind.signed]
          simp
          omega
        rw [e2]
        rw [wrap_small (by omega) (by omega)]
        omega
      have hm1 : (lo + hi) / 2 < hi := by omega
      have hm2 : lo ≤ (lo + hi) / 2 := by omega
      generalize hmid : (lo + hi) / 2 = mid at *
      simp only [e]
      refine Ev.pos (by omega) (Ev.pos (by omega) (Ev.pos (by omega) ?_))
      rw [less_some, rdOf_mid names mid (by omega)]
      simp only [Option.bind_some]
      have hw : wrap64 ((mid : Int) + 1) = ((mid + 1 : Nat) : Int) := by unfold wrap64; omega
      rw [hw]
      by_cases hb : Op.bytesLess names[mid].toList names[j].toList = true
      · refine Ev.pos hb (ih (hi - (mid + 1)) (by omega) (mid + 1) hi rfl ?_ h2 h3)
        rcases Nat.lt_trichotomy mid j with c1 | c1 | c1
        · omega
        · subst c1
          rw [less_irrefl] at hb
          cases hb
        · have h4 := List.pairwise_iff_getElem.mp hs j mid hj (by omega) c1
          have := less_trans _ _ _ hb h4
          rw [less_irrefl] at this
          cases this
      · refine Ev.neg hb (ih (mid - lo) (by omega) lo mid rfl h1 ?_ (by omega))
        rcases Nat.lt_or_ge mid j with c1 | c1
        · exact absurd (List.pairwise_iff_getElem.mp hs mid j (by omega) hj c1) hb
        · exact c1
    · have e1 : lo = j := by omega
      subst e1
      refine Ev.neg (by omega) (Ev.pos (by omega) (Ev.pos (by omega) (Ev.pos (by omega) ?_)))
      rw [rdOf_mid names lo hj]
      exact Ev.pos (by trivial) (Ev.val _)
theorem search_ev (names : List ByteArray) (hn : names.length ≤ 1000) (hs : names.Pairwise fun a b => Op.bytesLess a.toList b.toList = true) (j : Nat) (hj : j < names.length) :
    Ev (fun k => slices_BinarySearch_string_string.f k names names[j]) ((j : Int), true) := by
  simp only [slices_BinarySearch_string_string.f]
  exact searchL names hn hs j hj _ 0 names.length rfl (by omega) (by omega) (Nat.le_refl _)
def woV (l : List S49) (g : ByteArray) : Nat → Int → Int → Int → Int × Int × Int
  | 0, _, n, sc => (n, sc, 0)
  | d + 1, y, n, sc => if (bareV l y).2.2 = 0 then (if n < vg l y g then woV l g d (y + 1) (vg l y g) y else woV l g d (y + 1) n sc) else (0, 0, (bareV l y).2.2)
def isG (l : List S49) (g : ByteArray) : Bool := l.any (fun x => x.f1.toList == g.toList)
def worV (l : List S49) (g : ByteArray) : Int × Int × Int := if lsA l = 0 then (if isG l g = true then woV l g (rd_T49 l 0).f2.length 0 0 0 else (0, 0, 11)) else (0, 0, lsA l)
theorem isG_at {l : List S49} {g : ByteArray} (h : isG l g = true) : ∃ j, ∃ hj : j < (gn l).length, (gn l)[j] = g := by
  obtain ⟨x, hx, hq⟩ := List.any_eq_true.mp h
  have e := (strQ_iff x.f1 g).mp hq
  exact List.getElem_of_mem ((gn_mem l g).mpr ⟨x, hx, e⟩)
theorem wor_go (l : List S49) (h0 : lsA l = 0) (g : ByteArray) (hg : isG l g = true) : ∀ (d y : Nat) (n sc : Int), y + d = (rd_T49 l 0).f2.length → Ev (fun k => stress_Worst.go k l g d y n sc) (woV l g d y n sc) := by
  intro d
  have hgl := gn_len l
  have hl1 := (lsA_good h0).2.1
  obtain ⟨j, hj, ej⟩ := isG_at hg
  induction d with
  | zero => intro y n sc _; exact Ev.val _
  | succ d ih =>
    intro y n sc hyd
    simp only [stress_Worst.go, woV]
    refine Ev.bind (bare_ev l y) (Ev.both (fun he => ?_) (fun _ => Ev.val _))
    have hs := sc_of h0 (by omega) he
    rw [hs.names, hs.ns]
    have hb := search_ev (gn l) (by omega) (gn_sorted l) j hj
    rw [ej] at hb
    refine Ev.bind hb ?_
    have hv : rd ((gn l).map (vg l y)) (j : Int) = vg l y g := by
      rw [rd_at _ j (by simpa using hj), List.getElem_map, ej]
    simp only [hv]
    exact Ev.pos ⟨by omega, by simp; omega⟩ (Ev.both (fun _ => ih (y + 1) _ _ (by omega)) (fun _ => ih (y + 1) _ _ (by omega)))
theorem wor_ev (l : List S49) (g : ByteArray) : Ev (fun k => stress_Worst.f k l g) (worV l g) := by
  simp only [stress_Worst.f, worV]
  refine Ev.bind (lsA_ev l) (Ev.both (fun h0 => ?_) (fun _ => Ev.val _))
  have hl := (lsA_good h0).1
  by_cases hg : isG l g = true
  · rw [if_pos hg]
    exact Ev.pos hg (Ev.pos (by omega) (wor_go l h0 g hg _ 0 0 0 (by omega)))
  · rw [if_neg hg]
    exact Ev.neg hg (Ev.val _)
theorem worr2 (l : List S49) (g : ByteArray) (names : List ByteArray) (ns : List Int) (hn : names.length ≤ 1000) (hns : ns.length = names.length) (hs : names.Pairwise fun a b => Op.bytesLess a.toList b.toList = true) (j : Nat) (hj : j < names.length) (ej : names[j] = g) (y : Int) (R : Int × Int × Int) (c : Nat) :
    ∀ (i : Nat) (n sc : Int), names.length - i = c → i ≤ names.length →
    (if i ≤ j then (if rd ns (j : Int) > n then Ev (fun k => contangoref39_Worst.l1 k l g (rd ns (j : Int)) y (wrap64 (y + 1))) R else Ev (fun k => contangoref39_Worst.l1 k l g n sc (wrap64 (y + 1))) R) else Ev (fun k => contangoref39_Worst.l1 k l g n sc (wrap64 (y + 1))) R) →
    Ev (fun k => contangoref39_Worst.l2 k l g n sc y names ns (i : Int)) R := by
  induction c with
  | zero =>
    intro i n sc hc hle h
    rw [if_neg (by omega)] at h
    refine Ev.shift ?_
    simp only [contangoref39_Worst.l2]
    exact Ev.neg (by omega) h
  | succ c ih =>
    intro i n sc hc hle h
    have hlt : i < names.length := by omega
    have hw : wrap64 ((i : Int) + 1) = ((i + 1 : Nat) : Int) := by unfold wrap64; omega
    refine Ev.shift ?_
    simp only [contangoref39_Worst.l2, hw, rdOf_mid names i hlt]
    refine Ev.pos (by omega) (Ev.pos (by omega) ?_)
    by_cases e : i = j
    · subst e
      rw [if_pos (Nat.le_refl _)] at h
      refine Ev.pos (by rw [ej]) (Ev.pos (by omega) ?_)
      by_cases hgt : rd ns (i : Int) > n
      · rw [if_pos hgt] at h
        refine Ev.pos hgt (ih (i + 1) _ _ (by omega) (by omega) ?_)
        rw [if_neg (by omega)]
        exact h
      · rw [if_neg hgt] at h
        refine Ev.neg hgt (ih (i + 1) _ _ (by omega) (by omega) ?_)
        rw [if_neg (by omega)]
        exact h
    · have hne : ¬ names[i].toList = g.toList := by
        intro he
        rw [← ej] at he
        rcases Nat.lt_or_ge i j with c1 | c1
        · have := List.pairwise_iff_getElem.mp hs i j hlt hj c1
          exact less_ne this he
        · have := List.pairwise_iff_getElem.mp hs j i hj hlt (by omega)
          exact less_ne this he.symm
      refine Ev.neg hne (ih (i + 1) n sc (by omega) (by omega) ?_)
      by_cases c1 : i ≤ j
      · rw [if_pos c1] at h
        rw [if_pos (by omega)]
        exact h
      · rw [if_neg c1] at h
        rw [if_neg (by omega)]
        exact h
theorem worr1 (l : List S49) (hsz : ∀ x ∈ l, x.f0.size ≤ 9223372036854775806 ∧ x.f1.size ≤ 9223372036854775806) (h0 : lsA l = 0) (g : ByteArray) (hg : isG l g = true) : ∀ (d y : Nat) (n sc : Int), y + d = (rd_T49 l 0).f2.length → Ev (fun k => contangoref39_Worst.l1 k l g n sc (y : Int)) (woV l g d y n sc) := by
  intro d
  have hgl := gn_len l
  obtain ⟨hl0, hl1, hgd⟩ := lsA_good h0
  have hN : (rd_T49 l 0).f2.length ≤ 32 := (hgd _ (List.getElem_mem hl0)).le
  obtain ⟨j, hj, ej⟩ := isG_at hg
  induction d with
  | zero =>
    intro y n sc hy
    refine Ev.shift ?_
    simp only [contangoref39_Worst.l1]
    exact Ev.pos (by omega) (Ev.neg (by omega) (Ev.val _))
  | succ d ih =>
    intro y n sc hyd
    have hw : wrap64 ((y : Int) + 1) = ((y + 1 : Nat) : Int) := by unfold wrap64; omega
    refine Ev.shift ?_
    simp only [contangoref39_Worst.l1, woV]
    refine Ev.pos (by omega) (Ev.pos (by omega) (Ev.bind (barer_ev l hsz y) (Ev.both (fun he => ?_) (fun _ => Ev.val _))))
    have hs := sc_of h0 (by omega) he
    rw [hs.names, hs.ns]
    refine worr2 l g (gn l) ((gn l).map (vg l y)) (by omega) (by simp) (gn_sorted l) j hj ej (y : Int) _ (gn l).length 0 n sc (by omega) (by omega) ?_
    have hv : rd ((gn l).map (vg l y)) (j : Int) = vg l y g := by
      rw [rd_at _ j (by simpa using hj), List.getElem_map, ej]
    rw [if_pos (by omega), hv, hw]
    by_cases hgt : vg l y g > n
    · rw [if_pos hgt, if_pos hgt]
      exact ih (y + 1) _ _ (by omega)
    · rw [if_neg hgt, if_neg hgt]
      exact ih (y + 1) _ _ (by omega)
theorem worr0 (l : List S49) (hl : l.length ≤ 1000) (g : ByteArray) (R : Int × Int × Int) (c : Nat) : ∀ (i : Nat) (b : Bool), l.length - i = c → i ≤ l.length →
    Ev (fun k => if (b || (l.drop i).any (fun x => x.f1.toList == g.toList)) = true then contangoref39_Worst.l1 k l g (-1) 0 0 else some (0, 0, 11)) R →
    Ev (fun k => contangoref39_Worst.l0 k l g b (i : Int)) R := by
  induction c with
  | zero =>
    intro i b hc hle h
    rw [List.drop_eq_nil_of_le (by omega), List.any_nil, Bool.or_false] at h
    refine Ev.shift ?_
    simp only [contangoref39_Worst.l0]
    exact Ev.neg (by omega) h
  | succ c ih =>
    intro i b hc hle h
    have hlt : i < l.length := by omega
    have hw : wrap64 ((i : Int) + 1) = ((i + 1 : Nat) : Int) := by unfold wrap64; omega
    rw [List.drop_eq_getElem_cons hlt, List.any_cons] at h
    refine Ev.shift ?_
    simp only [contangoref39_Worst.l0, hw, rd_ls l i hlt]
    refine Ev.pos (by omega) ?_
    cases b with
    | true => exact Ev.pos rfl (ih (i + 1) true (by omega) (by omega) (by simpa using h))
    | false => exact Ev.neg (by decide) (Ev.pos (by omega) (ih (i + 1) _ (by omega) (by omega) (by rw [Bool.false_or] at h; exact h)))
theorem vg_nonneg {l : List S49} (h0 : lsA l = 0) {y : Nat} (hy : y < (rd_T49 l 0).f2.length) (g : ByteArray) : 0 ≤ vg l y g := (sm_bv_all h0 hy g).2
theorem woV_start (l : List S49) (h0 : lsA l = 0) (g : ByteArray) (d : Nat) (hd : d + 1 = (rd_T49 l 0).f2.length) : woV l g (d + 1) 0 (-1) 0 = woV l g (d + 1) 0 0 0 := by
  have hv := vg_nonneg h0 (show 0 < (rd_T49 l 0).f2.length by omega) g
  have e0 : vg l ((0 : Nat) : Int) g = vg l 0 g := rfl
  rw [e0] at hv
  simp only [woV]
  rw [if_pos (show -1 < vg l 0 g by omega)]
  by_cases hc : 0 < vg l 0 g
  · rw [if_pos hc]
  · rw [if_neg hc, show vg l 0 g = 0 by omega]
theorem worr_ev (l : List S49) (hsz : ∀ x ∈ l, x.f0.size ≤ 9223372036854775806 ∧ x.f1.size ≤ 9223372036854775806) (g : ByteArray) : Ev (fun k => contangoref39_Worst.f k l g) (worV l g) := by
  simp only [contangoref39_Worst.f, worV]
  refine Ev.bind (lsAr_ev l hsz) (Ev.both (fun h0 => ?_) (fun _ => Ev.val _))
  obtain ⟨hl0, hl1, hgd⟩ := lsA_good h0
  refine worr0 l (by omega) g _ l.length 0 false (by omega) (by omega) ?_
  rw [List.drop_zero, Bool.false_or]
  refine Ev.both (fun hg => ?_) (fun _ => Ev.val _)
  have hN : 0 < (rd_T49 l 0).f2.length := (hgd _ (List.getElem_mem hl0)).pos
  obtain ⟨d, hd⟩ : ∃ d, (rd_T49 l 0).f2.length = d + 1 := ⟨_, (Nat.succ_pred_eq_of_pos hN).symm⟩
  rw [hd, ← woV_start l h0 g d hd.symm]
  exact worr1 l hsz h0 g hg (d + 1) 0 (-1) 0 (by omega)
theorem tyV_len (l : List S49) (y : Int) : (tyV l y).2.1.length ≤ 2 := by
  unfold tyV
  split
  · split
    · exact Nat.zero_le _
    · split
      · simp only [List.length_take, List.length_cons, List.length_nil]; omega
      · exact Nat.zero_le _
  · exact Nat.zero_le _
theorem twV_len (l : List S49) : ∀ (d : Nat) (y size sc : Int) (gr : List ByteArray), gr.length ≤ 2 → (twV l d y size sc gr).2.2.1.length ≤ 2 := by
  intro d
  induction d with
  | zero => intro y size sc gr h; exact h
  | succ d ih =>
    intro y size sc gr h
    rw [twV]
    split
    · split
      · exact ih _ _ _ _ (tyV_len l y)
      · exact ih _ _ _ _ h
    · exact Nat.zero_le _
theorem StressTwos : contangolaw39_StressTwos.Said := by
  intro l g hl _ hsl _
  refine Ev.get ?_
  have hsz : ∀ x ∈ l, x.f0.size ≤ 9223372036854775806 ∧ x.f1.size ≤ 9223372036854775806 := fun x hm => by
    have h := hsl.2 x hm
    simp only [sz49] at h
    omega
  have hll : l.length ≤ 9223372036854775806 := by have := hsl.1; omega
  simp only [contangolaw39_StressTwos.f]
  refine Ev.bind (few_ev l hll) ?_
  cases hf : fewB l with
  | false => exact Ev.neg (by decide) (Ev.bind goes_ev (Ev.val _))
  | true =>
    obtain ⟨h1, h2⟩ := fewB_some hf
    have hlen : (twoV l).2.2.1.length ≤ 1000000 := by
      unfold twoV
      split
      · have := twV_len l (rd_T49 l 0).f2.length 0 0 0 [] (by simp)
        omega
      · exact Nat.zero_le _
    refine Ev.pos rfl (Ev.bind (own_ev l h1 h2) (Ev.bind (two_ev l) (Ev.bind (twor_ev l hsz) (Ev.bind (wor_ev l g) (Ev.bind (worr_ev l hsz g) (Ev.pos rfl (Ev.pos rfl ?_)))))))
    exact Ev.bind (texts_self _ hlen) (Ev.pos rfl (Ev.pos rfl (Ev.pos rfl (Ev.pos rfl (Ev.pos rfl (Ev.bind (kept_ev l h1 h2) (Ev.pos rfl (Ev.bind goes_ev (Ev.val _)))))))))
end Go.Proofs.Ytaookghbppimnaa.Pure
