/- With more margin of any one member what two groups lose together is no greater: the law, as a statement over numbers and lists. -/
import Derived.Test.YtaookghbppimnaaArgStressMargin
namespace Go.Proofs.Ytaookghbppimnaa.Pure
set_option linter.unusedSimpArgs false
set_option linter.unusedVariables false
open Go.RowKit Go.Proofs.Ytaookghbppimnaa.PStressMargin Go.Proofs.Ytaookghbppimnaa.Opens Go.Proofs.YtaookghbppimnaaW.PrintWords Go.Proofs.YtaookghbppimnaaW.PrintLast
/-- Comes to r, at all large numbers of rounds. -/
def Ev {α : Type} (g : Nat → Option α) (r : α) : Prop := ∃ K, ∀ k, K ≤ k → g k = some r
theorem Ev.shift {α : Type} {g : Nat → Option α} {r : α} (h : Ev (fun k => g (k + 1)) r) : Ev g r := by
  obtain ⟨K, h⟩ := h
  refine ⟨K + 1, fun k hk => ?_⟩
  obtain ⟨m, rfl⟩ : ∃ m, k = m + 1 := ⟨k - 1, by omega⟩
  exact h m (by omega)
theorem Ev.val {α : Type} (r : α) : Ev (fun _ => some r) r := ⟨0, fun _ _ => rfl⟩
theorem Ev.bind {α β : Type} {g : Nat → Option α} {f : Nat → α → Option β} {x : α} {r : β} (h : Ev g x) (h' : Ev (fun k => f k x) r) : Ev (fun k => (g k).bind (f k)) r := by
  obtain ⟨K, h⟩ := h
  obtain ⟨K', h'⟩ := h'
  exact ⟨max K K', fun k hk => by show (g k).bind (f k) = some r; rw [h k (by omega)]; exact h' k (by omega)⟩
theorem Ev.get {α : Type} {g : Nat → Option α} {r : α} (h : Ev g r) : ∃ k, g k = some r := by
  obtain ⟨K, h⟩ := h
  exact ⟨K, h K (Nat.le_refl _)⟩
theorem Ev.of {α : Type} {g : Nat → Option α} {r : α} {k0 : Nat} (h : g k0 = some r) (hm : ∀ k, LeO (g k) (g (k + 1))) : Ev g r := ⟨k0, fun _ hk => at_rounds hm hk h⟩
theorem Ev.pos {α : Type} {c : Prop} [Decidable c] {a b : Nat → Option α} {r : α} (hc : c) (h : Ev a r) : Ev (fun k => if c then a k else b k) r := by
  obtain ⟨K, h⟩ := h
  exact ⟨K, fun k hk => by show (if c then a k else b k) = some r; rw [if_pos hc]; exact h k hk⟩
theorem Ev.neg {α : Type} {c : Prop} [Decidable c] {a b : Nat → Option α} {r : α} (hc : ¬ c) (h : Ev b r) : Ev (fun k => if c then a k else b k) r := by
  obtain ⟨K, h⟩ := h
  exact ⟨K, fun k hk => by show (if c then a k else b k) = some r; rw [if_neg hc]; exact h k hk⟩
/-- Both ways, each where it is taken. -/
theorem Ev.ite {α : Type} {c : Prop} [Decidable c] {a b : Nat → Option α} {r : α} (h : c → Ev a r) (h' : ¬ c → Ev b r) : Ev (fun k => if c then a k else b k) r := by
  by_cases hc : c
  · exact Ev.pos hc (h hc)
  · exact Ev.neg hc (h' hc)
theorem wrap_small {n : Int} (h0 : -9223372036854775808 ≤ n) (h1 : n ≤ 9223372036854775807) : wrap64 n = n := by unfold wrap64; omega
/-- Both ways, each with its own end. -/
theorem Ev.both {α : Type} {c : Prop} [Decidable c] {a b : Nat → Option α} {r s : α} (h : c → Ev a r) (h' : ¬ c → Ev b s) : Ev (fun k => if c then a k else b k) (if c then r else s) := by
  by_cases hc : c
  · rw [if_pos hc]; exact Ev.pos hc (h hc)
  · rw [if_neg hc]; exact Ev.neg hc (h' hc)
theorem Ev.valOf {α : Type} {r s : α} (h : s = r) : Ev (fun _ => some r) s := by subst h; exact Ev.val _
theorem less_irrefl (a : List UInt8) : Op.bytesLess a a = false := by
  induction a with
  | nil => rfl
  | cons x r ih =>
    have h : ¬ x < x := fun h => by have := UInt8.lt_iff_toNat_lt.mp h; omega
    simp [Op.bytesLess, ih, h]
theorem less_trans (a : List UInt8) : ∀ b c : List UInt8, Op.bytesLess a b = true → Op.bytesLess b c = true → Op.bytesLess a c = true := by
  induction a with
  | nil =>
    intro b c h1 h2
    cases c with
    | nil => cases b <;> simp [Op.bytesLess] at h2
    | cons z c => rfl
  | cons x a ih =>
    intro b c h1 h2
    cases b with
    | nil => simp [Op.bytesLess] at h1
    | cons y b =>
      cases c with
      | nil => simp [Op.bytesLess] at h2
      | cons z c =>
        simp only [Op.bytesLess, Bool.or_eq_true, decide_eq_true_eq, Bool.and_eq_true, beq_iff_eq, UInt8.lt_iff_toNat_lt] at h1 h2 ⊢
        rcases h1 with h1 | ⟨rfl, h1⟩
        · rcases h2 with h2 | ⟨rfl, h2⟩
          · exact Or.inl (by omega)
          · exact Or.inl h1
        · rcases h2 with h2 | ⟨rfl, h2⟩
          · exact Or.inl h2
          · exact Or.inr ⟨rfl, ih _ _ h1 h2⟩
theorem less_flip {a b : List UInt8} (h : ¬ Op.bytesLess a b = true) (hne : b ≠ a) : Op.bytesLess b a = true := by
  have := Go.Proofs.YtaookghbppimnaaHand.bytesLess_flip b a
  have h' : Op.bytesLess a b = false := by simpa using h
  rw [h', beq_eq_false_iff_ne.mpr hne] at this
  simpa using this
theorem less_ne {a b : List UInt8} (h : Op.bytesLess a b = true) : a ≠ b := by
  intro e
  subst e
  rw [less_irrefl] at h
  cases h
def letB (c : Int) : Bool := decide (97 ≤ c) && decide (c ≤ 122)
def digB (c : Int) : Bool := decide (48 ≤ c) && decide (c ≤ 57)
/-- From place i on, d letters or digits. -/
def restB (s : ByteArray) : Nat → Nat → Bool
  | 0, _ => true
  | d + 1, i => (letB (bt s i) || digB (bt s i)) && restB s d (i + 1)
/-- Is a text a name? -/
def nameB (s : ByteArray) : Bool := decide (0 < s.size) && decide (s.size ≤ 12) && letB (bt s 0) && restB s s.size 0
theorem letter_some (c : Int) : words_letter.f c = some (letB c) := by
  unfold words_letter.f letB
  split <;> rename_i h <;> simp [h]
theorem digit_some (c : Int) : words_digit.f c = some (digB c) := by
  unfold words_digit.f digB
  split <;> rename_i h <;> simp [h]
theorem toList_nil (s : ByteArray) : s.toList = [] ↔ s.size = 0 := by
  rw [ByteArray.toList_eq]
  constructor
  · intro h
    have := congrArg List.length h
    simpa using this
  · intro h
    apply List.eq_nil_of_length_eq_zero
    simpa using h
theorem words_Name_loop (s : ByteArray) (hs : s.size ≤ 12) (d : Nat) : ∀ (k i : Nat), s.size - i = d → i ≤ s.size → d < k → words_Name.l0 k s (s.size : Int) i = some (restB s d i) := by
  induction d with
  | zero =>
    intro k i hd hi hk
    obtain ⟨k, rfl⟩ : ∃ m, k = m + 1 := ⟨k - 1, by omega⟩
    simp only [words_Name.l0]
    rw [if_neg (by omega)]
    rfl
  | succ d ih =>
    intro k i hd hi hk
    obtain ⟨k, rfl⟩ : ∃ m, k = m + 1 := ⟨k - 1, by omega⟩
    have hw : wrap64 ((i : Int) + 1) = ((i + 1 : Nat) : Int) := by unfold wrap64; omega
    simp only [words_Name.l0]
    rw [if_pos (by omega), if_pos (by omega), if_pos (by omega), letter_some, digit_some, hw, ih k (i + 1) (by omega) (by omega) (by omega)]
    simp only [Option.bind_some, restB]
    cases letB (bt s i) <;> cases digB (bt s i) <;> simp
theorem words_Name_some (s : ByteArray) : words_Name.f 20 s = some (nameB s) := by
  unfold words_Name.f nameB
  by_cases h0 : s.size = 0
  · rw [if_pos ((toList_nil s).mpr h0)]
    simp [words_Name.j0, h0]
  · rw [if_neg (fun h => h0 ((toList_nil s).mp h))]
    by_cases h1 : (s.size : Int) > 12
    · rw [if_pos h1]
      have : ¬ s.size ≤ 12 := by omega
      simp [words_Name.j0, this]
    · rw [if_neg h1, if_pos (by omega), letter_some]
      have h2 : s.size ≤ 12 := by omega
      have h3 : 0 < s.size := by omega
      simp only [Option.bind_some, h2, h3, decide_true, Bool.true_and]
      have hl := words_Name_loop s h2 s.size 19 0 (by omega) (by omega) (by omega)
      cases letB (bt s 0)
      · simp [words_Name.j0]
      · simp only [words_Name.j0, Bool.not_true, Bool.false_eq_true, if_false]
        rw [Bool.true_and]
        exact hl
/-- The first fault of a list, each element looked at beside the one ahead of it. -/
def scan {α : Type} (f : Option α → α → Int) : Option α → List α → Int
  | _, [] => 0
  | q, p :: r => if f q p = 0 then scan f (some p) r else f q p
/-- The element ahead of a place. -/
def prevAt {α : Type} (l : List α) (i : Nat) : Option α := if i = 0 then none else l[i - 1]?
theorem prevAt_succ {α : Type} (l : List α) (i : Nat) (h : i < l.length) : prevAt l (i + 1) = some l[i] := by
  simp [prevAt, h]
theorem prevAt_pos {α : Type} (l : List α) (i : Nat) (h0 : 0 < i) (h : i - 1 < l.length) : prevAt l i = some l[i - 1] := by
  rw [prevAt, if_neg (by omega), List.getElem?_eq_getElem h]
theorem scan_cons {α : Type} (f : Option α → α → Int) (q : Option α) (p : α) (r : List α) : scan f q (p :: r) = if f q p = 0 then scan f (some p) r else f q p := rfl
theorem and32 (n : Int) : Go.bits .and .i64 n 4294967295 = n % 4294967296 := by
  have h127 : (BitVec.ofInt 64 4294967295).toNat = 2 ^ 32 - 1 := by decide
  have key : (BitVec.ofInt 64 n &&& BitVec.ofInt 64 4294967295).toNat = (n % ((2 ^ 64 : Nat) : Int)).toNat % 2 ^ 32 := by
    rw [BitVec.toNat_and, BitVec.toNat_ofInt, h127, Nat.and_two_pow_sub_one_eq_mod]
  show IntKind.i64.wrap ((BitVec.ofInt 64 n &&& BitVec.ofInt 64 4294967295).toNat : Nat) = n % 4294967296
  rw [key, IntKind.wrap_i64]
  omega
/-- Is a number money? -/
def fitB (n : Int) : Bool := decide (-1152921504606846976 ≤ n ∧ n ≤ 1152921504606846976)
def sumI (l : List Int) : Int := l.foldr (· + ·) 0
/-- All together, or why that is not told. -/
def smV (l : List Int) (s : Int) : Int × Int := if l.all fitB = true then (if fitB (s + sumI l) = true then (s + sumI l, 0) else (0, 3)) else (0, 2)
theorem fits_some (n : Int) : cents_Fits.f n = some (fitB n) := by
  unfold cents_Fits.f fitB
  by_cases h : n ≥ -1152921504606846976
  · rw [if_pos h]
    congr 1
    exact decide_eq_decide.mpr ⟨fun h2 => ⟨h, h2⟩, fun h2 => h2.2⟩
  · rw [if_neg h]
    congr 1
    exact (decide_eq_false (by omega)).symm
theorem fitting_some (n : Int) : cents_fitting.f n = some (if fitB n = true then (n, 0) else (0, 3)) := by
  unfold cents_fitting.f
  rw [fits_some]
  simp only [Option.bind_some]
  split <;> rfl
theorem sumEnd (hi lo : Int) (h1 : -1152921504606846976 ≤ hi ∧ hi ≤ 1152921504606846976) (h2 : 0 ≤ lo ∧ lo ≤ 1152921504606846976) :
    (if (wrap64 (hi + (lo / 4294967296))) < (-268435456) then (some ((0 : Int), (3 : Int))) else (if (wrap64 (hi + (lo / 4294967296))) > 268435456 then (some (0, 3)) else ((cents_fitting.f (wrap64 ((wrap64 ((wrap64 (hi + (lo / 4294967296))) * 4294967296)) + (Go.bits .and .i64 lo 4294967295)))).bind fun bt => (some (bt.1, bt.2))))) = some (if fitB (hi * 4294967296 + lo) = true then (hi * 4294967296 + lo, 0) else (0, 3)) := by
  have e1 : wrap64 (hi + lo / 4294967296) = hi + lo / 4294967296 := wrap_small (by omega) (by omega)
  rw [e1, and32]
  by_cases c1 : hi + lo / 4294967296 < -268435456
  · rw [if_pos c1, if_neg]
    unfold fitB
    simp only [decide_eq_true_eq]
    omega
  · rw [if_neg c1]
    by_cases c2 : hi + lo / 4294967296 > 268435456
    · rw [if_pos c2, if_neg]
      unfold fitB
      simp only [decide_eq_true_eq]
      omega
    · rw [if_neg c2]
      have e2 : wrap64 ((hi + lo / 4294967296) * 4294967296) = (hi + lo / 4294967296) * 4294967296 := wrap_small (by omega) (by omega)
      have e3 : wrap64 ((hi + lo / 4294967296) * 4294967296 + lo % 4294967296) = hi * 4294967296 + lo := by
        rw [wrap_small (by omega) (by omega)]
        omega
      rw [e2, e3, fitting_some]
      rfl
theorem sumL (l : List Int) (hl : l.length ≤ 1000000) (n : Nat) : ∀ (i : Nat) (hi lo : Int), l.length - i = n → i ≤ l.length → -(268435456 * (i : Int)) ≤ hi → hi ≤ 268435456 * (i : Int) → 0 ≤ lo → lo ≤ 4294967296 * (i : Int) →
    Ev (fun k => cents_Sum.l0 k l hi lo (l.length : Int) (i : Int)) (smV (l.drop i) (hi * 4294967296 + lo)) := by
  induction n with
  | zero =>
    intro i hi lo hd hle h1 h2 h3 h4
    refine Ev.shift ?_
    simp only [cents_Sum.l0]
    rw [List.drop_eq_nil_of_le (by omega)]
    refine Ev.neg (by omega) ?_
    rw [sumEnd hi lo (by omega) (by omega)]
    exact Ev.valOf (by simp [smV, sumI])
  | succ n ih =>
    intro i hi lo hd hle h1 h2 h3 h4
    have hlt : i < l.length := by omega
    have hw : wrap64 ((i : Int) + 1) = ((i + 1 : Nat) : Int) := by unfold wrap64; omega
    refine Ev.shift ?_
    simp only [cents_Sum.l0, hw]
    have hr : rd l (i : Int) = l[i] := by simp [rd, List.getD_eq_getElem?_getD, hlt]
    rw [hr, List.drop_eq_getElem_cons hlt]
    refine Ev.pos (by omega) (Ev.pos (by omega) (Ev.pos (by omega) ?_))
    rw [fits_some, and32]
    simp only [Option.bind_some]
    by_cases hf : fitB l[i] = true
    · refine Ev.pos hf ?_
      have hf2 := hf
      unfold fitB at hf2
      simp only [decide_eq_true_eq] at hf2
      have e1 : wrap64 (hi + l[i] / 4294967296) = hi + l[i] / 4294967296 := wrap_small (by omega) (by omega)
      have e2 : wrap64 (lo + l[i] % 4294967296) = lo + l[i] % 4294967296 := wrap_small (by omega) (by omega)
      rw [e1, e2]
      have h := ih (i + 1) (hi + l[i] / 4294967296) (lo + l[i] % 4294967296) (by omega) (by omega) (by omega) (by omega) (by omega) (by omega)
      have e3 : smV (l[i] :: l.drop (i + 1)) (hi * 4294967296 + lo) = smV (l.drop (i + 1)) ((hi + l[i] / 4294967296) * 4294967296 + (lo + l[i] % 4294967296)) := by
        unfold smV
        rw [List.all_cons, hf, Bool.true_and]
        have e4 : hi * 4294967296 + lo + sumI (l[i] :: l.drop (i + 1)) = (hi + l[i] / 4294967296) * 4294967296 + (lo + l[i] % 4294967296) + sumI (l.drop (i + 1)) := by
          have : sumI (l[i] :: l.drop (i + 1)) = l[i] + sumI (l.drop (i + 1)) := rfl
          rw [this]
          omega
        rw [e4]
      rw [e3]
      exact h
    · have e : smV (l[i] :: l.drop (i + 1)) (hi * 4294967296 + lo) = (0, 2) := by
        unfold smV
        rw [List.all_cons, Bool.eq_false_iff.mpr hf, Bool.false_and]
        rfl
      rw [e]
      exact Ev.neg hf (Ev.val _)
/-- The sum of numbers of money, or why it is not told. -/
def sm (l : List Int) : Int × Int := smV l 0
theorem sm_ev (l : List Int) (hl : l.length ≤ 1000000) : Ev (fun k => cents_Sum.f k l) (sm l) := by
  simp only [cents_Sum.f]
  exact sumL l hl l.length 0 0 0 (by omega) (by omega) (by omega) (by omega) (by omega) (by omega)
/-- What may be wrong with a member's losses, of n scenarios. -/
def lsE (n : Int) (x : S49) : Int := if (x.f2.length : Int) < 1 ∨ (x.f2.length : Int) > 32 ∨ (x.f2.length : Int) ≠ n then 27 else if x.f2.all fitB = true then (if x.f3 < 0 ∨ x.f3 > 1152921504606846976 then 2 else 0) else 2
def lsF (n : Int) (q : Option S49) (x : S49) : Int :=
  if (nameB x.f0 && nameB x.f1) = true then (match q with | none => lsE n x | some q => if Op.bytesLess q.f0.toList x.f0.toList = true then lsE n x else 12) else 10
def lsA (l : List S49) : Int := if l.length = 0 ∨ l.length > 32 then 8 else scan (lsF ((rd_T49 l 0).f2.length : Int)) none l
theorem rd_ls (l : List S49) (i : Nat) (h : i < l.length) : rd_T49 l (i : Int) = l[i] := by simp [rd_T49, h]
theorem name_ev (s : ByteArray) : Ev (fun k => words_Name.f k s) (nameB s) := Ev.of (words_Name_some s) (fun k => words_Name.mono _ k)
theorem rd_at (l : List Int) (i : Nat) (h : i < l.length) : rd l (i : Int) = l[i] := by simp [rd, h]
theorem oneL (x0 x1 : ByteArray) (xs : List Int) (m : Int) (hx : xs.length ≤ 32) (n : Nat) : ∀ i : Nat, xs.length - i = n → i ≤ xs.length →
    Ev (fun k => stress_one.l0 k xs (xs.length : Int) (i : Int) x0 x1 xs m) (if (xs.drop i).all fitB = true then (if m < 0 ∨ m > 1152921504606846976 then 2 else 0) else 2) := by
  induction n with
  | zero =>
    intro i hi hle
    refine Ev.shift ?_
    simp only [stress_one.l0]
    rw [List.drop_eq_nil_of_le (by omega), List.all_nil, if_pos rfl]
    refine Ev.neg (by omega) ?_
    by_cases h1 : m < 0
    · rw [if_pos (show m < 0 ∨ m > 1152921504606846976 from .inl h1)]; exact Ev.pos h1 (Ev.val _)
    · refine Ev.neg h1 ?_
      by_cases h2 : m > 1152921504606846976
      · rw [if_pos (show m < 0 ∨ m > 1152921504606846976 from .inr h2)]; exact Ev.pos h2 (Ev.val _)
      · rw [if_neg (show ¬ (m < 0 ∨ m > 1152921504606846976) from fun h => h.elim h1 h2)]; exact Ev.neg h2 (Ev.val _)
  | succ n ih =>
    intro i hi hle
    have hlt : i < xs.length := by omega
    have hw : wrap64 ((i : Int) + 1) = ((i + 1 : Nat) : Int) := by unfold wrap64; omega
    refine Ev.shift ?_
    simp only [stress_one.l0, hw, rd_at xs i hlt, fits_some]
    rw [List.drop_eq_getElem_cons hlt, List.all_cons]
    refine Ev.pos (by omega) (Ev.pos (by omega) (Ev.pos (by omega) ?_))
    simp only [Option.bind_some]
    cases hf : fitB xs[i] with
    | true => rw [Bool.true_and]; exact Ev.pos rfl (ih (i + 1) (by omega) (by omega))
    | false => rw [Bool.false_and, if_neg (by decide)]; exact Ev.neg (by decide) (Ev.val _)
theorem lsE_ev (n : Int) (x : S49) : Ev (fun k => stress_one.f k x.f0 x.f1 x.f2 x.f3 n) (lsE n x) := by
  simp only [stress_one.f, lsE]
  have key : ∀ b : Bool, (b = false → x.f2.length ≤ 32) → Ev (fun k => stress_one.j0 k b x.f0 x.f1 x.f2 x.f3) (if b = true then 27 else if x.f2.all fitB = true then (if x.f3 < 0 ∨ x.f3 > 1152921504606846976 then 2 else 0) else 2) := by
    intro b hb
    refine Ev.shift ?_
    simp only [stress_one.j0]
    cases b with
    | true => rw [if_pos rfl]; exact Ev.pos rfl (Ev.val _)
    | false =>
      rw [if_neg (by decide)]
      refine Ev.neg (by decide) ?_
      have := oneL x.f0 x.f1 x.f2 x.f3 (hb rfl) x.f2.length 0 (by omega) (by omega)
      simpa using this
  by_cases h1 : (x.f2.length : Int) < 1
  · rw [if_pos (.inl h1)]
    refine Ev.pos h1 ?_
    have := key true (fun h => by cases h)
    rwa [if_pos rfl] at this
  · refine Ev.neg h1 ?_
    by_cases h2 : (x.f2.length : Int) > 32
    · rw [if_pos (.inr (.inl h2))]
      refine Ev.pos h2 ?_
      have := key true (fun h => by cases h)
      rwa [if_pos rfl] at this
    · refine Ev.neg h2 ?_
      have := key ((x.f2.length : Int) != n) (fun _ => by omega)
      by_cases h3 : (x.f2.length : Int) ≠ n
      · rw [if_pos (.inr (.inr h3))]
        rwa [if_pos (by simpa using h3)] at this
      · rw [if_neg (fun h => h.elim h1 (fun h => h.elim h2 h3))]
        rwa [if_neg (by simpa using h3)] at this
theorem lsL (l : List S49) (hl : l.length ≤ 32) (h0 : 0 < l.length) (n : Nat) : ∀ i : Nat, l.length - i = n → i ≤ l.length →
    Ev (fun k => stress_Check.l0 k l l (l.length : Int) (i : Int)) (scan (lsF ((rd_T49 l 0).f2.length : Int)) (prevAt l i) (l.drop i)) := by
  induction n with
  | zero =>
    intro i hi hle
    refine Ev.shift ?_
    simp only [stress_Check.l0]
    rw [List.drop_eq_nil_of_le (by omega)]
    exact Ev.neg (by omega) (Ev.val _)
  | succ n ih =>
    intro i hi hle
    have hlt : i < l.length := by omega
    have hw : wrap64 ((i : Int) + 1) = ((i + 1 : Nat) : Int) := by unfold wrap64; omega
    have ih2 := ih (i + 1) (by omega) (by omega)
    rw [prevAt_succ l i hlt] at ih2
    have j3 : ∀ b : Bool, Ev (fun k => stress_Check.j3 k l l (l.length : Int) (i : Int) b l[i].f0 l[i].f1 l[i].f2 l[i].f3) (if b = true then 12 else if lsE ((rd_T49 l 0).f2.length : Int) l[i] = 0 then scan (lsF ((rd_T49 l 0).f2.length : Int)) (some l[i]) (l.drop (i + 1)) else lsE ((rd_T49 l 0).f2.length : Int) l[i]) := by
      intro b
      refine Ev.shift ?_
      simp only [stress_Check.j3, hw]
      refine Ev.both (fun _ => Ev.val _) (fun _ => Ev.pos (by omega) (Ev.bind (lsE_ev _ _) (Ev.both (fun _ => ih2) (fun _ => Ev.val _))))
    have j2 : ∀ b : Bool, Ev (fun k => stress_Check.j2 k l (i : Int) l (l.length : Int) (i : Int) b l[i].f0 l[i].f1 l[i].f2 l[i].f3) (if b = true then 10 else (match prevAt l i with | none => (if lsE ((rd_T49 l 0).f2.length : Int) l[i] = 0 then scan (lsF ((rd_T49 l 0).f2.length : Int)) (some l[i]) (l.drop (i + 1)) else lsE ((rd_T49 l 0).f2.length : Int) l[i]) | some q => if Op.bytesLess q.f0.toList l[i].f0.toList = true then (if lsE ((rd_T49 l 0).f2.length : Int) l[i] = 0 then scan (lsF ((rd_T49 l 0).f2.length : Int)) (some l[i]) (l.drop (i + 1)) else lsE ((rd_T49 l 0).f2.length : Int) l[i]) else 12)) := by
      intro b
      refine Ev.shift ?_
      simp only [stress_Check.j2]
      refine Ev.both (fun _ => Ev.val _) (fun _ => ?_)
      by_cases hz : i = 0
      · subst hz
        refine Ev.neg (by omega) ?_
        have := j3 false
        rwa [if_neg (by decide)] at this
      · have hw2 : wrap64 ((i : Int) - 1) = ((i - 1 : Nat) : Int) := by unfold wrap64; omega
        rw [prevAt_pos l i (by omega) (by omega)]
        simp only [hw2, rd_ls l (i - 1) (by omega)]
        refine Ev.pos (by omega) (Ev.pos (by omega) (Ev.pos (by omega) ?_))
        have := j3 (!(Op.bytesLess l[i - 1].f0.toList l[i].f0.toList))
        cases hb : Op.bytesLess l[i - 1].f0.toList l[i].f0.toList with
        | true => rw [hb] at this; simpa using this
        | false => rw [hb] at this; simpa using this
    refine Ev.shift ?_
    simp only [stress_Check.l0, rd_ls l i hlt]
    rw [List.drop_eq_getElem_cons hlt, scan_cons]
    refine Ev.pos (by omega) (Ev.pos (by omega) (Ev.pos (by omega) (Ev.bind (name_ev _) ?_)))
    cases hn0 : nameB l[i].f0 with
    | false =>
      refine Ev.neg (by decide) ?_
      have := j2 true
      rw [if_pos rfl] at this
      unfold lsF
      rw [hn0, Bool.false_and, if_neg (show ¬ (false = true) by decide), if_neg (show ¬ ((10 : Int) = 0) by decide)]
      exact this
    | true =>
      refine Ev.pos rfl (Ev.bind (name_ev _) ?_)
      cases hn1 : nameB l[i].f1 with
      | false =>
        have := j2 true
        rw [if_pos rfl] at this
        unfold lsF
        rw [hn0, hn1, Bool.true_and, if_neg (show ¬ (false = true) by decide), if_neg (show ¬ ((10 : Int) = 0) by decide)]
        exact this
      | true =>
        have := j2 false
        rw [if_neg (by decide)] at this
        unfold lsF
        rw [hn0, hn1, Bool.true_and, if_pos rfl]
        cases hq : prevAt l i with
        | none => rw [hq] at this; exact this
        | some q =>
          rw [hq] at this
          simp only at this ⊢
          by_cases hb : Op.bytesLess q.f0.toList l[i].f0.toList = true
          · rw [if_pos hb] at this
            rw [if_pos hb]
            exact this
          · rw [if_neg hb] at this
            rw [if_neg hb, if_neg (by decide)]
            exact this
theorem lsA_ev (l : List S49) : Ev (fun k => stress_Check.f k l) (lsA l) := by
  simp only [stress_Check.f]
  unfold lsA
  have key : ∀ b : Bool, (b = false → l.length ≤ 32 ∧ 0 < l.length) → Ev (fun k => stress_Check.j0 k l b) (if b = true then 8 else scan (lsF ((rd_T49 l 0).f2.length : Int)) none l) := by
    intro b hb
    refine Ev.shift ?_
    simp only [stress_Check.j0]
    cases b with
    | true => rw [if_pos rfl]; exact Ev.pos rfl (Ev.val _)
    | false =>
      rw [if_neg (by decide)]
      exact Ev.neg (by decide) (lsL l (hb rfl).1 (hb rfl).2 l.length 0 (by omega) (by omega))
  by_cases h : l.length = 0
  · rw [if_pos (.inl h)]
    refine Ev.pos (by omega) ?_
    have := key true (fun h => by cases h)
    rwa [if_pos rfl] at this
  · refine Ev.neg (by omega) ?_
    have := key (decide ((l.length : Int) > 32)) (fun hb => by have := of_decide_eq_false hb; omega)
    by_cases h2 : l.length > 32
    · rw [if_pos (.inr h2)]
      rwa [if_pos (decide_eq_true (by omega))] at this
    · rw [if_neg (fun hc => hc.elim h h2)]
      rwa [if_neg (by rw [decide_eq_true_eq]; omega)] at this
/-- What lies behind a check that passes. -/
theorem scan_all {α : Type} (f : Option α → α → Int) : ∀ (l : List α) (q : Option α), scan f q l = 0 → ∀ x ∈ l, ∃ q', f q' x = 0 := by
  intro l
  induction l with
  | nil => intro q h x hx; cases hx
  | cons p r ih =>
    intro q h x hx
    rw [scan_cons] at h
    by_cases hc : f q p = 0
    · rw [if_pos hc] at h
      rcases List.mem_cons.mp hx with rfl | hx
      · exact ⟨q, hc⟩
      · exact ih _ h x hx
    · rw [if_neg hc] at h
      exact absurd h hc
theorem name_size {s : ByteArray} (h : nameB s = true) : 0 < s.size ∧ s.size ≤ 12 := by
  unfold nameB at h
  simp only [Bool.and_eq_true, decide_eq_true_eq] at h
  exact ⟨h.1.1.1, h.1.1.2⟩
structure Good (N : Nat) (x : S49) : Prop where
  n0 : nameB x.f0 = true
  n1 : nameB x.f1 = true
  len : x.f2.length = N
  le : N ≤ 32
  pos : 0 < N
  fit : x.f2.all fitB = true
  m0 : 0 ≤ x.f3
  m1 : x.f3 ≤ 1152921504606846976
theorem lsE_zero {n : Int} {x : S49} (h : lsE n x = 0) : 1 ≤ (x.f2.length : Int) ∧ (x.f2.length : Int) ≤ 32 ∧ (x.f2.length : Int) = n ∧ x.f2.all fitB = true ∧ 0 ≤ x.f3 ∧ x.f3 ≤ 1152921504606846976 := by
  unfold lsE at h
  split at h
  · cases h
  · rename_i h1
    split at h
    · rename_i h2
      split at h
      · cases h
      · rename_i h3
        refine ⟨?_, ?_, ?_, h2, ?_, ?_⟩ <;> omega
    · cases h
theorem lsA_good {l : List S49} (h : lsA l = 0) : 0 < l.length ∧ l.length ≤ 32 ∧ ∀ x ∈ l, Good (rd_T49 l 0).f2.length x := by
  unfold lsA at h
  split at h
  · cases h
  · rename_i hl
    refine ⟨by omega, by omega, fun x hx => ?_⟩
    obtain ⟨q, hq⟩ := scan_all _ _ _ h x hx
    unfold lsF at hq
    split at hq
    · rename_i hn
      simp only [Bool.and_eq_true] at hn
      have he : lsE ((rd_T49 l 0).f2.length : Int) x = 0 := by
        split at hq
        · exact hq
        · split at hq
          · exact hq
          · cases hq
      obtain ⟨h1, h2, h3, h4, h5, h6⟩ := lsE_zero he
      exact ⟨hn.1, hn.2, by omega, by omega, by omega, h4, h5, h6⟩
    · cases hq
def bvx (a : Int) (x : S49) : Int := mx (wrap64 (rd x.f2 a - x.f3)) 0
/-- What a group's members have bare. -/
def bv (l : List S49) (a : Int) (g : ByteArray) : List Int := (l.filter (fun x => strQ x.f1 g)).map (bvx a)
/-- The groups, as they come. -/
def ded : List ByteArray → List S49 → List ByteArray
  | t, [] => t
  | t, x :: r => ded (if t.any (fun y => strQ y x.f1) = true then t else t ++ [x.f1]) r
def gn (l : List S49) : List ByteArray := sortS (ded [] l)
def nsA (l : List S49) (a : Int) : List ByteArray → List Int → List Int × Int
  | [], t => (t, 0)
  | s :: r, t => if (sm (bv l a s)).2 = 0 then nsA l a r (t ++ [(sm (bv l a s)).1]) else ([], (sm (bv l a s)).2)
def bareV (l : List S49) (a : Int) : List ByteArray × List Int × Int :=
  if lsA l = 0 then (if a < 0 ∨ a ≥ ((rd_T49 l 0).f2.length : Int) then ([], [], 27) else if (nsA l a (gn l) []).2 = 0 then (gn l, (nsA l a (gn l) []).1, 0) else ([], [], (nsA l a (gn l) []).2)) else ([], [], lsA l)
theorem strQ_refl (x : ByteArray) : strQ x x = true := by simp [strQ]
theorem ded_mem (g : ByteArray) : ∀ (l : List S49) (t : List ByteArray), g ∈ ded t l ↔ g ∈ t ∨ ∃ x ∈ l, x.f1 = g := by
  intro l
  induction l with
  | nil => intro t; simp [ded]
  | cons x r ih =>
    intro t
    rw [ded, ih]
    by_cases h : t.any (fun y => strQ y x.f1) = true
    · rw [if_pos h]
      obtain ⟨y, hy, hq⟩ := List.any_eq_true.mp h
      have := (strQ_iff _ _).mp hq
      subst this
      constructor
      · rintro (h1 | ⟨z, hz, e⟩)
        · exact .inl h1
        · exact .inr ⟨z, List.mem_cons_of_mem _ hz, e⟩
      · rintro (h1 | ⟨z, hz, e⟩)
        · exact .inl h1
        · rcases List.mem_cons.mp hz with rfl | hz
          · exact .inl (e ▸ hy)
          · exact .inr ⟨z, hz, e⟩
    · rw [if_neg h]
      constructor
      · rintro (h1 | ⟨z, hz, e⟩)
        · rcases List.mem_append.mp h1 with h1 | h1
          · exact .inl h1
          · exact .inr ⟨x, List.mem_cons_self, (List.mem_singleton.mp h1).symm⟩
        · exact .inr ⟨z, List.mem_cons_of_mem _ hz, e⟩
      · rintro (h1 | ⟨z, hz, e⟩)
        · exact .inl (List.mem_append_left _ h1)
        · rcases List.mem_cons.mp hz with rfl | hz
          · exact .inl (List.mem_append_right _ (List.mem_singleton.mpr e.symm))
          · exact .inr ⟨z, hz, e⟩
theorem ded_len : ∀ (l : List S49) (t : List ByteArray), (ded t l).length ≤ t.length + l.length := by
  intro l
  induction l with
  | nil => intro t; simp [ded]
  | cons x r ih =>
    intro t
    rw [ded]
    have := ih (if t.any (fun y => strQ y x.f1) = true then t else t ++ [x.f1])
    split at this
    · rename_i h
      rw [if_pos h]
      simp only [List.length_cons]
      omega
    · rename_i h
      rw [if_neg h]
      simp only [List.length_append, List.length_cons, List.length_nil] at this ⊢
      omega
theorem ded_nodup : ∀ (l : List S49) (t : List ByteArray), t.Nodup → (ded t l).Nodup := by
  intro l
  induction l with
  | nil => intro t h; exact h
  | cons x r ih =>
    intro t h
    rw [ded]
    apply ih
    by_cases hc : t.any (fun y => strQ y x.f1) = true
    · rw [if_pos hc]; exact h
    · rw [if_neg hc, List.nodup_append]
      refine ⟨h, by simp, fun y hy z hz e => hc (List.any_eq_true.mpr ⟨y, hy, ?_⟩)⟩
      rw [List.mem_singleton] at hz
      rw [e, hz]
      exact strQ_refl _
theorem gn_mem (l : List S49) (g : ByteArray) : g ∈ gn l ↔ ∃ x ∈ l, x.f1 = g := by
  unfold gn
  rw [(sortS_perm _).mem_iff, ded_mem]
  simp
theorem gn_len (l : List S49) : (gn l).length ≤ l.length := by
  unfold gn
  rw [(sortS_perm _).length_eq]
  have := ded_len l []
  simpa using this
/-- The groups rise. -/
theorem gn_sorted (l : List S49) : (gn l).Pairwise fun a b => Op.bytesLess a.toList b.toList = true := by
  have h1 := sortS_sorted (ded [] l)
  have h2 : (sortS (ded [] l)).Pairwise fun a b => a ≠ b := (sortS_perm _).nodup_iff.mpr (ded_nodup l [] List.nodup_nil)
  refine (h1.and h2).imp (fun {a b} h => ?_)
  have h3 := (leS a b).mpr h.1
  exact less_flip (by rw [h3]; decide) (fun e => h.2 (by
    have e1 : strQ a b = true := by unfold strQ; rw [e, beq_self_eq_true]
    exact (strQ_iff _ _).mp e1))
theorem bv_cons (x : S49) (r : List S49) (a : Int) (g : ByteArray) : bv (x :: r) a g = (if strQ x.f1 g = true then [bvx a x] else []) ++ bv r a g := by
  unfold bv
  rw [List.filter_cons]
  split <;> simp
theorem go_ok (a : Int) : ∀ (l : List S49) (t : List ByteArray) (m : List (ByteArray × List Int)), (∀ x ∈ l, x.f1.size ≤ 1000000 ∧ 0 ≤ a ∧ a < x.f2.length) → t.length + l.length ≤ 1000 →
    (∀ g, ((YtaookghbppimnaaHand.look strQ m g).getD []).length + l.length ≤ 1000) → (∀ g, ((YtaookghbppimnaaHand.look strQ m g).getD []).length = 0 ↔ t.any (fun y => strQ y g) = false) →
    ∃ m', stress_Bare.go a l t m = some (ded t l, m') ∧ ∀ g, (YtaookghbppimnaaHand.look strQ m' g).getD [] = (YtaookghbppimnaaHand.look strQ m g).getD [] ++ bv l a g := by
  intro l
  induction l with
  | nil => intro t m _ _ _ _; exact ⟨m, rfl, fun g => by simp [bv]⟩
  | cons x r ih =>
    intro t m hx ht hm hz
    obtain ⟨h1, h2, h3⟩ := hx x List.mem_cons_self
    have hmx := hm x.f1
    simp only [List.length_cons] at ht hmx
    rw [stress_Bare.go, if_pos h1, if_pos (by omega), if_pos (by omega), if_pos ⟨h2, h3⟩]
    have hlook : ∀ g, (YtaookghbppimnaaHand.look strQ (YtaookghbppimnaaHand.put strQ x.f1 (((YtaookghbppimnaaHand.look strQ m x.f1).getD []) ++ [mx (wrap64 (rd x.f2 a - x.f3)) 0]) m) g).getD [] = (YtaookghbppimnaaHand.look strQ m g).getD [] ++ (if strQ x.f1 g = true then [bvx a x] else []) := by
      intro g
      rw [YtaookghbppimnaaHand.look_put _ _ strQ_iff]
      by_cases hg : strQ x.f1 g = true
      · rw [if_pos hg, if_pos hg]
        have := (strQ_iff _ _).mp hg
        subst this
        rfl
      · rw [if_neg hg, if_neg hg, List.append_nil]
    have hif : (if ((YtaookghbppimnaaHand.look strQ m x.f1).getD []).length = 0 then t ++ [x.f1] else t) = (if t.any (fun y => strQ y x.f1) = true then t else t ++ [x.f1]) := by
      by_cases hc : t.any (fun y => strQ y x.f1) = true
      · rw [if_pos hc, if_neg (fun e => by rw [(hz _).mp e] at hc; cases hc)]
      · rw [if_neg hc, if_pos ((hz _).mpr (eq_false_of_ne_true hc))]
    rw [hif, ded]
    obtain ⟨m', e1, e2⟩ := ih (if t.any (fun y => strQ y x.f1) = true then t else t ++ [x.f1]) (YtaookghbppimnaaHand.put strQ x.f1 (((YtaookghbppimnaaHand.look strQ m x.f1).getD []) ++ [mx (wrap64 (rd x.f2 a - x.f3)) 0]) m) (fun y hy => hx y (List.mem_cons_of_mem _ hy)) (by split <;> (try simp) <;> omega) (fun g => by
      rw [hlook]
      have := hm g
      simp only [List.length_cons] at this
      split <;> (try simp) <;> omega) (fun g => by
      rw [hlook]
      by_cases hg : strQ x.f1 g = true
      · rw [if_pos hg]
        have := (strQ_iff _ _).mp hg
        subst this
        by_cases hc : t.any (fun y => strQ y x.f1) = true
        · rw [if_pos hc, hc]
          simp
        · rw [if_neg hc]
          simp [strQ_refl]
      · rw [if_neg hg, List.append_nil, hz g]
        have hg' := eq_false_of_ne_true hg
        by_cases hc : t.any (fun y => strQ y x.f1) = true
        · rw [if_pos hc]
        · rw [if_neg hc]
          simp [hg'])
    refine ⟨m', e1, fun g => ?_⟩
    rw [e2, hlook, bv_cons, List.append_assoc]
theorem bv_len (l : List S49) (a : Int) (g : ByteArray) : (bv l a g).length ≤ l.length := by
  unfold bv
  rw [List.length_map]
  exact List.length_filter_le _ _
theorem sums_ev (l : List S49) (a : Int) (m : List (ByteArray × List Int)) (hl : l.length ≤ 1000) (hm : ∀ g, (YtaookghbppimnaaHand.look strQ m g).getD [] = bv l a g) : ∀ (r : List ByteArray) (t : List Int), (∀ s ∈ r, s.size ≤ 1000000) → t.length + r.length ≤ 1000 →
    Ev (fun k => stress_Bare.sums k m r t) (nsA l a r t) := by
  intro r
  induction r with
  | nil => intro t _ _; exact Ev.val _
  | cons s r ih =>
    intro t hs ht
    simp only [List.length_cons] at ht
    simp only [stress_Bare.sums, nsA, hm]
    refine Ev.pos (hs s List.mem_cons_self) (Ev.bind (sm_ev _ (by have := bv_len l a s; omega)) (Ev.both (fun _ => Ev.pos (by omega) ?_) (fun _ => Ev.val _)))
    exact ih _ (fun y hy => hs y (List.mem_cons_of_mem _ hy)) (by simp; omega)
theorem bare_ev (l : List S49) (a : Int) : Ev (fun k => stress_Bare.f k l a) (bareV l a) := by
  simp only [stress_Bare.f, bareV]
  refine Ev.bind (lsA_ev l) (Ev.both (fun h0 => ?_) (fun _ => Ev.val _))
  obtain ⟨hl0, hl1, hg⟩ := lsA_good h0
  by_cases ha : a < 0
  · rw [if_pos (show a < 0 ∨ _ from .inl ha)]
    exact Ev.pos ha (Ev.val _)
  · refine Ev.neg ha (Ev.pos (by omega) ?_)
    by_cases hb : a < ((rd_T49 l 0).f2.length : Int)
    · rw [if_neg (show ¬ (a < 0 ∨ a ≥ ((rd_T49 l 0).f2.length : Int)) by omega)]
      refine Ev.pos hb ?_
      obtain ⟨m', e1, e2⟩ := go_ok a l [] [] (fun x hx => ⟨by have := name_size (hg x hx).n1; omega, by omega, by rw [(hg x hx).len]; exact hb⟩) (by simp; omega) (fun g => by simp [YtaookghbppimnaaHand.look_nil]; omega) (fun g => by simp [YtaookghbppimnaaHand.look_nil])
      rw [e1]
      simp only [Option.bind_some]
      have hd := ded_len l []
      simp only [List.length_nil] at hd
      refine Ev.pos (by omega) (Ev.bind (sums_ev l a m' (by omega) (fun g => by rw [e2]; simp [YtaookghbppimnaaHand.look_nil]) (sortS (ded [] l)) [] (fun s hs => ?_) ?_) (Ev.both (fun _ => Ev.val _) (fun _ => Ev.val _)))
      · obtain ⟨x, hx, rfl⟩ := (gn_mem l s).mp hs
        have := name_size (hg x hx).n1
        omega
      · have := gn_len l
        unfold gn at this
        simp only [List.length_nil]
        omega
    · rw [if_pos (show a < 0 ∨ a ≥ ((rd_T49 l 0).f2.length : Int) by omega)]
      exact Ev.neg hb (Ev.val _)
/-! the first greatest number, one place left out -/
def FM (n : List Int) (m : Nat) (out : Int) (a : Nat) : Prop := a < m ∧ (a : Int) ≠ out ∧ (∀ j : Nat, j < m → (j : Int) ≠ out → rd n (j : Int) ≤ rd n (a : Int)) ∧ ∀ j : Nat, j < a → (j : Int) ≠ out → rd n (j : Int) < rd n (a : Int)
theorem FM.unique {n : List Int} {m : Nat} {out : Int} {a b : Nat} (h : FM n m out a) (h' : FM n m out b) : a = b := by
  obtain ⟨a1, a2, a3, a4⟩ := h
  obtain ⟨b1, b2, b3, b4⟩ := h'
  rcases Nat.lt_trichotomy a b with c | c | c
  · have := b4 a c a2; have := a3 b b1 b2; omega
  · exact c
  · have := a4 b c b2; have := b3 a a1 a2; omega
theorem FM.keep {n : List Int} {m : Nat} {out : Int} {a : Nat} (h : FM n m out a) (hc : (m : Int) = out ∨ rd n (m : Int) ≤ rd n (a : Int)) : FM n (m + 1) out a := by
  obtain ⟨a1, a2, a3, a4⟩ := h
  refine ⟨by omega, a2, fun j hj ho => ?_, a4⟩
  by_cases e : j = m
  · subst e
    rcases hc with hc | hc
    · exact absurd hc ho
    · exact hc
  · exact a3 j (by omega) ho
theorem FM.new {n : List Int} {m : Nat} {out : Int} {a : Nat} (h : FM n m out a) (ho : (m : Int) ≠ out) (hc : rd n (a : Int) < rd n (m : Int)) : FM n (m + 1) out m := by
  obtain ⟨a1, a2, a3, a4⟩ := h
  refine ⟨by omega, ho, fun j hj hj2 => ?_, fun j hj hj2 => ?_⟩
  · by_cases e : j = m
    · subst e; exact Int.le_refl _
    · have := a3 j (by omega) hj2; omega
  · have := a3 j hj hj2; omega
theorem FM.one {n : List Int} {m : Nat} {out : Int} (h : ∀ j : Nat, j < m → (j : Int) = out) (ho : (m : Int) ≠ out) : FM n (m + 1) out m := by
  refine ⟨by omega, ho, fun j hj hj2 => ?_, fun j hj hj2 => absurd (h j hj) hj2⟩
  by_cases e : j = m
  · subst e; exact Int.le_refl _
  · exact absurd (h j (by omega)) hj2
/-- The greatest one gone: the one behind it. -/
theorem FM.second {n : List Int} {m : Nat} {a : Nat} (h : FM n m (-1) a) : FM n (m + 1) (m : Int) a := by
  obtain ⟨a1, a2, a3, a4⟩ := h
  exact ⟨by omega, by omega, fun j hj ho => a3 j (by omega) (by omega), fun j hj _ => a4 j hj (by omega)⟩
/-- What 'greatest' hands back, behind m of the numbers. -/
def GS (names : List ByteArray) (n : List Int) (m : Nat) (s0 : ByteArray) (n0 : Int) (s1 : ByteArray) (n1 : Int) (k : Nat) : Prop :=
  ∃ a : Nat, FM n m (-1) a ∧ n0 = rd n (a : Int) ∧ s0 = rdOf ByteArray.empty names (a : Int) ∧ ((m = 1 ∧ k = 1 ∧ n1 = 0) ∨ (2 ≤ m ∧ k = 2 ∧ ∃ b : Nat, FM n m (a : Int) b ∧ n1 = rd n (b : Int) ∧ s1 = rdOf ByteArray.empty names (b : Int)))
theorem great_go (names : List ByteArray) (n : List Int) (hn : names.length = n.length) (d : Nat) : ∀ (m : Nat) (s0 : ByteArray) (n0 : Int) (s1 : ByteArray) (n1 : Int) (k : Nat), n.length - m = d → 1 ≤ m → m ≤ n.length → GS names n m s0 n0 s1 n1 k →
    ∃ r : ByteArray × Int × ByteArray × Int × Nat, stress_greatest.go (names.drop m) (n.drop m) s0 n0 s1 n1 k = some r ∧ GS names n n.length r.1 r.2.1 r.2.2.1 r.2.2.2.1 r.2.2.2.2 := by
  induction d with
  | zero =>
    intro m s0 n0 s1 n1 k hd h1 hle h
    have e : m = n.length := by omega
    subst e
    rw [List.drop_eq_nil_of_le (by omega)]
    exact ⟨(s0, n0, s1, n1, k), by rw [stress_greatest.go], h⟩
  | succ d ih =>
    intro m s0 n0 s1 n1 k hd h1 hle h
    have hlt : m < n.length := by omega
    have hlt2 : m < names.length := by omega
    rw [List.drop_eq_getElem_cons hlt, List.drop_eq_getElem_cons hlt2]
    have er : n[m] = rd n (m : Int) := (rd_at n m hlt).symm
    have es : names[m] = rdOf ByteArray.empty names (m : Int) := by simp [rdOf, hlt2]
    obtain ⟨a, ha, rfl, rfl, hk⟩ := h
    have ham := ha.1
    rcases hk with ⟨hm, rfl, rfl⟩ | ⟨hm, rfl, b, hb, rfl, rfl⟩
    · rw [stress_greatest.go, er, es]
      by_cases c : rd n (a : Int) < rd n (m : Int)
      · rw [if_pos c]
        exact ih (m + 1) _ _ _ _ _ (by omega) (by omega) (by omega) ⟨m, ha.new (by omega) c, rfl, rfl, .inr ⟨by omega, rfl, a, ha.second, rfl, rfl⟩⟩
      · rw [if_neg c, if_pos rfl]
        exact ih (m + 1) _ _ _ _ _ (by omega) (by omega) (by omega) ⟨a, ha.keep (.inr (by omega)), rfl, rfl, .inr ⟨by omega, rfl, m, FM.one (fun j hj => by omega) (by omega), rfl, rfl⟩⟩
    · rw [stress_greatest.go, er, es]
      by_cases c : rd n (a : Int) < rd n (m : Int)
      · rw [if_pos c]
        exact ih (m + 1) _ _ _ _ _ (by omega) (by omega) (by omega) ⟨m, ha.new (by omega) c, rfl, rfl, .inr ⟨by omega, rfl, a, ha.second, rfl, rfl⟩⟩
      · rw [if_neg c, if_neg (by decide)]
        by_cases c2 : rd n (b : Int) < rd n (m : Int)
        · rw [if_pos c2]
          exact ih (m + 1) _ _ _ _ _ (by omega) (by omega) (by omega) ⟨a, ha.keep (.inr (by omega)), rfl, rfl, .inr ⟨by omega, rfl, m, hb.new (by omega) c2, rfl, rfl⟩⟩
        · rw [if_neg c2]
          exact ih (m + 1) _ _ _ _ _ (by omega) (by omega) (by omega) ⟨a, ha.keep (.inr (by omega)), rfl, rfl, .inr ⟨by omega, rfl, b, hb.keep (.inr (by omega)), rfl, rfl⟩⟩
theorem great_ok (names : List ByteArray) (n : List Int) (hn : names.length = n.length) (h0 : 0 < n.length) :
    ∃ r : ByteArray × Int × ByteArray × Int × Nat, stress_greatest.go names n ⟨#[]⟩ 0 ⟨#[]⟩ 0 0 = some r ∧ GS names n n.length r.1 r.2.1 r.2.2.1 r.2.2.2.1 r.2.2.2.2 := by
  have hn0 : 0 < names.length := by omega
  have e1 : n = n[0] :: n.drop 1 := by
    have := List.drop_eq_getElem_cons h0
    rwa [List.drop_zero] at this
  have e2 : names = names[0] :: names.drop 1 := by
    have := List.drop_eq_getElem_cons hn0
    rwa [List.drop_zero] at this
  have hg := great_go names n hn (n.length - 1) 1 names[0] n[0] ⟨#[]⟩ 0 1 rfl (Nat.le_refl _) h0 ⟨0, FM.one (fun j hj => by omega) (by omega), (rd_at n 0 h0).symm, by simp [rdOf, hn0], .inl ⟨rfl, rfl, rfl⟩⟩
  obtain ⟨r, h1, h2⟩ := hg
  refine ⟨r, ?_, h2⟩
  rw [e1, e2, stress_greatest.go]
  exact h1
/-! what holds of a scenario of losses that may be -/
theorem nsA_ok (l : List S49) (a : Int) : ∀ (r : List ByteArray) (t : List Int), (nsA l a r t).2 = 0 → (nsA l a r t).1 = t ++ r.map (fun g => (sm (bv l a g)).1) ∧ ∀ g ∈ r, (sm (bv l a g)).2 = 0 := by
  intro r
  induction r with
  | nil => intro t _; simp [nsA]
  | cons s r ih =>
    intro t h
    rw [nsA] at h ⊢
    by_cases hc : (sm (bv l a s)).2 = 0
    · rw [if_pos hc] at h ⊢
      obtain ⟨h1, h2⟩ := ih _ h
      refine ⟨by rw [h1]; simp, fun g hg => ?_⟩
      rcases List.mem_cons.mp hg with rfl | hg
      · exact hc
      · exact h2 g hg
    · rw [if_neg hc] at h
      exact absurd h hc
theorem smv_ok {xs : List Int} (h1 : xs.all fitB = true) (h2 : (sm xs).2 = 0) : (sm xs).1 = sumI xs ∧ fitB (sumI xs) = true := by
  unfold sm smV at h2 ⊢
  rw [if_pos h1, Int.zero_add] at h2 ⊢
  by_cases hc : fitB (sumI xs) = true
  · rw [if_pos hc]; exact ⟨rfl, hc⟩
  · rw [if_neg hc] at h2; cases h2
def vg (l : List S49) (a : Int) (g : ByteArray) : Int := sumI (bv l a g)
structure Sc (l : List S49) (y : Nat) : Prop where
  names : (bareV l y).1 = gn l
  ns : (bareV l y).2.1 = (gn l).map (vg l y)
  fit : ∀ g ∈ gn l, 0 ≤ vg l y g ∧ vg l y g ≤ 1152921504606846976
theorem sm_bv_all {l : List S49} (h0 : lsA l = 0) {y : Nat} (hy : y < (rd_T49 l 0).f2.length) (g : ByteArray) : (bv l y g).all fitB = true ∧ 0 ≤ vg l y g := by
  have hg := (lsA_good h0).2.2
  unfold vg
  have key : ∀ l' : List S49, (∀ x ∈ l', Good (rd_T49 l 0).f2.length x) → (bv l' y g).all fitB = true ∧ 0 ≤ sumI (bv l' y g) := by
    intro l'
    induction l' with
    | nil => intro _; exact ⟨rfl, Int.le_refl _⟩
    | cons x r ih =>
      intro hh
      obtain ⟨i1, i2⟩ := ih (fun z hz => hh z (List.mem_cons_of_mem _ hz))
      have hx := hh x List.mem_cons_self
      have hlen := hx.len
      have hfa : fitB (rd x.f2 (y : Int)) = true := by
        rw [rd_at _ y (by omega)]
        exact List.all_eq_true.mp hx.fit _ (List.getElem_mem _)
      have hm0 := hx.m0
      have hm1 := hx.m1
      have hb : fitB (bvx y x) = true ∧ 0 ≤ bvx y x := by
        unfold fitB at hfa ⊢
        simp only [decide_eq_true_eq] at hfa ⊢
        have hwr : wrap64 (rd x.f2 (y : Int) - x.f3) = rd x.f2 (y : Int) - x.f3 := wrap_small (by omega) (by omega)
        unfold bvx mx
        rw [hwr]
        refine ⟨?_, ?_⟩ <;> split <;> omega
      rw [bv_cons]
      by_cases hq : strQ x.f1 g = true
      · rw [if_pos hq]
        have hs : sumI ([bvx y x] ++ bv r y g) = bvx y x + sumI (bv r y g) := rfl
        refine ⟨by simp [hb.1, i1], by rw [hs]; omega⟩
      · rw [if_neg hq]
        exact ⟨i1, i2⟩
  exact key l hg
theorem sc_of {l : List S49} (h0 : lsA l = 0) {y : Nat} (hy : y < (rd_T49 l 0).f2.length) (he : (bareV l y).2.2 = 0) : Sc l y := by
  have e : bareV l y = if (nsA l y (gn l) []).2 = 0 then (gn l, (nsA l y (gn l) []).1, 0) else ([], [], (nsA l y (gn l) []).2) := by
    unfold bareV
    rw [if_pos h0, if_neg (by omega)]
  by_cases hc : (nsA l y (gn l) []).2 = 0
  · rw [if_pos hc] at e
    obtain ⟨n1, n2⟩ := nsA_ok l y (gn l) [] hc
    have hv : ∀ g ∈ gn l, (sm (bv l y g)).1 = vg l y g ∧ fitB (vg l y g) = true := fun g hg => smv_ok (sm_bv_all h0 hy g).1 (n2 g hg)
    refine ⟨by rw [e], ?_, fun g hg => ?_⟩
    · rw [e]
      show (nsA l y (gn l) []).1 = _
      rw [n1, List.nil_append]
      exact List.map_congr_left (fun g hg => (hv g hg).1)
    · have := (hv g hg).2
      unfold fitB at this
      simp only [decide_eq_true_eq] at this
      exact ⟨(sm_bv_all h0 hy g).2, this.2⟩
  · rw [if_neg hc] at e
    rw [e] at he
    exact absurd he hc
theorem gn_pos {l : List S49} (h : 0 < l.length) : 0 < (gn l).length := by
  have : l[0].f1 ∈ gn l := (gn_mem l _).mpr ⟨l[0], List.getElem_mem h, rfl⟩
  exact List.length_pos_of_mem this
/-- The greatest of what two groups have together, of a scenario. -/
def tyV (l : List S49) (y : Int) : Int × List ByteArray × Int :=
  if (bareV l y).2.2 = 0 then (match stress_greatest.go (bareV l y).1 (bareV l y).2.1 ⟨#[]⟩ 0 ⟨#[]⟩ 0 0 with
    | none => (0, [], 99)
    | some g => if fitB (g.2.1 + g.2.2.2.1) = true then (g.2.1 + g.2.2.2.1, [g.1, g.2.2.1].take g.2.2.2.2, 0) else (0, [], 3)) else (0, [], (bareV l y).2.2)
def twV (l : List S49) : Nat → Int → Int → Int → List ByteArray → Int × Int × List ByteArray × Int
  | 0, _, size, sc, gr => (size, sc, gr, 0)
  | d + 1, y, size, sc, gr => if (tyV l y).2.2 = 0 then (if y = 0 ∨ size < (tyV l y).1 then twV l d (y + 1) (tyV l y).1 y (tyV l y).2.1 else twV l d (y + 1) size sc gr) else (0, 0, [], (tyV l y).2.2)
def twoV (l : List S49) : Int × Int × List ByteArray × Int := if lsA l = 0 then twV l (rd_T49 l 0).f2.length 0 0 0 [] else (0, 0, [], lsA l)
/-- What 'greatest' finds of a scenario: its numbers are two of the groups'. -/
theorem sc_great {l : List S49} (h0 : 0 < l.length) {y : Nat} (hs : Sc l y) :
    ∃ g : ByteArray × Int × ByteArray × Int × Nat, stress_greatest.go (bareV l y).1 (bareV l y).2.1 ⟨#[]⟩ 0 ⟨#[]⟩ 0 0 = some g ∧ GS (gn l) ((gn l).map (vg l y)) (gn l).length g.1 g.2.1 g.2.2.1 g.2.2.2.1 g.2.2.2.2 ∧ 0 ≤ g.2.1 ∧ g.2.1 ≤ 1152921504606846976 ∧ 0 ≤ g.2.2.2.1 ∧ g.2.2.2.1 ≤ 1152921504606846976 := by
  have hp := gn_pos h0
  obtain ⟨g, h1, h2⟩ := great_ok (gn l) ((gn l).map (vg l y)) (by simp) (by simpa using hp)
  rw [hs.names, hs.ns]
  rw [List.length_map] at h2
  refine ⟨g, h1, h2, ?_⟩
  have hv : ∀ a : Nat, a < (gn l).length → 0 ≤ rd ((gn l).map (vg l y)) (a : Int) ∧ rd ((gn l).map (vg l y)) (a : Int) ≤ 1152921504606846976 := fun a ha => by
    rw [rd_at _ a (by simpa using ha), List.getElem_map]
    exact hs.fit _ (List.getElem_mem ha)
  obtain ⟨a, ha, e1, e2, hk⟩ := h2
  have := hv a ha.1
  rw [e1]
  rcases hk with ⟨_, _, e3⟩ | ⟨_, _, b, hb, e3, _⟩
  · rw [e3]; omega
  · have := hv b hb.1
    rw [e3]; omega
theorem add_some (a b : Int) (ha : -1152921504606846976 ≤ a ∧ a ≤ 1152921504606846976) (hb : -1152921504606846976 ≤ b ∧ b ≤ 1152921504606846976) : cents_Add.f a b = some (if fitB (a + b) = true then (a + b, 0) else (0, 3)) := by
  have fa : fitB a = true := by unfold fitB; exact decide_eq_true ha
  have fb : fitB b = true := by unfold fitB; exact decide_eq_true hb
  have hw : wrap64 (a + b) = a + b := wrap_small (by omega) (by omega)
  unfold cents_Add.f
  rw [fits_some, fits_some, fa, fb, hw, fitting_some]
  rfl
theorem two_go (l : List S49) (h0 : lsA l = 0) : ∀ (d y : Nat) (size sc : Int) (gr : List ByteArray), y + d = (rd_T49 l 0).f2.length → Ev (fun k => stress_Two.go k l d y size sc gr) (twV l d y size sc gr) := by
  intro d
  obtain ⟨hl0, hl1, hg⟩ := lsA_good h0
  induction d with
  | zero => intro y size sc gr _; exact Ev.val _
  | succ d ih =>
    intro y size sc gr hyd
    simp only [stress_Two.go, twV]
    refine Ev.bind (bare_ev l y) ?_
    by_cases he : (bareV l y).2.2 = 0
    · refine Ev.pos he ?_
      have hs := sc_of h0 (by omega) he
      obtain ⟨g, e1, _, b1, b2, b3, b4⟩ := sc_great hl0 hs
      have et : tyV l y = if fitB (g.2.1 + g.2.2.2.1) = true then (g.2.1 + g.2.2.2.1, [g.1, g.2.2.1].take g.2.2.2.2, 0) else (0, [], 3) := by
        unfold tyV
        rw [if_pos he, e1]
      rw [e1, et]
      simp only [Option.bind_some]
      rw [add_some _ _ (by omega) (by omega)]
      simp only [Option.bind_some]
      have hi := fun a b c => ih (y + 1) a b c (by omega)
      by_cases hf : fitB (g.2.1 + g.2.2.2.1) = true
      · simp only [if_pos hf]
        exact Ev.pos (by trivial) (Ev.both (fun _ => hi _ _ _) (fun _ => hi _ _ _))
      · simp only [if_neg hf]
        exact Ev.neg (by decide) (Ev.val _)
    · have et : tyV l y = (0, [], (bareV l y).2.2) := by unfold tyV; rw [if_neg he]
      rw [et, if_neg he]
      exact Ev.neg he (Ev.val _)
theorem two_ev (l : List S49) : Ev (fun k => stress_Two.f k l) (twoV l) := by
  simp only [stress_Two.f, twoV]
  refine Ev.bind (lsA_ev l) (Ev.both (fun h0 => Ev.pos (by have := (lsA_good h0).1; omega) ?_) (fun _ => Ev.val _))
  exact two_go l h0 _ 0 0 0 [] (by omega)
theorem goes_true : contangolaw39_goes.f 60 = some true := by decide +kernel
theorem goes_ev : Ev (fun k => contangolaw39_goes.f k) true := Ev.of goes_true (fun k => contangolaw39_goes.mono k)
def fewB (l : List S49) : Bool := l.all (fun x => decide (x.f2.length ≤ 100)) && decide (l.length ≤ 100)
theorem fewL (l : List S49) (hl : l.length ≤ 9223372036854775806) (n : Nat) : ∀ i : Nat, l.length - i = n → i ≤ l.length →
    Ev (fun k => contangolaw39_few.l0 k l (l.length : Int) (i : Int)) ((l.drop i).all (fun x => decide (x.f2.length ≤ 100)) && decide (l.length ≤ 100)) := by
  induction n with
  | zero =>
    intro i hi hle
    refine Ev.shift ?_
    simp only [contangolaw39_few.l0]
    rw [List.drop_eq_nil_of_le (by omega), List.all_nil, Bool.true_and]
    refine Ev.neg (by omega) (Ev.valOf (decide_eq_decide.mpr (by omega)))
  | succ n ih =>
    intro i hi hle
    have hlt : i < l.length := by omega
    have hw : wrap64 ((i : Int) + 1) = ((i + 1 : Nat) : Int) := by unfold wrap64; omega
    refine Ev.shift ?_
    simp only [contangolaw39_few.l0, rd_ls l i hlt, hw]
    rw [List.drop_eq_getElem_cons hlt, List.all_cons]
    refine Ev.pos (by omega) (Ev.pos (by omega) (Ev.pos (by omega) ?_))
    by_cases h : (l[i].f2.length : Int) > 100
    · rw [decide_eq_false (by omega : ¬ l[i].f2.length ≤ 100), Bool.false_and, Bool.false_and]
      exact Ev.pos h (Ev.val _)
    · rw [decide_eq_true (by omega : l[i].f2.length ≤ 100), Bool.true_and]
      exact Ev.neg h (ih (i + 1) (by omega) (by omega))
theorem few_ev (l : List S49) (hl : l.length ≤ 9223372036854775806) : Ev (fun k => contangolaw39_few.f k l) (fewB l) := by
  have := fewL l hl l.length 0 (by omega) (by omega)
  rw [List.drop_zero] at this
  exact this
theorem fewB_some {l : List S49} (h : fewB l = true) : l.length ≤ 100 ∧ ∀ x ∈ l, x.f2.length ≤ 100 := by
  unfold fewB at h
  simp only [Bool.and_eq_true, List.all_eq_true, decide_eq_true_eq] at h
  exact ⟨h.2, h.1⟩
theorem ownL (l : List S49) (hl : l.length ≤ 100) (hx : ∀ x ∈ l, x.f2.length ≤ 100) (n : Nat) : ∀ i : Nat, l.length - i = n → i ≤ l.length → Ev (fun k => contangolaw39_own.l0 k l (l.length : Int) (i : Int)) l := by
  induction n with
  | zero =>
    intro i hi hle
    refine Ev.shift ?_
    simp only [contangolaw39_own.l0]
    exact Ev.neg (by omega) (Ev.val _)
  | succ n ih =>
    intro i hi hle
    have hlt : i < l.length := by omega
    have hw : wrap64 ((i : Int) + 1) = ((i + 1 : Nat) : Int) := by unfold wrap64; omega
    have h1 := hx _ (List.getElem_mem hlt)
    refine Ev.shift ?_
    simp only [contangolaw39_own.l0, rd_ls l i hlt, hw, Option.bind_some, List.nil_append, Int.toNat_natCast, List.length_nil]
    refine Ev.pos (by omega) (Ev.pos (by omega) (Ev.pos (by omega) (Ev.pos (by omega) ?_)))
    have e : l.set i (⟨l[i].f0, l[i].f1, l[i].f2, l[i].f3⟩ : S49) = l := List.set_getElem_self hlt
    rw [e]
    exact ih (i + 1) (by omega) (by omega)
theorem own_ev (l : List S49) (hl : l.length ≤ 100) (hx : ∀ x ∈ l, x.f2.length ≤ 100) : Ev (fun k => contangolaw39_own.f k l) l := by
  simp only [contangolaw39_own.f, Option.bind_some, List.nil_append, List.length_nil]
  exact Ev.pos (by omega) (ownL l hl hx l.length 0 (by omega) (by omega))
/-! what two groups have together, against each one's worst -/
theorem tyV_bare {l : List S49} {y : Int} (h : (tyV l y).2.2 = 0) : (bareV l y).2.2 = 0 := by
  unfold tyV at h
  by_cases he : (bareV l y).2.2 = 0
  · exact he
  · rw [if_neg he] at h; exact absurd h he
theorem twV_facts (l : List S49) : ∀ (d y : Nat) (size sc : Int) (gr : List ByteArray), (twV l d y size sc gr).2.2.2 = 0 →
    (∀ z : Nat, y ≤ z → z < y + d → (tyV l z).2.2 = 0 ∧ (tyV l z).1 ≤ (twV l d y size sc gr).1) ∧ ((twV l d y size sc gr = (size, sc, gr, 0) ∧ (d = 0 ∨ 0 < y)) ∨ ∃ z : Nat, y ≤ z ∧ z < y + d ∧ twV l d y size sc gr = ((tyV l z).1, (z : Int), (tyV l z).2.1, 0)) ∧ (0 < y → size ≤ (twV l d y size sc gr).1) := by
  intro d
  induction d with
  | zero =>
    intro y size sc gr _
    exact ⟨fun z h1 h2 => by omega, .inl ⟨rfl, .inl rfl⟩, fun _ => Int.le_refl _⟩
  | succ d ih =>
    intro y size sc gr h
    rw [twV] at h ⊢
    by_cases he : (tyV l y).2.2 = 0
    · rw [if_pos he] at h ⊢
      have hc1 : ((y : Int) + 1) = ((y + 1 : Nat) : Int) := by omega
      by_cases hc : (y : Int) = 0 ∨ size < (tyV l y).1
      · rw [if_pos hc, hc1] at h ⊢
        obtain ⟨i1, i2, i3⟩ := ih (y + 1) _ _ _ h
        have i4 := i3 (by omega)
        refine ⟨fun z h1 h2 => ?_, .inr ?_, fun h0 => ?_⟩
        · by_cases e : z = y
          · subst e; exact ⟨he, i4⟩
          · exact i1 z (by omega) (by omega)
        · rcases i2 with ⟨i2, _⟩ | ⟨z, z1, z2, z3⟩
          · exact ⟨y, Nat.le_refl _, by omega, i2⟩
          · exact ⟨z, by omega, by omega, z3⟩
        · rcases hc with hc | hc <;> omega
      · rw [if_neg hc, hc1] at h ⊢
        obtain ⟨i1, i2, i3⟩ := ih (y + 1) _ _ _ h
        have i4 := i3 (by omega)
        refine ⟨fun z h1 h2 => ?_, ?_, fun _ => i4⟩
        · by_cases e : z = y
          · subst e; exact ⟨he, by omega⟩
          · exact i1 z (by omega) (by omega)
        · rcases i2 with ⟨i2, _⟩ | ⟨z, z1, z2, z3⟩
          · exact .inl ⟨i2, .inr (by omega)⟩
          · exact .inr ⟨z, by omega, by omega, z3⟩
    · rw [if_neg he] at h
      exact absurd h he
theorem twV_err (l : List S49) : ∀ (d : Nat) (y size sc : Int) (gr : List ByteArray), (twV l d y size sc gr).2.2.2 ≠ 0 → twV l d y size sc gr = (0, 0, [], (twV l d y size sc gr).2.2.2) := by
  intro d
  induction d with
  | zero => intro y size sc gr h; exact absurd rfl h
  | succ d ih =>
    intro y size sc gr h
    rw [twV] at h ⊢
    by_cases he : (tyV l y).2.2 = 0
    · rw [if_pos he] at h ⊢
      by_cases hc : y = 0 ∨ size < (tyV l y).1
      · rw [if_pos hc] at h ⊢; exact ih _ _ _ _ h
      · rw [if_neg hc] at h ⊢; exact ih _ _ _ _ h
    · rw [if_neg he]
theorem twoV_err {l : List S49} (h : (twoV l).2.2.2 ≠ 0) : (twoV l).1 = 0 ∧ (twoV l).2.1 = 0 ∧ (twoV l).2.2.1 = [] := by
  unfold twoV at h ⊢
  by_cases h0 : lsA l = 0
  · rw [if_pos h0] at h ⊢
    rw [twV_err l _ _ _ _ _ h]
    exact ⟨rfl, rfl, rfl⟩
  · rw [if_neg h0]
    exact ⟨rfl, rfl, rfl⟩
structure TwoOk (l : List S49) (y0 : Nat) : Prop where
  chk : lsA l = 0
  lt : y0 < (rd_T49 l 0).f2.length
  eq : twoV l = ((tyV l y0).1, (y0 : Int), (tyV l y0).2.1, 0)
  all : ∀ y : Nat, y < (rd_T49 l 0).f2.length → (tyV l y).2.2 = 0 ∧ (tyV l y).1 ≤ (tyV l y0).1
theorem twoV_ok {l : List S49} (h : (twoV l).2.2.2 = 0) : ∃ y0 : Nat, TwoOk l y0 := by
  have h' := h
  unfold twoV at h
  by_cases h0 : lsA l = 0
  · rw [if_pos h0] at h
    obtain ⟨hl0, _, hgd⟩ := lsA_good h0
    have hN : 0 < (rd_T49 l 0).f2.length := (hgd _ (List.getElem_mem hl0)).pos
    obtain ⟨i1, i2, _⟩ := twV_facts l _ 0 0 0 [] h
    rcases i2 with ⟨_, i2⟩ | ⟨z, _, z2, z3⟩
    · omega
    · have e : twoV l = twV l (rd_T49 l 0).f2.length (0 : Nat) 0 0 [] := by unfold twoV; rw [if_pos h0]; rfl
      rw [z3] at e
      refine ⟨z, h0, by omega, e, fun y hy => ?_⟩
      have := i1 y (by omega) (by omega)
      rw [z3] at this
      exact this
  · rw [if_neg h0] at h
    exact absurd h h0
/-- A scenario's two: the greatest one, and another one, if there is one. -/
theorem ty_two {l : List S49} (h0 : lsA l = 0) {y : Nat} (hy : y < (rd_T49 l 0).f2.length) (ht : (tyV l y).2.2 = 0) :
    Sc l y ∧ (∀ g ∈ gn l, vg l y g ≤ (tyV l y).1) ∧ 0 ≤ (tyV l y).1 ∧ (tyV l y).1 ≤ 1152921504606846976 ∧ ∃ A ∈ gn l, ((gn l).length = 1 ∧ (tyV l y).2.1 = [A] ∧ (tyV l y).1 = vg l y A) ∨ (2 ≤ (gn l).length ∧ ∃ B ∈ gn l, A ≠ B ∧ (tyV l y).2.1 = [A, B] ∧ (tyV l y).1 = vg l y A + vg l y B ∧ (∀ g ∈ gn l, g ≠ A → vg l y g ≤ vg l y B) ∧ ∀ g ∈ gn l, vg l y g ≤ vg l y A) := by
  obtain ⟨hl0, _, _⟩ := lsA_good h0
  have he := tyV_bare ht
  have hs := sc_of h0 hy he
  obtain ⟨g, e1, hGS, b1, b2, b3, b4⟩ := sc_great hl0 hs
  have et : tyV l y = if fitB (g.2.1 + g.2.2.2.1) = true then (g.2.1 + g.2.2.2.1, [g.1, g.2.2.1].take g.2.2.2.2, 0) else (0, [], 3) := by
    unfold tyV
    rw [if_pos he, e1]
  by_cases hf : fitB (g.2.1 + g.2.2.2.1) = true
  case neg => rw [if_neg hf] at et; rw [et] at ht; cases ht
  rw [if_pos hf] at et
  unfold fitB at hf
  simp only [decide_eq_true_eq] at hf
  rw [et]
  obtain ⟨a, fa, ga, gs, hk⟩ := hGS
  have hat : ∀ j : Nat, (hj : j < (gn l).length) → rd ((gn l).map (vg l y)) (j : Int) = vg l y (gn l)[j] := fun j hj => by
    rw [rd_at _ j (by simpa using hj), List.getElem_map]
  have hnm : ∀ j : Nat, (hj : j < (gn l).length) → rdOf ByteArray.empty (gn l) (j : Int) = (gn l)[j] := fun j hj => by simp [rdOf, hj]
  have hA : ∀ h ∈ gn l, vg l y h ≤ g.2.1 := by
    intro h hh
    obtain ⟨j, hj, rfl⟩ := List.getElem_of_mem hh
    rw [ga, ← hat j hj]
    exact fa.2.2.1 j hj (by omega)
  rw [hat a fa.1] at ga
  rw [hnm a fa.1] at gs
  refine ⟨hs, fun h hh => by have := hA h hh; show vg l y h ≤ g.2.1 + g.2.2.2.1; omega, by show 0 ≤ g.2.1 + g.2.2.2.1; omega, hf.2, (gn l)[a]'fa.1, List.getElem_mem _, ?_⟩
  rcases hk with ⟨hm, hk, hn1⟩ | ⟨hm, hk, b, fb, hn1, hs1⟩
  · exact .inl ⟨hm, by show List.take _ _ = _; rw [hk, gs]; rfl, by show g.2.1 + g.2.2.2.1 = _; rw [hn1, ga, Int.add_zero]⟩
  · have hB : ∀ h ∈ gn l, h ≠ (gn l)[a]'fa.1 → vg l y h ≤ g.2.2.2.1 := by
      intro h hh hne
      obtain ⟨j, hj, rfl⟩ := List.getElem_of_mem hh
      rw [hn1, ← hat j hj]
      exact fb.2.2.1 j hj (fun e => hne (by have : j = a := by omega
                                            subst this; rfl))
    rw [hat b fb.1] at hn1
    rw [hnm b fb.1] at hs1
    refine .inr ⟨hm, (gn l)[b]'fb.1, List.getElem_mem _, fun e => ?_, by show List.take _ _ = _; rw [hk, gs, hs1]; rfl, by show g.2.1 + g.2.2.2.1 = _; rw [hn1, ga], fun h hh hne => by rw [← hn1]; exact hB h hh hne, fun h hh => by rw [← ga]; exact hA h hh⟩
    have hb1 := fb.2.1
    rcases Nat.lt_trichotomy a b with c | c | c
    · have := List.pairwise_iff_getElem.mp (gn_sorted l) a b fa.1 fb.1 c
      exact less_ne this (by rw [e])
    · subst c; exact hb1 rfl
    · have := List.pairwise_iff_getElem.mp (gn_sorted l) b a fb.1 fa.1 c
      exact less_ne this (by rw [e])
/-! the same losses with more margin -/
def Mg : List S49 → List S49 → Prop
  | [], [] => True
  | x :: r, x' :: r' => (x.f0 = x'.f0 ∧ x.f1 = x'.f1 ∧ x.f2 = x'.f2 ∧ x.f3 ≤ x'.f3 ∧ x'.f3 ≤ 1152921504606846976) ∧ Mg r r'
  | _, _ => False
theorem Mg.len : ∀ {l l' : List S49}, Mg l l' → l'.length = l.length
  | [], [], _ => rfl
  | [], _ :: _, h => h.elim
  | _ :: _, [], h => h.elim
  | _ :: r, _ :: r', h => by rw [List.length_cons, List.length_cons, Mg.len h.2]
theorem Mg.rfl_ : ∀ (l : List S49), (∀ x ∈ l, x.f3 ≤ 1152921504606846976) → Mg l l
  | [], _ => trivial
  | x :: r, h => ⟨⟨rfl, rfl, rfl, Int.le_refl _, h x List.mem_cons_self⟩, Mg.rfl_ r (fun y hy => h y (List.mem_cons_of_mem _ hy))⟩
theorem Mg.set_ (m : Int) : ∀ (l : List S49) (k : Nat) (hk : k < l.length), (∀ x ∈ l, x.f3 ≤ 1152921504606846976) → l[k].f3 ≤ m → m ≤ 1152921504606846976 → Mg l (l.set k (⟨l[k].f0, l[k].f1, l[k].f2, m⟩ : S49))
  | [], k, hk, _, _, _ => absurd hk (Nat.not_lt_zero _)
  | x :: r, 0, _, h, h1, h2 => ⟨⟨rfl, rfl, rfl, h1, h2⟩, Mg.rfl_ r (fun y hy => h y (List.mem_cons_of_mem _ hy))⟩
  | x :: r, k + 1, hk, h, h1, h2 => ⟨⟨rfl, rfl, rfl, Int.le_refl _, h x List.mem_cons_self⟩, Mg.set_ m r k (by simpa using hk) (fun y hy => h y (List.mem_cons_of_mem _ hy)) h1 h2⟩
theorem Mg.scan_ (n : Int) : ∀ (l l' : List S49) (q q' : Option S49), Mg l l' → q.map (·.f0) = q'.map (·.f0) → scan (lsF n) q l = 0 → scan (lsF n) q' l' = 0
  | [], [], _, _, _, _, _ => rfl
  | [], _ :: _, _, _, h, _, _ => h.elim
  | _ :: _, [], _, _, h, _, _ => h.elim
  | x :: r, x' :: r', q, q', h, hq, hs => by
    obtain ⟨⟨e0, e1, e2, e3, e4⟩, hr⟩ := h
    rw [scan_cons] at hs ⊢
    by_cases hc : lsF n q x = 0
    · rw [if_pos hc] at hs
      have hc' : lsF n q' x' = 0 := by
        unfold lsF at hc ⊢
        rw [← e0, ← e1]
        by_cases hn : (nameB x.f0 && nameB x.f1) = true
        · rw [if_pos hn] at hc ⊢
          have key : lsE n x = 0 → lsE n x' = 0 := by
            intro h
            obtain ⟨h1, h2, h3, h4, h5, h6⟩ := lsE_zero h
            unfold lsE
            rw [← e2, if_neg (by omega), if_pos h4, if_neg (by omega)]
          cases q with
          | none =>
            cases q' with
            | none => exact key hc
            | some y => cases hq
          | some y =>
            cases q' with
            | none => cases hq
            | some y' =>
              have hy : y.f0 = y'.f0 := Option.some.inj hq
              simp only at hc ⊢
              rw [← hy]
              by_cases hb : Op.bytesLess y.f0.toList x.f0.toList = true
              · rw [if_pos hb] at hc ⊢; exact key hc
              · rw [if_neg hb] at hc; cases hc
        · rw [if_neg hn] at hc; cases hc
      rw [if_pos hc']
      exact Mg.scan_ n r r' _ _ hr (by show some x.f0 = some x'.f0; rw [e0]) hs
    · rw [if_neg hc] at hs
      exact absurd hs hc
theorem Mg.first {l l' : List S49} (h : Mg l l') : (rd_T49 l' 0).f2.length = (rd_T49 l 0).f2.length := by
  cases l with
  | nil => cases l' with
    | nil => rfl
    | cons => exact h.elim
  | cons x r => cases l' with
    | nil => exact h.elim
    | cons x' r' =>
      have := h.1.2.2.1
      simp [rd_T49, this]
theorem Mg.chk {l l' : List S49} (h : Mg l l') (h0 : lsA l = 0) : lsA l' = 0 := by
  unfold lsA at h0 ⊢
  rw [h.len, h.first]
  by_cases hc : l.length = 0 ∨ l.length > 32
  · rw [if_pos hc] at h0; cases h0
  · rw [if_neg hc] at h0 ⊢
    exact Mg.scan_ _ l l' none none h rfl h0
theorem Mg.ded_ : ∀ (l l' : List S49) (t : List ByteArray), Mg l l' → ded t l' = ded t l
  | [], [], _, _ => rfl
  | [], _ :: _, _, h => h.elim
  | _ :: _, [], _, h => h.elim
  | x :: r, x' :: r', t, h => by
    rw [ded, ded, ← h.1.2.1]
    exact Mg.ded_ r r' _ h.2
theorem Mg.gn_ {l l' : List S49} (h : Mg l l') : gn l' = gn l := by
  unfold gn
  rw [Mg.ded_ l l' [] h]
theorem Mg.vg_ {N : Nat} (y : Nat) (hy : y < N) (g : ByteArray) : ∀ (l l' : List S49), Mg l l' → (∀ x ∈ l, Good N x) → vg l' y g ≤ vg l y g
  | [], [], _, _ => Int.le_refl _
  | [], _ :: _, h, _ => h.elim
  | _ :: _, [], h, _ => h.elim
  | x :: r, x' :: r', h, hg => by
    have ih := Mg.vg_ y hy g r r' h.2 (fun z hz => hg z (List.mem_cons_of_mem _ hz))
    obtain ⟨e0, e1, e2, e3, e4⟩ := h.1
    unfold vg at ih ⊢
    rw [bv_cons, bv_cons, ← e1]
    by_cases hq : strQ x.f1 g = true
    · rw [if_pos hq]
      have hs : ∀ (c : Int) (z : List Int), sumI ([c] ++ z) = c + sumI z := fun c z => rfl
      rw [if_pos hq, hs, hs]
      have hx := hg x List.mem_cons_self
      have hlen := hx.len
      have hfa : fitB (rd x.f2 (y : Int)) = true := by
        rw [rd_at _ y (by omega)]
        exact List.all_eq_true.mp hx.fit _ (List.getElem_mem _)
      have hm0 := hx.m0
      unfold fitB at hfa
      simp only [decide_eq_true_eq] at hfa
      have hb : bvx y x' ≤ bvx y x := by
        unfold bvx mx
        rw [← e2, wrap_small (by omega) (by omega), wrap_small (by omega) (by omega)]
        split <;> split <;> omega
      omega
    · rw [if_neg hq]
      rw [if_neg hq]
      exact ih
theorem nsA_all (l : List S49) (a : Int) : ∀ (r : List ByteArray) (t : List Int), (∀ g ∈ r, (sm (bv l a g)).2 = 0) → (nsA l a r t).2 = 0 := by
  intro r
  induction r with
  | nil => intro t _; rfl
  | cons s r ih =>
    intro t h
    rw [nsA, if_pos (h s List.mem_cons_self)]
    exact ih _ (fun g hg => h g (List.mem_cons_of_mem _ hg))
theorem bare_all {l : List S49} (h0 : lsA l = 0) {y : Nat} (hy : y < (rd_T49 l 0).f2.length) (h : ∀ g ∈ gn l, vg l y g ≤ 1152921504606846976) : (bareV l y).2.2 = 0 := by
  have hn : (nsA l y (gn l) []).2 = 0 := nsA_all l y (gn l) [] (fun g hg => by
    obtain ⟨h1, h2⟩ := sm_bv_all h0 hy g
    have h3 := h g hg
    unfold vg at h2 h3
    unfold sm smV
    rw [if_pos h1, Int.zero_add, if_pos (by unfold fitB; exact decide_eq_true (by omega))])
  unfold bareV
  rw [if_pos h0, if_neg (by omega), if_pos hn]
theorem twV_all (l : List S49) : ∀ (d y : Nat) (size sc : Int) (gr : List ByteArray), (∀ z : Nat, y ≤ z → z < y + d → (tyV l z).2.2 = 0) → (twV l d y size sc gr).2.2.2 = 0 := by
  intro d
  induction d with
  | zero => intro y size sc gr _; rfl
  | succ d ih =>
    intro y size sc gr h
    have hc1 : ((y : Int) + 1) = ((y + 1 : Nat) : Int) := by omega
    rw [twV, if_pos (h y (Nat.le_refl _) (by omega)), hc1]
    split
    · exact ih _ _ _ _ (fun z z1 z2 => h z (by omega) (by omega))
    · exact ih _ _ _ _ (fun z z1 z2 => h z (by omega) (by omega))
theorem ty_less {l l' : List S49} (h : Mg l l') (h0 : lsA l = 0) {y : Nat} (hy : y < (rd_T49 l 0).f2.length) (ht : (tyV l y).2.2 = 0) :
    (tyV l' y).2.2 = 0 ∧ (tyV l' y).1 ≤ (tyV l y).1 := by
  obtain ⟨hl0, hl1, hgd⟩ := lsA_good h0
  have h0' := h.chk h0
  have hy' : y < (rd_T49 l' 0).f2.length := by rw [h.first]; exact hy
  have hl0' := (lsA_good h0').1
  obtain ⟨hsc, _, ht0, ht1, A, hA, hk⟩ := ty_two h0 hy ht
  have hv : ∀ g, vg l' y g ≤ vg l y g := fun g => Mg.vg_ y hy g l l' h hgd
  have he : (bareV l' y).2.2 = 0 := bare_all h0' hy' (fun g hg => by
    rw [h.gn_] at hg
    have := (hsc.fit g hg).2
    have := hv g
    omega)
  have hs := sc_of h0' hy' he
  obtain ⟨g, e1, hGS, b1, b2, b3, b4⟩ := sc_great hl0' hs
  have et : tyV l' y = if fitB (g.2.1 + g.2.2.2.1) = true then (g.2.1 + g.2.2.2.1, [g.1, g.2.2.1].take g.2.2.2.2, 0) else (0, [], 3) := by
    unfold tyV
    rw [if_pos he, e1]
  have hle : g.2.1 + g.2.2.2.1 ≤ (tyV l y).1 := by
    rw [h.gn_] at hGS
    obtain ⟨a, fa, ga, gs, hk'⟩ := hGS
    have hat : ∀ j : Nat, (hj : j < (gn l).length) → rd ((gn l).map (vg l' y)) (j : Int) = vg l' y (gn l)[j] := fun j hj => by
      rw [rd_at _ j (by simpa using hj), List.getElem_map]
    have ea := hat a fa.1
    rw [ga, ea]
    have va := hv ((gn l)[a]'fa.1)
    have ma : (gn l)[a]'fa.1 ∈ gn l := List.getElem_mem _
    rcases hk' with ⟨hm, _, hn1⟩ | ⟨hm, _, b, fb, hn1, _⟩
    · rw [hn1]
      rcases hk with ⟨_, _, hs3⟩ | ⟨h2, _⟩
      · have e : (gn l)[a]'fa.1 = A := by
          obtain ⟨j, hj, ej⟩ := List.getElem_of_mem hA
          have h1 : j = a := by have := fa.1; omega
          subst h1
          exact ej
        rw [e] at va ⊢
        omega
      · omega
    · rw [hn1, hat b fb.1]
      have vb := hv ((gn l)[b]'fb.1)
      have mb : (gn l)[b]'fb.1 ∈ gn l := List.getElem_mem _
      have hab : (gn l)[a]'fa.1 ≠ (gn l)[b]'fb.1 := by
        intro e
        have hb1 := fb.2.1
        rcases Nat.lt_trichotomy a b with c | c | c
        · exact less_ne (List.pairwise_iff_getElem.mp (gn_sorted l) a b fa.1 fb.1 c) (by rw [e])
        · subst c; exact hb1 rfl
        · exact less_ne (List.pairwise_iff_getElem.mp (gn_sorted l) b a fb.1 fa.1 c) (by rw [e])
      rcases hk with ⟨h2, _⟩ | ⟨_, B, hB, _, _, hs3, hB2, hA2⟩
      · omega
      · rw [hs3]
        by_cases c : (gn l)[a]'fa.1 = A
        · have h1 := hB2 _ mb (fun e => hab (c.trans e.symm))
          have h2 := hA2 _ ma
          omega
        · have h1 := hB2 _ ma c
          have h2 := hA2 _ mb
          omega
  rw [if_pos (by unfold fitB; exact decide_eq_true (by omega))] at et
  rw [et]
  exact ⟨rfl, hle⟩
theorem two_less {l l' : List S49} (h : Mg l l') {y0 : Nat} (ok : TwoOk l y0) : (twoV l').2.2.2 = 0 ∧ (twoV l').1 ≤ (tyV l y0).1 ∧ 0 ≤ (twoV l').1 := by
  have h0' := h.chk ok.chk
  have hall : ∀ z : Nat, z < (rd_T49 l 0).f2.length → (tyV l' z).2.2 = 0 ∧ (tyV l' z).1 ≤ (tyV l z).1 := fun z hz => ty_less h ok.chk hz (ok.all z hz).1
  have e0 : (twoV l').2.2.2 = 0 := by
    unfold twoV
    rw [if_pos h0', h.first]
    exact twV_all l' _ 0 0 0 [] (fun z _ hz => (hall z (by omega)).1)
  refine ⟨e0, ?_⟩
  obtain ⟨y1, ok1⟩ := twoV_ok e0
  have hy1 : y1 < (rd_T49 l 0).f2.length := by rw [← h.first]; exact ok1.lt
  rw [ok1.eq]
  show (tyV l' y1).1 ≤ _ ∧ 0 ≤ (tyV l' y1).1
  have h1 := (hall y1 hy1).2
  have h2 := (ok.all y1 hy1).2
  have h3 := (ty_two h0' ok1.lt (ok1.all y1 ok1.lt).1).2.2.1
  exact ⟨by omega, h3⟩
theorem u64_range (x : Int) : 0 ≤ IntKind.u64.wrap x ∧ IntKind.u64.wrap x < 18446744073709551616 := by
  simp only [IntKind.wrap, IntKind.bits, IntKind.signed]
  simp
  omega
theorem u64_small {x : Int} (h0 : 0 ≤ x) (h1 : x < 18446744073709551616) : IntKind.u64.wrap x = x := by
  simp only [IntKind.wrap, IntKind.bits, IntKind.signed]
  simp
  omega
theorem tmod_in (x : Int) (n : Int) (h0 : 0 ≤ x) (hn : 0 < n) : 0 ≤ Int.tmod x n ∧ Int.tmod x n < n := by
  rw [Int.tmod_eq_emod_of_nonneg h0]
  exact ⟨Int.emod_nonneg _ (by omega), Int.emod_lt_of_pos _ hn⟩
theorem StressMargin : contangolaw39_StressMargin.Said := by
  intro l at_ more hl _ _ hsl _ _
  refine Ev.get ?_
  have hll : l.length ≤ 9223372036854775806 := by have := hsl.1; omega
  simp only [contangolaw39_StressMargin.f]
  refine Ev.bind (few_ev l hll) ?_
  cases hf : fewB l with
  | false => exact Ev.neg (by decide) (Ev.bind goes_ev (Ev.val _))
  | true =>
    obtain ⟨f1, f2⟩ := fewB_some hf
    refine Ev.pos rfl (Ev.bind (two_ev l) ?_)
    by_cases he : (twoV l).2.2.2 = 0
    · obtain ⟨y0, ok⟩ := twoV_ok he
      obtain ⟨hl0, hl1, hgd⟩ := lsA_good ok.chk
      refine Ev.pos he (Ev.shift ?_)
      simp only [contangolaw39_StressMargin.j0]
      have hlz : ((l.length : Int) == 0) = false := beq_eq_false_iff_ne.mpr (by omega)
      refine Ev.neg (by rw [hlz]; decide) (Ev.bind (own_ev l f1 f2) ?_)
      have hu : IntKind.u64.wrap (l.length : Int) = (l.length : Int) := u64_small (by omega) (by omega)
      obtain ⟨r1, r2⟩ := tmod_in (IntKind.u64.wrap at_) (l.length : Int) (u64_range at_).1 (by omega)
      rw [hu, wrap_small (by omega) (by omega)]
      obtain ⟨k, hk⟩ := Int.eq_ofNat_of_zero_le r1
      rw [hk] at r2 ⊢
      have hkl : k < l.length := by omega
      have hx := hgd _ (List.getElem_mem hkl)
      have hm0 := hx.m0
      have hm1 := hx.m1
      obtain ⟨q1, q2⟩ := tmod_in (IntKind.u64.wrap more) 1099511627776 (u64_range more).1 (by decide)
      rw [rd_ls l k hkl, wrap_small (n := Int.tmod (IntKind.u64.wrap more) 1099511627776) (by omega) (by omega), wrap_small (n := l[k].f3 + Int.tmod (IntKind.u64.wrap more) 1099511627776) (by omega) (by omega)]
      have hm : Mg l (l.set k (⟨l[k].f0, l[k].f1, l[k].f2, mn (l[k].f3 + Int.tmod (IntKind.u64.wrap more) 1099511627776) 1152921504606846976⟩ : S49)) :=
        Mg.set_ _ l k hkl (fun x hx => (hgd x hx).m1) (by unfold mn; split <;> omega) (by unfold mn; split <;> omega)
      obtain ⟨z1, z2, z3⟩ := two_less hm ok
      have es : (twoV l).1 = (tyV l y0).1 := by rw [ok.eq]
      refine Ev.neg (by omega) (Ev.pos (by omega) (Ev.pos (by omega) ?_))
      exact Ev.bind (two_ev _) (Ev.pos z1 (Ev.pos (by rw [es]; exact z2) (Ev.pos z3 (Ev.bind goes_ev (Ev.val _)))))
    · obtain ⟨e1, _, _⟩ := twoV_err he
      refine Ev.neg he (Ev.shift ?_)
      simp only [contangolaw39_StressMargin.j0]
      exact Ev.pos (by trivial) (Ev.pos e1 (Ev.bind goes_ev (Ev.val _)))
end Go.Proofs.Ytaookghbppimnaa.Pure
