/- The order of trades plays no part, and more trades behind a count of the first ones cost what all do at once: the law, as a statement over numbers and lists. -/
import Derived.Test.YtckjdncimibiaaaArgFeeBehind
namespace Go.Proofs.Ytckjdncimibiaaa.Pure
set_option linter.unusedSimpArgs false
set_option linter.unusedVariables false
open Go.RowKit Go.Proofs.Ytckjdncimibiaaa.PFeeBehind Go.Proofs.Ytckjdncimibiaaa.Opens Go.Proofs.YtckjdncimibiaaaW.PrintWords Go.Proofs.YtckjdncimibiaaaW.PrintLast
/-- Comes to r, at all large numbers of rounds. -/
def Ev {α : Type} (g : Nat → Option α) (r : α) : Prop := ∃ K, ∀ k, K ≤ k → g k = some r
theorem Ev.shift {α : Type} {g : Nat → Option α} {r : α} (h : Ev (fun k => g (k + 1)) r) : Ev g r := by
  obtain ⟨K, h⟩ := h
  refine ⟨K + 1, fun k hk => ?_⟩
  obtain ⟨m, rfl⟩ : ∃ m, k = m + 1 := ⟨k - 1, by omega⟩
  exact h m (by omega)
theorem Ev.val {α : Type} (r : α) : Ev (fun _ => some r) r := ⟨0, fun _ _ => rfl⟩
theorem Ev.bind {α β : Type} {g : Nat → Option α} {f : Nat → α → Option β} {x : α} {r : β} (h : Ev g x) (h' : Ev (fun k => f k x) r) : Ev (fun k => (g k).bind (f k)) r := by
  obtain ⟨K, h⟩ := h
  obtain ⟨K', h'⟩ := h'
  exact ⟨max K K', fun k hk => by show (g k).bind (f k) = some r; rw [h k (by omega)]; exact h' k (by omega)⟩
theorem Ev.get {α : Type} {g : Nat → Option α} {r : α} (h : Ev g r) : ∃ k, g k = some r := by
  obtain ⟨K, h⟩ := h
  exact ⟨K, h K (Nat.le_refl _)⟩
theorem Ev.of {α : Type} {g : Nat → Option α} {r : α} {k0 : Nat} (h : g k0 = some r) (hm : ∀ k, LeO (g k) (g (k + 1))) : Ev g r := ⟨k0, fun _ hk => at_rounds hm hk h⟩
theorem Ev.pos {α : Type} {c : Prop} [Decidable c] {a b : Nat → Option α} {r : α} (hc : c) (h : Ev a r) : Ev (fun k => if c then a k else b k) r := by
  obtain ⟨K, h⟩ := h
  exact ⟨K, fun k hk => by show (if c then a k else b k) = some r; rw [if_pos hc]; exact h k hk⟩
theorem Ev.neg {α : Type} {c : Prop} [Decidable c] {a b : Nat → Option α} {r : α} (hc : ¬ c) (h : Ev b r) : Ev (fun k => if c then a k else b k) r := by
  obtain ⟨K, h⟩ := h
  exact ⟨K, fun k hk => by show (if c then a k else b k) = some r; rw [if_neg hc]; exact h k hk⟩
/-- Both ways, each where it is taken. -/
theorem Ev.ite {α : Type} {c : Prop} [Decidable c] {a b : Nat → Option α} {r : α} (h : c → Ev a r) (h' : ¬ c → Ev b r) : Ev (fun k => if c then a k else b k) r := by
  by_cases hc : c
  · exact Ev.pos hc (h hc)
  · exact Ev.neg hc (h' hc)
theorem wrap_small {n : Int} (h0 : -9223372036854775808 ≤ n) (h1 : n ≤ 9223372036854775807) : wrap64 n = n := by unfold wrap64; omega
/-- Both ways, each with its own end. -/
theorem Ev.both {α : Type} {c : Prop} [Decidable c] {a b : Nat → Option α} {r s : α} (h : c → Ev a r) (h' : ¬ c → Ev b s) : Ev (fun k => if c then a k else b k) (if c then r else s) := by
  by_cases hc : c
  · rw [if_pos hc]; exact Ev.pos hc (h hc)
  · rw [if_neg hc]; exact Ev.neg hc (h' hc)
theorem Ev.valOf {α : Type} {r s : α} (h : s = r) : Ev (fun _ => some r) s := by subst h; exact Ev.val _
theorem less_irrefl (a : List UInt8) : Op.bytesLess a a = false := by
  induction a with
  | nil => rfl
  | cons x r ih =>
    have h : ¬ x < x := fun h => by have := UInt8.lt_iff_toNat_lt.mp h; omega
    simp [Op.bytesLess, ih, h]
theorem less_trans (a : List UInt8) : ∀ b c : List UInt8, Op.bytesLess a b = true → Op.bytesLess b c = true → Op.bytesLess a c = true := by
  induction a with
  | nil =>
    intro b c h1 h2
    cases c with
    | nil => cases b <;> simp [Op.bytesLess] at h2
    | cons z c => rfl
  | cons x a ih =>
    intro b c h1 h2
    cases b with
    | nil => simp [Op.bytesLess] at h1
    | cons y b =>
      cases c with
      | nil => simp [Op.bytesLess] at h2
      | cons z c =>
        simp only [Op.bytesLess, Bool.or_eq_true, decide_eq_true_eq, Bool.and_eq_true, beq_iff_eq, UInt8.lt_iff_toNat_lt] at h1 h2 ⊢
        rcases h1 with h1 | ⟨rfl, h1⟩
        · rcases h2 with h2 | ⟨rfl, h2⟩
          · exact Or.inl (by omega)
          · exact Or.inl h1
        · rcases h2 with h2 | ⟨rfl, h2⟩
          · exact Or.inl h2
          · exact Or.inr ⟨rfl, ih _ _ h1 h2⟩
theorem less_flip {a b : List UInt8} (h : ¬ Op.bytesLess a b = true) (hne : b ≠ a) : Op.bytesLess b a = true := by
  have := Go.Proofs.YtckjdncimibiaaaHand.bytesLess_flip b a
  have h' : Op.bytesLess a b = false := by simpa using h
  rw [h', beq_eq_false_iff_ne.mpr hne] at this
  simpa using this
theorem less_ne {a b : List UInt8} (h : Op.bytesLess a b = true) : a ≠ b := by
  intro e
  subst e
  rw [less_irrefl] at h
  cases h
def letB (c : Int) : Bool := decide (97 ≤ c) && decide (c ≤ 122)
def digB (c : Int) : Bool := decide (48 ≤ c) && decide (c ≤ 57)
/-- From place i on, d letters or digits. -/
def restB (s : ByteArray) : Nat → Nat → Bool
  | 0, _ => true
  | d + 1, i => (letB (bt s i) || digB (bt s i)) && restB s d (i + 1)
/-- Is a text a name? -/
def nameB (s : ByteArray) : Bool := decide (0 < s.size) && decide (s.size ≤ 12) && letB (bt s 0) && restB s s.size 0
theorem letter_some (c : Int) : words_letter.f c = some (letB c) := by
  unfold words_letter.f letB
  split <;> rename_i h <;> simp [h]
theorem digit_some (c : Int) : words_digit.f c = some (digB c) := by
  unfold words_digit.f digB
  split <;> rename_i h <;> simp [h]
theorem toList_nil (s : ByteArray) : s.toList = [] ↔ s.size = 0 := by
  rw [ByteArray.toList_eq]
  constructor
  · intro h
    have := congrArg List.length h
    simpa using this
  · intro h
    apply List.eq_nil_of_length_eq_zero
    simpa using h
theorem words_Name_loop (s : ByteArray) (hs : s.size ≤ 12) (d : Nat) : ∀ (k i : Nat), s.size - i = d → i ≤ s.size → d < k → words_Name.l0 k s (s.size : Int) i = some (restB s d i) := by
  induction d with
  | zero =>
    intro k i hd hi hk
    obtain ⟨k, rfl⟩ : ∃ m, k = m + 1 := ⟨k - 1, by omega⟩
    simp only [words_Name.l0]
    rw [if_neg (by omega)]
    rfl
  | succ d ih =>
    intro k i hd hi hk
    obtain ⟨k, rfl⟩ : ∃ m, k = m + 1 := ⟨k - 1, by omega⟩
    have hw : wrap64 ((i : Int) + 1) = ((i + 1 : Nat) : Int) := by unfold wrap64; omega
    simp only [words_Name.l0]
    rw [if_pos (by omega), if_pos (by omega), if_pos (by omega), letter_some, digit_some, hw, ih k (i + 1) (by omega) (by omega) (by omega)]
    simp only [Option.bind_some, restB]
    cases letB (bt s i) <;> cases digB (bt s i) <;> simp
theorem words_Name_some (s : ByteArray) : words_Name.f 20 s = some (nameB s) := by
  unfold words_Name.f nameB
  by_cases h0 : s.size = 0
  · rw [if_pos ((toList_nil s).mpr h0)]
    simp [words_Name.j0, h0]
  · rw [if_neg (fun h => h0 ((toList_nil s).mp h))]
    by_cases h1 : (s.size : Int) > 12
    · rw [if_pos h1]
      have : ¬ s.size ≤ 12 := by omega
      simp [words_Name.j0, this]
    · rw [if_neg h1, if_pos (by omega), letter_some]
      have h2 : s.size ≤ 12 := by omega
      have h3 : 0 < s.size := by omega
      simp only [Option.bind_some, h2, h3, decide_true, Bool.true_and]
      have hl := words_Name_loop s h2 s.size 19 0 (by omega) (by omega) (by omega)
      cases letB (bt s 0)
      · simp [words_Name.j0]
      · simp only [words_Name.j0, Bool.not_true, Bool.false_eq_true, if_false]
        rw [Bool.true_and]
        exact hl
theorem and32 (n : Int) : Go.bits .and .i64 n 4294967295 = n % 4294967296 := by
  have h127 : (BitVec.ofInt 64 4294967295).toNat = 2 ^ 32 - 1 := by decide
  have key : (BitVec.ofInt 64 n &&& BitVec.ofInt 64 4294967295).toNat = (n % ((2 ^ 64 : Nat) : Int)).toNat % 2 ^ 32 := by
    rw [BitVec.toNat_and, BitVec.toNat_ofInt, h127, Nat.and_two_pow_sub_one_eq_mod]
  show IntKind.i64.wrap ((BitVec.ofInt 64 n &&& BitVec.ofInt 64 4294967295).toNat : Nat) = n % 4294967296
  rw [key, IntKind.wrap_i64]
  omega
/-- Is a number money? -/
def fitB (n : Int) : Bool := decide (-1152921504606846976 ≤ n ∧ n ≤ 1152921504606846976)
def sumI (l : List Int) : Int := l.foldr (· + ·) 0
/-- All together, or why that is not told. -/
def smV (l : List Int) (s : Int) : Int × Int := if l.all fitB = true then (if fitB (s + sumI l) = true then (s + sumI l, 0) else (0, 3)) else (0, 2)
theorem fits_some (n : Int) : cents_Fits.f n = some (fitB n) := by
  unfold cents_Fits.f fitB
  by_cases h : n ≥ -1152921504606846976
  · rw [if_pos h]
    congr 1
    exact decide_eq_decide.mpr ⟨fun h2 => ⟨h, h2⟩, fun h2 => h2.2⟩
  · rw [if_neg h]
    congr 1
    exact (decide_eq_false (by omega)).symm
theorem fitting_some (n : Int) : cents_fitting.f n = some (if fitB n = true then (n, 0) else (0, 3)) := by
  unfold cents_fitting.f
  rw [fits_some]
  simp only [Option.bind_some]
  split <;> rfl
theorem sumEnd (hi lo : Int) (h1 : -1152921504606846976 ≤ hi ∧ hi ≤ 1152921504606846976) (h2 : 0 ≤ lo ∧ lo ≤ 1152921504606846976) :
    (if (wrap64 (hi + (lo / 4294967296))) < (-268435456) then (some ((0 : Int), (3 : Int))) else (if (wrap64 (hi + (lo / 4294967296))) > 268435456 then (some (0, 3)) else ((cents_fitting.f (wrap64 ((wrap64 ((wrap64 (hi + (lo / 4294967296))) * 4294967296)) + (Go.bits .and .i64 lo 4294967295)))).bind fun bt => (some (bt.1, bt.2))))) = some (if fitB (hi * 4294967296 + lo) = true then (hi * 4294967296 + lo, 0) else (0, 3)) := by
  have e1 : wrap64 (hi + lo / 4294967296) = hi + lo / 4294967296 := wrap_small (by omega) (by omega)
  rw [e1, and32]
  by_cases c1 : hi + lo / 4294967296 < -268435456
  · rw [if_pos c1, if_neg]
    unfold fitB
    simp only [decide_eq_true_eq]
    omega
  · rw [if_neg c1]
    by_cases c2 : hi + lo / 4294967296 > 268435456
    · rw [if_pos c2, if_neg]
      unfold fitB
      simp only [decide_eq_true_eq]
      omega
    · rw [if_neg c2]
      have e2 : wrap64 ((hi + lo / 4294967296) * 4294967296) = (hi + lo / 4294967296) * 4294967296 := wrap_small (by omega) (by omega)
      have e3 : wrap64 ((hi + lo / 4294967296) * 4294967296 + lo % 4294967296) = hi * 4294967296 + lo := by
        rw [wrap_small (by omega) (by omega)]
        omega
      rw [e2, e3, fitting_some]
      rfl
theorem sumL (l : List Int) (hl : l.length ≤ 1000000) (n : Nat) : ∀ (i : Nat) (hi lo : Int), l.length - i = n → i ≤ l.length → -(268435456 * (i : Int)) ≤ hi → hi ≤ 268435456 * (i : Int) → 0 ≤ lo → lo ≤ 4294967296 * (i : Int) →
    Ev (fun k => cents_Sum.l0 k l hi lo (l.length : Int) (i : Int)) (smV (l.drop i) (hi * 4294967296 + lo)) := by
  induction n with
  | zero =>
    intro i hi lo hd hle h1 h2 h3 h4
    refine Ev.shift ?_
    simp only [cents_Sum.l0]
    rw [List.drop_eq_nil_of_le (by omega)]
    refine Ev.neg (by omega) ?_
    rw [sumEnd hi lo (by omega) (by omega)]
    exact Ev.valOf (by simp [smV, sumI])
  | succ n ih =>
    intro i hi lo hd hle h1 h2 h3 h4
    have hlt : i < l.length := by omega
    have hw : wrap64 ((i : Int) + 1) = ((i + 1 : Nat) : Int) := by unfold wrap64; omega
    refine Ev.shift ?_
    simp only [cents_Sum.l0, hw]
    have hr : rd l (i : Int) = l[i] := by simp [rd, List.getD_eq_getElem?_getD, hlt]
    rw [hr, List.drop_eq_getElem_cons hlt]
    refine Ev.pos (by omega) (Ev.pos (by omega) (Ev.pos (by omega) ?_))
    rw [fits_some, and32]
    simp only [Option.bind_some]
    by_cases hf : fitB l[i] = true
    · refine Ev.pos hf ?_
      have hf2 := hf
      unfold fitB at hf2
      simp only [decide_eq_true_eq] at hf2
      have e1 : wrap64 (hi + l[i] / 4294967296) = hi + l[i] / 4294967296 := wrap_small (by omega) (by omega)
      have e2 : wrap64 (lo + l[i] % 4294967296) = lo + l[i] % 4294967296 := wrap_small (by omega) (by omega)
      rw [e1, e2]
      have h := ih (i + 1) (hi + l[i] / 4294967296) (lo + l[i] % 4294967296) (by omega) (by omega) (by omega) (by omega) (by omega) (by omega)
      have e3 : smV (l[i] :: l.drop (i + 1)) (hi * 4294967296 + lo) = smV (l.drop (i + 1)) ((hi + l[i] / 4294967296) * 4294967296 + (lo + l[i] % 4294967296)) := by
        unfold smV
        rw [List.all_cons, hf, Bool.true_and]
        have e4 : hi * 4294967296 + lo + sumI (l[i] :: l.drop (i + 1)) = (hi + l[i] / 4294967296) * 4294967296 + (lo + l[i] % 4294967296) + sumI (l.drop (i + 1)) := by
          have : sumI (l[i] :: l.drop (i + 1)) = l[i] + sumI (l.drop (i + 1)) := rfl
          rw [this]
          omega
        rw [e4]
      rw [e3]
      exact h
    · have e : smV (l[i] :: l.drop (i + 1)) (hi * 4294967296 + lo) = (0, 2) := by
        unfold smV
        rw [List.all_cons, Bool.eq_false_iff.mpr hf, Bool.false_and]
        rfl
      rw [e]
      exact Ev.neg hf (Ev.val _)
/-- The sum of numbers of money, or why it is not told. -/
def sm (l : List Int) : Int × Int := smV l 0
theorem sm_ev (l : List Int) (hl : l.length ≤ 1000000) : Ev (fun k => cents_Sum.f k l) (sm l) := by
  simp only [cents_Sum.f]
  exact sumL l hl l.length 0 0 0 (by omega) (by omega) (by omega) (by omega) (by omega) (by omega)
/-- A band of the document as one of the program. -/
def cv (x : S73) : S70 := ⟨x.f0, x.f1⟩
/-- May a band stand behind another one? -/
def bdT (f r p q : Int) : Bool := decide (f < p ∧ p ≤ 1152921504606846976 ∧ 0 ≤ q ∧ q ≤ r)
theorem bdT_no {f r p q : Int} (h : ¬ (f < p ∧ p ≤ 1152921504606846976 ∧ 0 ≤ q ∧ q ≤ r)) : bdT f r p q = false := decide_eq_false h
theorem bdT_yes {f r p q : Int} (h : f < p ∧ p ≤ 1152921504606846976 ∧ 0 ≤ q ∧ q ≤ r) : bdT f r p q = true := decide_eq_true h
/-- Bands that rise in From and don't in Rate. -/
def bdG (f r : Int) : List S70 → Bool
  | [] => true
  | b :: t => bdT f r b.f0 b.f1 && bdG b.f0 b.f1 t
/-- The answer to whether bands may be. -/
def bdV (b : Bool) : Int := cond b 0 2
def bdH (l : List S70) : Int := (rd_T70 l 0).f0
/-- What may be wrong with bands. -/
def bdC (l : List S70) : Int := if l.length = 0 ∨ l.length > 1024 then 8 else if bdH l = 0 then bdV (bdG (-1) 68719476736 l) else 2
theorem rd_bf (l : List S70) (i : Nat) (h : i < l.length) : rd_T70 l (i : Int) = l[i] := by simp [rd_T70, h]
theorem rd_br (l : List S73) (i : Nat) (h : i < l.length) : rd_T73 l (i : Int) = l[i] := by simp [rd_T73, h]
theorem succ_w (i n : Nat) (h : i < n) (hn : n ≤ 9223372036854775806) : wrap64 ((i : Int) + 1) = ((i + 1 : Nat) : Int) := by unfold wrap64; omega
theorem bandsL (l : List S73) (hl : l.length ≤ 8796093022200) (n : Nat) : ∀ (i : Nat) (t : List S70), l.length - i = n → i ≤ l.length → t.length = i →
    Ev (fun k => contangolaw38_Bands.l0 k l t (i : Int)) (t ++ (l.drop i).map cv) := by
  induction n with
  | zero =>
    intro i t hi hle ht
    refine Ev.shift ?_
    simp only [contangolaw38_Bands.l0]
    rw [List.drop_eq_nil_of_le (by omega), List.map_nil, List.append_nil]
    exact Ev.neg (by omega) (Ev.val _)
  | succ n ih =>
    intro i t hi hle ht
    have hlt : i < l.length := by omega
    refine Ev.shift ?_
    simp only [contangolaw38_Bands.l0, rd_br l i hlt, succ_w i l.length hlt (by omega)]
    rw [List.drop_eq_getElem_cons hlt, List.map_cons]
    refine Ev.pos (by omega) (Ev.pos (by omega) (Ev.pos (by omega) ?_))
    have := ih (i + 1) (t ++ [cv l[i]]) (by omega) (by omega) (by simp [ht])
    rw [List.append_assoc] at this
    exact this
theorem bands_ev (l : List S73) (hl : l.length ≤ 8796093022200) : Ev (fun k => contangolaw38_Bands.f k l) (l.map cv) := by
  have := bandsL l hl l.length 0 [] (by omega) (by omega) rfl
  rw [List.drop_zero, List.nil_append] at this
  exact this
theorem may_some (a b c d : Int) : fee_Band_may.f a b c d = some (bdT c d a b) := by
  unfold fee_Band_may.f
  by_cases h0 : eqD70 a c b d = true
  · rw [if_pos h0]
    unfold eqD70 at h0
    simp only [Bool.and_eq_true, beq_iff_eq] at h0
    rw [bdT_no (by omega)]
  · rw [if_neg h0]
    clear h0
    by_cases h1 : a > c
    · rw [if_pos h1]
      by_cases h2 : a ≤ 1152921504606846976
      · rw [if_pos h2]
        by_cases h3 : b ≥ 0
        · rw [if_pos h3]; exact congrArg some (decide_eq_decide.mpr (by omega))
        · rw [if_neg h3]; rw [bdT_no (by omega)]
      · rw [if_neg h2]; rw [bdT_no (by omega)]
    · rw [if_neg h1]; rw [bdT_no (by omega)]
theorem chkfL (l : List S70) (hl : l.length ≤ 1024) (n : Nat) : ∀ (i : Nat) (f r : Int), l.length - i = n → i ≤ l.length →
    Ev (fun k => fee_Check.l0 k l (l.length : Int) (i : Int) f r) (bdV (bdG f r (l.drop i))) := by
  induction n with
  | zero =>
    intro i f r hi hle
    refine Ev.shift ?_
    simp only [fee_Check.l0]
    rw [List.drop_eq_nil_of_le (by omega)]
    exact Ev.neg (by omega) (Ev.valOf rfl)
  | succ n ih =>
    intro i f r hi hle
    have hlt : i < l.length := by omega
    refine Ev.shift ?_
    simp only [fee_Check.l0, rd_bf l i hlt, succ_w i l.length hlt (by omega), may_some, Option.bind_some]
    rw [List.drop_eq_getElem_cons hlt]
    refine Ev.pos (by omega) (Ev.pos (by omega) (Ev.pos (by omega) ?_))
    simp only [bdG]
    by_cases h : f < l[i].f0 ∧ l[i].f0 ≤ 1152921504606846976 ∧ 0 ≤ l[i].f1 ∧ l[i].f1 ≤ r
    · rw [bdT_yes h, Bool.true_and]
      exact Ev.pos rfl (ih (i + 1) _ _ (by omega) (by omega))
    · rw [bdT_no h, Bool.false_and]
      exact Ev.neg (by decide) (Ev.val _)
theorem bdC_ev (l : List S70) : Ev (fun k => fee_Check.f k l) (bdC l) := by
  have key : ∀ b : Bool, (b = false → l.length ≤ 1024 ∧ 0 < l.length) → Ev (fun k => fee_Check.j0 k l b) (if b = true then 8 else if bdH l = 0 then bdV (bdG (-1) 68719476736 l) else 2) := by
    intro b hb
    refine Ev.shift ?_
    simp only [fee_Check.j0]
    refine Ev.both (fun _ => Ev.val _) (fun h => ?_)
    obtain ⟨h1, h2⟩ := hb (by simpa using h)
    refine Ev.pos (by omega) (Ev.both (fun _ => ?_) (fun _ => Ev.val _))
    have := chkfL l h1 l.length 0 (-1) 68719476736 (by omega) (by omega)
    rwa [List.drop_zero] at this
  simp only [fee_Check.f]
  unfold bdC
  by_cases h0 : l.length = 0
  · rw [if_pos (.inl h0)]
    refine Ev.pos (by omega) ?_
    have := key true (fun h => by cases h)
    rwa [if_pos rfl] at this
  · refine Ev.neg (by omega) ?_
    by_cases h1 : l.length > 1024
    · rw [if_pos (.inr h1)]
      have := key (decide ((l.length : Int) > 1024)) (fun h => by simp at h; omega)
      rwa [if_pos (by simp; omega)] at this
    · rw [if_neg (fun h => h.elim h0 h1)]
      have := key (decide ((l.length : Int) > 1024)) (fun h => by omega)
      rwa [if_neg (by simp; omega)] at this
theorem andu32 (n : Int) (h0 : 0 ≤ n) (h1 : n ≤ 18446744073709551615) : Go.bits .and .u64 n 4294967295 = n % 4294967296 := by
  have h127 : (BitVec.ofInt 64 4294967295).toNat = 2 ^ 32 - 1 := by decide
  have key : (BitVec.ofInt 64 n &&& BitVec.ofInt 64 4294967295).toNat = (n % ((2 ^ 64 : Nat) : Int)).toNat % 2 ^ 32 := by
    rw [BitVec.toNat_and, BitVec.toNat_ofInt, h127, Nat.and_two_pow_sub_one_eq_mod]
  show IntKind.u64.wrap ((BitVec.ofInt 64 n &&& BitVec.ofInt 64 4294967295).toNat : Nat) = n % 4294967296
  rw [key, IntKind.wrap_u64]
  omega
theorem wrapu_small {n : Int} (h0 : 0 ≤ n) (h1 : n ≤ 18446744073709551615) : IntKind.u64.wrap n = n := by rw [IntKind.wrap_u64]; omega
/-- The product of a rate and a number of lots, in two words. -/
theorem mul_two (a b : Int) (a0 : 0 ≤ a) (a1 : a ≤ 68719476736) (b0 : 0 ≤ b) (b1 : b ≤ 2147483648) : bits_Mul64.f a b = some (a * b / 18446744073709551616, IntKind.u64.wrap (a * b)) := by
  unfold bits_Mul64.f
  congr 2
  have hb : b / 4294967296 = 0 := by omega
  rw [hb, andu32 b b0 (by omega), andu32 a a0 (by omega), show b % 4294967296 = b by omega]
  have hp : 0 ≤ a / 4294967296 * b ∧ a / 4294967296 * b ≤ 16 * 2147483648 := ⟨Int.mul_nonneg (by omega) b0, Int.mul_le_mul (by omega) b1 b0 (by omega)⟩
  have hq : 0 ≤ a % 4294967296 * b ∧ a % 4294967296 * b ≤ 4294967295 * 2147483648 := ⟨Int.mul_nonneg (by omega) b0, Int.mul_le_mul (by omega) b1 b0 (by omega)⟩
  have hab : a * b = a / 4294967296 * b * 4294967296 + a % 4294967296 * b := by
    have h : a = a / 4294967296 * 4294967296 + a % 4294967296 := by omega
    have h2 : a * b = (a / 4294967296 * 4294967296 + a % 4294967296) * b := congrArg (· * b) h
    rw [h2, Int.add_mul, Int.mul_right_comm]
  rw [Int.mul_zero, Int.mul_zero, hab]
  generalize a / 4294967296 * b = P at *
  generalize a % 4294967296 * b = Q at *
  clear hab
  rw [wrapu_small (n := 0) (by omega) (by omega), wrapu_small (n := P) (by omega) (by omega), wrapu_small (n := Q) (by omega) (by omega), wrapu_small (n := P + Q / 4294967296) (by omega) (by omega), andu32 (P + Q / 4294967296) (by omega) (by omega)]
  rw [wrapu_small (n := 0 + (P + Q / 4294967296) / 4294967296) (by omega) (by omega), wrapu_small (n := (P + Q / 4294967296) % 4294967296 + 0) (by omega) (by omega), wrapu_small (by omega) (by omega)]
  omega
/-- A product that is money, or none. -/
def mu (a b : Int) : Int × Int := if a * b ≤ 1152921504606846976 then (a * b, 0) else (0, 3)
theorem mu_yes {a b : Int} (h : a * b ≤ 1152921504606846976) : mu a b = (a * b, 0) := if_pos h
theorem mu_no {a b : Int} (h : ¬ a * b ≤ 1152921504606846976) : mu a b = (0, 3) := if_neg h
theorem mul_ev (a b : Int) (a0 : 0 ≤ a) (a1 : a ≤ 68719476736) (b0 : 0 ≤ b) (b1 : b ≤ 2147483648) : Ev (fun k => cents_Mul.f k a b) (mu a b) := by
  have ha : fitB a = true := by unfold fitB; simp only [decide_eq_true_eq]; omega
  have hb : fitB b = true := by unfold fitB; simp only [decide_eq_true_eq]; omega
  have hp : 0 ≤ a * b ∧ a * b ≤ 68719476736 * 2147483648 := ⟨Int.mul_nonneg a0 b0, Int.mul_le_mul a1 b1 b0 (by omega)⟩
  have sz : ∀ x : Int, 0 ≤ x → x ≤ 68719476736 → cents_size.f x = some x := fun x x0 x1 => by
    unfold cents_size.f
    rw [if_neg (by omega), wrapu_small x0 (by omega)]
  simp only [cents_Mul.f, fits_some, ha, hb, Option.bind_some, Bool.not_true]
  refine Ev.pos (by trivial) (Ev.shift ?_)
  simp only [cents_Mul.j0, sz a a0 a1, sz b b0 (by omega), mul_two a b a0 a1 b0 b1, Option.bind_some]
  refine Ev.neg (by decide) ?_
  have hs : ((decide (a < 0)) != (decide (b < 0))) = false := by rw [decide_eq_false (by omega : ¬ a < 0), decide_eq_false (by omega : ¬ b < 0)]; rfl
  rw [hs]
  by_cases h : a * b / 18446744073709551616 > 0
  · rw [mu_no (by omega)]
    exact Ev.pos h (Ev.val _)
  · refine Ev.neg h ?_
    rw [wrapu_small (by omega) (by omega)]
    unfold cents_signed.f
    by_cases h2 : a * b > 1152921504606846976
    · rw [mu_no (by omega), if_pos h2]
      exact Ev.val _
    · rw [mu_yes (by omega), if_neg h2, if_neg (by decide), wrap_small (by omega) (by omega)]
      exact Ev.val _
theorem cost_ev (f a b : Int) (a0 : 0 ≤ a) (a1 : a ≤ 68719476736) (b0 : 0 ≤ b) (b1 : b ≤ 2147483648) : Ev (fun k => fee_Band_cost.f k f a b) (mu a b) := by
  simp only [fee_Band_cost.f]
  exact Ev.bind (mul_ev a b a0 a1 b0 b1) (Ev.val _)
/-- Lots of a band. -/
def lotB (a e : Int) (b : S70) (r : List S70) : Int := mx (fee_Lots.to e r - mx b.f0 a) 0
/-- What each band costs. -/
def csts (a e : Int) : List S70 → List Int
  | [] => []
  | b :: r => b.f1 * lotB a e b r :: csts a e r
def mnyB (n : Int) : Bool := decide (n ≤ 1152921504606846976)
/-- Bands as they go on behind others. -/
theorem lotB_bd {f r0 : Int} {b : S70} {r : List S70} (h : bdG f r0 (b :: r) = true) (hf : -1 ≤ f) (hr : r0 ≤ 68719476736) {a e : Int} (ha : 0 ≤ a ∧ a ≤ 1073741824) (he : 0 ≤ e ∧ e ≤ 2147483648) :
    wrap64 (fee_Lots.to e r - mx b.f0 a) = fee_Lots.to e r - mx b.f0 a ∧ (0 ≤ lotB a e b r ∧ lotB a e b r ≤ 2147483648) ∧ (0 ≤ b.f1 ∧ b.f1 ≤ 68719476736) ∧ (-1 ≤ b.f0) ∧ bdG b.f0 b.f1 r = true := by
  have h1 : bdT f r0 b.f0 b.f1 = true ∧ bdG b.f0 b.f1 r = true := by simpa only [bdG, Bool.and_eq_true] using h
  obtain ⟨h1, h2⟩ := h1
  have h1 := of_decide_eq_true h1
  have ht : 0 ≤ fee_Lots.to e r ∧ fee_Lots.to e r ≤ 2147483648 := by
    cases r with
    | nil => exact he
    | cons c t =>
      have h3 : bdT b.f0 b.f1 c.f0 c.f1 = true ∧ bdG c.f0 c.f1 t = true := by simpa only [bdG, Bool.and_eq_true] using h2
      have h3 := of_decide_eq_true h3.1
      simp only [fee_Lots.to, mn]
      split <;> omega
  have hm : 0 ≤ mx b.f0 a ∧ mx b.f0 a ≤ 1152921504606846976 := by
    simp only [mx]
    split <;> omega
  refine ⟨wrap_small (by omega) (by omega), ?_, by omega, by omega, h2⟩
  unfold lotB
  generalize fee_Lots.to e r = T at *
  generalize mx b.f0 a = M at *
  simp only [mx]
  split <;> omega
theorem goL (a e : Int) (ha : 0 ≤ a ∧ a ≤ 1073741824) (he : 0 ≤ e ∧ e ≤ 2147483648) (l : List S70) : ∀ (t : List Int) (f r0 : Int), bdG f r0 l = true → -1 ≤ f → r0 ≤ 68719476736 → t.length + l.length ≤ 1024 →
    Ev (fun k => fee_Lots.go k a e l t) (if (csts a e l).all mnyB = true then (t ++ csts a e l, 0) else ([], 3)) := by
  induction l with
  | nil =>
    intro t f r0 _ _ _ _
    exact Ev.valOf (by simp [csts])
  | cons b r ih =>
    intro t f r0 h hf hr hl
    obtain ⟨w1, w2, w3, w4, w5⟩ := lotB_bd h hf hr ha he
    simp only [List.length_cons] at hl
    simp only [fee_Lots.go, w1]
    refine Ev.bind (cost_ev b.f0 b.f1 (lotB a e b r) w3.1 w3.2 w2.1 w2.2) ?_
    rw [show csts a e (b :: r) = b.f1 * lotB a e b r :: csts a e r from rfl, List.all_cons]
    by_cases hc : b.f1 * lotB a e b r ≤ 1152921504606846976
    · rw [mu_yes hc, show mnyB (b.f1 * lotB a e b r) = true from decide_eq_true hc, Bool.true_and]
      refine Ev.pos rfl (Ev.pos (by omega) ?_)
      have := ih (t ++ [b.f1 * lotB a e b r]) b.f0 b.f1 w5 w4 w3.2 (by simp; omega)
      rw [List.append_assoc] at this
      exact this
    · rw [mu_no hc, show mnyB (b.f1 * lotB a e b r) = false from decide_eq_false hc, Bool.false_and]
      refine Ev.neg (by show ¬ ((3 : Int) = 0); decide) (Ev.val _)
theorem csts_nn (a e : Int) (ha : 0 ≤ a ∧ a ≤ 1073741824) (he : 0 ≤ e ∧ e ≤ 2147483648) (l : List S70) : ∀ (f r0 : Int), bdG f r0 l = true → -1 ≤ f → r0 ≤ 68719476736 → ∀ c ∈ csts a e l, 0 ≤ c := by
  induction l with
  | nil => intro f r0 _ _ _ c hc; cases hc
  | cons b r ih =>
    intro f r0 h hf hr c hc
    obtain ⟨_, w2, w3, w4, w5⟩ := lotB_bd h hf hr ha he
    simp only [csts, List.mem_cons] at hc
    rcases hc with rfl | hc
    · exact Int.mul_nonneg w3.1 w2.1
    · exact ih b.f0 b.f1 w5 w4 w3.2 c hc
theorem sumI_nn (l : List Int) (h : ∀ c ∈ l, 0 ≤ c) : 0 ≤ sumI l := by
  induction l with
  | nil => exact Int.le_refl 0
  | cons a t ih =>
    have h1 := h a (by simp)
    have h2 := ih (fun c hc => h c (by simp [hc]))
    show 0 ≤ a + sumI t
    omega
theorem csts_len (a e : Int) (l : List S70) : (csts a e l).length = l.length := by
  induction l with
  | nil => rfl
  | cons b r ih => simp [csts, ih]
/-- What numbers that are money come to with another one, or that they come to too much. -/
def lotV (n : Int) (l : List Int) : Int × Int := if l.all mnyB = true ∧ n + sumI l ≤ 1152921504606846976 then (n + sumI l, 0) else (0, 3)
theorem lotV_cons (n c : Int) (l : List Int) (h0 : 0 ≤ n) (hc0 : 0 ≤ c) (hl : ∀ x ∈ l, 0 ≤ x) : lotV n (c :: l) = if c ≤ 1152921504606846976 then (if n + c ≤ 1152921504606846976 then lotV (n + c) l else (0, 3)) else (0, 3) := by
  have hs := sumI_nn l hl
  have e : sumI (c :: l) = c + sumI l := rfl
  by_cases hc : c ≤ 1152921504606846976
  · rw [if_pos hc]
    have ec : (c :: l).all mnyB = l.all mnyB := by rw [List.all_cons, show mnyB c = true from decide_eq_true hc, Bool.true_and]
    by_cases h2 : n + c ≤ 1152921504606846976
    · rw [if_pos h2]
      unfold lotV
      rw [ec, e, Int.add_assoc]
    · rw [if_neg h2]
      exact if_neg (fun h => by have := h.2; omega)
  · rw [if_neg hc]
    refine if_neg (fun h => hc ?_)
    have := List.all_eq_true.mp h.1 c (by simp)
    exact of_decide_eq_true this
theorem sm_lotV (l : List Int) (hl : ∀ x ∈ l, 0 ≤ x) (ha : l.all mnyB = true) : sm l = lotV 0 l := by
  have hs := sumI_nn l hl
  have hf : l.all fitB = true := by
    rw [List.all_eq_true] at ha ⊢
    intro x hx
    have h1 := hl x hx
    have h2 : x ≤ 1152921504606846976 := of_decide_eq_true (ha x hx)
    exact decide_eq_true (by omega)
  unfold sm smV
  rw [if_pos hf]
  by_cases h : 0 + sumI l ≤ 1152921504606846976
  · exact (if_pos (decide_eq_true (by omega))).trans (if_pos ⟨ha, h⟩).symm
  · exact (if_neg (by unfold fitB; simp only [decide_eq_true_eq]; omega)).trans (if_neg (fun h2 => h h2.2)).symm
/-- May so many lots be? -/
def cntB (n : Int) : Bool := decide (0 ≤ n ∧ n ≤ 1073741824)
theorem count_some (n : Int) : fee_count.f n = some (cntB n) := by
  unfold fee_count.f cntB
  by_cases h : n ≥ 0
  · rw [if_pos h]; exact congrArg some (decide_eq_decide.mpr (by omega))
  · rw [if_neg h]; exact congrArg some (decide_eq_false (by omega)).symm
/-- What lots cost behind others, or why that is not told. -/
def ltV (a n : Int) (l : List S70) : Int × Int := if bdC l = 0 then (if (cntB a && cntB n) = true then lotV 0 (csts a (a + n) l) else (0, 18)) else (0, bdC l)
theorem bdC_zero {l : List S70} (h : bdC l = 0) : 0 < l.length ∧ l.length ≤ 1024 ∧ bdG (-1) 68719476736 l = true := by
  unfold bdC at h
  by_cases c0 : l.length = 0 ∨ l.length > 1024
  · rw [if_pos c0] at h; cases h
  rw [if_neg c0] at h
  by_cases c1 : bdH l = 0
  · rw [if_pos c1] at h
    cases hb : bdG (-1) 68719476736 l with
    | true => exact ⟨by omega, by omega, rfl⟩
    | false => rw [hb] at h; cases h
  · rw [if_neg c1] at h; cases h
theorem ltV_ev (a n : Int) (l : List S70) : Ev (fun k => fee_Lots.f k a n l) (ltV a n l) := by
  simp only [fee_Lots.f, count_some, Option.bind_some]
  refine Ev.bind (bdC_ev l) ?_
  unfold ltV
  refine Ev.both (fun h0 => ?_) (fun _ => Ev.val _)
  obtain ⟨h1, h2, h3⟩ := bdC_zero h0
  cases ha : cntB a with
  | false => rw [Bool.false_and, if_neg (by decide)]; exact Ev.neg (by decide) (Ev.val _)
  | true =>
    refine Ev.pos rfl ?_
    cases hn : cntB n with
    | false => rw [Bool.true_and, if_neg (by decide)]; exact Ev.neg (by decide) (Ev.val _)
    | true =>
      rw [Bool.true_and, if_pos rfl]
      refine Ev.pos rfl ?_
      have ha := of_decide_eq_true ha
      have hn := of_decide_eq_true hn
      rw [wrap_small (n := a + n) (by omega) (by omega)]
      refine Ev.bind (goL a (a + n) ha (by omega) l [] (-1) 68719476736 h3 (by omega) (by omega) (by simp; omega)) ?_
      have hnn := csts_nn a (a + n) ha (by omega) l (-1) 68719476736 h3 (by omega) (by omega)
      by_cases hall : (csts a (a + n) l).all mnyB = true
      · rw [if_pos hall, ← sm_lotV _ hnn hall, List.nil_append]
        exact Ev.pos rfl (sm_ev _ (by rw [csts_len]; omega))
      · rw [if_neg hall, show lotV 0 (csts a (a + n) l) = (0, 3) from if_neg (fun h => hall h.1)]
        exact Ev.neg (by show ¬ ((3 : Int) = 0); decide) (Ev.val _)
theorem mx_comm (a b : Int) : mx a b = mx b a := by
  simp only [mx]
  split <;> split <;> omega
theorem goes_true : contangolaw38_goes.f 60 = some true := by decide +kernel
theorem goes_ev : Ev (fun k => contangolaw38_goes.f k) true := Ev.of goes_true (fun k => contangolaw38_goes.mono k)
theorem ba_eq {a b : ByteArray} (h : a.toList = b.toList) : a = b := (strQ_iff a b).mp (by simp [strQ, h])
theorem name_ev (s : ByteArray) : Ev (fun k => words_Name.f k s) (nameB s) := Ev.of (words_Name_some s) (fun k => words_Name.mono _ k)
theorem nameB_size {s : ByteArray} (h : nameB s = true) : s.size ≤ 12 := by
  unfold nameB at h
  simp only [Bool.and_eq_true, decide_eq_true_eq] at h
  exact h.1.1.2
/-- What may be wrong with a trade. -/
def trB (x : S61) : Int := if x.f4 < 1 ∨ x.f4 > 1048576 then 18 else if (nameB x.f6.f0 && nameB x.f7.f0) = true then 0 else 10
/-- What may be wrong with trades. -/
def trC : List S61 → Int
  | [] => 0
  | x :: r => if trB x = 0 then trC r else trB x
theorem trC_bad {x : S61} {r : List S61} {e : Int} (h : trB x = e) (he : e ≠ 0) : trC (x :: r) = e := by
  rw [trC, if_neg (by rw [h]; exact he), h]
theorem trC_good {x : S61} {r : List S61} (h : trB x = 0) : trC (x :: r) = trC r := by rw [trC, if_pos h]
theorem trB_zero {x : S61} (h : trB x = 0) : 1 ≤ x.f4 ∧ x.f4 ≤ 1048576 ∧ nameB x.f6.f0 = true ∧ nameB x.f7.f0 = true := by
  unfold trB at h
  by_cases c : x.f4 < 1 ∨ x.f4 > 1048576
  · rw [if_pos c] at h; cases h
  rw [if_neg c] at h
  by_cases d : (nameB x.f6.f0 && nameB x.f7.f0) = true
  · rw [Bool.and_eq_true] at d
    exact ⟨by omega, by omega, d.1, d.2⟩
  · rw [if_neg d] at h; cases h
theorem trB_lots {x : S61} (c : x.f4 < 1 ∨ x.f4 > 1048576) : trB x = 18 := if_pos c
theorem trB_name {x : S61} (c : ¬ (x.f4 < 1 ∨ x.f4 > 1048576)) (d : nameB x.f6.f0 = false ∨ nameB x.f7.f0 = false) : trB x = 10 := by
  unfold trB
  rw [if_neg c, if_neg]
  rw [Bool.and_eq_true]
  rintro ⟨h1, h2⟩
  rcases d with d | d
  · rw [d] at h1; cases h1
  · rw [d] at h2; cases h2
theorem trB_ok {x : S61} (c : ¬ (x.f4 < 1 ∨ x.f4 > 1048576)) (d1 : nameB x.f6.f0 = true) (d2 : nameB x.f7.f0 = true) : trB x = 0 := by
  unfold trB
  rw [if_neg c, d1, d2]
  rfl
theorem trC_zero {l : List S61} (h : trC l = 0) : ∀ x ∈ l, trB x = 0 := by
  induction l with
  | nil => intro x hx; cases hx
  | cons y r ih =>
    intro x hx
    by_cases hy : trB y = 0
    · rw [trC_good hy] at h
      rcases List.mem_cons.mp hx with rfl | hx
      · exact hy
      · exact ih h x hx
    · rw [trC_bad rfl hy] at h
      exact absurd h hy
/-- Lots by member, as trades have them. -/
def hadM : List S61 → List (ByteArray × Int) → List (ByteArray × Int)
  | [], m => m
  | x :: r, m => hadM r (had_put (had_put m x.f6.f0 x.f4) x.f7.f0 x.f4)
theorem hadM_ev (l : List S61) : ∀ m, Ev (fun k => fee_had.go k l m) (if trC l = 0 then (hadM l m, 0) else ([], trC l)) := by
  induction l with
  | nil => intro m; exact Ev.valOf rfl
  | cons x r ih =>
    intro m
    simp only [fee_had.go]
    by_cases c : x.f4 < 1 ∨ x.f4 > 1048576
    · rw [trC_bad (trB_lots c) (by decide), if_neg (show ¬ ((18 : Int) = 0) by decide)]
      exact Ev.pos c (Ev.val _)
    refine Ev.neg c (Ev.bind (name_ev _) ?_)
    cases d1 : nameB x.f6.f0 with
    | false =>
      rw [trC_bad (trB_name c (.inl d1)) (by decide), if_neg (show ¬ ((10 : Int) = 0) by decide)]
      exact Ev.neg (by decide) (Ev.val _)
    | true =>
      refine Ev.pos rfl (Ev.bind (name_ev _) ?_)
      cases d2 : nameB x.f7.f0 with
      | false =>
        rw [trC_bad (trB_name c (.inr d2)) (by decide), if_neg (show ¬ ((10 : Int) = 0) by decide)]
        exact Ev.neg (by decide) (Ev.val _)
      | true =>
        rw [trC_good (trB_ok c d1 d2)]
        have e1 := nameB_size d1
        have e2 := nameB_size d2
        exact Ev.pos rfl (Ev.pos (by omega) (Ev.pos (by omega) (ih _)))
/-- A member's lots in a map. -/
def lookD (m : List (ByteArray × Int)) (s : ByteArray) : Int := (YtckjdncimibiaaaHand.look strQ m s).getD 0
theorem look_had (m : List (ByteArray × Int)) (g s : ByteArray) (q : Int) : lookD (had_put m g q) s = if strQ g s = true then wrap64 (lookD m s + q) else lookD m s := by
  unfold lookD had_put
  rw [YtckjdncimibiaaaHand.look_put _ _ strQ_iff]
  by_cases h : strQ g s = true
  · rw [if_pos h, if_pos h]
    obtain rfl := (strQ_iff g s).mp h
    rfl
  · rw [if_neg h, if_neg h]
/-- A member's lots of trades, both sides. -/
def lotsOf (s : ByteArray) : List S61 → Int
  | [] => 0
  | x :: r => (if strQ x.f6.f0 s = true then x.f4 else 0) + (if strQ x.f7.f0 s = true then x.f4 else 0) + lotsOf s r
theorem lotsOf_bd (s : ByteArray) (l : List S61) (h : trC l = 0) : 0 ≤ lotsOf s l ∧ lotsOf s l ≤ 2097152 * (l.length : Int) := by
  induction l with
  | nil => exact ⟨Int.le_refl 0, Int.le_refl 0⟩
  | cons x r ih =>
    have hx := trB_zero (trC_zero h x (by simp))
    have h2 := ih (by rw [trC_good (trC_zero h x (by simp))] at h; exact h)
    rw [lotsOf, List.length_cons]
    split <;> split <;> omega
theorem hadM_look (l : List S61) : ∀ (m : List (ByteArray × Int)) (B : Int), trC l = 0 → (∀ s, 0 ≤ lookD m s ∧ lookD m s ≤ B) → B + 2097152 * (l.length : Int) ≤ 1152921504606846976 → ∀ s, lookD (hadM l m) s = lookD m s + lotsOf s l := by
  induction l with
  | nil => intro m B _ _ _ s; show lookD m s = lookD m s + 0; omega
  | cons x r ih =>
    intro m B h hB hb s
    have hx := trB_zero (trC_zero h x (by simp))
    rw [List.length_cons] at hb
    have e1 : ∀ s, lookD (had_put m x.f6.f0 x.f4) s = lookD m s + (if strQ x.f6.f0 s = true then x.f4 else 0) := fun s => by
      have := hB s
      rw [look_had]
      split
      · exact wrap_small (by omega) (by omega)
      · omega
    have e2 : ∀ s, lookD (had_put (had_put m x.f6.f0 x.f4) x.f7.f0 x.f4) s = lookD m s + (if strQ x.f6.f0 s = true then x.f4 else 0) + (if strQ x.f7.f0 s = true then x.f4 else 0) := fun s => by
      have := hB s
      rw [look_had, e1]
      split <;> split <;> first | exact wrap_small (by omega) (by omega) | omega
    rw [hadM, ih _ (B + 2097152) (by rw [trC_good (trC_zero h x (by simp))] at h; exact h) (fun s => by have := hB s; rw [e2]; split <;> split <;> omega) (by omega), e2, lotsOf]
    omega
/-- The members of a map. -/
def keysOf (m : List (ByteArray × Int)) : List ByteArray := m.map (·.1)
theorem keys_had (m : List (ByteArray × Int)) (g : ByteArray) (q : Int) (hn : (keysOf m).Nodup) : (keysOf (had_put m g q)).Nodup ∧ ∀ s, s ∈ keysOf (had_put m g q) ↔ s = g ∨ s ∈ keysOf m := by
  have hk : keysOf (had_put m g q) = if (YtckjdncimibiaaaHand.look strQ m g).isSome then keysOf m else keysOf m ++ [g] := YtckjdncimibiaaaHand.put_keys _
  rw [hk]
  cases hl : YtckjdncimibiaaaHand.look strQ m g with
  | some v =>
    rw [if_pos (show (some v).isSome = true from rfl)]
    refine ⟨hn, fun s => ⟨.inr, fun h => h.elim (fun e => ?_) id⟩⟩
    obtain ⟨j, p, hj, hp, _⟩ := YtckjdncimibiaaaHand.look_some hl
    have := (strQ_iff _ _).mp hp
    rw [e, ← this]
    exact List.mem_map_of_mem (List.mem_of_getElem? hj)
  | none =>
    rw [if_neg (by decide)]
    have hno := YtckjdncimibiaaaHand.look_none hl
    have hg : g ∉ keysOf m := fun h => by
      obtain ⟨p, hp, e⟩ := List.mem_map.mp h
      have h1 := hno p hp
      rw [(strQ_iff _ _).mpr e] at h1
      cases h1
    refine ⟨List.nodup_append.mpr ⟨hn, by simp, fun a ha b hb => ?_⟩, fun s => ?_⟩
    · obtain rfl := List.mem_singleton.mp hb
      exact fun e => hg (e ▸ ha)
    · rw [List.mem_append, List.mem_singleton]
      exact Or.comm
/-- Names that rise. -/
def SS (l : List ByteArray) : Prop := l.Pairwise (fun a b => Op.bytesLess a.toList b.toList = true)
/-- A name into names that rise. -/
def insU (x : ByteArray) : List ByteArray → List ByteArray
  | [] => [x]
  | y :: r => if strQ y x = true then y :: r else if Op.bytesLess x.toList y.toList = true then x :: y :: r else y :: insU x r
theorem insU_mem (x : ByteArray) (l : List ByteArray) : ∀ s, s ∈ insU x l ↔ s = x ∨ s ∈ l := by
  induction l with
  | nil => intro s; simp [insU]
  | cons y r ih =>
    intro s
    rw [insU]
    by_cases h : strQ y x = true
    · rw [if_pos h]
      have := (strQ_iff _ _).mp h
      refine ⟨.inr, fun h2 => h2.elim (fun e => ?_) id⟩
      rw [e, ← this]; simp
    · rw [if_neg h]
      split
      · simp
      · rw [List.mem_cons, ih, List.mem_cons]
        constructor
        · rintro (h1 | h1 | h1)
          · exact .inr (.inl h1)
          · exact .inl h1
          · exact .inr (.inr h1)
        · rintro (h1 | h1 | h1)
          · exact .inr (.inl h1)
          · exact .inl h1
          · exact .inr (.inr h1)
theorem insU_len (x : ByteArray) (l : List ByteArray) : (insU x l).length ≤ l.length + 1 := by
  induction l with
  | nil => exact Nat.le_refl 1
  | cons y r ih =>
    rw [insU]
    split
    · exact Nat.le_succ _
    · split
      · exact Nat.le_refl _
      · simp only [List.length_cons]; omega
theorem strQ_ne {x y : ByteArray} (h : ¬ strQ x y = true) : x.toList ≠ y.toList := fun e => h ((strQ_iff x y).mpr (ba_eq e))
theorem insU_sorted (x : ByteArray) (l : List ByteArray) (h : SS l) : SS (insU x l) := by
  induction l with
  | nil => exact List.pairwise_singleton _ _
  | cons y r ih =>
    have h' := List.pairwise_cons.mp h
    rw [insU]
    by_cases c : strQ y x = true
    · rw [if_pos c]; exact h
    · rw [if_neg c]
      by_cases d : Op.bytesLess x.toList y.toList = true
      · rw [if_pos d]
        refine List.pairwise_cons.mpr ⟨fun b hb => ?_, h⟩
        rcases List.mem_cons.mp hb with rfl | hb
        · exact d
        · exact less_trans _ _ _ d (h'.1 b hb)
      · rw [if_neg d]
        refine List.pairwise_cons.mpr ⟨fun b hb => ?_, ih h'.2⟩
        rcases (insU_mem x r b).mp hb with rfl | hb
        · exact less_flip d (strQ_ne c)
        · exact h'.1 b hb
theorem SS_nodup {l : List ByteArray} (h : SS l) : l.Nodup := List.Pairwise.imp (R := fun a b => Op.bytesLess a.toList b.toList = true) (fun {a b} (hab : Op.bytesLess a.toList b.toList = true) => fun (e : a = b) => less_ne hab (by rw [e])) (show List.Pairwise (fun a b => Op.bytesLess a.toList b.toList = true) l from h)
theorem SS_uniq {a b : List ByteArray} (ha : SS a) (hb : SS b) (h : ∀ s, s ∈ a ↔ s ∈ b) : a = b := by
  refine List.Perm.eq_of_pairwise (le := fun (a b : ByteArray) => Op.bytesLess a.toList b.toList = true) (fun x y _ _ h1 h2 => ?_) ha hb ((List.perm_ext_iff_of_nodup (SS_nodup ha) (SS_nodup hb)).mpr h)
  have := less_trans _ _ _ h1 h2
  rw [less_irrefl] at this
  cases this
theorem sortS_SS {l : List ByteArray} (h : l.Nodup) : SS (sortS l) := by
  have h1 := sortS_sorted l
  have h2 : (sortS l).Nodup := (sortS_perm l).nodup_iff.mpr h
  refine (List.Pairwise.and h1 h2).imp (fun {a b} hab => ?_)
  have h3 := (leS a b).mpr hab.1
  exact less_flip (by rw [h3]; decide) (fun e => hab.2 (ba_eq e))
/-- The names of trades, with others. -/
def namesT : List S61 → List ByteArray → List ByteArray
  | [], n => n
  | x :: r, n => namesT r (insU x.f7.f0 (insU x.f6.f0 n))
theorem namesT_SS (l : List S61) : ∀ n, SS n → SS (namesT l n) := by
  induction l with
  | nil => intro n h; exact h
  | cons x r ih => intro n h; exact ih _ (insU_sorted _ _ (insU_sorted _ _ h))
theorem namesT_len (l : List S61) : ∀ n, (namesT l n).length ≤ n.length + 2 * l.length := by
  induction l with
  | nil => intro n; exact Nat.le_refl _
  | cons x r ih =>
    intro n
    have h1 := ih (insU x.f7.f0 (insU x.f6.f0 n))
    have h2 := insU_len x.f7.f0 (insU x.f6.f0 n)
    have h3 := insU_len x.f6.f0 n
    rw [namesT, List.length_cons]
    omega
theorem namesT_mem (l : List S61) : ∀ n s, s ∈ namesT l n ↔ s ∈ n ∨ ∃ x ∈ l, s = x.f6.f0 ∨ s = x.f7.f0 := by
  induction l with
  | nil => intro n s; exact ⟨.inl, fun h => h.elim id (fun ⟨x, hx, _⟩ => by cases hx)⟩
  | cons x r ih =>
    intro n s
    rw [namesT, ih, insU_mem, insU_mem]
    constructor
    · rintro ((h | h | h) | ⟨y, hy, h⟩)
      · exact .inr ⟨x, by simp, .inr h⟩
      · exact .inr ⟨x, by simp, .inl h⟩
      · exact .inl h
      · exact .inr ⟨y, by simp [hy], h⟩
    · rintro (h | ⟨y, hy, h⟩)
      · exact .inl (.inr (.inr h))
      · rcases List.mem_cons.mp hy with rfl | hy
        · exact .inl (h.elim (fun h => .inr (.inl h)) .inl)
        · exact .inr ⟨y, hy, h⟩
theorem hadM_keys (l : List S61) : ∀ m, (keysOf m).Nodup → (keysOf (hadM l m)).Nodup ∧ ∀ s, s ∈ keysOf (hadM l m) ↔ s ∈ keysOf m ∨ ∃ x ∈ l, s = x.f6.f0 ∨ s = x.f7.f0 := by
  induction l with
  | nil => intro m h; exact ⟨h, fun s => ⟨.inl, fun h => h.elim id (fun ⟨x, hx, _⟩ => by cases hx)⟩⟩
  | cons x r ih =>
    intro m h
    obtain ⟨a1, a2⟩ := keys_had m x.f6.f0 x.f4 h
    obtain ⟨b1, b2⟩ := keys_had _ x.f7.f0 x.f4 a1
    obtain ⟨c1, c2⟩ := ih _ b1
    refine ⟨c1, fun s => ?_⟩
    rw [hadM, c2, b2, a2]
    constructor
    · rintro ((h | h | h) | ⟨y, hy, h⟩)
      · exact .inr ⟨x, by simp, .inr h⟩
      · exact .inr ⟨x, by simp, .inl h⟩
      · exact .inl h
      · exact .inr ⟨y, by simp [hy], h⟩
    · rintro (h | ⟨y, hy, h⟩)
      · exact .inl (.inr (.inr h))
      · rcases List.mem_cons.mp hy with rfl | hy
        · exact .inl (h.elim (fun h => .inr (.inl h)) .inl)
        · exact .inr ⟨y, hy, h⟩
theorem sorted_keys (l : List S61) : sortS (keysOf (hadM l [])) = namesT l [] := by
  obtain ⟨h1, h2⟩ := hadM_keys l [] List.nodup_nil
  refine SS_uniq (sortS_SS h1) (namesT_SS l [] List.Pairwise.nil) (fun s => ?_)
  rw [(sortS_perm _).mem_iff, h2, namesT_mem]
  rfl
theorem rd_tr (l : List S61) (i : Nat) (h : i < l.length) : rd_T61 l (i : Int) = l[i] := by simp [rd_T61, h]
theorem rd_cr (l : List S52) (i : Nat) (h : i < l.length) : rd_T52 l (i : Int) = l[i] := by simp [rd_T52, h]
theorem rd_cf (l : List S51) (i : Nat) (h : i < l.length) : rd_T51 l (i : Int) = l[i] := by simp [rd_T51, h]
theorem rd_fl (l : List S64) (i : Nat) (h : i < l.length) : rd_T64 l (i : Int) = l[i] := by simp [rd_T64, h]
theorem rd_nm (l : List ByteArray) (i : Nat) (h : i < l.length) : rdOf ByteArray.empty l (i : Int) = l[i] := by simp [rdOf, h]
/-- A count of the document as one of the program. -/
def cc (x : S52) : S51 := ⟨x.f0, x.f1⟩
theorem countsL (l : List S52) (hl : l.length ≤ 5864062014800) (n : Nat) : ∀ (i : Nat) (t : List S51), l.length - i = n → i ≤ l.length → t.length = i →
    Ev (fun k => contangolaw38_Counts.l0 k l t (i : Int)) (t ++ (l.drop i).map cc) := by
  induction n with
  | zero =>
    intro i t hi hle ht
    refine Ev.shift ?_
    simp only [contangolaw38_Counts.l0]
    rw [List.drop_eq_nil_of_le (by omega), List.map_nil, List.append_nil]
    exact Ev.neg (by omega) (Ev.val _)
  | succ n ih =>
    intro i t hi hle ht
    have hlt : i < l.length := by omega
    refine Ev.shift ?_
    simp only [contangolaw38_Counts.l0, rd_cr l i hlt, succ_w i l.length hlt (by omega)]
    rw [List.drop_eq_getElem_cons hlt, List.map_cons]
    refine Ev.pos (by omega) (Ev.pos (by omega) (Ev.pos (by omega) ?_))
    have := ih (i + 1) (t ++ [cc l[i]]) (by omega) (by omega) (by simp [ht])
    rw [List.append_assoc] at this
    exact this
theorem counts_ev (l : List S52) (hl : l.length ≤ 5864062014800) : Ev (fun k => contangolaw38_Counts.f k l) (l.map cc) := by
  have := countsL l hl l.length 0 [] (by omega) (by omega) rfl
  rw [List.drop_zero, List.nil_append] at this
  exact this
theorem strQ_l (x y : ByteArray) : strQ x y = true ↔ x.toList = y.toList := by simp [strQ]
/-- What members pay, or why that is not told. -/
def flV (h g : ByteArray → Int) (B : List S70) (a : Int) : List ByteArray → List S64 → List S64 × Int
  | [], t => (t, 0)
  | s :: r, t => if (ltV (h s) (g s) B).2 = 0 then (if (ltV (h s) (g s) B).1 = 0 then flV h g B a r t else flV h g B a r (t ++ [⟨s, a, wrap64 (-(ltV (h s) (g s) B).1), 5⟩])) else ([], (ltV (h s) (g s) B).2)
theorem flV_ev (m : List (ByteArray × Int)) (l1 : List S51) (B : List S70) (a : Int) (l : List ByteArray) (hn : ∀ s ∈ l, nameB s = true) : ∀ t : List S64, t.length + l.length ≤ 10000 →
    Ev (fun k => fee_Flows.go k m l1 B a l t) (flV (fun s => fee_first.go s l1) (lookD m) B a l t) := by
  induction l with
  | nil => intro t _; exact Ev.val _
  | cons s r ih =>
    intro t ht
    rw [List.length_cons] at ht
    have hz := nameB_size (hn s (by simp))
    have ih2 := ih (fun s hs => hn s (by simp [hs]))
    simp only [fee_Flows.go]
    rw [flV]
    refine Ev.pos (by omega) (Ev.bind (ltV_ev (fee_first.go s l1) (lookD m s) B) ?_)
    exact Ev.both (fun _ => Ev.both (fun _ => ih2 t (by omega)) (fun _ => Ev.pos (by omega) (ih2 _ (by simp; omega)))) (fun _ => Ev.val _)
/-- What members pay for trades, or why that is not told. -/
def fwV (l0 : List S61) (l1 : List S51) (B : List S70) (a : Int) : List S64 × Int :=
  if bdC B = 0 then (if l0.length > 1024 ∨ l1.length > 1024 then ([], 8) else if a < 0 ∨ a ≥ 8 then ([], 25) else if trC l0 = 0 then flV (fun s => fee_first.go s l1) (fun s => lotsOf s l0) B a (namesT l0 []) [] else ([], trC l0)) else ([], bdC B)
theorem names_ok (l : List S61) (h : trC l = 0) : ∀ s ∈ namesT l [], nameB s = true := by
  intro s hs
  rcases (namesT_mem l [] s).mp hs with h1 | ⟨x, hx, h1⟩
  · cases h1
  · have := trB_zero (trC_zero h x hx)
    rcases h1 with rfl | rfl
    · exact this.2.2.1
    · exact this.2.2.2
theorem keys_len (l : List S61) : (hadM l []).length ≤ 2 * l.length := by
  have h1 := namesT_len l []
  rw [← sorted_keys, (sortS_perm _).length_eq] at h1
  simpa [keysOf] using h1
theorem look_lots (l : List S61) (hl : l.length ≤ 1024) (h : trC l = 0) (s : ByteArray) : lookD (hadM l []) s = lotsOf s l := by
  have := hadM_look l [] 0 h (fun s => ⟨Int.le_refl 0, Int.le_refl 0⟩) (by omega) s
  rw [this]
  show (0 : Int) + _ = _
  omega
theorem long_some (l : List S61) (l1 : List S51) : fee_long.f l l1 = some (decide (l.length > 1024 ∨ l1.length > 1024)) := by
  unfold fee_long.f
  by_cases h : (l.length : Int) > 1024
  · rw [if_pos h]; exact congrArg some (decide_eq_true (by omega)).symm
  · rw [if_neg h]; exact congrArg some (decide_eq_decide.mpr (by omega))
theorem fwV_ev (l0 : List S61) (l1 : List S51) (B : List S70) (a : Int) : Ev (fun k => fee_Flows.f k l0 l1 B a) (fwV l0 l1 B a) := by
  simp only [fee_Flows.f, long_some, Option.bind_some]
  refine Ev.bind (bdC_ev B) ?_
  unfold fwV
  refine Ev.both (fun h0 => ?_) (fun _ => Ev.val _)
  by_cases c : l0.length > 1024 ∨ l1.length > 1024
  · rw [if_pos c]; exact Ev.pos (decide_eq_true c) (Ev.val _)
  rw [if_neg c]
  refine Ev.neg (by simpa using c) (Ev.both (fun _ => Ev.val _) (fun _ => Ev.bind (hadM_ev l0 []) ?_))
  by_cases ht : trC l0 = 0
  · rw [if_pos ht, if_pos ht]
    have hk := keys_len l0
    refine Ev.pos rfl (Ev.pos (show (hadM l0 []).length ≤ 1000000 by omega) ?_)
    have hln := namesT_len l0 []
    have := flV_ev (hadM l0 []) l1 B a (namesT l0 []) (names_ok l0 ht) [] (by simp at hln ⊢; omega)
    rw [show (lookD (hadM l0 [])) = (fun s => lotsOf s l0) from funext (fun s => look_lots l0 (by omega) ht s), ← sorted_keys] at this
    rw [← sorted_keys]
    exact this
  · rw [if_neg ht, if_neg ht]
    exact Ev.neg ht (Ev.val _)
/-- What may be wrong with a count. -/
def cnB (c : S51) : Int := if c.f1 < 0 ∨ c.f1 > 1152921504606846976 then 18 else if nameB c.f0 = true then 0 else 10
/-- What may be wrong with counts. -/
def cnC : List S51 → Int
  | [] => 0
  | c :: r => if cnB c = 0 then cnC r else cnB c
theorem cnC_bad {x : S51} {r : List S51} {e : Int} (h : cnB x = e) (he : e ≠ 0) : cnC (x :: r) = e := by
  rw [cnC, if_neg (by rw [h]; exact he), h]
theorem cnC_good {x : S51} {r : List S51} (h : cnB x = 0) : cnC (x :: r) = cnC r := by rw [cnC, if_pos h]
theorem cnB_lots {x : S51} (c : x.f1 < 0 ∨ x.f1 > 1152921504606846976) : cnB x = 18 := if_pos c
theorem cnB_name {x : S51} (c : ¬ (x.f1 < 0 ∨ x.f1 > 1152921504606846976)) (d : nameB x.f0 = false) : cnB x = 10 := by
  unfold cnB
  rw [if_neg c, d, if_neg (by decide)]
theorem cnB_ok {x : S51} (c : ¬ (x.f1 < 0 ∨ x.f1 > 1152921504606846976)) (d : nameB x.f0 = true) : cnB x = 0 := by
  unfold cnB
  rw [if_neg c, d, if_pos rfl]
theorem cnB_zero {x : S51} (h : cnB x = 0) : 0 ≤ x.f1 ∧ x.f1 ≤ 1152921504606846976 ∧ nameB x.f0 = true := by
  unfold cnB at h
  by_cases c : x.f1 < 0 ∨ x.f1 > 1152921504606846976
  · rw [if_pos c] at h; cases h
  rw [if_neg c] at h
  by_cases d : nameB x.f0 = true
  · exact ⟨by omega, by omega, d⟩
  · rw [if_neg d] at h; cases h
theorem cnC_zero {l : List S51} (h : cnC l = 0) : ∀ x ∈ l, cnB x = 0 := by
  induction l with
  | nil => intro x hx; cases hx
  | cons y r ih =>
    intro x hx
    by_cases hy : cnB y = 0
    · rw [cnC_good hy] at h
      rcases List.mem_cons.mp hx with rfl | hx
      · exact hy
      · exact ih h x hx
    · rw [cnC_bad rfl hy] at h
      exact absurd h hy
theorem cnC_ev (l : List S51) : Ev (fun k => fee_Add.chk k l) (cnC l) := by
  induction l with
  | nil => exact Ev.val _
  | cons x r ih =>
    simp only [fee_Add.chk]
    by_cases c : x.f1 < 0 ∨ x.f1 > 1152921504606846976
    · rw [cnC_bad (cnB_lots c) (by decide)]
      exact Ev.pos c (Ev.val _)
    refine Ev.neg c (Ev.bind (name_ev _) ?_)
    cases d : nameB x.f0 with
    | false =>
      rw [cnC_bad (cnB_name c d) (by decide)]
      exact Ev.neg (by decide) (Ev.val _)
    | true =>
      rw [cnC_good (cnB_ok c d)]
      exact Ev.pos rfl ih
/-- Counts' members into a map. -/
def zeroM : List S51 → List (ByteArray × Int) → List (ByteArray × Int)
  | [], m => m
  | c :: r, m => zeroM r (had_put m c.f0 0)
theorem zeroM_some (l : List S51) : ∀ m, cnC l = 0 → fee_Add.zero l m = some (zeroM l m) := by
  induction l with
  | nil => intro m _; rfl
  | cons x r ih =>
    intro m h
    have hx := cnC_zero h x (by simp)
    have hz := nameB_size (cnB_zero hx).2.2
    rw [cnC_good hx] at h
    rw [fee_Add.zero, if_pos (by omega), ih _ h, zeroM]
theorem zeroM_look (l : List S51) : ∀ (m : List (ByteArray × Int)), (∀ s, 0 ≤ lookD m s ∧ lookD m s ≤ 1152921504606846976) → ∀ s, lookD (zeroM l m) s = lookD m s := by
  induction l with
  | nil => intro m _ s; rfl
  | cons x r ih =>
    intro m h s
    have e : ∀ s, lookD (had_put m x.f0 0) s = lookD m s := fun s => by
      have := h s
      rw [look_had]
      split
      · rw [Int.add_zero]; exact wrap_small (by omega) (by omega)
      · rfl
    rw [zeroM, ih _ (fun s => by rw [e]; exact h s), e]
theorem zeroM_keys (l : List S51) : ∀ m, (keysOf m).Nodup → (keysOf (zeroM l m)).Nodup ∧ ∀ s, s ∈ keysOf (zeroM l m) ↔ s ∈ keysOf m ∨ ∃ x ∈ l, s = x.f0 := by
  induction l with
  | nil => intro m h; exact ⟨h, fun s => ⟨.inl, fun h => h.elim id (fun ⟨x, hx, _⟩ => by cases hx)⟩⟩
  | cons x r ih =>
    intro m h
    obtain ⟨a1, a2⟩ := keys_had m x.f0 0 h
    obtain ⟨c1, c2⟩ := ih _ a1
    refine ⟨c1, fun s => ?_⟩
    rw [zeroM, c2, a2]
    constructor
    · rintro ((h | h) | ⟨y, hy, h⟩)
      · exact .inr ⟨x, by simp, h⟩
      · exact .inl h
      · exact .inr ⟨y, by simp [hy], h⟩
    · rintro (h | ⟨y, hy, h⟩)
      · exact .inl (.inr h)
      · rcases List.mem_cons.mp hy with rfl | hy
        · exact .inl (.inl h)
        · exact .inr ⟨y, hy, h⟩
/-- The names of counts. -/
def namesC : List S51 → List ByteArray → List ByteArray
  | [], n => n
  | x :: r, n => namesC r (insU x.f0 n)
theorem namesC_SS (l : List S51) : ∀ n, SS n → SS (namesC l n) := by
  induction l with
  | nil => intro n h; exact h
  | cons x r ih => intro n h; exact ih _ (insU_sorted _ _ h)
theorem namesC_len (l : List S51) : ∀ n, (namesC l n).length ≤ n.length + l.length := by
  induction l with
  | nil => intro n; exact Nat.le_refl _
  | cons x r ih =>
    intro n
    have h1 := ih (insU x.f0 n)
    have h3 := insU_len x.f0 n
    rw [namesC, List.length_cons]
    omega
theorem namesC_mem (l : List S51) : ∀ n s, s ∈ namesC l n ↔ s ∈ n ∨ ∃ x ∈ l, s = x.f0 := by
  induction l with
  | nil => intro n s; exact ⟨.inl, fun h => h.elim id (fun ⟨x, hx, _⟩ => by cases hx)⟩
  | cons x r ih =>
    intro n s
    rw [namesC, ih, insU_mem]
    constructor
    · rintro ((h | h) | ⟨y, hy, h⟩)
      · exact .inr ⟨x, by simp, h⟩
      · exact .inl h
      · exact .inr ⟨y, by simp [hy], h⟩
    · rintro (h | ⟨y, hy, h⟩)
      · exact .inl (.inr h)
      · rcases List.mem_cons.mp hy with rfl | hy
        · exact .inl (.inl h)
        · exact .inr ⟨y, hy, h⟩
/-- The names of counts and trades. -/
def allN (c : List S51) (l : List S61) : List ByteArray := namesT l (namesC c [])
theorem sorted_all (c : List S51) (l : List S61) : sortS (keysOf (zeroM c (hadM l []))) = allN c l := by
  obtain ⟨a1, a2⟩ := hadM_keys l [] List.nodup_nil
  obtain ⟨h1, h2⟩ := zeroM_keys c _ a1
  refine SS_uniq (sortS_SS h1) (namesT_SS l _ (namesC_SS c [] List.Pairwise.nil)) (fun s => ?_)
  rw [(sortS_perm _).mem_iff, h2, a2, allN, namesT_mem, namesC_mem]
  constructor
  · rintro ((h | h) | h)
    · cases h
    · exact .inr h
    · exact .inl (.inr h)
  · rintro ((h | h) | h)
    · cases h
    · exact .inr h
    · exact .inl (.inr h)
theorem allN_len (c : List S51) (l : List S61) : (allN c l).length ≤ c.length + 2 * l.length := by
  have h1 := namesT_len l (namesC c [])
  have h2 := namesC_len c []
  rw [List.length_nil] at h2
  unfold allN
  omega
theorem allN_ok (c : List S51) (l : List S61) (hc : cnC c = 0) (h : trC l = 0) : ∀ s ∈ allN c l, nameB s = true := by
  intro s hs
  rcases (namesT_mem l _ s).mp hs with h1 | ⟨x, hx, h1⟩
  · rcases (namesC_mem c _ s).mp h1 with h2 | ⟨x, hx, rfl⟩
    · cases h2
    · exact (cnB_zero (cnC_zero hc x hx)).2.2
  · have := trB_zero (trC_zero h x hx)
    rcases h1 with rfl | rfl
    · exact this.2.2.1
    · exact this.2.2.2
theorem addgo_some (m : List (ByteArray × Int)) (l0 : List S51) (l : List ByteArray) (hn : ∀ s ∈ l, nameB s = true) : ∀ t : List S51, t.length + l.length ≤ 10000 →
    fee_Add.go m l0 l t = some (t ++ l.map (fun s => ⟨s, wrap64 (fee_first.go s l0 + lookD m s)⟩)) := by
  induction l with
  | nil => intro t _; rw [fee_Add.go, List.map_nil, List.append_nil]
  | cons s r ih =>
    intro t ht
    rw [List.length_cons] at ht
    have hz := nameB_size (hn s (by simp))
    rw [fee_Add.go, if_pos (by omega), if_pos (by omega), ih (fun s hs => hn s (by simp [hs])) _ (by simp; omega), List.append_assoc]
    rfl
/-- Counts with trades, or why that is not told. -/
def adV {α : Type} (f : ByteArray → Int → α) (c : List S51) (l : List S61) : List α × Int :=
  if l.length > 1024 ∨ c.length > 1024 then ([], 8) else if cnC c = 0 then (if trC l = 0 then ((allN c l).map (fun s => f s (wrap64 (fee_first.go s c + lotsOf s l))), 0) else ([], trC l)) else ([], cnC c)
theorem adV_ev (c : List S51) (l : List S61) : Ev (fun k => fee_Add.f k c l) (adV (fun s n => ⟨s, n⟩) c l) := by
  simp only [fee_Add.f, long_some, Option.bind_some]
  unfold adV
  by_cases d : l.length > 1024 ∨ c.length > 1024
  · rw [if_pos d]; exact Ev.pos (decide_eq_true d) (Ev.val _)
  rw [if_neg d]
  refine Ev.neg (by simpa using d) (Ev.bind (cnC_ev c) (Ev.both (fun hc => Ev.bind (hadM_ev l []) ?_) (fun _ => Ev.val _)))
  by_cases ht : trC l = 0
  · rw [if_pos ht, if_pos ht]
    have hln := allN_len c l
    have hk : (zeroM c (hadM l [])).length ≤ c.length + 2 * l.length := by
      have h1 := hln
      rw [← sorted_all, (sortS_perm _).length_eq] at h1
      simpa [keysOf] using h1
    have hlk : ∀ s, lookD (zeroM c (hadM l [])) s = lotsOf s l := fun s => by
      rw [zeroM_look c _ (fun s => by rw [look_lots l (by omega) ht]; have := lotsOf_bd s l ht; omega), look_lots l (by omega) ht]
    have hg := addgo_some (zeroM c (hadM l [])) c (allN c l) (allN_ok c l hc ht) [] (by simp; omega)
    rw [List.nil_append, show (fun s => (⟨s, wrap64 (fee_first.go s c + lookD (zeroM c (hadM l [])) s)⟩ : S51)) = (fun s => (⟨s, wrap64 (fee_first.go s c + lotsOf s l)⟩ : S51)) from funext (fun s => by rw [hlk])] at hg
    refine Ev.pos rfl ?_
    rw [zeroM_some c _ hc]
    simp only [Option.bind_some]
    refine Ev.pos (show (zeroM c (hadM l [])).length ≤ 1000000 by omega) ?_
    rw [show (zeroM c (hadM l [])).map (·.1) = keysOf (zeroM c (hadM l [])) from rfl, sorted_all, hg]
    exact Ev.val _
  · rw [if_neg ht]
    refine Ev.neg ht ?_
    rw [if_neg ht]
    exact Ev.val _
theorem sameL (l : List S64) (hl : l.length ≤ 1000000) (n : Nat) : ∀ i : Nat, l.length - i = n → i ≤ l.length → Ev (fun k => contangoref38_Same.l0 k l l (i : Int)) true := by
  induction n with
  | zero =>
    intro i hi hle
    refine Ev.shift ?_
    simp only [contangoref38_Same.l0]
    refine Ev.neg (by omega) (Ev.shift ?_)
    simp only [contangoref38_Same.j1]
    exact Ev.neg (by decide) (Ev.valOf (by simp))
  | succ n ih =>
    intro i hi hle
    have hlt : i < l.length := by omega
    refine Ev.shift ?_
    simp only [contangoref38_Same.l0]
    refine Ev.pos (by omega) (Ev.shift ?_)
    simp only [contangoref38_Same.j1, rd_fl l i hlt, succ_w i l.length hlt (by omega)]
    exact Ev.pos (decide_eq_true (by omega)) (Ev.pos (by omega) (Ev.pos (by omega) (Ev.pos (by omega) (Ev.pos (by simp [eqD64]) (ih (i + 1) (by omega) (by omega))))))
theorem same_ev (l : List S64) (hl : l.length ≤ 1000000) : Ev (fun k => contangoref38_Same.f k l l) true := sameL l hl l.length 0 (by omega) (by omega)
theorem flV_len (h g : ByteArray → Int) (B : List S70) (a : Int) (l : List ByteArray) : ∀ t, (flV h g B a l t).1.length ≤ t.length + l.length := by
  induction l with
  | nil => intro t; exact Nat.le_refl _
  | cons s r ih =>
    intro t
    rw [flV, List.length_cons]
    split
    · split
      · have := ih t; omega
      · have := ih (t ++ [⟨s, a, wrap64 (-(ltV (h s) (g s) B).1), 5⟩])
        simp only [List.length_append, List.length_cons, List.length_nil] at this
        omega
    · exact Nat.zero_le _
theorem fwV_len (l0 : List S61) (l1 : List S51) (B : List S70) (a : Int) : (fwV l0 l1 B a).1.length ≤ 1000000 := by
  unfold fwV
  split
  · split
    · exact Nat.zero_le _
    · rename_i hc
      split
      · exact Nat.zero_le _
      · split
        · have h1 := flV_len (fun s => fee_first.go s l1) (fun s => lotsOf s l0) B a (namesT l0 []) []
          have h2 := namesT_len l0 []
          rw [List.length_nil] at h1 h2
          omega
        · exact Nat.zero_le _
  · exact Nat.zero_le _
theorem to_le (e : Int) (r : List S70) : fee_Lots.to e r ≤ e := by
  cases r with
  | nil => exact Int.le_refl _
  | cons c t => simp only [fee_Lots.to, mn]; split <;> omega
theorem lotB_zero (h : Int) (b : S70) (r : List S70) : lotB h h b r = 0 := by
  have h1 := to_le h r
  unfold lotB
  generalize fee_Lots.to h r = T at *
  simp only [mx]
  split <;> split <;> omega
theorem csts_zero (h : Int) (l : List S70) : sumI (csts h h l) = 0 := by
  induction l with
  | nil => rfl
  | cons b r ih =>
    show b.f1 * lotB h h b r + sumI (csts h h r) = 0
    rw [ih, lotB_zero, Int.mul_zero]
    rfl
theorem lotB_add {f r0 : Int} {b : S70} {r : List S70} (hb : bdG f r0 (b :: r) = true) (h p q : Int) (hp : 0 ≤ p) (hq : 0 ≤ q) : lotB h (h + p) b r + lotB (h + p) (h + p + q) b r = lotB h (h + p + q) b r := by
  have h2 : bdG b.f0 b.f1 r = true := by
    have h1 : bdT f r0 b.f0 b.f1 = true ∧ bdG b.f0 b.f1 r = true := by simpa only [bdG, Bool.and_eq_true] using hb
    exact h1.2
  unfold lotB
  cases r with
  | nil =>
    simp only [fee_Lots.to, mx]
    clear h2 hb
    repeat' split
    all_goals omega
  | cons c t =>
    have h3 : bdT b.f0 b.f1 c.f0 c.f1 = true ∧ bdG c.f0 c.f1 t = true := by simpa only [bdG, Bool.and_eq_true] using h2
    have h3 := (of_decide_eq_true h3.1).1
    simp only [fee_Lots.to, mx, mn]
    clear h2 hb
    repeat' split
    all_goals omega
theorem csts_add (h p q : Int) (hp : 0 ≤ p) (hq : 0 ≤ q) (l : List S70) : ∀ f r0, bdG f r0 l = true → sumI (csts h (h + p) l) + sumI (csts (h + p) (h + p + q) l) = sumI (csts h (h + p + q) l) := by
  induction l with
  | nil => intro _ _ _; rfl
  | cons b r ih =>
    intro f r0 hb
    have h2 : bdG b.f0 b.f1 r = true := by
      have h1 : bdT f r0 b.f0 b.f1 = true ∧ bdG b.f0 b.f1 r = true := by simpa only [bdG, Bool.and_eq_true] using hb
      exact h1.2
    have e1 := lotB_add hb h p q hp hq
    have e2 := ih _ _ h2
    show (b.f1 * lotB h (h + p) b r + sumI (csts h (h + p) r)) + (b.f1 * lotB (h + p) (h + p + q) b r + sumI (csts (h + p) (h + p + q) r)) = b.f1 * lotB h (h + p + q) b r + sumI (csts h (h + p + q) r)
    rw [← e1, Int.mul_add, ← e2]
    omega
theorem lotV_cases (l : List Int) (hl : ∀ x ∈ l, 0 ≤ x) : (lotV 0 l = (sumI l, 0) ∧ 0 ≤ sumI l ∧ sumI l ≤ 1152921504606846976) ∨ lotV 0 l = (0, 3) := by
  have := sumI_nn l hl
  unfold lotV
  by_cases h : l.all mnyB = true ∧ 0 + sumI l ≤ 1152921504606846976
  · rw [if_pos h, Int.zero_add]; exact .inl ⟨rfl, this, by omega⟩
  · rw [if_neg h]; exact .inr rfl
/-- A cost is told, or it is zero. -/
theorem ltV_cases (h n : Int) (B : List S70) : ((ltV h n B).2 = 0 ∧ bdC B = 0 ∧ (0 ≤ h ∧ h ≤ 1073741824) ∧ (0 ≤ n ∧ n ≤ 1073741824) ∧ (ltV h n B).1 = sumI (csts h (h + n) B) ∧ 0 ≤ (ltV h n B).1 ∧ (ltV h n B).1 ≤ 1152921504606846976) ∨ ((ltV h n B).2 ≠ 0 ∧ (ltV h n B).1 = 0) := by
  unfold ltV
  by_cases h0 : bdC B = 0
  · rw [if_pos h0]
    by_cases hc : (cntB h && cntB n) = true
    · rw [if_pos hc]
      rw [Bool.and_eq_true] at hc
      have h1 := of_decide_eq_true hc.1
      have h2 := of_decide_eq_true hc.2
      obtain ⟨_, _, h3⟩ := bdC_zero h0
      rcases lotV_cases _ (csts_nn h (h + n) h1 (by omega) B _ _ h3 (by omega) (by omega)) with ⟨e, e1, e2⟩ | e
      · rw [e]; exact .inl ⟨rfl, h0, h1, h2, rfl, e1, e2⟩
      · rw [e]; exact .inr ⟨by decide, rfl⟩
    · rw [if_neg hc]; exact .inr ⟨by decide, rfl⟩
  · rw [if_neg h0]; exact .inr ⟨h0, rfl⟩
theorem ltV_bd (h n : Int) (B : List S70) : 0 ≤ (ltV h n B).1 ∧ (ltV h n B).1 ≤ 1152921504606846976 := by
  rcases ltV_cases h n B with h1 | h1
  · exact h1.2.2.2.2.2
  · rw [h1.2]; omega
theorem ltV_none (h : Int) (B : List S70) : (ltV h 0 B).1 = 0 := by
  rcases ltV_cases h 0 B with h1 | h1
  · rw [h1.2.2.2.2.1, Int.add_zero, csts_zero]
  · exact h1.2
theorem ltV_add (h p q : Int) (B : List S70) (e1 : (ltV h p B).2 = 0) (e2 : (ltV (h + p) q B).2 = 0) (e3 : (ltV h (p + q) B).2 = 0) : (ltV h p B).1 + (ltV (h + p) q B).1 = (ltV h (p + q) B).1 := by
  rcases ltV_cases h p B with a | a
  case inr => exact absurd e1 a.1
  rcases ltV_cases (h + p) q B with b | b
  case inr => exact absurd e2 b.1
  rcases ltV_cases h (p + q) B with c | c
  case inr => exact absurd e3 c.1
  rw [a.2.2.2.2.1, b.2.2.2.2.1, c.2.2.2.2.1, show h + (p + q) = h + p + q by omega]
  exact csts_add h p q a.2.2.2.1.1 b.2.2.2.1.1 B _ _ (bdC_zero a.2.1).2.2
theorem trC_all {l : List S61} (h : ∀ x ∈ l, trB x = 0) : trC l = 0 := by
  induction l with
  | nil => rfl
  | cons x r ih => rw [trC_good (h x (by simp))]; exact ih (fun y hy => h y (by simp [hy]))
theorem lotsOf_app (s : ByteArray) (l m : List S61) : lotsOf s (l ++ m) = lotsOf s l + lotsOf s m := by
  induction l with
  | nil => show _ = 0 + _; rw [Int.zero_add]; rfl
  | cons x r ih => rw [List.cons_append, lotsOf, lotsOf, ih]; omega
theorem lotsOf_rev (s : ByteArray) (l : List S61) : lotsOf s l.reverse = lotsOf s l := by
  induction l with
  | nil => rfl
  | cons x r ih =>
    rw [List.reverse_cons, lotsOf_app, ih]
    show lotsOf s r + ((if strQ x.f6.f0 s = true then x.f4 else 0) + (if strQ x.f7.f0 s = true then x.f4 else 0) + 0) = (if strQ x.f6.f0 s = true then x.f4 else 0) + (if strQ x.f7.f0 s = true then x.f4 else 0) + lotsOf s r
    omega
theorem lotsOf_no (s : ByteArray) (l : List S61) (h : ∀ x ∈ l, ¬ (s = x.f6.f0 ∨ s = x.f7.f0)) : lotsOf s l = 0 := by
  induction l with
  | nil => rfl
  | cons x r ih =>
    have h1 := h x (by simp)
    rw [lotsOf, ih (fun y hy => h y (by simp [hy])), if_neg (fun e => h1 (.inl ((strQ_iff _ _).mp e).symm)), if_neg (fun e => h1 (.inr ((strQ_iff _ _).mp e).symm))]
    rfl
theorem names_rev (l : List S61) : namesT l.reverse [] = namesT l [] := by
  refine SS_uniq (namesT_SS _ [] List.Pairwise.nil) (namesT_SS _ [] List.Pairwise.nil) (fun s => ?_)
  rw [namesT_mem, namesT_mem]
  simp only [List.mem_reverse]
theorem fwV_rev (l : List S61) (c : List S51) (B : List S70) (a : Int) (h : (fwV l c B a).2 = 0) : fwV l.reverse c B a = fwV l c B a := by
  unfold fwV at h ⊢
  rw [List.length_reverse]
  by_cases h0 : bdC B = 0
  · rw [if_pos h0] at h ⊢
    rw [if_pos h0]
    by_cases h1 : l.length > 1024 ∨ c.length > 1024
    · rw [if_pos h1] at h; cases h
    rw [if_neg h1] at h ⊢
    rw [if_neg h1]
    by_cases h2 : a < 0 ∨ a ≥ 8
    · rw [if_pos h2] at h; cases h
    rw [if_neg h2] at h ⊢
    rw [if_neg h2]
    by_cases h3 : trC l = 0
    · rw [if_pos h3]
      rw [if_pos (trC_all (fun x hx => trC_zero h3 x (List.mem_reverse.mp hx))), names_rev]
      rw [show (fun s => lotsOf s l.reverse) = (fun s => lotsOf s l) from funext (fun s => lotsOf_rev s l)]
    · rw [if_neg h3] at h; exact absurd h h3
  · rw [if_neg h0] at h; exact absurd h h0
/-- What one member pays, if it is anything. -/
def entF (h g : ByteArray → Int) (B : List S70) (a : Int) (s : ByteArray) : Option S64 := if (ltV (h s) (g s) B).1 = 0 then none else some ⟨s, a, wrap64 (-(ltV (h s) (g s) B).1), 5⟩
theorem flV_ok (h g : ByteArray → Int) (B : List S70) (a : Int) (l : List ByteArray) : ∀ t, (flV h g B a l t).2 = 0 → flV h g B a l t = (t ++ l.filterMap (entF h g B a), 0) ∧ ∀ s ∈ l, (ltV (h s) (g s) B).2 = 0 := by
  induction l with
  | nil => intro t _; exact ⟨by rw [flV, List.filterMap_nil, List.append_nil], fun s hs => by cases hs⟩
  | cons s r ih =>
    intro t ht
    rw [flV] at ht ⊢
    by_cases h1 : (ltV (h s) (g s) B).2 = 0
    · rw [if_pos h1] at ht ⊢
      by_cases h2 : (ltV (h s) (g s) B).1 = 0
      · rw [if_pos h2] at ht ⊢
        obtain ⟨e1, e2⟩ := ih t ht
        rw [e1, List.filterMap_cons, show entF h g B a s = none from if_pos h2]
        refine ⟨rfl, fun y hy => ?_⟩
        rcases List.mem_cons.mp hy with rfl | hy
        · exact h1
        · exact e2 y hy
      · rw [if_neg h2] at ht ⊢
        obtain ⟨e1, e2⟩ := ih _ ht
        rw [e1, List.filterMap_cons, show entF h g B a s = some _ from if_neg h2]
        refine ⟨by rw [List.append_assoc]; rfl, fun y hy => ?_⟩
        rcases List.mem_cons.mp hy with rfl | hy
        · exact h1
        · exact e2 y hy
    · rw [if_neg h1] at ht; exact absurd ht h1
theorem fwV_ok (l : List S61) (c : List S51) (B : List S70) (a : Int) (h : (fwV l c B a).2 = 0) : trC l = 0 ∧ bdC B = 0 ∧ (fwV l c B a).1 = (namesT l []).filterMap (entF (fun s => fee_first.go s c) (fun s => lotsOf s l) B a) ∧ ∀ s ∈ namesT l [], (ltV (fee_first.go s c) (lotsOf s l) B).2 = 0 := by
  unfold fwV at h ⊢
  by_cases h0 : bdC B = 0
  · rw [if_pos h0] at h ⊢
    by_cases h1 : l.length > 1024 ∨ c.length > 1024
    · rw [if_pos h1] at h; cases h
    rw [if_neg h1] at h ⊢
    by_cases h2 : a < 0 ∨ a ≥ 8
    · rw [if_pos h2] at h; cases h
    rw [if_neg h2] at h ⊢
    by_cases h3 : trC l = 0
    · rw [if_pos h3] at h ⊢
      obtain ⟨e1, e2⟩ := flV_ok _ _ B a _ [] h
      rw [e1, List.nil_append]
      exact ⟨h3, h0, rfl, e2⟩
    · rw [if_neg h3] at h; exact absurd h h3
  · rw [if_neg h0] at h; exact absurd h h0
/-- What a member pays by flows. -/
def pdW (s : ByteArray) : Int → List S64 → Int
  | n, [] => n
  | n, x :: r => if x.f0.toList = s.toList then pdW s (wrap64 (n + x.f2)) r else pdW s n r
theorem pdL (s : ByteArray) (l : List S64) (hl : l.length ≤ 1000000) (m : Nat) : ∀ (i : Nat) (n : Int), l.length - i = m → i ≤ l.length → Ev (fun k => contangolaw38_paid.l0 k l s n (i : Int)) (pdW s n (l.drop i)) := by
  induction m with
  | zero =>
    intro i n hi hle
    refine Ev.shift ?_
    simp only [contangolaw38_paid.l0]
    rw [List.drop_eq_nil_of_le (by omega)]
    exact Ev.neg (by omega) (Ev.val _)
  | succ m ih =>
    intro i n hi hle
    have hlt : i < l.length := by omega
    refine Ev.shift ?_
    simp only [contangolaw38_paid.l0, rd_fl l i hlt, succ_w i l.length hlt (by omega)]
    rw [List.drop_eq_getElem_cons hlt, pdW]
    exact Ev.pos (by omega) (Ev.pos (by omega) (Ev.both (fun _ => ih (i + 1) _ (by omega) (by omega)) (fun _ => ih (i + 1) _ (by omega) (by omega))))
theorem pd_ev (s : ByteArray) (l : List S64) (hl : l.length ≤ 1000000) : Ev (fun k => contangolaw38_paid.f k l s) (pdW s 0 l) := pdL s l hl l.length 0 0 (by omega) (by omega)
theorem pdW_no (h g : ByteArray → Int) (B : List S70) (a : Int) (s : ByteArray) (l : List ByteArray) (hs : s ∉ l) : ∀ n, pdW s n (l.filterMap (entF h g B a)) = n := by
  induction l with
  | nil => intro n; rfl
  | cons x r ih =>
    intro n
    have h1 := ih (fun hr => hs (by simp [hr])) n
    by_cases h2 : (ltV (h x) (g x) B).1 = 0
    · rw [List.filterMap_cons, show entF h g B a x = none from if_pos h2]; exact h1
    · rw [List.filterMap_cons, show entF h g B a x = some _ from if_neg h2]
      show (if x.toList = s.toList then _ else pdW s n _) = n
      rw [if_neg (fun e => hs (by rw [ba_eq e]; simp))]
      exact h1
theorem pdW_one (h g : ByteArray → Int) (B : List S70) (a : Int) (s : ByteArray) (l : List ByteArray) (hn : l.Nodup) (hs : s ∈ l) : pdW s 0 (l.filterMap (entF h g B a)) = -(ltV (h s) (g s) B).1 := by
  induction l with
  | nil => cases hs
  | cons x r ih =>
    have hn2 := List.nodup_cons.mp hn
    by_cases e : s = x
    · subst e
      have hb := ltV_bd (h s) (g s) B
      by_cases h2 : (ltV (h s) (g s) B).1 = 0
      · rw [List.filterMap_cons, show entF h g B a s = none from if_pos h2, h2]
        exact pdW_no h g B a s r hn2.1 0
      · rw [List.filterMap_cons, show entF h g B a s = some _ from if_neg h2]
        show (if s.toList = s.toList then pdW s (wrap64 (0 + wrap64 (-(ltV (h s) (g s) B).1))) (r.filterMap (entF h g B a)) else _) = _
        rw [if_pos rfl, pdW_no h g B a s r hn2.1, wrap_small (n := -(ltV (h s) (g s) B).1) (by omega) (by omega), wrap_small (by omega) (by omega), Int.zero_add]
    · have h1 := ih hn2.2 ((List.mem_cons.mp hs).elim (fun h => absurd h e) id)
      by_cases h2 : (ltV (h x) (g x) B).1 = 0
      · rw [List.filterMap_cons, show entF h g B a x = none from if_pos h2]; exact h1
      · rw [List.filterMap_cons, show entF h g B a x = some _ from if_neg h2]
        show (if x.toList = s.toList then _ else pdW s 0 _) = _
        rw [if_neg (fun h3 => e (ba_eq h3.symm))]
        exact h1
/-- What a member pays for lots that trades have, in the flows or not. -/
theorem pd_names (h : ByteArray → Int) (B : List S70) (a : Int) (s : ByteArray) (l : List S61) : pdW s 0 ((namesT l []).filterMap (entF h (fun s => lotsOf s l) B a)) = -(ltV (h s) (lotsOf s l) B).1 := by
  have hn := SS_nodup (namesT_SS l [] List.Pairwise.nil)
  by_cases hs : s ∈ namesT l []
  · exact pdW_one _ _ B a s _ hn hs
  · rw [pdW_no _ _ B a s _ hs, lotsOf_no s l (fun x hx e => hs ((namesT_mem l [] s).mpr (.inr ⟨x, hx, e⟩))), ltV_none]
    rfl
theorem nodup_le {l : List ByteArray} : ∀ {m : List ByteArray}, l.Nodup → (∀ s ∈ l, s ∈ m) → l.length ≤ m.length := by
  induction l with
  | nil => intro m _ _; exact Nat.zero_le _
  | cons x r ih =>
    intro m hn h
    have hn2 := List.nodup_cons.mp hn
    have hx := h x (by simp)
    obtain ⟨m1, m2, rfl⟩ := List.append_of_mem hx
    have h1 := ih (m := m1 ++ m2) hn2.2 (fun s hs => by
      have h3 := h s (by simp [hs])
      have h4 : s ≠ x := fun e => hn2.1 (by rw [← e]; exact hs)
      simp only [List.mem_append, List.mem_cons] at h3 ⊢
      rcases h3 with h3 | h3 | h3
      · exact .inl h3
      · exact absurd h3 h4
      · exact .inr h3)
    simp only [List.length_append, List.length_cons] at h1 ⊢
    omega
/-- Members of flows. -/
theorem ent_names (h g : ByteArray → Int) (B : List S70) (a : Int) (l : List ByteArray) : (l.filterMap (entF h g B a)).map (·.f0) = l.filter (fun s => decide ((ltV (h s) (g s) B).1 ≠ 0)) := by
  induction l with
  | nil => rfl
  | cons x r ih =>
    by_cases h2 : (ltV (h x) (g x) B).1 = 0
    · rw [List.filterMap_cons, show entF h g B a x = none from if_pos h2, List.filter_cons_of_neg (by simp [h2])]; exact ih
    · rw [List.filterMap_cons, show entF h g B a x = some _ from if_neg h2, List.filter_cons_of_pos (by simp [h2]), List.map_cons, ih]
theorem ent_le (h g h' g' : ByteArray → Int) (B : List S70) (a : Int) (l m : List ByteArray) (hn : l.Nodup) (hi : ∀ s ∈ l, (ltV (h s) (g s) B).1 ≠ 0 → s ∈ m ∧ (ltV (h' s) (g' s) B).1 ≠ 0) : (l.filterMap (entF h g B a)).length ≤ (m.filterMap (entF h' g' B a)).length := by
  have e1 : ((l.filterMap (entF h g B a)).map (·.f0)).length = (l.filterMap (entF h g B a)).length := List.length_map _
  have e2 : ((m.filterMap (entF h' g' B a)).map (·.f0)).length = (m.filterMap (entF h' g' B a)).length := List.length_map _
  rw [← e1, ← e2, ent_names, ent_names]
  refine nodup_le (hn.filter _) (fun s hs => ?_)
  rw [List.mem_filter] at hs ⊢
  have := hi s hs.1 (by simpa using hs.2)
  exact ⟨this.1, by simpa using this.2⟩
theorem first_bd (c : List S51) (hc : cnC c = 0) (s : ByteArray) : 0 ≤ fee_first.go s c ∧ fee_first.go s c ≤ 1152921504606846976 := by
  induction c with
  | nil => exact ⟨Int.le_refl 0, by show (0 : Int) ≤ _; omega⟩
  | cons x r ih =>
    have hx := cnB_zero (cnC_zero hc x (by simp))
    rw [cnC_good (cnC_zero hc x (by simp))] at hc
    rw [fee_first.go]
    split
    · exact ⟨hx.1, hx.2.1⟩
    · exact ih hc
theorem first_no (c : List S51) (s : ByteArray) (h : ∀ x ∈ c, s ≠ x.f0) : fee_first.go s c = 0 := by
  induction c with
  | nil => rfl
  | cons x r ih =>
    rw [fee_first.go, if_neg, ih (fun y hy => h y (by simp [hy]))]
    intro e
    simp only [fee_first.p, beq_iff_eq] at e
    exact h x (by simp) (ba_eq e.symm)
theorem first_map (g : ByteArray → Int) (s : ByteArray) (l : List ByteArray) (hs : s ∈ l) : fee_first.go s (l.map (fun s => (⟨s, g s⟩ : S51))) = g s := by
  induction l with
  | nil => cases hs
  | cons x r ih =>
    rw [List.map_cons, fee_first.go]
    by_cases h : x.toList = s.toList
    · obtain rfl := ba_eq h
      rw [if_pos (by simp [fee_first.p])]
    · rw [if_neg (by simp [fee_first.p, h])]
      exact ih ((List.mem_cons.mp hs).elim (fun e => absurd (by rw [e]) h) id)
theorem first_miss (g : ByteArray → Int) (s : ByteArray) (l : List ByteArray) (hs : s ∉ l) : fee_first.go s (l.map (fun s => (⟨s, g s⟩ : S51))) = 0 :=
  first_no _ s (fun x hx e => by
    obtain ⟨y, hy, rfl⟩ := List.mem_map.mp hx
    exact hs (e ▸ hy))
theorem after_first (c : List S51) (l : List S61) (h : (adV (fun s n => (⟨s, n⟩ : S51)) c l).2 = 0) (s : ByteArray) : fee_first.go s (adV (fun s n => (⟨s, n⟩ : S51)) c l).1 = fee_first.go s c + lotsOf s l := by
  unfold adV at h ⊢
  by_cases d : l.length > 1024 ∨ c.length > 1024
  · rw [if_pos d] at h; cases h
  rw [if_neg d] at h ⊢
  by_cases hc : cnC c = 0
  · rw [if_pos hc] at h ⊢
    by_cases ht : trC l = 0
    · rw [if_pos ht]
      show fee_first.go s ((allN c l).map (fun s => (⟨s, wrap64 (fee_first.go s c + lotsOf s l)⟩ : S51))) = _
      have h1 := first_bd c hc s
      have h2 := lotsOf_bd s l ht
      by_cases hs : s ∈ allN c l
      · rw [first_map (fun s => wrap64 (fee_first.go s c + lotsOf s l)) s _ hs, wrap_small (by omega) (by omega)]
      · rw [first_miss (fun s => wrap64 (fee_first.go s c + lotsOf s l)) s _ hs]
        unfold allN at hs
        rw [namesT_mem, namesC_mem] at hs
        rw [first_no c s (fun x hx e => hs (.inl (.inr ⟨x, hx, e⟩))), lotsOf_no s l (fun x hx e => hs (.inr ⟨x, hx, e⟩))]
        rfl
    · rw [if_neg ht] at h; exact absurd h ht
  · rw [if_neg hc] at h; exact absurd h hc
theorem backL (l m al : List S61) (c : List S52) (B : List S73) (a : Int) (R : Bool) (hal : al.length ≤ 1000) (hfin : Ev (fun k => contangolaw38_FeeBehind.l0 k l m al al.reverse (-1) c B a) R) (n : Nat) : ∀ t : List S61, n ≤ al.length → t ++ (al.take n).reverse = al.reverse → Ev (fun k => contangolaw38_FeeBehind.l0 k l m al t ((n : Int) - 1) c B a) R := by
  induction n with
  | zero =>
    intro t _ ht
    rw [List.take_zero, List.reverse_nil, List.append_nil] at ht
    rw [ht]
    exact hfin
  | succ n ih =>
    intro t hn ht
    have hlt : n < al.length := by omega
    have hl := congrArg List.length ht
    simp only [List.length_append, List.length_reverse, List.length_take] at hl
    rw [List.take_succ_eq_append_getElem hlt, List.reverse_append] at ht
    have := ih (t ++ [al[n]]) (by omega) (by rw [List.append_assoc]; exact ht)
    rw [show ((n + 1 : Nat) : Int) - 1 = (n : Int) by omega]
    refine Ev.shift ?_
    simp only [contangolaw38_FeeBehind.l0, rd_tr al n hlt]
    refine Ev.pos (by omega) (Ev.pos (by omega) (Ev.pos (by omega) (Ev.pos (by omega) ?_)))
    rw [wrap_small (n := (n : Int) - 1) (by omega) (by omega)]
    exact this
theorem goes_j (A M X : List S64) : Ev (fun k => contangolaw38_FeeBehind.j3 k A M X true) true := by
  refine Ev.shift ?_
  simp only [contangolaw38_FeeBehind.j3]
  exact Ev.pos (by trivial) (Ev.bind goes_ev (Ev.val _))
theorem paysL (A M X : List S64) (hA : A.length ≤ X.length) (hM : M.length ≤ X.length) (hX : X.length ≤ 1000000) (hp : ∀ x ∈ X, wrap64 (pdW x.f0 0 A + pdW x.f0 0 M) = x.f2) (n : Nat) : ∀ i : Nat, X.length - i = n → i ≤ X.length → Ev (fun k => contangolaw38_FeeBehind.l1 k A M X (i : Int)) true := by
  induction n with
  | zero =>
    intro i hi hle
    refine Ev.shift ?_
    simp only [contangolaw38_FeeBehind.l1]
    exact Ev.neg (by omega) (Ev.pos (by omega) (Ev.pos (by omega) (Ev.bind goes_ev (Ev.val _))))
  | succ n ih =>
    intro i hi hle
    have hlt : i < X.length := by omega
    refine Ev.shift ?_
    simp only [contangolaw38_FeeBehind.l1, rd_fl X i hlt, succ_w i X.length hlt (by omega)]
    exact Ev.pos (by omega) (Ev.pos (by omega) (Ev.bind (pd_ev _ A (by omega)) (Ev.bind (pd_ev _ M (by omega)) (Ev.pos (hp _ (List.getElem_mem hlt)) (ih (i + 1) (by omega) (by omega))))))
theorem pays (l m : List S61) (c : List S51) (B : List S70) (a : Int) (he : (adV (fun s n => (⟨s, n⟩ : S51)) c l).2 = 0) (hf : (fwV l c B a).2 = 0) (hg : (fwV m (adV (fun s n => (⟨s, n⟩ : S51)) c l).1 B a).2 = 0) (hh : (fwV (l ++ m) c B a).2 = 0) :
    (fwV l c B a).1.length ≤ (fwV (l ++ m) c B a).1.length ∧ (fwV m (adV (fun s n => (⟨s, n⟩ : S51)) c l).1 B a).1.length ≤ (fwV (l ++ m) c B a).1.length ∧ ∀ x ∈ (fwV (l ++ m) c B a).1, wrap64 (pdW x.f0 0 (fwV l c B a).1 + pdW x.f0 0 (fwV m (adV (fun s n => (⟨s, n⟩ : S51)) c l).1 B a).1) = x.f2 := by
  obtain ⟨f1, f2, f3, f4⟩ := fwV_ok l c B a hf
  obtain ⟨g1, g2, g3, g4⟩ := fwV_ok m _ B a hg
  obtain ⟨h1, h2, h3, h4⟩ := fwV_ok (l ++ m) c B a hh
  have hafter := after_first c l he
  rw [show (fun s => fee_first.go s (adV (fun s n => (⟨s, n⟩ : S51)) c l).1) = (fun s => fee_first.go s c + lotsOf s l) from funext hafter] at g3
  have g4' : ∀ s ∈ namesT m [], (ltV (fee_first.go s c + lotsOf s l) (lotsOf s m) B).2 = 0 := fun s hs => by have := g4 s hs; rwa [hafter] at this
  have P : ∀ s, (ltV (fee_first.go s c) (lotsOf s l) B).1 + (ltV (fee_first.go s c + lotsOf s l) (lotsOf s m) B).1 = (ltV (fee_first.go s c) (lotsOf s (l ++ m)) B).1 := by
    intro s
    rw [lotsOf_app]
    by_cases n1 : s ∈ namesT l []
    · by_cases n2 : s ∈ namesT m []
      · have e3 := h4 s (by
          rw [namesT_mem]
          rcases (namesT_mem l [] s).mp n1 with h | ⟨x, hx, h⟩
          · cases h
          · exact .inr ⟨x, by simp [hx], h⟩)
        rw [lotsOf_app] at e3
        exact ltV_add _ _ _ B (f4 s n1) (g4' s n2) e3
      · rw [lotsOf_no s m (fun x hx e => n2 ((namesT_mem m [] s).mpr (.inr ⟨x, hx, e⟩))), ltV_none, Int.add_zero, Int.add_zero]
    · rw [lotsOf_no s l (fun x hx e => n1 ((namesT_mem l [] s).mpr (.inr ⟨x, hx, e⟩))), ltV_none, Int.add_zero, Int.zero_add, Int.zero_add]
  have inl : ∀ s ∈ namesT l [], s ∈ namesT (l ++ m) [] := fun s hs => by
    rw [namesT_mem] at hs ⊢
    rcases hs with h | ⟨x, hx, h⟩
    · cases h
    · exact .inr ⟨x, by simp [hx], h⟩
  have inm : ∀ s ∈ namesT m [], s ∈ namesT (l ++ m) [] := fun s hs => by
    rw [namesT_mem] at hs ⊢
    rcases hs with h | ⟨x, hx, h⟩
    · cases h
    · exact .inr ⟨x, by simp [hx], h⟩
  rw [f3, g3, h3]
  refine ⟨ent_le _ _ _ _ B a _ _ (SS_nodup (namesT_SS _ [] List.Pairwise.nil)) (fun s hs hz => ⟨inl s hs, ?_⟩), ent_le _ _ _ _ B a _ _ (SS_nodup (namesT_SS _ [] List.Pairwise.nil)) (fun s hs hz => ⟨inm s hs, ?_⟩), fun x hx => ?_⟩
  · have b1 := ltV_bd (fee_first.go s c) (lotsOf s l) B
    have b2 := ltV_bd (fee_first.go s c + lotsOf s l) (lotsOf s m) B
    have := P s
    omega
  · have b1 := ltV_bd (fee_first.go s c) (lotsOf s l) B
    have b2 := ltV_bd (fee_first.go s c + lotsOf s l) (lotsOf s m) B
    have := P s
    omega
  · obtain ⟨s, _, hs⟩ := List.mem_filterMap.mp hx
    unfold entF at hs
    by_cases hz : (ltV (fee_first.go s c) (lotsOf s (l ++ m)) B).1 = 0
    · rw [if_pos hz] at hs; cases hs
    · rw [if_neg hz] at hs
      obtain rfl := Option.some.inj hs
      rw [pd_names (fun s => fee_first.go s c) B a s l, pd_names (fun s => fee_first.go s c + lotsOf s l) B a s m, ← P s]
      congr 1
      omega
theorem FeeBehind : contangolaw38_FeeBehind.Said := by
  intro l m x _ _ _ hsl hsm hsx
  refine Ev.get ?_
  obtain ⟨c, B, a⟩ := x
  have hc : c.length ≤ 5864062014800 := by have := hsx.1.1; simp only at this; omega
  have hB : B.length ≤ 8796093022200 := by have := hsx.2.1.1; simp only at this; omega
  have hl := hsl.1
  have hm := hsm.1
  have j3 : ∀ (A M X : List S64), Ev (fun k => contangolaw38_FeeBehind.j3 k A M X true) true := goes_j
  have fin : Ev (fun k => contangolaw38_FeeBehind.l0 k l m (l ++ m) (l ++ m).reverse (-1) c B a) true := by
    have j2 : Ev (fun k => contangolaw38_FeeBehind.j2 k (adV (fun s n => (⟨s, n⟩ : S51)) (c.map cc) l).2 (fwV l (c.map cc) (B.map cv) a).1 (fwV l (c.map cc) (B.map cv) a).2 (fwV m (adV (fun s n => (⟨s, n⟩ : S51)) (c.map cc) l).1 (B.map cv) a).1 (fwV m (adV (fun s n => (⟨s, n⟩ : S51)) (c.map cc) l).1 (B.map cv) a).2 (fwV (l ++ m) (c.map cc) (B.map cv) a).1 (fwV (l ++ m) (c.map cc) (B.map cv) a).2 false) true := by
      refine Ev.shift ?_
      simp only [contangolaw38_FeeBehind.j2]
      refine Ev.neg (by decide) (Ev.ite (fun he => Ev.ite (fun hf => Ev.ite (fun hg => ?_) (fun _ => j3 _ _ _)) (fun _ => j3 _ _ _)) (fun _ => j3 _ _ _))
      by_cases hh : (fwV (l ++ m) (c.map cc) (B.map cv) a).2 = 0
      · rw [hh]
        refine Ev.shift ?_
        simp only [contangolaw38_FeeBehind.j3]
        refine Ev.neg (by decide) ?_
        obtain ⟨p1, p2, p3⟩ := pays l m (c.map cc) (B.map cv) a he hf hg hh
        exact paysL _ _ _ p1 p2 (fwV_len _ _ _ _) p3 _ 0 rfl (Nat.zero_le _)
      · rw [show ((fwV (l ++ m) (c.map cc) (B.map cv) a).2 != 0) = true from bne_iff_ne.mpr hh]
        exact j3 _ _ _
    refine Ev.shift ?_
    simp only [contangolaw38_FeeBehind.l0]
    refine Ev.neg (by omega) (Ev.bind (bands_ev B hB) (Ev.bind (counts_ev c hc) (Ev.bind (adV_ev (c.map cc) l) (Ev.bind (fwV_ev l (c.map cc) (B.map cv) a) (Ev.bind (fwV_ev m _ (B.map cv) a) (Ev.bind (fwV_ev (l ++ m) (c.map cc) (B.map cv) a) ?_))))))
    have hr := fwV_ev (l ++ m).reverse (c.map cc) (B.map cv) a
    by_cases hh : (fwV (l ++ m) (c.map cc) (B.map cv) a).2 = 0
    · rw [fwV_rev _ _ _ _ hh] at hr
      exact Ev.bind hr (Ev.pos hh (Ev.pos hh (Ev.bind (same_ev _ (fwV_len _ _ _ _)) j2)))
    · exact Ev.bind hr (Ev.neg hh j2)
  have j0 : ∀ b : Bool, (b = false → l.length + m.length ≤ 80) → Ev (fun k => contangolaw38_FeeBehind.j0 k l m b c B a) true := by
    intro b hb
    refine Ev.shift ?_
    simp only [contangolaw38_FeeBehind.j0]
    cases b with
    | true => exact Ev.pos rfl (Ev.bind goes_ev (Ev.val _))
    | false =>
      have hlm := hb rfl
      simp only [Option.bind_some, List.nil_append, List.length_nil]
      refine Ev.neg (by decide) (Ev.pos (by omega) (Ev.pos (by omega) ?_))
      have := backL l m (l ++ m) c B a true (by rw [List.length_append]; omega) fin (l ++ m).length [] (Nat.le_refl _) (by rw [List.take_length, List.nil_append])
      rw [wrap_small (by rw [List.length_append]; omega) (by rw [List.length_append]; omega)]
      exact this
  simp only [contangolaw38_FeeBehind.f]
  by_cases h1 : wrap64 ((l.length : Int) + (m.length : Int)) > 80
  · exact Ev.pos h1 (j0 true (fun h => by cases h))
  · refine Ev.neg h1 (j0 _ (fun _ => ?_))
    rw [wrap_small (by omega) (by omega)] at h1
    omega
end Go.Proofs.Ytckjdncimibiaaa.Pure
