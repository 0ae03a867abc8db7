/- Lots one behind the other cost what they cost together, and further ones cost no more each: the law, as a statement over numbers and lists. -/
import Derived.Test.YtckjdncimibiaaaArgFeeRises
namespace Go.Proofs.Ytckjdncimibiaaa.Pure
set_option linter.unusedSimpArgs false
set_option linter.unusedVariables false
open Go.RowKit Go.Proofs.Ytckjdncimibiaaa.PFeeRises Go.Proofs.Ytckjdncimibiaaa.Opens Go.Proofs.YtckjdncimibiaaaW.PrintWords Go.Proofs.YtckjdncimibiaaaW.PrintLast
/-- Comes to r, at all large numbers of rounds. -/
def Ev {α : Type} (g : Nat → Option α) (r : α) : Prop := ∃ K, ∀ k, K ≤ k → g k = some r
theorem Ev.shift {α : Type} {g : Nat → Option α} {r : α} (h : Ev (fun k => g (k + 1)) r) : Ev g r := by
  obtain ⟨K, h⟩ := h
  refine ⟨K + 1, fun k hk => ?_⟩
  obtain ⟨m, rfl⟩ : ∃ m, k = m + 1 := ⟨k - 1, by omega⟩
  exact h m (by omega)
theorem Ev.val {α : Type} (r : α) : Ev (fun _ => some r) r := ⟨0, fun _ _ => rfl⟩
theorem Ev.bind {α β : Type} {g : Nat → Option α} {f : Nat → α → Option β} {x : α} {r : β} (h : Ev g x) (h' : Ev (fun k => f k x) r) : Ev (fun k => (g k).bind (f k)) r := by
  obtain ⟨K, h⟩ := h
  obtain ⟨K', h'⟩ := h'
  exact ⟨max K K', fun k hk => by show (g k).bind (f k) = some r; rw [h k (by omega)]; exact h' k (by omega)⟩
theorem Ev.get {α : Type} {g : Nat → Option α} {r : α} (h : Ev g r) : ∃ k, g k = some r := by
  obtain ⟨K, h⟩ := h
  exact ⟨K, h K (Nat.le_refl _)⟩
theorem Ev.of {α : Type} {g : Nat → Option α} {r : α} {k0 : Nat} (h : g k0 = some r) (hm : ∀ k, LeO (g k) (g (k + 1))) : Ev g r := ⟨k0, fun _ hk => at_rounds hm hk h⟩
theorem Ev.pos {α : Type} {c : Prop} [Decidable c] {a b : Nat → Option α} {r : α} (hc : c) (h : Ev a r) : Ev (fun k => if c then a k else b k) r := by
  obtain ⟨K, h⟩ := h
  exact ⟨K, fun k hk => by show (if c then a k else b k) = some r; rw [if_pos hc]; exact h k hk⟩
theorem Ev.neg {α : Type} {c : Prop} [Decidable c] {a b : Nat → Option α} {r : α} (hc : ¬ c) (h : Ev b r) : Ev (fun k => if c then a k else b k) r := by
  obtain ⟨K, h⟩ := h
  exact ⟨K, fun k hk => by show (if c then a k else b k) = some r; rw [if_neg hc]; exact h k hk⟩
/-- Both ways, each where it is taken. -/
theorem Ev.ite {α : Type} {c : Prop} [Decidable c] {a b : Nat → Option α} {r : α} (h : c → Ev a r) (h' : ¬ c → Ev b r) : Ev (fun k => if c then a k else b k) r := by
  by_cases hc : c
  · exact Ev.pos hc (h hc)
  · exact Ev.neg hc (h' hc)
theorem wrap_small {n : Int} (h0 : -9223372036854775808 ≤ n) (h1 : n ≤ 9223372036854775807) : wrap64 n = n := by unfold wrap64; omega
/-- Both ways, each with its own end. -/
theorem Ev.both {α : Type} {c : Prop} [Decidable c] {a b : Nat → Option α} {r s : α} (h : c → Ev a r) (h' : ¬ c → Ev b s) : Ev (fun k => if c then a k else b k) (if c then r else s) := by
  by_cases hc : c
  · rw [if_pos hc]; exact Ev.pos hc (h hc)
  · rw [if_neg hc]; exact Ev.neg hc (h' hc)
theorem Ev.valOf {α : Type} {r s : α} (h : s = r) : Ev (fun _ => some r) s := by subst h; exact Ev.val _
theorem and32 (n : Int) : Go.bits .and .i64 n 4294967295 = n % 4294967296 := by
  have h127 : (BitVec.ofInt 64 4294967295).toNat = 2 ^ 32 - 1 := by decide
  have key : (BitVec.ofInt 64 n &&& BitVec.ofInt 64 4294967295).toNat = (n % ((2 ^ 64 : Nat) : Int)).toNat % 2 ^ 32 := by
    rw [BitVec.toNat_and, BitVec.toNat_ofInt, h127, Nat.and_two_pow_sub_one_eq_mod]
  show IntKind.i64.wrap ((BitVec.ofInt 64 n &&& BitVec.ofInt 64 4294967295).toNat : Nat) = n % 4294967296
  rw [key, IntKind.wrap_i64]
  omega
/-- Is a number money? -/
def fitB (n : Int) : Bool := decide (-1152921504606846976 ≤ n ∧ n ≤ 1152921504606846976)
def sumI (l : List Int) : Int := l.foldr (· + ·) 0
/-- All together, or why that is not told. -/
def smV (l : List Int) (s : Int) : Int × Int := if l.all fitB = true then (if fitB (s + sumI l) = true then (s + sumI l, 0) else (0, 3)) else (0, 2)
theorem fits_some (n : Int) : cents_Fits.f n = some (fitB n) := by
  unfold cents_Fits.f fitB
  by_cases h : n ≥ -1152921504606846976
  · rw [if_pos h]
    congr 1
    exact decide_eq_decide.mpr ⟨fun h2 => ⟨h, h2⟩, fun h2 => h2.2⟩
  · rw [if_neg h]
    congr 1
    exact (decide_eq_false (by omega)).symm
theorem fitting_some (n : Int) : cents_fitting.f n = some (if fitB n = true then (n, 0) else (0, 3)) := by
  unfold cents_fitting.f
  rw [fits_some]
  simp only [Option.bind_some]
  split <;> rfl
theorem sumEnd (hi lo : Int) (h1 : -1152921504606846976 ≤ hi ∧ hi ≤ 1152921504606846976) (h2 : 0 ≤ lo ∧ lo ≤ 1152921504606846976) :
    (if (wrap64 (hi + (lo / 4294967296))) < (-268435456) then (some ((0 : Int), (3 : Int))) else (if (wrap64 (hi + (lo / 4294967296))) > 268435456 then (some (0, 3)) else ((cents_fitting.f (wrap64 ((wrap64 ((wrap64 (hi + (lo / 4294967296))) * 4294967296)) + (Go.bits .and .i64 lo 4294967295)))).bind fun bt => (some (bt.1, bt.2))))) = some (if fitB (hi * 4294967296 + lo) = true then (hi * 4294967296 + lo, 0) else (0, 3)) := by
  have e1 : wrap64 (hi + lo / 4294967296) = hi + lo / 4294967296 := wrap_small (by omega) (by omega)
  rw [e1, and32]
  by_cases c1 : hi + lo / 4294967296 < -268435456
  · rw [if_pos c1, if_neg]
    unfold fitB
    simp only [decide_eq_true_eq]
    omega
  · rw [if_neg c1]
    by_cases c2 : hi + lo / 4294967296 > 268435456
    · rw [if_pos c2, if_neg]
      unfold fitB
      simp only [decide_eq_true_eq]
      omega
    · rw [if_neg c2]
      have e2 : wrap64 ((hi + lo / 4294967296) * 4294967296) = (hi + lo / 4294967296) * 4294967296 := wrap_small (by omega) (by omega)
      have e3 : wrap64 ((hi + lo / 4294967296) * 4294967296 + lo % 4294967296) = hi * 4294967296 + lo := by
        rw [wrap_small (by omega) (by omega)]
        omega
      rw [e2, e3, fitting_some]
      rfl
theorem sumL (l : List Int) (hl : l.length ≤ 1000000) (n : Nat) : ∀ (i : Nat) (hi lo : Int), l.length - i = n → i ≤ l.length → -(268435456 * (i : Int)) ≤ hi → hi ≤ 268435456 * (i : Int) → 0 ≤ lo → lo ≤ 4294967296 * (i : Int) →
    Ev (fun k => cents_Sum.l0 k l hi lo (l.length : Int) (i : Int)) (smV (l.drop i) (hi * 4294967296 + lo)) := by
  induction n with
  | zero =>
    intro i hi lo hd hle h1 h2 h3 h4
    refine Ev.shift ?_
    simp only [cents_Sum.l0]
    rw [List.drop_eq_nil_of_le (by omega)]
    refine Ev.neg (by omega) ?_
    rw [sumEnd hi lo (by omega) (by omega)]
    exact Ev.valOf (by simp [smV, sumI])
  | succ n ih =>
    intro i hi lo hd hle h1 h2 h3 h4
    have hlt : i < l.length := by omega
    have hw : wrap64 ((i : Int) + 1) = ((i + 1 : Nat) : Int) := by unfold wrap64; omega
    refine Ev.shift ?_
    simp only [cents_Sum.l0, hw]
    have hr : rd l (i : Int) = l[i] := by simp [rd, List.getD_eq_getElem?_getD, hlt]
    rw [hr, List.drop_eq_getElem_cons hlt]
    refine Ev.pos (by omega) (Ev.pos (by omega) (Ev.pos (by omega) ?_))
    rw [fits_some, and32]
    simp only [Option.bind_some]
    by_cases hf : fitB l[i] = true
    · refine Ev.pos hf ?_
      have hf2 := hf
      unfold fitB at hf2
      simp only [decide_eq_true_eq] at hf2
      have e1 : wrap64 (hi + l[i] / 4294967296) = hi + l[i] / 4294967296 := wrap_small (by omega) (by omega)
      have e2 : wrap64 (lo + l[i] % 4294967296) = lo + l[i] % 4294967296 := wrap_small (by omega) (by omega)
      rw [e1, e2]
      have h := ih (i + 1) (hi + l[i] / 4294967296) (lo + l[i] % 4294967296) (by omega) (by omega) (by omega) (by omega) (by omega) (by omega)
      have e3 : smV (l[i] :: l.drop (i + 1)) (hi * 4294967296 + lo) = smV (l.drop (i + 1)) ((hi + l[i] / 4294967296) * 4294967296 + (lo + l[i] % 4294967296)) := by
        unfold smV
        rw [List.all_cons, hf, Bool.true_and]
        have e4 : hi * 4294967296 + lo + sumI (l[i] :: l.drop (i + 1)) = (hi + l[i] / 4294967296) * 4294967296 + (lo + l[i] % 4294967296) + sumI (l.drop (i + 1)) := by
          have : sumI (l[i] :: l.drop (i + 1)) = l[i] + sumI (l.drop (i + 1)) := rfl
          rw [this]
          omega
        rw [e4]
      rw [e3]
      exact h
    · have e : smV (l[i] :: l.drop (i + 1)) (hi * 4294967296 + lo) = (0, 2) := by
        unfold smV
        rw [List.all_cons, Bool.eq_false_iff.mpr hf, Bool.false_and]
        rfl
      rw [e]
      exact Ev.neg hf (Ev.val _)
/-- The sum of numbers of money, or why it is not told. -/
def sm (l : List Int) : Int × Int := smV l 0
theorem sm_ev (l : List Int) (hl : l.length ≤ 1000000) : Ev (fun k => cents_Sum.f k l) (sm l) := by
  simp only [cents_Sum.f]
  exact sumL l hl l.length 0 0 0 (by omega) (by omega) (by omega) (by omega) (by omega) (by omega)
/-- A band of the document as one of the program. -/
def cv (x : S73) : S70 := ⟨x.f0, x.f1⟩
/-- May a band stand behind another one? -/
def bdT (f r p q : Int) : Bool := decide (f < p ∧ p ≤ 1152921504606846976 ∧ 0 ≤ q ∧ q ≤ r)
theorem bdT_no {f r p q : Int} (h : ¬ (f < p ∧ p ≤ 1152921504606846976 ∧ 0 ≤ q ∧ q ≤ r)) : bdT f r p q = false := decide_eq_false h
theorem bdT_yes {f r p q : Int} (h : f < p ∧ p ≤ 1152921504606846976 ∧ 0 ≤ q ∧ q ≤ r) : bdT f r p q = true := decide_eq_true h
/-- Bands that rise in From and don't in Rate. -/
def bdG (f r : Int) : List S70 → Bool
  | [] => true
  | b :: t => bdT f r b.f0 b.f1 && bdG b.f0 b.f1 t
/-- The answer to whether bands may be. -/
def bdV (b : Bool) : Int := cond b 0 2
def bdH (l : List S70) : Int := (rd_T70 l 0).f0
/-- What may be wrong with bands. -/
def bdC (l : List S70) : Int := if l.length = 0 ∨ l.length > 1024 then 8 else if bdH l = 0 then bdV (bdG (-1) 68719476736 l) else 2
theorem rd_bf (l : List S70) (i : Nat) (h : i < l.length) : rd_T70 l (i : Int) = l[i] := by simp [rd_T70, h]
theorem rd_br (l : List S73) (i : Nat) (h : i < l.length) : rd_T73 l (i : Int) = l[i] := by simp [rd_T73, h]
theorem succ_w (i n : Nat) (h : i < n) (hn : n ≤ 9223372036854775806) : wrap64 ((i : Int) + 1) = ((i + 1 : Nat) : Int) := by unfold wrap64; omega
theorem bandsL (l : List S73) (hl : l.length ≤ 8796093022200) (n : Nat) : ∀ (i : Nat) (t : List S70), l.length - i = n → i ≤ l.length → t.length = i →
    Ev (fun k => contangolaw38_Bands.l0 k l t (i : Int)) (t ++ (l.drop i).map cv) := by
  induction n with
  | zero =>
    intro i t hi hle ht
    refine Ev.shift ?_
    simp only [contangolaw38_Bands.l0]
    rw [List.drop_eq_nil_of_le (by omega), List.map_nil, List.append_nil]
    exact Ev.neg (by omega) (Ev.val _)
  | succ n ih =>
    intro i t hi hle ht
    have hlt : i < l.length := by omega
    refine Ev.shift ?_
    simp only [contangolaw38_Bands.l0, rd_br l i hlt, succ_w i l.length hlt (by omega)]
    rw [List.drop_eq_getElem_cons hlt, List.map_cons]
    refine Ev.pos (by omega) (Ev.pos (by omega) (Ev.pos (by omega) ?_))
    have := ih (i + 1) (t ++ [cv l[i]]) (by omega) (by omega) (by simp [ht])
    rw [List.append_assoc] at this
    exact this
theorem bands_ev (l : List S73) (hl : l.length ≤ 8796093022200) : Ev (fun k => contangolaw38_Bands.f k l) (l.map cv) := by
  have := bandsL l hl l.length 0 [] (by omega) (by omega) rfl
  rw [List.drop_zero, List.nil_append] at this
  exact this
theorem may_some (a b c d : Int) : fee_Band_may.f a b c d = some (bdT c d a b) := by
  unfold fee_Band_may.f
  by_cases h0 : eqD70 a c b d = true
  · rw [if_pos h0]
    unfold eqD70 at h0
    simp only [Bool.and_eq_true, beq_iff_eq] at h0
    rw [bdT_no (by omega)]
  · rw [if_neg h0]
    clear h0
    by_cases h1 : a > c
    · rw [if_pos h1]
      by_cases h2 : a ≤ 1152921504606846976
      · rw [if_pos h2]
        by_cases h3 : b ≥ 0
        · rw [if_pos h3]; exact congrArg some (decide_eq_decide.mpr (by omega))
        · rw [if_neg h3]; rw [bdT_no (by omega)]
      · rw [if_neg h2]; rw [bdT_no (by omega)]
    · rw [if_neg h1]; rw [bdT_no (by omega)]
theorem chkfL (l : List S70) (hl : l.length ≤ 1024) (n : Nat) : ∀ (i : Nat) (f r : Int), l.length - i = n → i ≤ l.length →
    Ev (fun k => fee_Check.l0 k l (l.length : Int) (i : Int) f r) (bdV (bdG f r (l.drop i))) := by
  induction n with
  | zero =>
    intro i f r hi hle
    refine Ev.shift ?_
    simp only [fee_Check.l0]
    rw [List.drop_eq_nil_of_le (by omega)]
    exact Ev.neg (by omega) (Ev.valOf rfl)
  | succ n ih =>
    intro i f r hi hle
    have hlt : i < l.length := by omega
    refine Ev.shift ?_
    simp only [fee_Check.l0, rd_bf l i hlt, succ_w i l.length hlt (by omega), may_some, Option.bind_some]
    rw [List.drop_eq_getElem_cons hlt]
    refine Ev.pos (by omega) (Ev.pos (by omega) (Ev.pos (by omega) ?_))
    simp only [bdG]
    by_cases h : f < l[i].f0 ∧ l[i].f0 ≤ 1152921504606846976 ∧ 0 ≤ l[i].f1 ∧ l[i].f1 ≤ r
    · rw [bdT_yes h, Bool.true_and]
      exact Ev.pos rfl (ih (i + 1) _ _ (by omega) (by omega))
    · rw [bdT_no h, Bool.false_and]
      exact Ev.neg (by decide) (Ev.val _)
theorem bdC_ev (l : List S70) : Ev (fun k => fee_Check.f k l) (bdC l) := by
  have key : ∀ b : Bool, (b = false → l.length ≤ 1024 ∧ 0 < l.length) → Ev (fun k => fee_Check.j0 k l b) (if b = true then 8 else if bdH l = 0 then bdV (bdG (-1) 68719476736 l) else 2) := by
    intro b hb
    refine Ev.shift ?_
    simp only [fee_Check.j0]
    refine Ev.both (fun _ => Ev.val _) (fun h => ?_)
    obtain ⟨h1, h2⟩ := hb (by simpa using h)
    refine Ev.pos (by omega) (Ev.both (fun _ => ?_) (fun _ => Ev.val _))
    have := chkfL l h1 l.length 0 (-1) 68719476736 (by omega) (by omega)
    rwa [List.drop_zero] at this
  simp only [fee_Check.f]
  unfold bdC
  by_cases h0 : l.length = 0
  · rw [if_pos (.inl h0)]
    refine Ev.pos (by omega) ?_
    have := key true (fun h => by cases h)
    rwa [if_pos rfl] at this
  · refine Ev.neg (by omega) ?_
    by_cases h1 : l.length > 1024
    · rw [if_pos (.inr h1)]
      have := key (decide ((l.length : Int) > 1024)) (fun h => by simp at h; omega)
      rwa [if_pos (by simp; omega)] at this
    · rw [if_neg (fun h => h.elim h0 h1)]
      have := key (decide ((l.length : Int) > 1024)) (fun h => by omega)
      rwa [if_neg (by simp; omega)] at this
theorem andu32 (n : Int) (h0 : 0 ≤ n) (h1 : n ≤ 18446744073709551615) : Go.bits .and .u64 n 4294967295 = n % 4294967296 := by
  have h127 : (BitVec.ofInt 64 4294967295).toNat = 2 ^ 32 - 1 := by decide
  have key : (BitVec.ofInt 64 n &&& BitVec.ofInt 64 4294967295).toNat = (n % ((2 ^ 64 : Nat) : Int)).toNat % 2 ^ 32 := by
    rw [BitVec.toNat_and, BitVec.toNat_ofInt, h127, Nat.and_two_pow_sub_one_eq_mod]
  show IntKind.u64.wrap ((BitVec.ofInt 64 n &&& BitVec.ofInt 64 4294967295).toNat : Nat) = n % 4294967296
  rw [key, IntKind.wrap_u64]
  omega
theorem wrapu_small {n : Int} (h0 : 0 ≤ n) (h1 : n ≤ 18446744073709551615) : IntKind.u64.wrap n = n := by rw [IntKind.wrap_u64]; omega
/-- The product of a rate and a number of lots, in two words. -/
theorem mul_two (a b : Int) (a0 : 0 ≤ a) (a1 : a ≤ 68719476736) (b0 : 0 ≤ b) (b1 : b ≤ 2147483648) : bits_Mul64.f a b = some (a * b / 18446744073709551616, IntKind.u64.wrap (a * b)) := by
  unfold bits_Mul64.f
  congr 2
  have hb : b / 4294967296 = 0 := by omega
  rw [hb, andu32 b b0 (by omega), andu32 a a0 (by omega), show b % 4294967296 = b by omega]
  have hp : 0 ≤ a / 4294967296 * b ∧ a / 4294967296 * b ≤ 16 * 2147483648 := ⟨Int.mul_nonneg (by omega) b0, Int.mul_le_mul (by omega) b1 b0 (by omega)⟩
  have hq : 0 ≤ a % 4294967296 * b ∧ a % 4294967296 * b ≤ 4294967295 * 2147483648 := ⟨Int.mul_nonneg (by omega) b0, Int.mul_le_mul (by omega) b1 b0 (by omega)⟩
  have hab : a * b = a / 4294967296 * b * 4294967296 + a % 4294967296 * b := by
    have h : a = a / 4294967296 * 4294967296 + a % 4294967296 := by omega
    have h2 : a * b = (a / 4294967296 * 4294967296 + a % 4294967296) * b := congrArg (· * b) h
    rw [h2, Int.add_mul, Int.mul_right_comm]
  rw [Int.mul_zero, Int.mul_zero, hab]
  generalize a / 4294967296 * b = P at *
  generalize a % 4294967296 * b = Q at *
  clear hab
  rw [wrapu_small (n := 0) (by omega) (by omega), wrapu_small (n := P) (by omega) (by omega), wrapu_small (n := Q) (by omega) (by omega), wrapu_small (n := P + Q / 4294967296) (by omega) (by omega), andu32 (P + Q / 4294967296) (by omega) (by omega)]
  rw [wrapu_small (n := 0 + (P + Q / 4294967296) / 4294967296) (by omega) (by omega), wrapu_small (n := (P + Q / 4294967296) % 4294967296 + 0) (by omega) (by omega), wrapu_small (by omega) (by omega)]
  omega
/-- A product that is money, or none. -/
def mu (a b : Int) : Int × Int := if a * b ≤ 1152921504606846976 then (a * b, 0) else (0, 3)
theorem mu_yes {a b : Int} (h : a * b ≤ 1152921504606846976) : mu a b = (a * b, 0) := if_pos h
theorem mu_no {a b : Int} (h : ¬ a * b ≤ 1152921504606846976) : mu a b = (0, 3) := if_neg h
theorem mul_ev (a b : Int) (a0 : 0 ≤ a) (a1 : a ≤ 68719476736) (b0 : 0 ≤ b) (b1 : b ≤ 2147483648) : Ev (fun k => cents_Mul.f k a b) (mu a b) := by
  have ha : fitB a = true := by unfold fitB; simp only [decide_eq_true_eq]; omega
  have hb : fitB b = true := by unfold fitB; simp only [decide_eq_true_eq]; omega
  have hp : 0 ≤ a * b ∧ a * b ≤ 68719476736 * 2147483648 := ⟨Int.mul_nonneg a0 b0, Int.mul_le_mul a1 b1 b0 (by omega)⟩
  have sz : ∀ x : Int, 0 ≤ x → x ≤ 68719476736 → cents_size.f x = some x := fun x x0 x1 => by
    unfold cents_size.f
    rw [if_neg (by omega), wrapu_small x0 (by omega)]
  simp only [cents_Mul.f, fits_some, ha, hb, Option.bind_some, Bool.not_true]
  refine Ev.pos (by trivial) (Ev.shift ?_)
  simp only [cents_Mul.j0, sz a a0 a1, sz b b0 (by omega), mul_two a b a0 a1 b0 b1, Option.bind_some]
  refine Ev.neg (by decide) ?_
  have hs : ((decide (a < 0)) != (decide (b < 0))) = false := by rw [decide_eq_false (by omega : ¬ a < 0), decide_eq_false (by omega : ¬ b < 0)]; rfl
  rw [hs]
  by_cases h : a * b / 18446744073709551616 > 0
  · rw [mu_no (by omega)]
    exact Ev.pos h (Ev.val _)
  · refine Ev.neg h ?_
    rw [wrapu_small (by omega) (by omega)]
    unfold cents_signed.f
    by_cases h2 : a * b > 1152921504606846976
    · rw [mu_no (by omega), if_pos h2]
      exact Ev.val _
    · rw [mu_yes (by omega), if_neg h2, if_neg (by decide), wrap_small (by omega) (by omega)]
      exact Ev.val _
theorem cost_ev (f a b : Int) (a0 : 0 ≤ a) (a1 : a ≤ 68719476736) (b0 : 0 ≤ b) (b1 : b ≤ 2147483648) : Ev (fun k => fee_Band_cost.f k f a b) (mu a b) := by
  simp only [fee_Band_cost.f]
  exact Ev.bind (mul_ev a b a0 a1 b0 b1) (Ev.val _)
/-- Lots of a band. -/
def lotB (a e : Int) (b : S70) (r : List S70) : Int := mx (fee_Lots.to e r - mx b.f0 a) 0
/-- What each band costs. -/
def csts (a e : Int) : List S70 → List Int
  | [] => []
  | b :: r => b.f1 * lotB a e b r :: csts a e r
def mnyB (n : Int) : Bool := decide (n ≤ 1152921504606846976)
/-- Bands as they go on behind others. -/
theorem lotB_bd {f r0 : Int} {b : S70} {r : List S70} (h : bdG f r0 (b :: r) = true) (hf : -1 ≤ f) (hr : r0 ≤ 68719476736) {a e : Int} (ha : 0 ≤ a ∧ a ≤ 1073741824) (he : 0 ≤ e ∧ e ≤ 2147483648) :
    wrap64 (fee_Lots.to e r - mx b.f0 a) = fee_Lots.to e r - mx b.f0 a ∧ (0 ≤ lotB a e b r ∧ lotB a e b r ≤ 2147483648) ∧ (0 ≤ b.f1 ∧ b.f1 ≤ 68719476736) ∧ (-1 ≤ b.f0) ∧ bdG b.f0 b.f1 r = true := by
  have h1 : bdT f r0 b.f0 b.f1 = true ∧ bdG b.f0 b.f1 r = true := by simpa only [bdG, Bool.and_eq_true] using h
  obtain ⟨h1, h2⟩ := h1
  have h1 := of_decide_eq_true h1
  have ht : 0 ≤ fee_Lots.to e r ∧ fee_Lots.to e r ≤ 2147483648 := by
    cases r with
    | nil => exact he
    | cons c t =>
      have h3 : bdT b.f0 b.f1 c.f0 c.f1 = true ∧ bdG c.f0 c.f1 t = true := by simpa only [bdG, Bool.and_eq_true] using h2
      have h3 := of_decide_eq_true h3.1
      simp only [fee_Lots.to, mn]
      split <;> omega
  have hm : 0 ≤ mx b.f0 a ∧ mx b.f0 a ≤ 1152921504606846976 := by
    simp only [mx]
    split <;> omega
  refine ⟨wrap_small (by omega) (by omega), ?_, by omega, by omega, h2⟩
  unfold lotB
  generalize fee_Lots.to e r = T at *
  generalize mx b.f0 a = M at *
  simp only [mx]
  split <;> omega
theorem goL (a e : Int) (ha : 0 ≤ a ∧ a ≤ 1073741824) (he : 0 ≤ e ∧ e ≤ 2147483648) (l : List S70) : ∀ (t : List Int) (f r0 : Int), bdG f r0 l = true → -1 ≤ f → r0 ≤ 68719476736 → t.length + l.length ≤ 1024 →
    Ev (fun k => fee_Lots.go k a e l t) (if (csts a e l).all mnyB = true then (t ++ csts a e l, 0) else ([], 3)) := by
  induction l with
  | nil =>
    intro t f r0 _ _ _ _
    exact Ev.valOf (by simp [csts])
  | cons b r ih =>
    intro t f r0 h hf hr hl
    obtain ⟨w1, w2, w3, w4, w5⟩ := lotB_bd h hf hr ha he
    simp only [List.length_cons] at hl
    simp only [fee_Lots.go, w1]
    refine Ev.bind (cost_ev b.f0 b.f1 (lotB a e b r) w3.1 w3.2 w2.1 w2.2) ?_
    rw [show csts a e (b :: r) = b.f1 * lotB a e b r :: csts a e r from rfl, List.all_cons]
    by_cases hc : b.f1 * lotB a e b r ≤ 1152921504606846976
    · rw [mu_yes hc, show mnyB (b.f1 * lotB a e b r) = true from decide_eq_true hc, Bool.true_and]
      refine Ev.pos rfl (Ev.pos (by omega) ?_)
      have := ih (t ++ [b.f1 * lotB a e b r]) b.f0 b.f1 w5 w4 w3.2 (by simp; omega)
      rw [List.append_assoc] at this
      exact this
    · rw [mu_no hc, show mnyB (b.f1 * lotB a e b r) = false from decide_eq_false hc, Bool.false_and]
      refine Ev.neg (by show ¬ ((3 : Int) = 0); decide) (Ev.val _)
theorem csts_nn (a e : Int) (ha : 0 ≤ a ∧ a ≤ 1073741824) (he : 0 ≤ e ∧ e ≤ 2147483648) (l : List S70) : ∀ (f r0 : Int), bdG f r0 l = true → -1 ≤ f → r0 ≤ 68719476736 → ∀ c ∈ csts a e l, 0 ≤ c := by
  induction l with
  | nil => intro f r0 _ _ _ c hc; cases hc
  | cons b r ih =>
    intro f r0 h hf hr c hc
    obtain ⟨_, w2, w3, w4, w5⟩ := lotB_bd h hf hr ha he
    simp only [csts, List.mem_cons] at hc
    rcases hc with rfl | hc
    · exact Int.mul_nonneg w3.1 w2.1
    · exact ih b.f0 b.f1 w5 w4 w3.2 c hc
theorem sumI_nn (l : List Int) (h : ∀ c ∈ l, 0 ≤ c) : 0 ≤ sumI l := by
  induction l with
  | nil => exact Int.le_refl 0
  | cons a t ih =>
    have h1 := h a (by simp)
    have h2 := ih (fun c hc => h c (by simp [hc]))
    show 0 ≤ a + sumI t
    omega
theorem csts_len (a e : Int) (l : List S70) : (csts a e l).length = l.length := by
  induction l with
  | nil => rfl
  | cons b r ih => simp [csts, ih]
/-- What numbers that are money come to with another one, or that they come to too much. -/
def lotV (n : Int) (l : List Int) : Int × Int := if l.all mnyB = true ∧ n + sumI l ≤ 1152921504606846976 then (n + sumI l, 0) else (0, 3)
theorem lotV_cons (n c : Int) (l : List Int) (h0 : 0 ≤ n) (hc0 : 0 ≤ c) (hl : ∀ x ∈ l, 0 ≤ x) : lotV n (c :: l) = if c ≤ 1152921504606846976 then (if n + c ≤ 1152921504606846976 then lotV (n + c) l else (0, 3)) else (0, 3) := by
  have hs := sumI_nn l hl
  have e : sumI (c :: l) = c + sumI l := rfl
  by_cases hc : c ≤ 1152921504606846976
  · rw [if_pos hc]
    have ec : (c :: l).all mnyB = l.all mnyB := by rw [List.all_cons, show mnyB c = true from decide_eq_true hc, Bool.true_and]
    by_cases h2 : n + c ≤ 1152921504606846976
    · rw [if_pos h2]
      unfold lotV
      rw [ec, e, Int.add_assoc]
    · rw [if_neg h2]
      exact if_neg (fun h => by have := h.2; omega)
  · rw [if_neg hc]
    refine if_neg (fun h => hc ?_)
    have := List.all_eq_true.mp h.1 c (by simp)
    exact of_decide_eq_true this
theorem sm_lotV (l : List Int) (hl : ∀ x ∈ l, 0 ≤ x) (ha : l.all mnyB = true) : sm l = lotV 0 l := by
  have hs := sumI_nn l hl
  have hf : l.all fitB = true := by
    rw [List.all_eq_true] at ha ⊢
    intro x hx
    have h1 := hl x hx
    have h2 : x ≤ 1152921504606846976 := of_decide_eq_true (ha x hx)
    exact decide_eq_true (by omega)
  unfold sm smV
  rw [if_pos hf]
  by_cases h : 0 + sumI l ≤ 1152921504606846976
  · exact (if_pos (decide_eq_true (by omega))).trans (if_pos ⟨ha, h⟩).symm
  · exact (if_neg (by unfold fitB; simp only [decide_eq_true_eq]; omega)).trans (if_neg (fun h2 => h h2.2)).symm
/-- May so many lots be? -/
def cntB (n : Int) : Bool := decide (0 ≤ n ∧ n ≤ 1073741824)
theorem count_some (n : Int) : fee_count.f n = some (cntB n) := by
  unfold fee_count.f cntB
  by_cases h : n ≥ 0
  · rw [if_pos h]; exact congrArg some (decide_eq_decide.mpr (by omega))
  · rw [if_neg h]; exact congrArg some (decide_eq_false (by omega)).symm
/-- What lots cost behind others, or why that is not told. -/
def ltV (a n : Int) (l : List S70) : Int × Int := if bdC l = 0 then (if (cntB a && cntB n) = true then lotV 0 (csts a (a + n) l) else (0, 18)) else (0, bdC l)
theorem bdC_zero {l : List S70} (h : bdC l = 0) : 0 < l.length ∧ l.length ≤ 1024 ∧ bdG (-1) 68719476736 l = true := by
  unfold bdC at h
  by_cases c0 : l.length = 0 ∨ l.length > 1024
  · rw [if_pos c0] at h; cases h
  rw [if_neg c0] at h
  by_cases c1 : bdH l = 0
  · rw [if_pos c1] at h
    cases hb : bdG (-1) 68719476736 l with
    | true => exact ⟨by omega, by omega, rfl⟩
    | false => rw [hb] at h; cases h
  · rw [if_neg c1] at h; cases h
theorem ltV_ev (a n : Int) (l : List S70) : Ev (fun k => fee_Lots.f k a n l) (ltV a n l) := by
  simp only [fee_Lots.f, count_some, Option.bind_some]
  refine Ev.bind (bdC_ev l) ?_
  unfold ltV
  refine Ev.both (fun h0 => ?_) (fun _ => Ev.val _)
  obtain ⟨h1, h2, h3⟩ := bdC_zero h0
  cases ha : cntB a with
  | false => rw [Bool.false_and, if_neg (by decide)]; exact Ev.neg (by decide) (Ev.val _)
  | true =>
    refine Ev.pos rfl ?_
    cases hn : cntB n with
    | false => rw [Bool.true_and, if_neg (by decide)]; exact Ev.neg (by decide) (Ev.val _)
    | true =>
      rw [Bool.true_and, if_pos rfl]
      refine Ev.pos rfl ?_
      have ha := of_decide_eq_true ha
      have hn := of_decide_eq_true hn
      rw [wrap_small (n := a + n) (by omega) (by omega)]
      refine Ev.bind (goL a (a + n) ha (by omega) l [] (-1) 68719476736 h3 (by omega) (by omega) (by simp; omega)) ?_
      have hnn := csts_nn a (a + n) ha (by omega) l (-1) 68719476736 h3 (by omega) (by omega)
      by_cases hall : (csts a (a + n) l).all mnyB = true
      · rw [if_pos hall, ← sm_lotV _ hnn hall, List.nil_append]
        exact Ev.pos rfl (sm_ev _ (by rw [csts_len]; omega))
      · rw [if_neg hall, show lotV 0 (csts a (a + n) l) = (0, 3) from if_neg (fun h => hall h.1)]
        exact Ev.neg (by show ¬ ((3 : Int) = 0); decide) (Ev.val _)
theorem mx_comm (a b : Int) : mx a b = mx b a := by
  simp only [mx]
  split <;> split <;> omega
theorem goes_true : contangolaw38_goes.f 60 = some true := by decide +kernel
theorem goes_ev : Ev (fun k => contangolaw38_goes.f k) true := Ev.of goes_true (fun k => contangolaw38_goes.mono k)
theorem to_le (e : Int) (r : List S70) : fee_Lots.to e r ≤ e := by
  cases r with
  | nil => exact Int.le_refl _
  | cons c t => simp only [fee_Lots.to, mn]; split <;> omega
theorem lotB_zero (h : Int) (b : S70) (r : List S70) : lotB h h b r = 0 := by
  have h1 := to_le h r
  unfold lotB
  generalize fee_Lots.to h r = T at *
  simp only [mx]
  split <;> split <;> omega
theorem csts_zero (h : Int) (l : List S70) : sumI (csts h h l) = 0 := by
  induction l with
  | nil => rfl
  | cons b r ih =>
    show b.f1 * lotB h h b r + sumI (csts h h r) = 0
    rw [ih, lotB_zero, Int.mul_zero]
    rfl
theorem lotB_add {f r0 : Int} {b : S70} {r : List S70} (hb : bdG f r0 (b :: r) = true) (h p q : Int) (hp : 0 ≤ p) (hq : 0 ≤ q) : lotB h (h + p) b r + lotB (h + p) (h + p + q) b r = lotB h (h + p + q) b r := by
  have h2 : bdG b.f0 b.f1 r = true := by
    have h1 : bdT f r0 b.f0 b.f1 = true ∧ bdG b.f0 b.f1 r = true := by simpa only [bdG, Bool.and_eq_true] using hb
    exact h1.2
  unfold lotB
  cases r with
  | nil =>
    simp only [fee_Lots.to, mx]
    clear h2 hb
    repeat' split
    all_goals omega
  | cons c t =>
    have h3 : bdT b.f0 b.f1 c.f0 c.f1 = true ∧ bdG c.f0 c.f1 t = true := by simpa only [bdG, Bool.and_eq_true] using h2
    have h3 := (of_decide_eq_true h3.1).1
    simp only [fee_Lots.to, mx, mn]
    clear h2 hb
    repeat' split
    all_goals omega
theorem csts_add (h p q : Int) (hp : 0 ≤ p) (hq : 0 ≤ q) (l : List S70) : ∀ f r0, bdG f r0 l = true → sumI (csts h (h + p) l) + sumI (csts (h + p) (h + p + q) l) = sumI (csts h (h + p + q) l) := by
  induction l with
  | nil => intro _ _ _; rfl
  | cons b r ih =>
    intro f r0 hb
    have h2 : bdG b.f0 b.f1 r = true := by
      have h1 : bdT f r0 b.f0 b.f1 = true ∧ bdG b.f0 b.f1 r = true := by simpa only [bdG, Bool.and_eq_true] using hb
      exact h1.2
    have e1 := lotB_add hb h p q hp hq
    have e2 := ih _ _ h2
    show (b.f1 * lotB h (h + p) b r + sumI (csts h (h + p) r)) + (b.f1 * lotB (h + p) (h + p + q) b r + sumI (csts (h + p) (h + p + q) r)) = b.f1 * lotB h (h + p + q) b r + sumI (csts h (h + p + q) r)
    rw [← e1, Int.mul_add, ← e2]
    omega
theorem lotV_cases (l : List Int) (hl : ∀ x ∈ l, 0 ≤ x) : (lotV 0 l = (sumI l, 0) ∧ 0 ≤ sumI l ∧ sumI l ≤ 1152921504606846976) ∨ lotV 0 l = (0, 3) := by
  have := sumI_nn l hl
  unfold lotV
  by_cases h : l.all mnyB = true ∧ 0 + sumI l ≤ 1152921504606846976
  · rw [if_pos h, Int.zero_add]; exact .inl ⟨rfl, this, by omega⟩
  · rw [if_neg h]; exact .inr rfl
/-- A cost is told, or it is zero. -/
theorem ltV_cases (h n : Int) (B : List S70) : ((ltV h n B).2 = 0 ∧ bdC B = 0 ∧ (0 ≤ h ∧ h ≤ 1073741824) ∧ (0 ≤ n ∧ n ≤ 1073741824) ∧ (ltV h n B).1 = sumI (csts h (h + n) B) ∧ 0 ≤ (ltV h n B).1 ∧ (ltV h n B).1 ≤ 1152921504606846976) ∨ ((ltV h n B).2 ≠ 0 ∧ (ltV h n B).1 = 0) := by
  unfold ltV
  by_cases h0 : bdC B = 0
  · rw [if_pos h0]
    by_cases hc : (cntB h && cntB n) = true
    · rw [if_pos hc]
      rw [Bool.and_eq_true] at hc
      have h1 := of_decide_eq_true hc.1
      have h2 := of_decide_eq_true hc.2
      obtain ⟨_, _, h3⟩ := bdC_zero h0
      rcases lotV_cases _ (csts_nn h (h + n) h1 (by omega) B _ _ h3 (by omega) (by omega)) with ⟨e, e1, e2⟩ | e
      · rw [e]; exact .inl ⟨rfl, h0, h1, h2, rfl, e1, e2⟩
      · rw [e]; exact .inr ⟨by decide, rfl⟩
    · rw [if_neg hc]; exact .inr ⟨by decide, rfl⟩
  · rw [if_neg h0]; exact .inr ⟨h0, rfl⟩
theorem ltV_bd (h n : Int) (B : List S70) : 0 ≤ (ltV h n B).1 ∧ (ltV h n B).1 ≤ 1152921504606846976 := by
  rcases ltV_cases h n B with h1 | h1
  · exact h1.2.2.2.2.2
  · rw [h1.2]; omega
theorem ltV_none (h : Int) (B : List S70) : (ltV h 0 B).1 = 0 := by
  rcases ltV_cases h 0 B with h1 | h1
  · rw [h1.2.2.2.2.1, Int.add_zero, csts_zero]
  · exact h1.2
theorem ltV_add (h p q : Int) (B : List S70) (e1 : (ltV h p B).2 = 0) (e2 : (ltV (h + p) q B).2 = 0) (e3 : (ltV h (p + q) B).2 = 0) : (ltV h p B).1 + (ltV (h + p) q B).1 = (ltV h (p + q) B).1 := by
  rcases ltV_cases h p B with a | a
  case inr => exact absurd e1 a.1
  rcases ltV_cases (h + p) q B with b | b
  case inr => exact absurd e2 b.1
  rcases ltV_cases h (p + q) B with c | c
  case inr => exact absurd e3 c.1
  rw [a.2.2.2.2.1, b.2.2.2.2.1, c.2.2.2.2.1, show h + (p + q) = h + p + q by omega]
  exact csts_add h p q a.2.2.2.1.1 b.2.2.2.1.1 B _ _ (bdC_zero a.2.1).2.2
theorem bdG_cons {f r0 : Int} {b : S70} {r : List S70} (h : bdG f r0 (b :: r) = true) : (f < b.f0 ∧ b.f0 ≤ 1152921504606846976 ∧ 0 ≤ b.f1 ∧ b.f1 ≤ r0) ∧ bdG b.f0 b.f1 r = true := by
  have h1 : bdT f r0 b.f0 b.f1 = true ∧ bdG b.f0 b.f1 r = true := by simpa only [bdG, Bool.and_eq_true] using h
  exact ⟨of_decide_eq_true h1.1, h1.2⟩
/-- What one lot costs. -/
def oneC (h : Int) (l : List S70) : Int := sumI (csts h (h + 1) l)
theorem oneC_cons (h : Int) (b : S70) (r : List S70) : oneC h (b :: r) = b.f1 * lotB h (h + 1) b r + oneC h r := rfl
theorem lotB_far (h : Int) (b : S70) (r : List S70) (hb : h < b.f0) : lotB h (h + 1) b r = 0 := by
  have h1 := to_le (h + 1) r
  unfold lotB
  generalize fee_Lots.to (h + 1) r = T at *
  simp only [mx]
  split <;> split <;> omega
theorem oneC_far (h : Int) (t : List S70) : ∀ (c : S70) (f r0 : Int), bdG f r0 (c :: t) = true → h < c.f0 → oneC h (c :: t) = 0 := by
  induction t with
  | nil =>
    intro c f r0 _ hc
    rw [oneC_cons, lotB_far h c [] hc, Int.mul_zero]
    rfl
  | cons d t ih =>
    intro c f r0 hb hc
    obtain ⟨_, h2⟩ := bdG_cons hb
    have h3 := (bdG_cons h2).1
    rw [oneC_cons, lotB_far h c _ hc, Int.mul_zero, ih d _ _ h2 (by omega)]
    rfl
theorem lotB_last (h : Int) (b : S70) (hb : b.f0 ≤ h) : lotB h (h + 1) b [] = 1 := by
  unfold lotB
  simp only [fee_Lots.to, mx]
  split <;> split <;> omega
theorem lotB_in (h : Int) (b c : S70) (t : List S70) (hb : b.f0 ≤ h) (hc : h < c.f0) : lotB h (h + 1) b (c :: t) = 1 := by
  unfold lotB
  simp only [fee_Lots.to, mx, mn]
  split <;> split <;> split <;> omega
theorem lotB_past (h : Int) (b c : S70) (t : List S70) (hb : b.f0 ≤ h) (hc : c.f0 ≤ h) : lotB h (h + 1) b (c :: t) = 0 := by
  unfold lotB
  simp only [fee_Lots.to, mx, mn]
  split <;> split <;> split <;> omega
theorem oneC_in (h : Int) (b c : S70) (t : List S70) (f r0 : Int) (hbd : bdG f r0 (b :: c :: t) = true) (hb : b.f0 ≤ h) (hc : h < c.f0) : oneC h (b :: c :: t) = b.f1 := by
  rw [oneC_cons, lotB_in h b c t hb hc, oneC_far h t c _ _ (bdG_cons hbd).2 hc, Int.mul_one, Int.add_zero]
theorem oneC_past (h : Int) (b c : S70) (t : List S70) (hb : b.f0 ≤ h) (hc : c.f0 ≤ h) : oneC h (b :: c :: t) = oneC h (c :: t) := by
  rw [oneC_cons, lotB_past h b c t hb hc, Int.mul_zero, Int.zero_add]
theorem oneC_falls (t : List S70) : ∀ (b : S70) (f r0 h : Int), bdG f r0 (b :: t) = true → b.f0 ≤ h → oneC h (b :: t) ≤ b.f1 ∧ ∀ h', h ≤ h' → oneC h' (b :: t) ≤ oneC h (b :: t) := by
  induction t with
  | nil =>
    intro b f r0 h _ hb
    have e : ∀ h', b.f0 ≤ h' → oneC h' [b] = b.f1 := fun h' hh => by
      rw [oneC_cons, lotB_last h' b hh, Int.mul_one]
      show b.f1 + 0 = _
      omega
    rw [e h hb]
    exact ⟨Int.le_refl _, fun h' hh => by rw [e h' (by omega)]; exact Int.le_refl _⟩
  | cons c t ih =>
    intro b f r0 h hbd hb
    have h2 := (bdG_cons hbd).2
    have h3 := (bdG_cons h2).1
    by_cases hc : h < c.f0
    · rw [oneC_in h b c t f r0 hbd hb hc]
      refine ⟨Int.le_refl _, fun h' hh => ?_⟩
      by_cases hc' : h' < c.f0
      · rw [oneC_in h' b c t f r0 hbd (by omega) hc']; exact Int.le_refl _
      · rw [oneC_past h' b c t (by omega) (by omega)]
        have := (ih c _ _ h' h2 (by omega)).1
        omega
    · rw [oneC_past h b c t hb (by omega)]
      obtain ⟨i1, i2⟩ := ih c _ _ h h2 (by omega)
      refine ⟨by omega, fun h' hh => ?_⟩
      rw [oneC_past h' b c t (by omega) (by omega)]
      exact i2 h' hh
theorem more_falls (l : List S70) (hl : bdG (-1) 68719476736 l = true) (h0 : ∀ b r, l = b :: r → b.f0 = 0) (h p : Int) (hh : 0 ≤ h) (hp : 0 ≤ p) (n : Nat) : sumI (csts (h + p) (h + p + n) l) ≤ sumI (csts h (h + n) l) := by
  induction n with
  | zero =>
    rw [show h + p + ((0 : Nat) : Int) = h + p by omega, show h + ((0 : Nat) : Int) = h by omega, csts_zero, csts_zero]
    exact Int.le_refl _
  | succ n ih =>
    have a1 := csts_add h n 1 (by omega) (by omega) l _ _ hl
    have a2 := csts_add (h + p) n 1 (by omega) (by omega) l _ _ hl
    rw [show h + ((n + 1 : Nat) : Int) = h + n + 1 by omega, show h + p + ((n + 1 : Nat) : Int) = h + p + n + 1 by omega, ← a1, ← a2]
    have a3 : oneC (h + p + n) l ≤ oneC (h + n) l := by
      cases l with
      | nil => exact Int.le_refl _
      | cons b r =>
        have hb := h0 b r rfl
        exact (oneC_falls r b _ _ (h + n) hl (by omega)).2 _ (by omega)
    have a4 : sumI (csts (h + p + n) (h + p + n + 1) l) ≤ sumI (csts (h + n) (h + n + 1) l) := a3
    omega
theorem bdC_first {l : List S70} (h : bdC l = 0) : ∀ b r, l = b :: r → b.f0 = 0 := by
  intro b r e
  subst e
  unfold bdC at h
  by_cases c0 : (b :: r).length = 0 ∨ (b :: r).length > 1024
  · rw [if_pos c0] at h; cases h
  rw [if_neg c0] at h
  by_cases c1 : bdH (b :: r) = 0
  · exact c1
  · rw [if_neg c1] at h; cases h
theorem ltV_falls (h n : Int) (B : List S70) (e1 : (ltV h n B).2 = 0) (e2 : (ltV (h + n) n B).2 = 0) : (ltV (h + n) n B).1 ≤ (ltV h n B).1 := by
  rcases ltV_cases h n B with a | a
  case inr => exact absurd e1 a.1
  rcases ltV_cases (h + n) n B with b | b
  case inr => exact absurd e2 b.1
  rw [a.2.2.2.2.1, b.2.2.2.2.1]
  obtain ⟨m, hm⟩ : ∃ m : Nat, n = m := ⟨n.toNat, by omega⟩
  subst hm
  exact more_falls B (bdC_zero a.2.1).2.2 (bdC_first a.2.1) h m a.2.2.1.1 a.2.2.2.1.1 m
theorem FeeRises : contangolaw38_FeeRises.Said := by
  intro a q l _ _ _ _ _ hsl
  refine Ev.get ?_
  have hl : l.length ≤ 8796093022200 := by have := hsl.1; omega
  simp only [contangolaw38_FeeRises.f]
  refine Ev.bind (bands_ev l hl) (Ev.bind (ltV_ev a q.f0 (l.map cv)) (Ev.bind (ltV_ev _ q.f1 (l.map cv)) (Ev.bind (ltV_ev a _ (l.map cv)) (Ev.ite (fun h => ?_) (fun _ => goes_ev)))))
  obtain ⟨h1, h2, h3⟩ := h
  rcases ltV_cases a q.f0 (l.map cv) with c1 | c1
  case inr => exact absurd h1 c1.1
  have e1 : wrap64 (a + q.f0) = a + q.f0 := wrap_small (by omega) (by omega)
  rw [e1] at h2 ⊢
  rcases ltV_cases (a + q.f0) q.f1 (l.map cv) with c2 | c2
  case inr => exact absurd h2 c2.1
  have e2 : wrap64 (q.f0 + q.f1) = q.f0 + q.f1 := wrap_small (by omega) (by omega)
  rw [e2] at h3 ⊢
  have h4 := ltV_add a q.f0 q.f1 (l.map cv) h1 h2 h3
  refine Ev.bind (ltV_ev (a + q.f0) q.f0 (l.map cv)) (Ev.pos ⟨?_, fun h5 => ltV_falls a q.f0 (l.map cv) h1 h5⟩ goes_ev)
  rw [wrap_small (by omega) (by omega)]
  exact h4
end Go.Proofs.Ytckjdncimibiaaa.Pure
