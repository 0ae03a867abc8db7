/- What lots cost behind others is what the document says: the law, as a statement over numbers and lists. -/
import Derived.Test.YtckjdncimibiaaaArgFeeLots
namespace Go.Proofs.Ytckjdncimibiaaa.Pure
set_option linter.unusedSimpArgs false
set_option linter.unusedVariables false
open Go.RowKit Go.Proofs.Ytckjdncimibiaaa.PFeeLots Go.Proofs.Ytckjdncimibiaaa.Opens Go.Proofs.YtckjdncimibiaaaW.PrintWords Go.Proofs.YtckjdncimibiaaaW.PrintLast
/-- Comes to r, at all large numbers of rounds. -/
def Ev {α : Type} (g : Nat → Option α) (r : α) : Prop := ∃ K, ∀ k, K ≤ k → g k = some r
theorem Ev.shift {α : Type} {g : Nat → Option α} {r : α} (h : Ev (fun k => g (k + 1)) r) : Ev g r := by
  obtain ⟨K, h⟩ := h
  refine ⟨K + 1, fun k hk => ?_⟩
  obtain ⟨m, rfl⟩ : ∃ m, k = m + 1 := ⟨k - 1, by omega⟩
  exact h m (by omega)
theorem Ev.val {α : Type} (r : α) : Ev (fun _ => some r) r := ⟨0, fun _ _ => rfl⟩
theorem Ev.bind {α β : Type} {g : Nat → Option α} {f : Nat → α → Option β} {x : α} {r : β} (h : Ev g x) (h' : Ev (fun k => f k x) r) : Ev (fun k => (g k).bind (f k)) r := by
  obtain ⟨K, h⟩ := h
  obtain ⟨K', h'⟩ := h'
  exact ⟨max K K', fun k hk => by show (g k).bind (f k) = some r; rw [h k (by omega)]; exact h' k (by omega)⟩
theorem Ev.get {α : Type} {g : Nat → Option α} {r : α} (h : Ev g r) : ∃ k, g k = some r := by
  obtain ⟨K, h⟩ := h
  exact ⟨K, h K (Nat.le_refl _)⟩
theorem Ev.of {α : Type} {g : Nat → Option α} {r : α} {k0 : Nat} (h : g k0 = some r) (hm : ∀ k, LeO (g k) (g (k + 1))) : Ev g r := ⟨k0, fun _ hk => at_rounds hm hk h⟩
theorem Ev.pos {α : Type} {c : Prop} [Decidable c] {a b : Nat → Option α} {r : α} (hc : c) (h : Ev a r) : Ev (fun k => if c then a k else b k) r := by
  obtain ⟨K, h⟩ := h
  exact ⟨K, fun k hk => by show (if c then a k else b k) = some r; rw [if_pos hc]; exact h k hk⟩
theorem Ev.neg {α : Type} {c : Prop} [Decidable c] {a b : Nat → Option α} {r : α} (hc : ¬ c) (h : Ev b r) : Ev (fun k => if c then a k else b k) r := by
  obtain ⟨K, h⟩ := h
  exact ⟨K, fun k hk => by show (if c then a k else b k) = some r; rw [if_neg hc]; exact h k hk⟩
/-- Both ways, each where it is taken. -/
theorem Ev.ite {α : Type} {c : Prop} [Decidable c] {a b : Nat → Option α} {r : α} (h : c → Ev a r) (h' : ¬ c → Ev b r) : Ev (fun k => if c then a k else b k) r := by
  by_cases hc : c
  · exact Ev.pos hc (h hc)
  · exact Ev.neg hc (h' hc)
theorem wrap_small {n : Int} (h0 : -9223372036854775808 ≤ n) (h1 : n ≤ 9223372036854775807) : wrap64 n = n := by unfold wrap64; omega
/-- Both ways, each with its own end. -/
theorem Ev.both {α : Type} {c : Prop} [Decidable c] {a b : Nat → Option α} {r s : α} (h : c → Ev a r) (h' : ¬ c → Ev b s) : Ev (fun k => if c then a k else b k) (if c then r else s) := by
  by_cases hc : c
  · rw [if_pos hc]; exact Ev.pos hc (h hc)
  · rw [if_neg hc]; exact Ev.neg hc (h' hc)
theorem Ev.valOf {α : Type} {r s : α} (h : s = r) : Ev (fun _ => some r) s := by subst h; exact Ev.val _
theorem and32 (n : Int) : Go.bits .and .i64 n 4294967295 = n % 4294967296 := by
  have h127 : (BitVec.ofInt 64 4294967295).toNat = 2 ^ 32 - 1 := by decide
  have key : (BitVec.ofInt 64 n &&& BitVec.ofInt 64 4294967295).toNat = (n % ((2 ^ 64 : Nat) : Int)).toNat % 2 ^ 32 := by
    rw [BitVec.toNat_and, BitVec.toNat_ofInt, h127, Nat.and_two_pow_sub_one_eq_mod]
  show IntKind.i64.wrap ((BitVec.ofInt 64 n &&& BitVec.ofInt 64 4294967295).toNat : Nat) = n % 4294967296
  rw [key, IntKind.wrap_i64]
  omega
/-- Is a number money? -/
def fitB (n : Int) : Bool := decide (-1152921504606846976 ≤ n ∧ n ≤ 1152921504606846976)
def sumI (l : List Int) : Int := l.foldr (· + ·) 0
/-- All together, or why that is not told. -/
def smV (l : List Int) (s : Int) : Int × Int := if l.all fitB = true then (if fitB (s + sumI l) = true then (s + sumI l, 0) else (0, 3)) else (0, 2)
theorem fits_some (n : Int) : cents_Fits.f n = some (fitB n) := by
  unfold cents_Fits.f fitB
  by_cases h : n ≥ -1152921504606846976
  · rw [if_pos h]
    congr 1
    exact decide_eq_decide.mpr ⟨fun h2 => ⟨h, h2⟩, fun h2 => h2.2⟩
  · rw [if_neg h]
    congr 1
    exact (decide_eq_false (by omega)).symm
theorem fitting_some (n : Int) : cents_fitting.f n = some (if fitB n = true then (n, 0) else (0, 3)) := by
  unfold cents_fitting.f
  rw [fits_some]
  simp only [Option.bind_some]
  split <;> rfl
theorem sumEnd (hi lo : Int) (h1 : -1152921504606846976 ≤ hi ∧ hi ≤ 1152921504606846976) (h2 : 0 ≤ lo ∧ lo ≤ 1152921504606846976) :
    (if (wrap64 (hi + (lo / 4294967296))) < (-268435456) then (some ((0 : Int), (3 : Int))) else (if (wrap64 (hi + (lo / 4294967296))) > 268435456 then (some (0, 3)) else ((cents_fitting.f (wrap64 ((wrap64 ((wrap64 (hi + (lo / 4294967296))) * 4294967296)) + (Go.bits .and .i64 lo 4294967295)))).bind fun bt => (some (bt.1, bt.2))))) = some (if fitB (hi * 4294967296 + lo) = true then (hi * 4294967296 + lo, 0) else (0, 3)) := by
  have e1 : wrap64 (hi + lo / 4294967296) = hi + lo / 4294967296 := wrap_small (by omega) (by omega)
  rw [e1, and32]
  by_cases c1 : hi + lo / 4294967296 < -268435456
  · rw [if_pos c1, if_neg]
    unfold fitB
    simp only [decide_eq_true_eq]
    omega
  · rw [if_neg c1]
    by_cases c2 : hi + lo / 4294967296 > 268435456
    · rw [if_pos c2, if_neg]
      unfold fitB
      simp only [decide_eq_true_eq]
      omega
    · rw [if_neg c2]
      have e2 : wrap64 ((hi + lo / 4294967296) * 4294967296) = (hi + lo / 4294967296) * 4294967296 := wrap_small (by omega) (by omega)
      have e3 : wrap64 ((hi + lo / 4294967296) * 4294967296 + lo % 4294967296) = hi * 4294967296 + lo := by
        rw [wrap_small (by omega) (by omega)]
        omega
      rw [e2, e3, fitting_some]
      rfl
theorem sumL (l : List Int) (hl : l.length ≤ 1000000) (n : Nat) : ∀ (i : Nat) (hi lo : Int), l.length - i = n → i ≤ l.length → -(268435456 * (i : Int)) ≤ hi → hi ≤ 268435456 * (i : Int) → 0 ≤ lo → lo ≤ 4294967296 * (i : Int) →
    Ev (fun k => cents_Sum.l0 k l hi lo (l.length : Int) (i : Int)) (smV (l.drop i) (hi * 4294967296 + lo)) := by
  induction n with
  | zero =>
    intro i hi lo hd hle h1 h2 h3 h4
    refine Ev.shift ?_
    simp only [cents_Sum.l0]
    rw [List.drop_eq_nil_of_le (by omega)]
    refine Ev.neg (by omega) ?_
    rw [sumEnd hi lo (by omega) (by omega)]
    exact Ev.valOf (by simp [smV, sumI])
  | succ n ih =>
    intro i hi lo hd hle h1 h2 h3 h4
    have hlt : i < l.length := by omega
    have hw : wrap64 ((i : Int) + 1) = ((i + 1 : Nat) : Int) := by unfold wrap64; omega
    refine Ev.shift ?_
    simp only [cents_Sum.l0, hw]
    have hr : rd l (i : Int) = l[i] := by simp [rd, List.getD_eq_getElem?_getD, hlt]
    rw [hr, List.drop_eq_getElem_cons hlt]
    refine Ev.pos (by omega) (Ev.pos (by omega) (Ev.pos (by omega) ?_))
    rw [fits_some, and32]
    simp only [Option.bind_some]
    by_cases hf : fitB l[i] = true
    · refine Ev.pos hf ?_
      have hf2 := hf
      unfold fitB at hf2
      simp only [decide_eq_true_eq] at hf2
      have e1 : wrap64 (hi + l[i] / 4294967296) = hi + l[i] / 4294967296 := wrap_small (by omega) (by omega)
      have e2 : wrap64 (lo + l[i] % 4294967296) = lo + l[i] % 4294967296 := wrap_small (by omega) (by omega)
      rw [e1, e2]
      have h := ih (i + 1) (hi + l[i] / 4294967296) (lo + l[i] % 4294967296) (by omega) (by omega) (by omega) (by omega) (by omega) (by omega)
      have e3 : smV (l[i] :: l.drop (i + 1)) (hi * 4294967296 + lo) = smV (l.drop (i + 1)) ((hi + l[i] / 4294967296) * 4294967296 + (lo + l[i] % 4294967296)) := by
        unfold smV
        rw [List.all_cons, hf, Bool.true_and]
        have e4 : hi * 4294967296 + lo + sumI (l[i] :: l.drop (i + 1)) = (hi + l[i] / 4294967296) * 4294967296 + (lo + l[i] % 4294967296) + sumI (l.drop (i + 1)) := by
          have : sumI (l[i] :: l.drop (i + 1)) = l[i] + sumI (l.drop (i + 1)) := rfl
          rw [this]
          omega
        rw [e4]
      rw [e3]
      exact h
    · have e : smV (l[i] :: l.drop (i + 1)) (hi * 4294967296 + lo) = (0, 2) := by
        unfold smV
        rw [List.all_cons, Bool.eq_false_iff.mpr hf, Bool.false_and]
        rfl
      rw [e]
      exact Ev.neg hf (Ev.val _)
/-- The sum of numbers of money, or why it is not told. -/
def sm (l : List Int) : Int × Int := smV l 0
theorem sm_ev (l : List Int) (hl : l.length ≤ 1000000) : Ev (fun k => cents_Sum.f k l) (sm l) := by
  simp only [cents_Sum.f]
  exact sumL l hl l.length 0 0 0 (by omega) (by omega) (by omega) (by omega) (by omega) (by omega)
/-- A band of the document as one of the program. -/
def cv (x : S73) : S70 := ⟨x.f0, x.f1⟩
/-- May a band stand behind another one? -/
def bdT (f r p q : Int) : Bool := decide (f < p ∧ p ≤ 1152921504606846976 ∧ 0 ≤ q ∧ q ≤ r)
theorem bdT_no {f r p q : Int} (h : ¬ (f < p ∧ p ≤ 1152921504606846976 ∧ 0 ≤ q ∧ q ≤ r)) : bdT f r p q = false := decide_eq_false h
theorem bdT_yes {f r p q : Int} (h : f < p ∧ p ≤ 1152921504606846976 ∧ 0 ≤ q ∧ q ≤ r) : bdT f r p q = true := decide_eq_true h
/-- Bands that rise in From and don't in Rate. -/
def bdG (f r : Int) : List S70 → Bool
  | [] => true
  | b :: t => bdT f r b.f0 b.f1 && bdG b.f0 b.f1 t
/-- The answer to whether bands may be. -/
def bdV (b : Bool) : Int := cond b 0 2
def bdH (l : List S70) : Int := (rd_T70 l 0).f0
/-- What may be wrong with bands. -/
def bdC (l : List S70) : Int := if l.length = 0 ∨ l.length > 1024 then 8 else if bdH l = 0 then bdV (bdG (-1) 68719476736 l) else 2
theorem rd_bf (l : List S70) (i : Nat) (h : i < l.length) : rd_T70 l (i : Int) = l[i] := by simp [rd_T70, h]
theorem rd_br (l : List S73) (i : Nat) (h : i < l.length) : rd_T73 l (i : Int) = l[i] := by simp [rd_T73, h]
theorem succ_w (i n : Nat) (h : i < n) (hn : n ≤ 9223372036854775806) : wrap64 ((i : Int) + 1) = ((i + 1 : Nat) : Int) := by unfold wrap64; omega
theorem bandsL (l : List S73) (hl : l.length ≤ 8796093022200) (n : Nat) : ∀ (i : Nat) (t : List S70), l.length - i = n → i ≤ l.length → t.length = i →
    Ev (fun k => contangolaw38_Bands.l0 k l t (i : Int)) (t ++ (l.drop i).map cv) := by
  induction n with
  | zero =>
    intro i t hi hle ht
    refine Ev.shift ?_
    simp only [contangolaw38_Bands.l0]
    rw [List.drop_eq_nil_of_le (by omega), List.map_nil, List.append_nil]
    exact Ev.neg (by omega) (Ev.val _)
  | succ n ih =>
    intro i t hi hle ht
    have hlt : i < l.length := by omega
    refine Ev.shift ?_
    simp only [contangolaw38_Bands.l0, rd_br l i hlt, succ_w i l.length hlt (by omega)]
    rw [List.drop_eq_getElem_cons hlt, List.map_cons]
    refine Ev.pos (by omega) (Ev.pos (by omega) (Ev.pos (by omega) ?_))
    have := ih (i + 1) (t ++ [cv l[i]]) (by omega) (by omega) (by simp [ht])
    rw [List.append_assoc] at this
    exact this
theorem bands_ev (l : List S73) (hl : l.length ≤ 8796093022200) : Ev (fun k => contangolaw38_Bands.f k l) (l.map cv) := by
  have := bandsL l hl l.length 0 [] (by omega) (by omega) rfl
  rw [List.drop_zero, List.nil_append] at this
  exact this
theorem may_some (a b c d : Int) : fee_Band_may.f a b c d = some (bdT c d a b) := by
  unfold fee_Band_may.f
  by_cases h0 : eqD70 a c b d = true
  · rw [if_pos h0]
    unfold eqD70 at h0
    simp only [Bool.and_eq_true, beq_iff_eq] at h0
    rw [bdT_no (by omega)]
  · rw [if_neg h0]
    clear h0
    by_cases h1 : a > c
    · rw [if_pos h1]
      by_cases h2 : a ≤ 1152921504606846976
      · rw [if_pos h2]
        by_cases h3 : b ≥ 0
        · rw [if_pos h3]; exact congrArg some (decide_eq_decide.mpr (by omega))
        · rw [if_neg h3]; rw [bdT_no (by omega)]
      · rw [if_neg h2]; rw [bdT_no (by omega)]
    · rw [if_neg h1]; rw [bdT_no (by omega)]
theorem chkfL (l : List S70) (hl : l.length ≤ 1024) (n : Nat) : ∀ (i : Nat) (f r : Int), l.length - i = n → i ≤ l.length →
    Ev (fun k => fee_Check.l0 k l (l.length : Int) (i : Int) f r) (bdV (bdG f r (l.drop i))) := by
  induction n with
  | zero =>
    intro i f r hi hle
    refine Ev.shift ?_
    simp only [fee_Check.l0]
    rw [List.drop_eq_nil_of_le (by omega)]
    exact Ev.neg (by omega) (Ev.valOf rfl)
  | succ n ih =>
    intro i f r hi hle
    have hlt : i < l.length := by omega
    refine Ev.shift ?_
    simp only [fee_Check.l0, rd_bf l i hlt, succ_w i l.length hlt (by omega), may_some, Option.bind_some]
    rw [List.drop_eq_getElem_cons hlt]
    refine Ev.pos (by omega) (Ev.pos (by omega) (Ev.pos (by omega) ?_))
    simp only [bdG]
    by_cases h : f < l[i].f0 ∧ l[i].f0 ≤ 1152921504606846976 ∧ 0 ≤ l[i].f1 ∧ l[i].f1 ≤ r
    · rw [bdT_yes h, Bool.true_and]
      exact Ev.pos rfl (ih (i + 1) _ _ (by omega) (by omega))
    · rw [bdT_no h, Bool.false_and]
      exact Ev.neg (by decide) (Ev.val _)
theorem bdC_ev (l : List S70) : Ev (fun k => fee_Check.f k l) (bdC l) := by
  have key : ∀ b : Bool, (b = false → l.length ≤ 1024 ∧ 0 < l.length) → Ev (fun k => fee_Check.j0 k l b) (if b = true then 8 else if bdH l = 0 then bdV (bdG (-1) 68719476736 l) else 2) := by
    intro b hb
    refine Ev.shift ?_
    simp only [fee_Check.j0]
    refine Ev.both (fun _ => Ev.val _) (fun h => ?_)
    obtain ⟨h1, h2⟩ := hb (by simpa using h)
    refine Ev.pos (by omega) (Ev.both (fun _ => ?_) (fun _ => Ev.val _))
    have := chkfL l h1 l.length 0 (-1) 68719476736 (by omega) (by omega)
    rwa [List.drop_zero] at this
  simp only [fee_Check.f]
  unfold bdC
  by_cases h0 : l.length = 0
  · rw [if_pos (.inl h0)]
    refine Ev.pos (by omega) ?_
    have := key true (fun h => by cases h)
    rwa [if_pos rfl] at this
  · refine Ev.neg (by omega) ?_
    by_cases h1 : l.length > 1024
    · rw [if_pos (.inr h1)]
      have := key (decide ((l.length : Int) > 1024)) (fun h => by simp at h; omega)
      rwa [if_pos (by simp; omega)] at this
    · rw [if_neg (fun h => h.elim h0 h1)]
      have := key (decide ((l.length : Int) > 1024)) (fun h => by omega)
      rwa [if_neg (by simp; omega)] at this
theorem chkrL (l : List S73) (hl : l.length ≤ 1024) (n : Nat) : ∀ (i : Nat) (h0 : 0 < i), l.length - i = n → (hle : i ≤ l.length) → (l[i - 1]'(by omega)).f1 ≤ 68719476736 →
    Ev (fun k => contangoref38_Check.l0 k l (i : Int)) (bdV (bdG (l[i - 1]'(by omega)).f0 (l[i - 1]'(by omega)).f1 ((l.drop i).map cv))) := by
  induction n with
  | zero =>
    intro i h0 hi hle hr
    refine Ev.shift ?_
    simp only [contangoref38_Check.l0]
    rw [List.drop_eq_nil_of_le (by omega)]
    exact Ev.neg (by omega) (Ev.valOf rfl)
  | succ n ih =>
    intro i h0 hi hle hr
    have hlt : i < l.length := by omega
    have hw2 : wrap64 ((i : Int) - 1) = ((i - 1 : Nat) : Int) := by unfold wrap64; omega
    have ih2 := ih (i + 1) (by omega) (by omega) (by omega)
    refine Ev.shift ?_
    simp only [contangoref38_Check.l0, rd_br l i hlt, hw2, rd_br l (i - 1) (by omega)]
    rw [List.drop_eq_getElem_cons hlt, List.map_cons]
    refine Ev.pos (by omega) (Ev.neg (by omega) (Ev.pos (by omega) (Ev.pos (by omega) (Ev.pos (by omega) (Ev.pos (by omega) ?_)))))
    have j2 : ∀ b : Bool, Ev (fun k => contangoref38_Check.j2 k l (i : Int) b) (if b = true then 2 else if l[i].f1 < 0 then 2 else if l[i].f1 > 68719476736 then 2 else if l[i].f1 > (l[i - 1]'(by omega)).f1 then 2 else bdV (bdG l[i].f0 l[i].f1 ((l.drop (i + 1)).map cv))) := by
      intro b
      refine Ev.shift ?_
      simp only [contangoref38_Check.j2, rd_br l i hlt, hw2, rd_br l (i - 1) (by omega), succ_w i l.length hlt (by omega)]
      refine Ev.both (fun _ => Ev.val _) (fun _ => Ev.pos (by omega) (Ev.pos (by omega) (Ev.both (fun _ => Ev.val _) (fun _ => Ev.both (fun _ => Ev.val _) (fun h3 => Ev.pos (by omega) (Ev.pos (by omega) (Ev.pos (by omega) (Ev.both (fun _ => Ev.val _) (fun _ => ?_)))))))))
      exact ih2 (by simpa using h3)
    simp only [bdG, cv]
    generalize hbd : bdG l[i].f0 l[i].f1 ((l.drop (i + 1)).map cv) = bd at *
    clear ih hbd
    by_cases c1 : l[i].f0 ≤ l[i - 1].f0
    · rw [bdT_no (by omega), Bool.false_and, show bdV false = 2 from rfl]
      refine Ev.pos c1 ?_
      have := j2 true
      rwa [if_pos rfl] at this
    · refine Ev.neg c1 ?_
      by_cases c2 : l[i].f0 > 1152921504606846976
      · have := j2 true
        rw [if_pos rfl] at this
        rw [show decide (l[i].f0 > 1152921504606846976) = true from decide_eq_true c2, bdT_no (by omega), Bool.false_and, show bdV false = 2 from rfl]; exact this
      have := j2 false
      rw [if_neg (by decide)] at this
      rw [show decide (l[i].f0 > 1152921504606846976) = false from decide_eq_false c2]
      by_cases c3 : l[i].f1 < 0
      · rw [if_pos c3] at this
        rw [bdT_no (by omega), Bool.false_and, show bdV false = 2 from rfl]; exact this
      rw [if_neg c3] at this
      by_cases c4 : l[i].f1 > 68719476736
      · rw [if_pos c4] at this
        rw [bdT_no (by omega), Bool.false_and, show bdV false = 2 from rfl]; exact this
      rw [if_neg c4] at this
      by_cases c5 : l[i].f1 > l[i - 1].f1
      · rw [if_pos c5] at this
        rw [bdT_no (by omega), Bool.false_and, show bdV false = 2 from rfl]; exact this
      rw [if_neg c5] at this
      rw [bdT_yes (by omega), Bool.true_and]; exact this
theorem bdCr_ev (l : List S73) : Ev (fun k => contangoref38_Check.f k l) (bdC (l.map cv)) := by
  have key : ∀ b : Bool, (b = false → l.length ≤ 1024 ∧ 0 < l.length) → Ev (fun k => contangoref38_Check.j0 k l b) (if b = true then 8 else if bdH (l.map cv) = 0 then bdV (bdG (-1) 68719476736 (l.map cv)) else 2) := by
    intro b hb
    refine Ev.shift ?_
    simp only [contangoref38_Check.j0]
    refine Ev.both (fun _ => Ev.val _) (fun h => ?_)
    obtain ⟨h1, h2⟩ := hb (by simpa using h)
    have hd : bdH (l.map cv) = l[0].f0 := by
      unfold bdH
      rw [show (0 : Int) = ((0 : Nat) : Int) from rfl, rd_bf (l.map cv) 0 (by simpa using h2), List.getElem_map]
      rfl
    have hr0 : rd_T73 l 0 = l[0] := rd_br l 0 h2
    have e0 : l.map cv = cv l[0] :: (l.drop 1).map cv := by
      cases l with
      | nil => simp at h2
      | cons a t => rfl
    refine Ev.shift ?_
    simp only [contangoref38_Check.l0, hr0]
    refine Ev.pos (by omega) (Ev.pos (by trivial) (Ev.pos (by omega) ?_))
    rw [hd]
    have j2 : ∀ b : Bool, Ev (fun k => contangoref38_Check.j2 k l 0 b) (if b = true then 2 else if l[0].f1 < 0 then 2 else if l[0].f1 > 68719476736 then 2 else bdV (bdG l[0].f0 l[0].f1 ((l.drop 1).map cv))) := by
      intro b
      refine Ev.shift ?_
      simp only [contangoref38_Check.j2, hr0]
      refine Ev.both (fun _ => Ev.val _) (fun _ => Ev.pos (by omega) (Ev.pos (by omega) (Ev.both (fun _ => Ev.val _) (fun _ => Ev.both (fun _ => Ev.val _) (fun h3 => Ev.neg (by omega) ?_)))))
      rw [show wrap64 (0 + 1) = ((1 : Nat) : Int) from by unfold wrap64; omega]
      exact chkrL l h1 (l.length - 1) 1 (by omega) (by omega) (by omega) (show l[0].f1 ≤ 68719476736 by omega)
    rw [e0]
    simp only [bdG, cv]
    generalize bdG l[0].f0 l[0].f1 ((l.drop 1).map cv) = bd at *
    clear hd hr0 e0
    by_cases c0 : l[0].f0 = 0
    · rw [if_pos c0]
      refine Ev.pos c0 (Ev.neg (by omega) ?_)
      have := j2 false
      rw [if_neg (by decide)] at this
      rw [show decide (l[0].f0 > 1152921504606846976) = false from decide_eq_false (by omega)]
      by_cases c3 : l[0].f1 < 0
      · rw [if_pos c3] at this
        rw [bdT_no (by omega), Bool.false_and, show bdV false = 2 from rfl]; exact this
      rw [if_neg c3] at this
      by_cases c4 : l[0].f1 > 68719476736
      · rw [if_pos c4] at this
        rw [bdT_no (by omega), Bool.false_and, show bdV false = 2 from rfl]; exact this
      rw [if_neg c4] at this
      rw [bdT_yes (by omega), Bool.true_and]; exact this
    · rw [if_neg c0]
      refine Ev.neg c0 ?_
      have := j2 true
      rwa [if_pos rfl] at this
  simp only [contangoref38_Check.f]
  unfold bdC
  rw [List.length_map]
  by_cases h0 : l.length = 0
  · rw [if_pos (.inl h0)]
    refine Ev.pos (by omega) ?_
    have := key true (fun h => by cases h)
    rwa [if_pos rfl] at this
  · refine Ev.neg (by omega) ?_
    by_cases h1 : l.length > 1024
    · rw [if_pos (.inr h1)]
      have := key (decide ((l.length : Int) > 1024)) (fun h => by simp at h; omega)
      rwa [if_pos (by simp; omega)] at this
    · rw [if_neg (fun h => h.elim h0 h1)]
      have := key (decide ((l.length : Int) > 1024)) (fun h => by omega)
      rwa [if_neg (by simp; omega)] at this
theorem andu32 (n : Int) (h0 : 0 ≤ n) (h1 : n ≤ 18446744073709551615) : Go.bits .and .u64 n 4294967295 = n % 4294967296 := by
  have h127 : (BitVec.ofInt 64 4294967295).toNat = 2 ^ 32 - 1 := by decide
  have key : (BitVec.ofInt 64 n &&& BitVec.ofInt 64 4294967295).toNat = (n % ((2 ^ 64 : Nat) : Int)).toNat % 2 ^ 32 := by
    rw [BitVec.toNat_and, BitVec.toNat_ofInt, h127, Nat.and_two_pow_sub_one_eq_mod]
  show IntKind.u64.wrap ((BitVec.ofInt 64 n &&& BitVec.ofInt 64 4294967295).toNat : Nat) = n % 4294967296
  rw [key, IntKind.wrap_u64]
  omega
theorem wrapu_small {n : Int} (h0 : 0 ≤ n) (h1 : n ≤ 18446744073709551615) : IntKind.u64.wrap n = n := by rw [IntKind.wrap_u64]; omega
/-- The product of a rate and a number of lots, in two words. -/
theorem mul_two (a b : Int) (a0 : 0 ≤ a) (a1 : a ≤ 68719476736) (b0 : 0 ≤ b) (b1 : b ≤ 2147483648) : bits_Mul64.f a b = some (a * b / 18446744073709551616, IntKind.u64.wrap (a * b)) := by
  unfold bits_Mul64.f
  congr 2
  have hb : b / 4294967296 = 0 := by omega
  rw [hb, andu32 b b0 (by omega), andu32 a a0 (by omega), show b % 4294967296 = b by omega]
  have hp : 0 ≤ a / 4294967296 * b ∧ a / 4294967296 * b ≤ 16 * 2147483648 := ⟨Int.mul_nonneg (by omega) b0, Int.mul_le_mul (by omega) b1 b0 (by omega)⟩
  have hq : 0 ≤ a % 4294967296 * b ∧ a % 4294967296 * b ≤ 4294967295 * 2147483648 := ⟨Int.mul_nonneg (by omega) b0, Int.mul_le_mul (by omega) b1 b0 (by omega)⟩
  have hab : a * b = a / 4294967296 * b * 4294967296 + a % 4294967296 * b := by
    have h : a = a / 4294967296 * 4294967296 + a % 4294967296 := by omega
    have h2 : a * b = (a / 4294967296 * 4294967296 + a % 4294967296) * b := congrArg (· * b) h
    rw [h2, Int.add_mul, Int.mul_right_comm]
  rw [Int.mul_zero, Int.mul_zero, hab]
  generalize a / 4294967296 * b = P at *
  generalize a % 4294967296 * b = Q at *
  clear hab
  rw [wrapu_small (n := 0) (by omega) (by omega), wrapu_small (n := P) (by omega) (by omega), wrapu_small (n := Q) (by omega) (by omega), wrapu_small (n := P + Q / 4294967296) (by omega) (by omega), andu32 (P + Q / 4294967296) (by omega) (by omega)]
  rw [wrapu_small (n := 0 + (P + Q / 4294967296) / 4294967296) (by omega) (by omega), wrapu_small (n := (P + Q / 4294967296) % 4294967296 + 0) (by omega) (by omega), wrapu_small (by omega) (by omega)]
  omega
/-- A product that is money, or none. -/
def mu (a b : Int) : Int × Int := if a * b ≤ 1152921504606846976 then (a * b, 0) else (0, 3)
theorem mu_yes {a b : Int} (h : a * b ≤ 1152921504606846976) : mu a b = (a * b, 0) := if_pos h
theorem mu_no {a b : Int} (h : ¬ a * b ≤ 1152921504606846976) : mu a b = (0, 3) := if_neg h
theorem mul_ev (a b : Int) (a0 : 0 ≤ a) (a1 : a ≤ 68719476736) (b0 : 0 ≤ b) (b1 : b ≤ 2147483648) : Ev (fun k => cents_Mul.f k a b) (mu a b) := by
  have ha : fitB a = true := by unfold fitB; simp only [decide_eq_true_eq]; omega
  have hb : fitB b = true := by unfold fitB; simp only [decide_eq_true_eq]; omega
  have hp : 0 ≤ a * b ∧ a * b ≤ 68719476736 * 2147483648 := ⟨Int.mul_nonneg a0 b0, Int.mul_le_mul a1 b1 b0 (by omega)⟩
  have sz : ∀ x : Int, 0 ≤ x → x ≤ 68719476736 → cents_size.f x = some x := fun x x0 x1 => by
    unfold cents_size.f
    rw [if_neg (by omega), wrapu_small x0 (by omega)]
  simp only [cents_Mul.f, fits_some, ha, hb, Option.bind_some, Bool.not_true]
  refine Ev.pos (by trivial) (Ev.shift ?_)
  simp only [cents_Mul.j0, sz a a0 a1, sz b b0 (by omega), mul_two a b a0 a1 b0 b1, Option.bind_some]
  refine Ev.neg (by decide) ?_
  have hs : ((decide (a < 0)) != (decide (b < 0))) = false := by rw [decide_eq_false (by omega : ¬ a < 0), decide_eq_false (by omega : ¬ b < 0)]; rfl
  rw [hs]
  by_cases h : a * b / 18446744073709551616 > 0
  · rw [mu_no (by omega)]
    exact Ev.pos h (Ev.val _)
  · refine Ev.neg h ?_
    rw [wrapu_small (by omega) (by omega)]
    unfold cents_signed.f
    by_cases h2 : a * b > 1152921504606846976
    · rw [mu_no (by omega), if_pos h2]
      exact Ev.val _
    · rw [mu_yes (by omega), if_neg h2, if_neg (by decide), wrap_small (by omega) (by omega)]
      exact Ev.val _
theorem cost_ev (f a b : Int) (a0 : 0 ≤ a) (a1 : a ≤ 68719476736) (b0 : 0 ≤ b) (b1 : b ≤ 2147483648) : Ev (fun k => fee_Band_cost.f k f a b) (mu a b) := by
  simp only [fee_Band_cost.f]
  exact Ev.bind (mul_ev a b a0 a1 b0 b1) (Ev.val _)
theorem fitsr_some (n : Int) : contangoref01_Fits.f n = some (fitB n) := by
  unfold contangoref01_Fits.f fitB
  by_cases h : n ≥ -1152921504606846976
  · rw [if_pos h]
    congr 1
    exact decide_eq_decide.mpr ⟨fun h2 => ⟨h, h2⟩, fun h2 => h2.2⟩
  · rw [if_neg h]
    congr 1
    exact (decide_eq_false (by omega)).symm
theorem mulr_ev (a b : Int) (a0 : 0 ≤ a) (a1 : a ≤ 68719476736) (b0 : 0 ≤ b) (b1 : b ≤ 2147483648) : Ev (fun k => contangoref01_Mul.f k b a) (mu a b) := by
  have ha : fitB a = true := by unfold fitB; simp only [decide_eq_true_eq]; omega
  have hb : fitB b = true := by unfold fitB; simp only [decide_eq_true_eq]; omega
  have hp : 0 ≤ a * b ∧ a * b ≤ 68719476736 * 2147483648 := ⟨Int.mul_nonneg a0 b0, Int.mul_le_mul a1 b1 b0 (by omega)⟩
  have sz : ∀ x : Int, 0 ≤ x → contangoref01_size.f x = some x := fun x x0 => by
    unfold contangoref01_size.f
    rw [if_neg (by omega)]
  simp only [contangoref01_Mul.f, fitsr_some, ha, hb, Option.bind_some, Bool.not_true]
  refine Ev.pos (by trivial) (Ev.shift ?_)
  simp only [contangoref01_Mul.j0, sz a a0, sz b b0, Option.bind_some]
  refine Ev.neg (by decide) ?_
  by_cases h0 : b = 0
  · subst h0
    rw [mu_yes (by omega), Int.mul_zero, Int.zero_mul, wrap_small (by omega) (by omega)]
    exact Ev.pos (by trivial) (Ev.val _)
  · refine Ev.neg h0 (Ev.neg h0 ?_)
    rw [Int.tdiv_eq_ediv_of_nonneg (by omega)]
    have hd : a ≤ 1152921504606846976 / b ↔ a * b ≤ 1152921504606846976 := Int.le_ediv_iff_mul_le (by omega)
    have hd2 : 0 ≤ 1152921504606846976 / b ∧ 1152921504606846976 / b ≤ 1152921504606846976 := ⟨Int.ediv_nonneg (by omega) b0, Int.ediv_le_self _ (by omega)⟩
    rw [wrap_small (n := 1152921504606846976 / b) (by omega) (by omega)]
    by_cases h : a > 1152921504606846976 / b
    · rw [mu_no (fun h2 => by have := hd.mpr h2; omega)]
      exact Ev.pos h (Ev.val _)
    · have h2 := hd.mp (by omega)
      rw [mu_yes h2, Int.mul_comm b a, wrap_small (by omega) (by omega)]
      exact Ev.neg h (Ev.val _)
/-- Lots of a band. -/
def lotB (a e : Int) (b : S70) (r : List S70) : Int := mx (fee_Lots.to e r - mx b.f0 a) 0
/-- What each band costs. -/
def csts (a e : Int) : List S70 → List Int
  | [] => []
  | b :: r => b.f1 * lotB a e b r :: csts a e r
def mnyB (n : Int) : Bool := decide (n ≤ 1152921504606846976)
/-- Bands as they go on behind others. -/
theorem lotB_bd {f r0 : Int} {b : S70} {r : List S70} (h : bdG f r0 (b :: r) = true) (hf : -1 ≤ f) (hr : r0 ≤ 68719476736) {a e : Int} (ha : 0 ≤ a ∧ a ≤ 1073741824) (he : 0 ≤ e ∧ e ≤ 2147483648) :
    wrap64 (fee_Lots.to e r - mx b.f0 a) = fee_Lots.to e r - mx b.f0 a ∧ (0 ≤ lotB a e b r ∧ lotB a e b r ≤ 2147483648) ∧ (0 ≤ b.f1 ∧ b.f1 ≤ 68719476736) ∧ (-1 ≤ b.f0) ∧ bdG b.f0 b.f1 r = true := by
  have h1 : bdT f r0 b.f0 b.f1 = true ∧ bdG b.f0 b.f1 r = true := by simpa only [bdG, Bool.and_eq_true] using h
  obtain ⟨h1, h2⟩ := h1
  have h1 := of_decide_eq_true h1
  have ht : 0 ≤ fee_Lots.to e r ∧ fee_Lots.to e r ≤ 2147483648 := by
    cases r with
    | nil => exact he
    | cons c t =>
      have h3 : bdT b.f0 b.f1 c.f0 c.f1 = true ∧ bdG c.f0 c.f1 t = true := by simpa only [bdG, Bool.and_eq_true] using h2
      have h3 := of_decide_eq_true h3.1
      simp only [fee_Lots.to, mn]
      split <;> omega
  have hm : 0 ≤ mx b.f0 a ∧ mx b.f0 a ≤ 1152921504606846976 := by
    simp only [mx]
    split <;> omega
  refine ⟨wrap_small (by omega) (by omega), ?_, by omega, by omega, h2⟩
  unfold lotB
  generalize fee_Lots.to e r = T at *
  generalize mx b.f0 a = M at *
  simp only [mx]
  split <;> omega
theorem goL (a e : Int) (ha : 0 ≤ a ∧ a ≤ 1073741824) (he : 0 ≤ e ∧ e ≤ 2147483648) (l : List S70) : ∀ (t : List Int) (f r0 : Int), bdG f r0 l = true → -1 ≤ f → r0 ≤ 68719476736 → t.length + l.length ≤ 1024 →
    Ev (fun k => fee_Lots.go k a e l t) (if (csts a e l).all mnyB = true then (t ++ csts a e l, 0) else ([], 3)) := by
  induction l with
  | nil =>
    intro t f r0 _ _ _ _
    exact Ev.valOf (by simp [csts])
  | cons b r ih =>
    intro t f r0 h hf hr hl
    obtain ⟨w1, w2, w3, w4, w5⟩ := lotB_bd h hf hr ha he
    simp only [List.length_cons] at hl
    simp only [fee_Lots.go, w1]
    refine Ev.bind (cost_ev b.f0 b.f1 (lotB a e b r) w3.1 w3.2 w2.1 w2.2) ?_
    rw [show csts a e (b :: r) = b.f1 * lotB a e b r :: csts a e r from rfl, List.all_cons]
    by_cases hc : b.f1 * lotB a e b r ≤ 1152921504606846976
    · rw [mu_yes hc, show mnyB (b.f1 * lotB a e b r) = true from decide_eq_true hc, Bool.true_and]
      refine Ev.pos rfl (Ev.pos (by omega) ?_)
      have := ih (t ++ [b.f1 * lotB a e b r]) b.f0 b.f1 w5 w4 w3.2 (by simp; omega)
      rw [List.append_assoc] at this
      exact this
    · rw [mu_no hc, show mnyB (b.f1 * lotB a e b r) = false from decide_eq_false hc, Bool.false_and]
      refine Ev.neg (by show ¬ ((3 : Int) = 0); decide) (Ev.val _)
theorem csts_nn (a e : Int) (ha : 0 ≤ a ∧ a ≤ 1073741824) (he : 0 ≤ e ∧ e ≤ 2147483648) (l : List S70) : ∀ (f r0 : Int), bdG f r0 l = true → -1 ≤ f → r0 ≤ 68719476736 → ∀ c ∈ csts a e l, 0 ≤ c := by
  induction l with
  | nil => intro f r0 _ _ _ c hc; cases hc
  | cons b r ih =>
    intro f r0 h hf hr c hc
    obtain ⟨_, w2, w3, w4, w5⟩ := lotB_bd h hf hr ha he
    simp only [csts, List.mem_cons] at hc
    rcases hc with rfl | hc
    · exact Int.mul_nonneg w3.1 w2.1
    · exact ih b.f0 b.f1 w5 w4 w3.2 c hc
theorem sumI_nn (l : List Int) (h : ∀ c ∈ l, 0 ≤ c) : 0 ≤ sumI l := by
  induction l with
  | nil => exact Int.le_refl 0
  | cons a t ih =>
    have h1 := h a (by simp)
    have h2 := ih (fun c hc => h c (by simp [hc]))
    show 0 ≤ a + sumI t
    omega
theorem csts_len (a e : Int) (l : List S70) : (csts a e l).length = l.length := by
  induction l with
  | nil => rfl
  | cons b r ih => simp [csts, ih]
/-- What numbers that are money come to with another one, or that they come to too much. -/
def lotV (n : Int) (l : List Int) : Int × Int := if l.all mnyB = true ∧ n + sumI l ≤ 1152921504606846976 then (n + sumI l, 0) else (0, 3)
theorem lotV_cons (n c : Int) (l : List Int) (h0 : 0 ≤ n) (hc0 : 0 ≤ c) (hl : ∀ x ∈ l, 0 ≤ x) : lotV n (c :: l) = if c ≤ 1152921504606846976 then (if n + c ≤ 1152921504606846976 then lotV (n + c) l else (0, 3)) else (0, 3) := by
  have hs := sumI_nn l hl
  have e : sumI (c :: l) = c + sumI l := rfl
  by_cases hc : c ≤ 1152921504606846976
  · rw [if_pos hc]
    have ec : (c :: l).all mnyB = l.all mnyB := by rw [List.all_cons, show mnyB c = true from decide_eq_true hc, Bool.true_and]
    by_cases h2 : n + c ≤ 1152921504606846976
    · rw [if_pos h2]
      unfold lotV
      rw [ec, e, Int.add_assoc]
    · rw [if_neg h2]
      exact if_neg (fun h => by have := h.2; omega)
  · rw [if_neg hc]
    refine if_neg (fun h => hc ?_)
    have := List.all_eq_true.mp h.1 c (by simp)
    exact of_decide_eq_true this
theorem sm_lotV (l : List Int) (hl : ∀ x ∈ l, 0 ≤ x) (ha : l.all mnyB = true) : sm l = lotV 0 l := by
  have hs := sumI_nn l hl
  have hf : l.all fitB = true := by
    rw [List.all_eq_true] at ha ⊢
    intro x hx
    have h1 := hl x hx
    have h2 : x ≤ 1152921504606846976 := of_decide_eq_true (ha x hx)
    exact decide_eq_true (by omega)
  unfold sm smV
  rw [if_pos hf]
  by_cases h : 0 + sumI l ≤ 1152921504606846976
  · exact (if_pos (decide_eq_true (by omega))).trans (if_pos ⟨ha, h⟩).symm
  · exact (if_neg (by unfold fitB; simp only [decide_eq_true_eq]; omega)).trans (if_neg (fun h2 => h h2.2)).symm
/-- May so many lots be? -/
def cntB (n : Int) : Bool := decide (0 ≤ n ∧ n ≤ 1073741824)
theorem count_some (n : Int) : fee_count.f n = some (cntB n) := by
  unfold fee_count.f cntB
  by_cases h : n ≥ 0
  · rw [if_pos h]; exact congrArg some (decide_eq_decide.mpr (by omega))
  · rw [if_neg h]; exact congrArg some (decide_eq_false (by omega)).symm
/-- What lots cost behind others, or why that is not told. -/
def ltV (a n : Int) (l : List S70) : Int × Int := if bdC l = 0 then (if (cntB a && cntB n) = true then lotV 0 (csts a (a + n) l) else (0, 18)) else (0, bdC l)
theorem bdC_zero {l : List S70} (h : bdC l = 0) : 0 < l.length ∧ l.length ≤ 1024 ∧ bdG (-1) 68719476736 l = true := by
  unfold bdC at h
  by_cases c0 : l.length = 0 ∨ l.length > 1024
  · rw [if_pos c0] at h; cases h
  rw [if_neg c0] at h
  by_cases c1 : bdH l = 0
  · rw [if_pos c1] at h
    cases hb : bdG (-1) 68719476736 l with
    | true => exact ⟨by omega, by omega, rfl⟩
    | false => rw [hb] at h; cases h
  · rw [if_neg c1] at h; cases h
theorem ltV_ev (a n : Int) (l : List S70) : Ev (fun k => fee_Lots.f k a n l) (ltV a n l) := by
  simp only [fee_Lots.f, count_some, Option.bind_some]
  refine Ev.bind (bdC_ev l) ?_
  unfold ltV
  refine Ev.both (fun h0 => ?_) (fun _ => Ev.val _)
  obtain ⟨h1, h2, h3⟩ := bdC_zero h0
  cases ha : cntB a with
  | false => rw [Bool.false_and, if_neg (by decide)]; exact Ev.neg (by decide) (Ev.val _)
  | true =>
    refine Ev.pos rfl ?_
    cases hn : cntB n with
    | false => rw [Bool.true_and, if_neg (by decide)]; exact Ev.neg (by decide) (Ev.val _)
    | true =>
      rw [Bool.true_and, if_pos rfl]
      refine Ev.pos rfl ?_
      have ha := of_decide_eq_true ha
      have hn := of_decide_eq_true hn
      rw [wrap_small (n := a + n) (by omega) (by omega)]
      refine Ev.bind (goL a (a + n) ha (by omega) l [] (-1) 68719476736 h3 (by omega) (by omega) (by simp; omega)) ?_
      have hnn := csts_nn a (a + n) ha (by omega) l (-1) 68719476736 h3 (by omega) (by omega)
      by_cases hall : (csts a (a + n) l).all mnyB = true
      · rw [if_pos hall, ← sm_lotV _ hnn hall, List.nil_append]
        exact Ev.pos rfl (sm_ev _ (by rw [csts_len]; omega))
      · rw [if_neg hall, show lotV 0 (csts a (a + n) l) = (0, 3) from if_neg (fun h => hall h.1)]
        exact Ev.neg (by show ¬ ((3 : Int) = 0); decide) (Ev.val _)
theorem fitB_add {n p : Int} (h0 : 0 ≤ n) (h1 : n ≤ 1152921504606846976) (p0 : 0 ≤ p) (p1 : p ≤ 1152921504606846976) : Ev (fun k => contangoref01_Add.f k n p) (if n + p ≤ 1152921504606846976 then (n + p, 0) else (0, 3)) := by
  have hn : fitB n = true := decide_eq_true (by omega)
  have hp : fitB p = true := decide_eq_true (by omega)
  simp only [contangoref01_Add.f, fitsr_some, hn, hp, Option.bind_some, Bool.not_true]
  refine Ev.pos (by trivial) (Ev.shift ?_)
  simp only [contangoref01_Add.j0, fitsr_some, Option.bind_some]
  rw [wrap_small (n := n + p) (by omega) (by omega)]
  refine Ev.neg (by decide) ?_
  by_cases h : n + p ≤ 1152921504606846976
  · rw [if_pos h]; exact Ev.pos (decide_eq_true (by omega)) (Ev.val _)
  · rw [if_neg h]; exact Ev.neg (by unfold fitB; simp only [decide_eq_true_eq]; omega) (Ev.val _)
theorem mx_comm (a b : Int) : mx a b = mx b a := by
  simp only [mx]
  split <;> split <;> omega
theorem lotrL (a n : Int) (ha : 0 ≤ a ∧ a ≤ 1073741824) (hn : 0 ≤ n ∧ n ≤ 1073741824) (l : List S73) (hl : l.length ≤ 1024) (m : Nat) : ∀ (i : Nat) (s f r0 : Int), l.length - i = m → i ≤ l.length → 0 ≤ s → s ≤ 1152921504606846976 → bdG f r0 ((l.drop i).map cv) = true → -1 ≤ f → r0 ≤ 68719476736 →
    Ev (fun k => contangoref38_Lots.l0 k a n l s (i : Int)) (lotV s (csts a (a + n) ((l.drop i).map cv))) := by
  induction m with
  | zero =>
    intro i s f r0 hi hle s0 s1 hb hf hr
    refine Ev.shift ?_
    simp only [contangoref38_Lots.l0]
    rw [List.drop_eq_nil_of_le (by omega)]
    refine Ev.neg (by omega) (Ev.valOf ?_)
    show lotV s [] = _
    refine (if_pos ⟨rfl, by show s + 0 ≤ _; omega⟩).trans ?_
    show (s + 0, (0 : Int)) = (s, 0)
    rw [Int.add_zero]
  | succ m ih =>
    intro i s f r0 hi hle s0 s1 hb hf hr
    have hlt : i < l.length := by omega
    rw [List.drop_eq_getElem_cons hlt, List.map_cons] at hb ⊢
    obtain ⟨w1, w2, w3, w4, w5⟩ := lotB_bd hb hf hr ha (e := a + n) (by omega)
    have hnn := csts_nn a (a + n) ha (by omega) _ _ _ w5 w4 w3.2
    have hc0 := Int.mul_nonneg w3.1 w2.1
    have ew : wrap64 (a + n) = a + n := wrap_small (by omega) (by omega)
    have key : Ev (fun k => contangoref38_Lots.j2 k a n l s (i : Int) (mx a l[i].f0) (fee_Lots.to (a + n) ((l.drop (i + 1)).map cv))) (lotV s (csts a (a + n) (cv l[i] :: (l.drop (i + 1)).map cv))) := by
      refine Ev.shift ?_
      simp only [contangoref38_Lots.j2, rd_br l i hlt, succ_w i l.length hlt (by omega)]
      rw [mx_comm a l[i].f0, show wrap64 (fee_Lots.to (a + n) ((l.drop (i + 1)).map cv) - mx l[i].f0 a) = fee_Lots.to (a + n) ((l.drop (i + 1)).map cv) - mx l[i].f0 a from w1]
      refine Ev.pos (by omega) (Ev.pos (by omega) (Ev.bind (mulr_ev l[i].f1 (lotB a (a + n) (cv l[i]) ((l.drop (i + 1)).map cv)) w3.1 w3.2 w2.1 w2.2) ?_))
      simp only [csts]
      rw [lotV_cons _ _ _ s0 hc0 hnn]
      by_cases hc : (cv l[i]).f1 * lotB a (a + n) (cv l[i]) ((l.drop (i + 1)).map cv) ≤ 1152921504606846976
      · rw [if_pos hc, show mu l[i].f1 (lotB a (a + n) (cv l[i]) ((l.drop (i + 1)).map cv)) = _ from mu_yes hc]
        refine Ev.pos rfl ?_
        have hadd := fitB_add s0 s1 hc0 hc
        by_cases h2 : s + (cv l[i]).f1 * lotB a (a + n) (cv l[i]) ((l.drop (i + 1)).map cv) ≤ 1152921504606846976
        · rw [if_pos h2] at hadd ⊢
          exact Ev.bind hadd (Ev.pos rfl (ih (i + 1) _ _ _ (by omega) (by omega) (by omega) h2 w5 w4 w3.2))
        · rw [if_neg h2] at hadd ⊢
          exact Ev.bind hadd (Ev.neg (by show ¬ ((3 : Int) = 0); decide) (Ev.val _))
      · rw [if_neg hc, show mu l[i].f1 (lotB a (a + n) (cv l[i]) ((l.drop (i + 1)).map cv)) = _ from mu_no hc]
        exact Ev.neg (by show ¬ ((3 : Int) = 0); decide) (Ev.val _)
    refine Ev.shift ?_
    simp only [contangoref38_Lots.l0, rd_br l i hlt, succ_w i l.length hlt (by omega), ew]
    refine Ev.pos (by omega) (Ev.pos (by omega) ?_)
    have hw2 : wrap64 ((l.length : Int) - 1) = (l.length : Int) - 1 := wrap_small (by omega) (by omega)
    rw [hw2]
    by_cases hi2 : i + 1 < l.length
    · refine Ev.pos (by omega) (Ev.pos (by omega) (Ev.pos (by omega) ?_))
      rw [List.drop_eq_getElem_cons hi2, List.map_cons] at key
      rw [rd_br l (i + 1) hi2]
      rw [List.drop_eq_getElem_cons hi2, List.map_cons]
      exact key
    · refine Ev.neg (by omega) ?_
      rw [List.drop_eq_nil_of_le (show l.length ≤ i + 1 by omega)] at key ⊢
      exact key
theorem ltVr_ev (a n : Int) (l : List S73) : Ev (fun k => contangoref38_Lots.f k a n l) (ltV a n (l.map cv)) := by
  have j0 : ∀ b : Bool, (b = false → bdC (l.map cv) = 0 ∧ (cntB a && cntB n) = true) → Ev (fun k => contangoref38_Lots.j0 k a n l b) (if b = true then (0, 18) else lotV 0 (csts a (a + n) (l.map cv))) := by
    intro b hb
    refine Ev.shift ?_
    simp only [contangoref38_Lots.j0]
    refine Ev.both (fun _ => Ev.val _) (fun h => ?_)
    obtain ⟨h0, h1⟩ := hb (by simpa using h)
    obtain ⟨_, h2, h3⟩ := bdC_zero h0
    rw [List.length_map] at h2
    rw [Bool.and_eq_true] at h1
    have ha := of_decide_eq_true h1.1
    have hn := of_decide_eq_true h1.2
    have := lotrL a n ha hn l h2 l.length 0 0 (-1) 68719476736 (by omega) (by omega) (by omega) (by omega) (by rw [List.drop_zero]; exact h3) (by omega) (by omega)
    rw [List.drop_zero] at this
    exact this
  simp only [contangoref38_Lots.f]
  refine Ev.bind (bdCr_ev l) ?_
  unfold ltV
  refine Ev.both (fun h0 => ?_) (fun _ => Ev.val _)
  have jt := j0 true (fun h => by cases h)
  rw [if_pos rfl] at jt
  by_cases c1 : a < 0
  · rw [show cntB a = false from decide_eq_false (by omega), Bool.false_and, if_neg (by decide)]
    exact Ev.pos c1 jt
  refine Ev.neg c1 ?_
  by_cases c2 : a > 1073741824
  · rw [show cntB a = false from decide_eq_false (by omega), Bool.false_and, if_neg (by decide)]
    exact Ev.pos c2 jt
  refine Ev.neg c2 ?_
  rw [show cntB a = true from decide_eq_true (by omega), Bool.true_and]
  by_cases c3 : n < 0
  · rw [show cntB n = false from decide_eq_false (by omega), if_neg (by decide)]
    exact Ev.pos c3 jt
  refine Ev.neg c3 ?_
  by_cases c4 : n > 1073741824
  · rw [show cntB n = false from decide_eq_false (by omega), if_neg (by decide), decide_eq_true c4]
    exact jt
  · have e1 : cntB a = true := decide_eq_true (by omega)
    have e2 : cntB n = true := decide_eq_true (by omega)
    rw [e2, if_pos rfl, decide_eq_false c4]
    have := j0 false (fun _ => ⟨h0, by rw [e1, e2]; rfl⟩)
    rwa [if_neg (by decide)] at this
theorem goes_true : contangolaw38_goes.f 60 = some true := by decide +kernel
theorem goes_ev : Ev (fun k => contangolaw38_goes.f k) true := Ev.of goes_true (fun k => contangolaw38_goes.mono k)
theorem FeeLots : contangolaw38_FeeLots.Said := by
  intro a n l _ _ _ _ _ hsl
  refine Ev.get ?_
  have hl : l.length ≤ 8796093022200 := by have := hsl.1; omega
  simp only [contangolaw38_FeeLots.f]
  refine Ev.bind (bands_ev l hl) (Ev.bind (ltV_ev a n (l.map cv)) (Ev.bind (ltVr_ev a n l) (Ev.bind (bands_ev l hl) (Ev.bind (bdC_ev (l.map cv)) (Ev.bind (bdCr_ev l) ?_)))))
  exact Ev.pos rfl (Ev.pos rfl (Ev.pos rfl (Ev.bind goes_ev (Ev.val _))))
end Go.Proofs.Ytckjdncimibiaaa.Pure
