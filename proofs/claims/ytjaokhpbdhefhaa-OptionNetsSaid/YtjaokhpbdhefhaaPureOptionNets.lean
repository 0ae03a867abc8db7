/- What any account's options are worth, and which positions are options, is what the document says: the law, as a statement over numbers and lists. -/
import Derived.Test.YtjaokhpbdhefhaaArgOptionNets
namespace Go.Proofs.Ytjaokhpbdhefhaa.Pure
set_option linter.unusedSimpArgs false
set_option linter.unusedVariables false
open Go.RowKit Go.Proofs.Ytjaokhpbdhefhaa.POptionNets Go.Proofs.Ytjaokhpbdhefhaa.Opens Go.Proofs.YtjaokhpbdhefhaaW.PrintWords Go.Proofs.YtjaokhpbdhefhaaW.PrintLast
def Ev {α : Type} (g : Nat -> Option α) (r : α) : Prop := ∃ K, ∀ k, K <= k -> g k = some r
theorem Ev.shift {α : Type} {g : Nat -> Option α} {r : α} (h : Ev (fun k => g (k + 1)) r) : Ev g r := by
  obtain ⟨K, h⟩ := h
  refine ⟨K + 1, fun k hk => ?_⟩
  obtain ⟨m, rfl⟩ : ∃ m, k = m + 1 := ⟨k - 1, by omega⟩
  exact h m (by omega)
theorem Ev.val {α : Type} (r : α) : Ev (fun _ => some r) r := ⟨0, fun _ _ => rfl⟩
theorem Ev.bind {α β : Type} {g : Nat -> Option α} {f : Nat -> α -> Option β} {x : α} {r : β} (h : Ev g x) (h' : Ev (fun k => f k x) r) : Ev (fun k => (g k).bind (f k)) r := by
  obtain ⟨K, h⟩ := h
  obtain ⟨K', h'⟩ := h'
  exact ⟨max K K', fun k hk => by show (g k).bind (f k) = some r; rw [h k (by omega)]; exact h' k (by omega)⟩
theorem Ev.get {α : Type} {g : Nat -> Option α} {r : α} (h : Ev g r) : ∃ k, g k = some r := by
  obtain ⟨K, h⟩ := h
  exact ⟨K, h K (Nat.le_refl _)⟩
theorem Ev.of {α : Type} {g : Nat -> Option α} {r : α} {k0 : Nat} (h : g k0 = some r) (hm : ∀ k, LeO (g k) (g (k + 1))) : Ev g r := ⟨k0, fun _ hk => at_rounds hm hk h⟩
theorem Ev.pos {α : Type} {c : Prop} [Decidable c] {a b : Nat -> Option α} {r : α} (hc : c) (h : Ev a r) : Ev (fun k => if c then a k else b k) r := by
  obtain ⟨K, h⟩ := h
  exact ⟨K, fun k hk => by show (if c then a k else b k) = some r; rw [if_pos hc]; exact h k hk⟩
theorem Ev.neg {α : Type} {c : Prop} [Decidable c] {a b : Nat -> Option α} {r : α} (hc : ¬ c) (h : Ev b r) : Ev (fun k => if c then a k else b k) r := by
  obtain ⟨K, h⟩ := h
  exact ⟨K, fun k hk => by show (if c then a k else b k) = some r; rw [if_neg hc]; exact h k hk⟩
theorem Ev.ite {α : Type} {c : Prop} [Decidable c] {a b : Nat -> Option α} {r : α} (h : c -> Ev a r) (h' : ¬ c -> Ev b r) : Ev (fun k => if c then a k else b k) r := by
  by_cases hc : c
  . exact Ev.pos hc (h hc)
  . exact Ev.neg hc (h' hc)
theorem wrap_small {n : Int} (h0 : -9223372036854775808 <= n) (h1 : n <= 9223372036854775807) : wrap64 n = n := by unfold wrap64; omega
theorem Ev.both {α : Type} {c : Prop} [Decidable c] {a b : Nat -> Option α} {r s : α} (h : c -> Ev a r) (h' : ¬ c -> Ev b s) : Ev (fun k => if c then a k else b k) (if c then r else s) := by
  by_cases hc : c
  . rw [if_pos hc]; exact Ev.pos hc (h hc)
  . rw [if_neg hc]; exact Ev.neg hc (h' hc)
theorem Ev.valOf {α : Type} {r s : α} (h : s = r) : Ev (fun _ => some r) s := by subst h; exact Ev.val _
theorem less_irrefl (a : List UInt8) : Op.bytesLess a a = false := by
  induction a with
  | nil => rfl
  | cons x r ih =>
    have h : ¬ x < x := fun h => by have := UInt8.lt_iff_toNat_lt.mp h; omega
    simp [Op.bytesLess, ih, h]
theorem less_flip {a b : List UInt8} (h : ¬ Op.bytesLess a b = true) (hne : b ≠ a) : Op.bytesLess b a = true := by
  have := Go.Proofs.YtjaokhpbdhefhaaHand.bytesLess_flip b a
  have h' : Op.bytesLess a b = false := by simpa using h
  rw [h', beq_eq_false_iff_ne.mpr hne] at this
  simpa using this
def letB (c : Int) : Bool := decide (97 <= c) && decide (c <= 122)
def digB (c : Int) : Bool := decide (48 <= c) && decide (c <= 57)
def restB (s : ByteArray) : Nat -> Nat -> Bool
  | 0, _ => true
  | d + 1, i => (letB (bt s i) || digB (bt s i)) && restB s d (i + 1)
def nameB (s : ByteArray) : Bool := decide (0 < s.size) && decide (s.size <= 12) && letB (bt s 0) && restB s s.size 0
theorem letter_some (c : Int) : words_letter.f c = some (letB c) := by
  unfold words_letter.f letB
  split <;> rename_i h <;> simp [h]
theorem digit_some (c : Int) : words_digit.f c = some (digB c) := by
  unfold words_digit.f digB
  split <;> rename_i h <;> simp [h]
theorem toList_nil (s : ByteArray) : s.toList = [] ↔ s.size = 0 := by
  rw [ByteArray.toList_eq]
  constructor
  . intro h
    have := congrArg List.length h
    simpa using this
  . intro h
    apply List.eq_nil_of_length_eq_zero
    simpa using h
theorem words_Name_loop (s : ByteArray) (hs : s.size <= 12) (d : Nat) : ∀ (k i : Nat), s.size - i = d -> i <= s.size -> d < k -> words_Name.l0 k s (s.size : Int) i = some (restB s d i) := by
  induction d with
  | zero =>
    intro k i hd hi hk
    obtain ⟨k, rfl⟩ : ∃ m, k = m + 1 := ⟨k - 1, by omega⟩
    simp only [words_Name.l0]
    rw [if_neg (by omega)]
    rfl
  | succ d ih =>
    intro k i hd hi hk
    obtain ⟨k, rfl⟩ : ∃ m, k = m + 1 := ⟨k - 1, by omega⟩
    have hw : wrap64 ((i : Int) + 1) = ((i + 1 : Nat) : Int) := by unfold wrap64; omega
    simp only [words_Name.l0]
    rw [if_pos (by omega), if_pos (by omega), if_pos (by omega), letter_some, digit_some, hw, ih k (i + 1) (by omega) (by omega) (by omega)]
    simp only [Option.bind_some, restB]
    cases letB (bt s i) <;> cases digB (bt s i) <;> simp
theorem words_Name_some (s : ByteArray) : words_Name.f 20 s = some (nameB s) := by
  unfold words_Name.f nameB
  by_cases h0 : s.size = 0
  . rw [if_pos ((toList_nil s).mpr h0)]
    simp [words_Name.j0, h0]
  . rw [if_neg (fun h => h0 ((toList_nil s).mp h))]
    by_cases h1 : (s.size : Int) > 12
    . rw [if_pos h1]
      have : ¬ s.size <= 12 := by omega
      simp [words_Name.j0, this]
    . rw [if_neg h1, if_pos (by omega), letter_some]
      have h2 : s.size <= 12 := by omega
      have h3 : 0 < s.size := by omega
      simp only [Option.bind_some, h2, h3, decide_true, Bool.true_and]
      have hl := words_Name_loop s h2 s.size 19 0 (by omega) (by omega) (by omega)
      cases letB (bt s 0)
      . simp [words_Name.j0]
      . simp only [words_Name.j0, Bool.not_true, Bool.false_eq_true, if_false]
        rw [Bool.true_and]
        exact hl
theorem refName_loop (s : ByteArray) (hs : s.size <= 9223372036854775806) (d : Nat) : ∀ i : Nat, 1 <= i -> s.size - i = d -> i <= s.size -> Ev (fun k => contangoref03_Name.l0 k s i) (restB s d i && decide (0 < s.size) && decide (s.size <= 12)) := by
  induction d with
  | zero =>
    intro i h1 hd hi
    refine Ev.shift ?_
    simp only [contangoref03_Name.l0]
    refine Ev.neg (by omega) (Ev.pos (by omega) ?_)
    have e1 : decide ((s.size : Int) <= 12) = decide (s.size <= 12) := decide_eq_decide.mpr (by omega)
    have e2 : decide (0 < s.size) = true := decide_eq_true (by omega)
    rw [e1, e2]
    exact Ev.val _
  | succ d ih =>
    intro i h1 hd hi
    refine Ev.shift ?_
    simp only [contangoref03_Name.l0]
    have hw : wrap64 ((i : Int) + 1) = ((i + 1 : Nat) : Int) := by unfold wrap64; omega
    have h := ih (i + 1) (by omega) (by omega) (by omega)
    rw [hw]
    refine Ev.pos (by omega) (Ev.pos (by omega) ?_)
    simp only [restB, letB, digB]
    by_cases c1 : 97 <= bt s i
    . by_cases c2 : bt s i <= 122
      . simpa [c1, c2] using h
      . have c3 : ¬ bt s i < 48 := by omega
        have c4 : 57 < bt s i := by omega
        have c5 : ¬ bt s i <= 57 := by omega
        have c6 : ¬ (i : Int) = 0 := by omega
        simp only [c1, c2, c3, c4, c5, c6, ge_iff_le, gt_iff_lt, if_true, if_false, decide_true, decide_false, Bool.and_false, Bool.or_false, Bool.false_and]
        exact Ev.val _
    . by_cases c3 : bt s i < 48
      . have c6 : ¬ (i : Int) = 0 := by omega
        have c7 : ¬ 48 <= bt s i := by omega
        simp only [c1, c3, c6, c7, ge_iff_le, gt_iff_lt, if_true, if_false, decide_false, Bool.false_and, Bool.or_false]
        exact Ev.val _
      . have c6 : ¬ (i : Int) = 0 := by omega
        have c7 : 48 <= bt s i := by omega
        by_cases c4 : 57 < bt s i
        . have c5 : ¬ bt s i <= 57 := by omega
          simp only [c1, c3, c4, c5, c6, c7, ge_iff_le, gt_iff_lt, if_true, if_false, decide_true, decide_false, Bool.and_false, Bool.false_and, Bool.or_false]
          exact Ev.val _
        . have c5 : bt s i <= 57 := by omega
          simp only [c1, c3, c4, c5, c6, c7, ge_iff_le, gt_iff_lt, if_true, if_false, decide_true, decide_false, Bool.and_true, Bool.false_and, Bool.true_and, Bool.false_or]
          exact h
theorem refName (s : ByteArray) (hs : s.size <= 9223372036854775806) : Ev (fun k => contangoref03_Name.f k s) (nameB s) := by
  simp only [contangoref03_Name.f]
  refine Ev.shift ?_
  simp only [contangoref03_Name.l0]
  by_cases h0 : s.size = 0
  . refine Ev.neg (by omega) (Ev.neg (by omega) ?_)
    have : nameB s = false := by simp [nameB, h0]
    rw [this]
    exact Ev.val _
  . have hw : wrap64 ((0 : Int) + 1) = ((1 : Nat) : Int) := by unfold wrap64; omega
    have h := refName_loop s hs (s.size - 1) 1 (by omega) (by omega) (by omega)
    refine Ev.pos (by omega) (Ev.pos (by omega) ?_)
    rw [hw]
    have hd : decide (0 < s.size) = true := decide_eq_true (by omega)
    obtain ⟨d, hdd⟩ : ∃ d, s.size = d + 1 := ⟨s.size - 1, by omega⟩
    have hn : nameB s = (letB (bt s 0) && (restB s (s.size - 1) 1 && decide (0 < s.size) && decide (s.size <= 12))) := by
      rw [hd]
      simp only [nameB, hd]
      rw [show restB s s.size 0 = ((letB (bt s 0) || digB (bt s 0)) && restB s (s.size - 1) 1) from by rw [hdd]; rfl]
      cases letB (bt s 0) <;> cases decide (s.size <= 12) <;> cases restB s (s.size - 1) 1 <;> simp
    rw [hn]
    simp only [letB]
    by_cases c1 : 97 <= bt s 0
    . by_cases c2 : bt s 0 <= 122
      . simp only [c1, c2, ge_iff_le, if_true, decide_true, Bool.true_and]
        exact h
      . simp only [c1, c2, ge_iff_le, if_true, if_false, decide_true, decide_false, Bool.and_false, Bool.false_and]
        exact Ev.val _
    . simp only [c1, ge_iff_le, if_true, if_false, decide_false, Bool.false_and]
      exact Ev.val _
def scan {α : Type} (f : Option α -> α -> Int) : Option α -> List α -> Int
  | _, [] => 0
  | q, p :: r => if f q p = 0 then scan f (some p) r else f q p
def prevAt {α : Type} (l : List α) (i : Nat) : Option α := if i = 0 then none else l[i - 1]?
theorem prevAt_succ {α : Type} (l : List α) (i : Nat) (h : i < l.length) : prevAt l (i + 1) = some l[i] := by
  simp [prevAt, h]
theorem prevAt_pos {α : Type} (l : List α) (i : Nat) (h0 : 0 < i) (h : i - 1 < l.length) : prevAt l i = some l[i - 1] := by
  rw [prevAt, if_neg (by omega), List.getElem?_eq_getElem h]
theorem scan_cons {α : Type} (f : Option α -> α -> Int) (q : Option α) (p : α) (r : List α) : scan f q (p :: r) = if f q p = 0 then scan f (some p) r else f q p := rfl
def cmpI (a b : Int) : Int := if a < b then -1 else if a > b then 1 else 0
def cmpS (a b : S23) : Int := if Op.bytesLess a.f0.toList b.f0.toList = true then -1 else if Op.bytesLess b.f0.toList a.f0.toList = true then 1 else if a.f2 = b.f2 then (if a.f1 = b.f1 then cmpI a.f3 b.f3 else cmpI a.f1 b.f1) else cmpI a.f2 b.f2
theorem cmp_int (a b : Int) : cmp_Compare_int.f a b = some (cmpI a b) := by
  unfold cmp_Compare_int.f cmp_isNaN_int.f cmpI
  simp only [Option.bind_some, bne_self_eq_false, Bool.false_eq_true, if_false]
  split
  . rfl
  . split <;> rfl
theorem cmp_str (a b : ByteArray) : cmp_Compare_string.f a b = some (if Op.bytesLess a.toList b.toList = true then -1 else if Op.bytesLess b.toList a.toList = true then 1 else 0) := by
  unfold cmp_Compare_string.f cmp_isNaN_string.f
  simp only [Option.bind_some, bne_self_eq_false, Bool.false_eq_true, if_false]
  split
  . rfl
  . split <;> rfl
theorem cmpI_self (a : Int) : cmpI a a = 0 := by unfold cmpI; rw [if_neg (by omega), if_neg (by omega)]
theorem cmp_ser (a b : S23) : series_Compare.f a.f0 a.f1 a.f2 a.f3 b.f0 b.f1 b.f2 b.f3 = some (cmpS a b) := by
  unfold series_Compare.f
  by_cases h : (eqD23 a.f0 b.f0 a.f1 b.f1 a.f2 b.f2 a.f3 b.f3) = true
  . rw [if_pos h]
    unfold eqD23 at h
    simp only [Bool.and_eq_true, beq_iff_eq] at h
    obtain ⟨h1, h2, h3, h4⟩ := h
    unfold cmpS
    rw [h1, h2, h3, h4, less_irrefl]
    simp [cmpI_self]
  . rw [if_neg h]
    by_cases h1 : a.f0.toList = b.f0.toList
    . rw [if_pos h1]
      unfold cmpS
      rw [h1, less_irrefl]
      simp only [cmp_int, Option.bind_some, Bool.false_eq_true, if_false]
      split
      . split <;> rfl
      . rfl
    . rw [if_neg h1, cmp_str]
      unfold cmpS
      by_cases h2 : Op.bytesLess a.f0.toList b.f0.toList = true
      . rw [if_pos h2, if_pos h2]; rfl
      . rw [if_neg h2, if_neg h2, if_pos (less_flip h2 (fun e => h1 e.symm)), if_pos (less_flip h2 (fun e => h1 e.symm))]; rfl
def posF (q : Option S57) (p : S57) : Int :=
  if (match q with | none => false | some q => decide (cmpS q.f0 p.f0 ≥ 0)) = true then 19 else if 0 <= p.f1 ∧ p.f1 <= 1048576 ∧ 0 <= p.f2 ∧ p.f2 <= 1048576 ∧ ¬ (p.f1 = 0 ∧ p.f2 = 0) then 0 else 18
def posC (l : List S57) : Int := if l.length > 128 then 8 else scan posF none l
theorem lots_some (n : Int) : position_lots.f n = some (decide (0 <= n ∧ n <= 1048576)) := by
  unfold position_lots.f
  by_cases h : n ≥ 0
  . rw [if_pos h]
    congr 1
    exact decide_eq_decide.mpr ⟨fun h2 => ⟨h, h2⟩, fun h2 => h2.2⟩
  . rw [if_neg h]
    congr 1
    exact (decide_eq_false (by omega)).symm
theorem posJ (l : List S57) (i : Nat) (b : Bool) (p : S57) (rest : Int)
    (h : Ev (fun k => position_Check.l0 k l l (l.length : Int) (wrap64 ((i : Int) + 1))) rest) :
    Ev (fun k => position_Check.j1 k l l (l.length : Int) (i : Int) b p.f0.f0 p.f0.f1 p.f0.f2 p.f0.f3 p.f1 p.f2) (if b = true then 19 else if 0 <= p.f1 ∧ p.f1 <= 1048576 ∧ 0 <= p.f2 ∧ p.f2 <= 1048576 ∧ ¬ (p.f1 = 0 ∧ p.f2 = 0) then rest else 18) := by
  refine Ev.shift ?_
  simp only [position_Check.j1, lots_some, Option.bind_some, decide_eq_true_eq]
  refine Ev.both (fun _ => Ev.val _) (fun _ => ?_)
  by_cases h1 : 0 <= p.f1 ∧ p.f1 <= 1048576
  . refine Ev.pos h1 ?_
    by_cases h2 : 0 <= p.f2 ∧ p.f2 <= 1048576
    . refine Ev.pos h2 ?_
      by_cases h3 : p.f1 = 0
      . refine Ev.pos h3 ?_
        by_cases h4 : p.f2 = 0
        . rw [if_neg (by omega)]
          exact Ev.pos h4 (Ev.val _)
        . rw [if_pos (by omega)]
          exact Ev.neg h4 h
      . rw [if_pos (by omega)]
        exact Ev.neg h3 h
    . rw [if_neg (by omega)]
      exact Ev.neg h2 (Ev.val _)
  . rw [if_neg (by omega)]
    exact Ev.neg h1 (Ev.val _)
theorem posOne (b : Bool) (c : Prop) [Decidable c] (a : Int) : (if (if b = true then (19 : Int) else if c then 0 else 18) = 0 then a else (if b = true then 19 else if c then 0 else 18)) = (if b = true then 19 else if c then a else 18) := by
  cases b <;> by_cases hc : c <;> simp [hc]
theorem rd_pos (l : List S57) (i : Nat) (h : i < l.length) : rd_T57 l (i : Int) = l[i] := by simp [rd_T57, h]
theorem posL (l : List S57) (hl : l.length <= 128) (n : Nat) : ∀ i : Nat, l.length - i = n -> i <= l.length ->
    Ev (fun k => position_Check.l0 k l l (l.length : Int) (i : Int)) (scan posF (prevAt l i) (l.drop i)) := by
  induction n with
  | zero =>
    intro i hi hle
    refine Ev.shift ?_
    simp only [position_Check.l0]
    rw [List.drop_eq_nil_of_le (by omega)]
    exact Ev.neg (by omega) (Ev.val _)
  | succ n ih =>
    intro i hi hle
    have hlt : i < l.length := by omega
    have hw : wrap64 ((i : Int) + 1) = ((i + 1 : Nat) : Int) := by unfold wrap64; omega
    have ih2 := ih (i + 1) (by omega) (by omega)
    rw [prevAt_succ l i hlt] at ih2
    refine Ev.shift ?_
    simp only [position_Check.l0, rd_pos l i hlt]
    rw [List.drop_eq_getElem_cons hlt, scan_cons]
    refine Ev.pos (by omega) (Ev.pos (by omega) (Ev.pos (by omega) ?_))
    by_cases h0 : i = 0
    . subst h0
      refine Ev.neg (by omega) ?_
      have hj := posJ l 0 false l[0] (scan posF (some l[0]) (l.drop (0 + 1))) (by rw [hw]; exact ih2)
      have e : (if posF (prevAt l 0) l[0] = 0 then scan posF (some l[0]) (l.drop (0 + 1)) else posF (prevAt l 0) l[0]) = _ := posOne false _ (scan posF (some l[0]) (l.drop (0 + 1)))
      rw [e]
      exact hj
    . have hw2 : wrap64 ((i : Int) - 1) = ((i - 1 : Nat) : Int) := by unfold wrap64; omega
      simp only [hw2]
      refine Ev.pos (by omega) (Ev.pos (by omega) (Ev.pos (by omega) ?_))
      rw [rd_pos l (i - 1) (by omega), cmp_ser]
      simp only [Option.bind_some]
      have hj := posJ l i (decide (cmpS l[i - 1].f0 l[i].f0 ≥ 0)) l[i] (scan posF (some l[i]) (l.drop (i + 1))) (by rw [hw]; exact ih2)
      have e : (if posF (prevAt l i) l[i] = 0 then scan posF (some l[i]) (l.drop (i + 1)) else posF (prevAt l i) l[i]) = (if decide (cmpS l[i - 1].f0 l[i].f0 ≥ 0) = true then 19 else if 0 <= l[i].f1 ∧ l[i].f1 <= 1048576 ∧ 0 <= l[i].f2 ∧ l[i].f2 <= 1048576 ∧ ¬ (l[i].f1 = 0 ∧ l[i].f2 = 0) then scan posF (some l[i]) (l.drop (i + 1)) else 18) := by
        rw [prevAt_pos l i (by omega) (by omega)]
        exact posOne (decide (cmpS l[i - 1].f0 l[i].f0 ≥ 0)) _ (scan posF (some l[i]) (l.drop (i + 1)))
      rw [e]
      exact hj
theorem posC_ev (l : List S57) : Ev (fun k => position_Check.f k l) (posC l) := by
  simp only [position_Check.f]
  unfold posC
  by_cases h : l.length > 128
  . rw [if_pos h]
    exact Ev.pos (by omega) (Ev.val _)
  . rw [if_neg h]
    exact Ev.neg (by omega) (posL l (by omega) l.length 0 (by omega) (by omega))
def mkF (q : Option S63) (p : S63) : Int :=
  if (match q with | none => false | some q => decide (cmpS q.f0 p.f0 ≥ 0)) = true then 19 else if -16777216 <= p.f1 ∧ p.f1 <= 16777216 then 0 else 17
def mkC (l : List S63) : Int := if l.length > 128 then 8 else scan mkF none l
theorem price_some (n : Int) : mark_price.f n = some (decide (-16777216 <= n ∧ n <= 16777216)) := by
  unfold mark_price.f
  by_cases h : n ≥ -16777216
  . rw [if_pos h]
    congr 1
    exact decide_eq_decide.mpr ⟨fun h2 => ⟨h, h2⟩, fun h2 => h2.2⟩
  . rw [if_neg h]
    congr 1
    exact (decide_eq_false (by omega)).symm
theorem mkJ (l : List S63) (i : Nat) (b : Bool) (p : S63) (rest : Int)
    (h : Ev (fun k => mark_CheckAll.l0 k l l (l.length : Int) (wrap64 ((i : Int) + 1))) rest) :
    Ev (fun k => mark_CheckAll.j1 k l l (l.length : Int) (i : Int) b p.f0.f0 p.f0.f1 p.f0.f2 p.f0.f3 p.f1) (if b = true then 19 else if -16777216 <= p.f1 ∧ p.f1 <= 16777216 then rest else 17) := by
  refine Ev.shift ?_
  simp only [mark_CheckAll.j1, price_some, Option.bind_some, decide_eq_true_eq]
  exact Ev.both (fun _ => Ev.val _) (fun _ => Ev.both (fun _ => h) (fun _ => Ev.val _))
theorem mkOne (b : Bool) (c : Prop) [Decidable c] (a : Int) : (if (if b = true then (19 : Int) else if c then 0 else 17) = 0 then a else (if b = true then 19 else if c then 0 else 17)) = (if b = true then 19 else if c then a else 17) := by
  cases b <;> by_cases hc : c <;> simp [hc]
theorem rd_mk (l : List S63) (i : Nat) (h : i < l.length) : rd_T63 l (i : Int) = l[i] := by simp [rd_T63, h]
theorem mkL (l : List S63) (hl : l.length <= 128) (n : Nat) : ∀ i : Nat, l.length - i = n -> i <= l.length ->
    Ev (fun k => mark_CheckAll.l0 k l l (l.length : Int) (i : Int)) (scan mkF (prevAt l i) (l.drop i)) := by
  induction n with
  | zero =>
    intro i hi hle
    refine Ev.shift ?_
    simp only [mark_CheckAll.l0]
    rw [List.drop_eq_nil_of_le (by omega)]
    exact Ev.neg (by omega) (Ev.val _)
  | succ n ih =>
    intro i hi hle
    have hlt : i < l.length := by omega
    have hw : wrap64 ((i : Int) + 1) = ((i + 1 : Nat) : Int) := by unfold wrap64; omega
    have ih2 := ih (i + 1) (by omega) (by omega)
    rw [prevAt_succ l i hlt] at ih2
    refine Ev.shift ?_
    simp only [mark_CheckAll.l0, rd_mk l i hlt]
    rw [List.drop_eq_getElem_cons hlt, scan_cons]
    refine Ev.pos (by omega) (Ev.pos (by omega) (Ev.pos (by omega) ?_))
    by_cases h0 : i = 0
    . subst h0
      refine Ev.neg (by omega) ?_
      have hj := mkJ l 0 false l[0] (scan mkF (some l[0]) (l.drop (0 + 1))) (by rw [hw]; exact ih2)
      have e : (if mkF (prevAt l 0) l[0] = 0 then scan mkF (some l[0]) (l.drop (0 + 1)) else mkF (prevAt l 0) l[0]) = _ := mkOne false _ (scan mkF (some l[0]) (l.drop (0 + 1)))
      rw [e]
      exact hj
    . have hw2 : wrap64 ((i : Int) - 1) = ((i - 1 : Nat) : Int) := by unfold wrap64; omega
      simp only [hw2]
      refine Ev.pos (by omega) (Ev.pos (by omega) (Ev.pos (by omega) ?_))
      rw [rd_mk l (i - 1) (by omega), cmp_ser]
      simp only [Option.bind_some]
      have hj := mkJ l i (decide (cmpS l[i - 1].f0 l[i].f0 ≥ 0)) l[i] (scan mkF (some l[i]) (l.drop (i + 1))) (by rw [hw]; exact ih2)
      have e : (if mkF (prevAt l i) l[i] = 0 then scan mkF (some l[i]) (l.drop (i + 1)) else mkF (prevAt l i) l[i]) = (if decide (cmpS l[i - 1].f0 l[i].f0 ≥ 0) = true then 19 else if -16777216 <= l[i].f1 ∧ l[i].f1 <= 16777216 then scan mkF (some l[i]) (l.drop (i + 1)) else 17) := by
        rw [prevAt_pos l i (by omega) (by omega)]
        exact mkOne (decide (cmpS l[i - 1].f0 l[i].f0 ≥ 0)) _ (scan mkF (some l[i]) (l.drop (i + 1)))
      rw [e]
      exact hj
theorem mkC_ev (l : List S63) : Ev (fun k => mark_CheckAll.f k l) (mkC l) := by
  simp only [mark_CheckAll.f]
  unfold mkC
  by_cases h : l.length > 128
  . rw [if_pos h]
    exact Ev.pos (by omega) (Ev.val _)
  . rw [if_neg h]
    exact Ev.neg (by omega) (mkL l (by omega) l.length 0 (by omega) (by omega))
def prC (p : S29) : Int :=
  if nameB p.f0 = true then (if 0 <= p.f1 ∧ p.f1 <= 7 then (if 1 <= p.f2 ∧ p.f2 <= 4096 then (if 1 <= p.f3 ∧ p.f3 <= 16777216 then (if -16777216 <= p.f4 ∧ p.f4 <= 16777216 ∧ -16777216 <= p.f5 ∧ p.f5 <= 16777216 ∧ p.f4 <= p.f5 ∧ Int.tmod p.f4 p.f3 = 0 ∧ Int.tmod p.f5 p.f3 = 0 then 0 else 17) else 16) else 2) else 25) else 10
theorem within_some (n m : Int) (h0 : 0 <= m) (h1 : m <= 1000000000) : product_within.f n m = some (decide (-m <= n ∧ n <= m)) := by
  unfold product_within.f
  have hw : wrap64 (-m) = -m := by unfold wrap64; omega
  rw [hw]
  by_cases h : n ≥ -m
  . rw [if_pos h]
    congr 1
    exact decide_eq_decide.mpr ⟨fun h2 => ⟨h, h2⟩, fun h2 => h2.2⟩
  . rw [if_neg h]
    congr 1
    exact (decide_eq_false (by omega)).symm
theorem prC_ev (p : S29) : Ev (fun k => product_Check.f k p.f0 p.f1 p.f2 p.f3 p.f4 p.f5 p.f6) (prC p) := by
  have h3 : Ev (fun k => product_Check.j3 k (if p.f3 < 1 then true else decide (p.f3 > 16777216)) p.f0 p.f1 p.f2 p.f3 p.f4 p.f5 p.f6) (if 1 <= p.f3 ∧ p.f3 <= 16777216 then (if -16777216 <= p.f4 ∧ p.f4 <= 16777216 ∧ -16777216 <= p.f5 ∧ p.f5 <= 16777216 ∧ p.f4 <= p.f5 ∧ Int.tmod p.f4 p.f3 = 0 ∧ Int.tmod p.f5 p.f3 = 0 then 0 else 17) else 16) := by
    refine Ev.shift ?_
    simp only [product_Check.j3, within_some _ 16777216 (by omega) (by omega), Option.bind_some, decide_eq_true_eq]
    by_cases c : 1 <= p.f3 ∧ p.f3 <= 16777216
    . rw [if_pos c, if_neg (by omega : ¬ p.f3 < 1), decide_eq_false (by omega : ¬ p.f3 > 16777216)]
      refine Ev.neg (by decide) ?_
      by_cases hG : -16777216 <= p.f4 ∧ p.f4 <= 16777216 ∧ -16777216 <= p.f5 ∧ p.f5 <= 16777216 ∧ p.f4 <= p.f5 ∧ Int.tmod p.f4 p.f3 = 0 ∧ Int.tmod p.f5 p.f3 = 0
      . rw [if_pos hG]
        obtain ⟨g1, g2, g3, g4, g5, g6, g7⟩ := hG
        exact Ev.pos ⟨g1, g2⟩ (Ev.pos ⟨g3, g4⟩ (Ev.neg (by omega) (Ev.neg (by omega) (Ev.pos g6 (Ev.pos g7 (Ev.val _))))))
      . rw [if_neg hG]
        refine Ev.ite (fun c1 => Ev.ite (fun c2 => Ev.ite (fun c3 => Ev.val _) (fun c3 => Ev.neg (by omega) (Ev.ite (fun c4 => Ev.neg (fun c5 => ?_) (Ev.val _)) (fun c4 => Ev.val _)))) (fun c2 => Ev.val _)) (fun c1 => Ev.val _)
        exact hG ⟨c1.1, c1.2, c2.1, c2.2, by omega, c4, c5⟩
    . rw [if_neg c]
      have e : (if p.f3 < 1 then true else decide (p.f3 > 16777216)) = true := by
        split
        . rfl
        . exact decide_eq_true (by omega)
      rw [e]
      exact Ev.pos rfl (Ev.val _)
  have h2 : Ev (fun k => product_Check.j2 k (if p.f2 < 1 then true else decide (p.f2 > 4096)) p.f0 p.f1 p.f2 p.f3 p.f4 p.f5 p.f6) (if 1 <= p.f2 ∧ p.f2 <= 4096 then (if 1 <= p.f3 ∧ p.f3 <= 16777216 then (if -16777216 <= p.f4 ∧ p.f4 <= 16777216 ∧ -16777216 <= p.f5 ∧ p.f5 <= 16777216 ∧ p.f4 <= p.f5 ∧ Int.tmod p.f4 p.f3 = 0 ∧ Int.tmod p.f5 p.f3 = 0 then 0 else 17) else 16) else 2) := by
    refine Ev.shift ?_
    simp only [product_Check.j2]
    by_cases c : 1 <= p.f2 ∧ p.f2 <= 4096
    . rw [if_pos c, if_neg (by omega : ¬ p.f2 < 1), decide_eq_false (by omega : ¬ p.f2 > 4096)]
      refine Ev.neg (by decide) (Ev.ite (fun h => ?_) (fun h => ?_))
      . rw [if_pos h] at h3; exact h3
      . rw [if_neg h] at h3; exact h3
    . rw [if_neg c]
      have e : (if p.f2 < 1 then true else decide (p.f2 > 4096)) = true := by
        split
        . rfl
        . exact decide_eq_true (by omega)
      rw [e]
      exact Ev.pos rfl (Ev.val _)
  have h1 : Ev (fun k => product_Check.j1 k (if p.f1 < 0 then true else decide (p.f1 ≥ 8)) p.f0 p.f1 p.f2 p.f3 p.f4 p.f5 p.f6) (if 0 <= p.f1 ∧ p.f1 <= 7 then (if 1 <= p.f2 ∧ p.f2 <= 4096 then (if 1 <= p.f3 ∧ p.f3 <= 16777216 then (if -16777216 <= p.f4 ∧ p.f4 <= 16777216 ∧ -16777216 <= p.f5 ∧ p.f5 <= 16777216 ∧ p.f4 <= p.f5 ∧ Int.tmod p.f4 p.f3 = 0 ∧ Int.tmod p.f5 p.f3 = 0 then 0 else 17) else 16) else 2) else 25) := by
    refine Ev.shift ?_
    simp only [product_Check.j1]
    by_cases c : 0 <= p.f1 ∧ p.f1 <= 7
    . rw [if_pos c, if_neg (by omega : ¬ p.f1 < 0), decide_eq_false (by omega : ¬ p.f1 ≥ 8)]
      refine Ev.neg (by decide) (Ev.ite (fun h => ?_) (fun h => ?_))
      . rw [if_pos h] at h2; exact h2
      . rw [if_neg h] at h2; exact h2
    . rw [if_neg c]
      have e : (if p.f1 < 0 then true else decide (p.f1 ≥ 8)) = true := by
        split
        . rfl
        . exact decide_eq_true (by omega)
      rw [e]
      exact Ev.pos rfl (Ev.val _)
  have h0 : Ev (fun k => product_Check.j0 k (!nameB p.f0) p.f0 p.f1 p.f2 p.f3 p.f4 p.f5 p.f6) (prC p) := by
    refine Ev.shift ?_
    simp only [product_Check.j0]
    unfold prC
    cases nameB p.f0 with
    | false => exact Ev.pos rfl (Ev.val _)
    | true =>
      rw [if_pos rfl]
      refine Ev.neg (by decide) (Ev.ite (fun h => ?_) (fun h => ?_))
      . rw [if_pos h] at h1; exact h1
      . rw [if_neg h] at h1; exact h1
  simp only [product_Check.f]
  refine Ev.ite (fun h => ?_) (fun _ => Ev.bind (Ev.of (words_Name_some p.f0) (fun k => words_Name.mono _ k)) h0)
  have hn : nameB p.f0 = false := by
    unfold eqD29 at h
    simp only [Bool.and_eq_true, beq_iff_eq] at h
    have hs : p.f0.size = 0 := (toList_nil p.f0).mp (h.1.trans ((toList_nil _).mpr rfl))
    simp [nameB, hs]
  rw [hn] at h0
  exact h0
def prF (q : Option S29) (p : S29) : Int :=
  if prC p = 0 then (match q with | none => 0 | some q => if Op.bytesLess q.f0.toList p.f0.toList = true then 0 else 12) else prC p
def prA (l : List S29) : Int := if l.length > 32 then 8 else scan prF none l
theorem rd_pr (l : List S29) (i : Nat) (h : i < l.length) : rd_T29 l (i : Int) = l[i] := by simp [rd_T29, h]
theorem prL (l : List S29) (hl : l.length <= 32) (n : Nat) : ∀ i : Nat, l.length - i = n -> i <= l.length ->
    Ev (fun k => product_CheckAll.l0 k l l (l.length : Int) (i : Int)) (scan prF (prevAt l i) (l.drop i)) := by
  induction n with
  | zero =>
    intro i hi hle
    refine Ev.shift ?_
    simp only [product_CheckAll.l0]
    rw [List.drop_eq_nil_of_le (by omega)]
    exact Ev.neg (by omega) (Ev.val _)
  | succ n ih =>
    intro i hi hle
    have hlt : i < l.length := by omega
    have hw : wrap64 ((i : Int) + 1) = ((i + 1 : Nat) : Int) := by unfold wrap64; omega
    have ih2 := ih (i + 1) (by omega) (by omega)
    rw [prevAt_succ l i hlt] at ih2
    refine Ev.shift ?_
    simp only [product_CheckAll.l0, rd_pr l i hlt, hw]
    rw [List.drop_eq_getElem_cons hlt, scan_cons]
    refine Ev.pos (by omega) (Ev.pos (by omega) (Ev.pos (by omega) (Ev.bind (prC_ev l[i]) ?_)))
    unfold prF
    by_cases hc : prC l[i] = 0
    . refine Ev.pos hc ?_
      rw [if_pos hc]
      by_cases h0 : i = 0
      . subst h0
        refine Ev.neg (by omega) ?_
        exact ih2
      . have hw2 : wrap64 ((i : Int) - 1) = ((i - 1 : Nat) : Int) := by unfold wrap64; omega
        rw [prevAt_pos l i (by omega) (by omega)]
        simp only [hw2]
        refine Ev.pos (by omega) (Ev.pos (by omega) (Ev.pos (by omega) ?_))
        rw [rd_pr l (i - 1) (by omega)]
        by_cases hb : Op.bytesLess l[i - 1].f0.toList l[i].f0.toList = true
        . rw [if_pos hb, if_pos rfl]
          exact Ev.pos hb ih2
        . rw [if_neg hb, if_neg (by decide)]
          exact Ev.neg hb (Ev.val _)
    . rw [if_neg hc, if_neg hc]
      exact Ev.neg hc (Ev.val _)
theorem prA_ev (l : List S29) : Ev (fun k => product_CheckAll.f k l) (prA l) := by
  simp only [product_CheckAll.f]
  unfold prA
  by_cases h : l.length > 32
  . rw [if_pos h]
    exact Ev.pos (by omega) (Ev.val _)
  . rw [if_neg h]
    exact Ev.neg (by omega) (prL l (by omega) l.length 0 (by omega) (by omega))
theorem and32 (n : Int) : Go.bits .and .i64 n 4294967295 = n % 4294967296 := by
  have h127 : (BitVec.ofInt 64 4294967295).toNat = 2 ^ 32 - 1 := by decide
  have key : (BitVec.ofInt 64 n &&& BitVec.ofInt 64 4294967295).toNat = (n % ((2 ^ 64 : Nat) : Int)).toNat % 2 ^ 32 := by
    rw [BitVec.toNat_and, BitVec.toNat_ofInt, h127, Nat.and_two_pow_sub_one_eq_mod]
  show IntKind.i64.wrap ((BitVec.ofInt 64 n &&& BitVec.ofInt 64 4294967295).toNat : Nat) = n % 4294967296
  rw [key, IntKind.wrap_i64]
  omega
def fitB (n : Int) : Bool := decide (-1152921504606846976 <= n ∧ n <= 1152921504606846976)
def sumI (l : List Int) : Int := l.foldr (· + ·) 0
def smV (l : List Int) (s : Int) : Int × Int := if l.all fitB = true then (if fitB (s + sumI l) = true then (s + sumI l, 0) else (0, 3)) else (0, 2)
theorem fits_some (n : Int) : cents_Fits.f n = some (fitB n) := by
  unfold cents_Fits.f fitB
  by_cases h : n ≥ -1152921504606846976
  . rw [if_pos h]
    congr 1
    exact decide_eq_decide.mpr ⟨fun h2 => ⟨h, h2⟩, fun h2 => h2.2⟩
  . rw [if_neg h]
    congr 1
    exact (decide_eq_false (by omega)).symm
theorem fitting_some (n : Int) : cents_fitting.f n = some (if fitB n = true then (n, 0) else (0, 3)) := by
  unfold cents_fitting.f
  rw [fits_some]
  simp only [Option.bind_some]
  split <;> rfl
theorem sumEnd (hi lo : Int) (h1 : -1152921504606846976 <= hi ∧ hi <= 1152921504606846976) (h2 : 0 <= lo ∧ lo <= 1152921504606846976) :
    (if (wrap64 (hi + (lo / 4294967296))) < (-268435456) then (some ((0 : Int), (3 : Int))) else (if (wrap64 (hi + (lo / 4294967296))) > 268435456 then (some (0, 3)) else ((cents_fitting.f (wrap64 ((wrap64 ((wrap64 (hi + (lo / 4294967296))) * 4294967296)) + (Go.bits .and .i64 lo 4294967295)))).bind fun bt => (some (bt.1, bt.2))))) = some (if fitB (hi * 4294967296 + lo) = true then (hi * 4294967296 + lo, 0) else (0, 3)) := by
  have e1 : wrap64 (hi + lo / 4294967296) = hi + lo / 4294967296 := wrap_small (by omega) (by omega)
  rw [e1, and32]
  by_cases c1 : hi + lo / 4294967296 < -268435456
  . rw [if_pos c1, if_neg]
    unfold fitB
    simp only [decide_eq_true_eq]
    omega
  . rw [if_neg c1]
    by_cases c2 : hi + lo / 4294967296 > 268435456
    . rw [if_pos c2, if_neg]
      unfold fitB
      simp only [decide_eq_true_eq]
      omega
    . rw [if_neg c2]
      have e2 : wrap64 ((hi + lo / 4294967296) * 4294967296) = (hi + lo / 4294967296) * 4294967296 := wrap_small (by omega) (by omega)
      have e3 : wrap64 ((hi + lo / 4294967296) * 4294967296 + lo % 4294967296) = hi * 4294967296 + lo := by
        rw [wrap_small (by omega) (by omega)]
        omega
      rw [e2, e3, fitting_some]
      rfl
theorem sumL (l : List Int) (hl : l.length <= 1000000) (n : Nat) : ∀ (i : Nat) (hi lo : Int), l.length - i = n -> i <= l.length -> -(268435456 * (i : Int)) <= hi -> hi <= 268435456 * (i : Int) -> 0 <= lo -> lo <= 4294967296 * (i : Int) ->
    Ev (fun k => cents_Sum.l0 k l hi lo (l.length : Int) (i : Int)) (smV (l.drop i) (hi * 4294967296 + lo)) := by
  induction n with
  | zero =>
    intro i hi lo hd hle h1 h2 h3 h4
    refine Ev.shift ?_
    simp only [cents_Sum.l0]
    rw [List.drop_eq_nil_of_le (by omega)]
    refine Ev.neg (by omega) ?_
    rw [sumEnd hi lo (by omega) (by omega)]
    exact Ev.valOf (by simp [smV, sumI])
  | succ n ih =>
    intro i hi lo hd hle h1 h2 h3 h4
    have hlt : i < l.length := by omega
    have hw : wrap64 ((i : Int) + 1) = ((i + 1 : Nat) : Int) := by unfold wrap64; omega
    refine Ev.shift ?_
    simp only [cents_Sum.l0, hw]
    have hr : rd l (i : Int) = l[i] := by simp [rd, List.getD_eq_getElem?_getD, hlt]
    rw [hr, List.drop_eq_getElem_cons hlt]
    refine Ev.pos (by omega) (Ev.pos (by omega) (Ev.pos (by omega) ?_))
    rw [fits_some, and32]
    simp only [Option.bind_some]
    by_cases hf : fitB l[i] = true
    . refine Ev.pos hf ?_
      have hf2 := hf
      unfold fitB at hf2
      simp only [decide_eq_true_eq] at hf2
      have e1 : wrap64 (hi + l[i] / 4294967296) = hi + l[i] / 4294967296 := wrap_small (by omega) (by omega)
      have e2 : wrap64 (lo + l[i] % 4294967296) = lo + l[i] % 4294967296 := wrap_small (by omega) (by omega)
      rw [e1, e2]
      have h := ih (i + 1) (hi + l[i] / 4294967296) (lo + l[i] % 4294967296) (by omega) (by omega) (by omega) (by omega) (by omega) (by omega)
      have e3 : smV (l[i] :: l.drop (i + 1)) (hi * 4294967296 + lo) = smV (l.drop (i + 1)) ((hi + l[i] / 4294967296) * 4294967296 + (lo + l[i] % 4294967296)) := by
        unfold smV
        rw [List.all_cons, hf, Bool.true_and]
        have e4 : hi * 4294967296 + lo + sumI (l[i] :: l.drop (i + 1)) = (hi + l[i] / 4294967296) * 4294967296 + (lo + l[i] % 4294967296) + sumI (l.drop (i + 1)) := by
          have : sumI (l[i] :: l.drop (i + 1)) = l[i] + sumI (l.drop (i + 1)) := rfl
          rw [this]
          omega
        rw [e4]
      rw [e3]
      exact h
    . have e : smV (l[i] :: l.drop (i + 1)) (hi * 4294967296 + lo) = (0, 2) := by
        unfold smV
        rw [List.all_cons, Bool.eq_false_iff.mpr hf, Bool.false_and]
        rfl
      rw [e]
      exact Ev.neg hf (Ev.val _)
def sm (l : List Int) : Int × Int := smV l 0
theorem sm_ev (l : List Int) (hl : l.length <= 1000000) : Ev (fun k => cents_Sum.f k l) (sm l) := by
  simp only [cents_Sum.f]
  exact sumL l hl l.length 0 0 0 (by omega) (by omega) (by omega) (by omega) (by omega) (by omega)
theorem mul_within {a b A B : Int} (h1 : -A <= a) (h2 : a <= A) (h3 : -B <= b) (h4 : b <= B) : -(A * B) <= a * b ∧ a * b <= A * B := by
  have h : (a * b).natAbs <= (A * B).natAbs := by
    rw [Int.natAbs_mul, Int.natAbs_mul]
    exact Nat.mul_le_mul (by omega) (by omega)
  have hp : 0 <= A * B := Int.mul_nonneg (by omega) (by omega)
  omega
def vl (p : S29) (pr q : Int) : Int × Int :=
  if prC p = 0 then (if -33554432 <= pr ∧ pr <= 33554432 then (if -1048576 <= q ∧ q <= 1048576 then (pr * p.f2 * q, 0) else (0, 18)) else (0, 17)) else (0, prC p)
theorem prC_zero {p : S29} (h : prC p = 0) : (0 <= p.f1 ∧ p.f1 <= 7) ∧ (1 <= p.f2 ∧ p.f2 <= 4096) := by
  unfold prC at h
  by_cases c0 : nameB p.f0 = true
  case neg => rw [if_neg c0] at h; cases h
  rw [if_pos c0] at h
  by_cases c1 : 0 <= p.f1 ∧ p.f1 <= 7
  case neg => rw [if_neg c1] at h; cases h
  rw [if_pos c1] at h
  by_cases c2 : 1 <= p.f2 ∧ p.f2 <= 4096
  case neg => rw [if_neg c2] at h; cases h
  exact ⟨c1, c2⟩
theorem vl_ev (p : S29) (pr q : Int) : Ev (fun k => product_Value.f k p.f0 p.f1 p.f2 p.f3 p.f4 p.f5 p.f6 pr q) (vl p pr q) := by
  simp only [product_Value.f, within_some _ 33554432 (by omega) (by omega), within_some _ 1048576 (by omega) (by omega), Option.bind_some, decide_eq_true_eq]
  refine Ev.bind (prC_ev p) ?_
  unfold vl
  refine Ev.both (fun h0 => Ev.both (fun h1 => Ev.both (fun h2 => ?_) (fun _ => Ev.val _)) (fun _ => Ev.val _)) (fun _ => Ev.val _)
  have hm := (prC_zero h0).2
  have b1 := mul_within (a := pr) (b := p.f2) (A := 33554432) (B := 4096) h1.1 h1.2 (by omega) (by omega)
  have b2 := mul_within (a := pr * p.f2) (b := q) (A := 137438953472) (B := 1048576) (by omega) (by omega) (by omega) (by omega)
  rw [wrap_small (n := pr * p.f2) (by omega) (by omega), wrap_small (by omega) (by omega)]
  exact Ev.val _
def netQ (p : S57) : Int := wrap64 (p.f1 - p.f2)
def prAt (ps : List S29) (s : ByteArray) : S29 × Bool := firstOf (fun x : S29 => x.f0.toList == s.toList) z29 ps
def mkAt (ms : List S63) (s : S23) : Int × Bool := if idxOf (mark_Find.q s.f0 s.f1 s.f2 s.f3) ms 0 < 0 then (0, false) else ((rd_T63 ms (idxOf (mark_Find.q s.f0 s.f1 s.f2 s.f3) ms 0)).f1, true)
def wv (ps : List S29) (ms : List S63) (s : S23) (q : Int) : Int × Int × Int :=
  if (prAt ps s.f0).2 = true then (if (mkAt ms s).2 = true then ((vl (prAt ps s.f0).1 (mkAt ms s).1 q).1, (prAt ps s.f0).1.f1, (vl (prAt ps s.f0).1 (mkAt ms s).1 q).2) else (0, 0, 11)) else (0, 0, 19)
theorem wv_ev (ps : List S29) (ms : List S63) (p : S57) : Ev (fun k => option_worth.f k ps p.f0.f0 p.f0.f1 p.f0.f2 p.f0.f3 p.f1 p.f2 ms) (wv ps ms p.f0 (netQ p)) := by
  have e1 : product_Find.f ps p.f0.f0 = some ((prAt ps p.f0.f0).1.f0, (prAt ps p.f0.f0).1.f1, (prAt ps p.f0.f0).1.f2, (prAt ps p.f0.f0).1.f3, (prAt ps p.f0.f0).1.f4, (prAt ps p.f0.f0).1.f5, (prAt ps p.f0.f0).1.f6, (prAt ps p.f0.f0).2) := rfl
  have e2 : mark_Find.f ms p.f0.f0 p.f0.f1 p.f0.f2 p.f0.f3 = some (mkAt ms p.f0) := by
    unfold mark_Find.f mkAt
    split <;> rfl
  simp only [option_worth.f, e1, e2, Option.bind_some, position_Net.f]
  unfold wv
  exact Ev.both (fun _ => Ev.both (fun _ => Ev.bind (vl_ev (prAt ps p.f0.f0).1 (mkAt ms p.f0).1 (netQ p)) (Ev.val _)) (fun _ => Ev.val _)) (fun _ => Ev.val _)
theorem wv_cur {ps : List S29} {ms : List S63} {s : S23} {q : Int} (h : (wv ps ms s q).2.2 = 0) : 0 <= (wv ps ms s q).2.1 ∧ (wv ps ms s q).2.1 < 8 := by
  unfold wv at h ⊢
  by_cases c1 : (prAt ps s.f0).2 = true
  case neg => rw [if_neg c1] at h; cases h
  rw [if_pos c1] at h ⊢
  by_cases c2 : (mkAt ms s).2 = true
  case neg => rw [if_neg c2] at h; cases h
  rw [if_pos c2] at h ⊢
  simp only at h ⊢
  unfold vl at h
  by_cases c3 : prC (prAt ps s.f0).1 = 0
  . have := (prC_zero c3).1
    omega
  . rw [if_neg c3] at h
    exact absurd h c3
def isOpt (p : S57) : Bool := p.f0.f1 == 2 || p.f0.f1 == 3
def gs (ps : List S29) (ms : List S63) : List S57 -> List (Int × Int) -> Int × List (Int × Int)
  | [], t => (0, t)
  | p :: r, t => if isOpt p = true then (if (wv ps ms p.f0 (netQ p)).2.2 = 0 then gs ps ms r (t ++ [((wv ps ms p.f0 (netQ p)).2.1, (wv ps ms p.f0 (netQ p)).1)]) else ((wv ps ms p.f0 (netQ p)).2.2, [])) else gs ps ms r t
def grp (t : List (Int × Int)) (c : Int) : List Int := (t.filter fun x => x.1 == c).map (·.2)
theorem opt_some (p : S57) : option_option.f p.f0.f0 p.f0.f1 p.f0.f2 p.f0.f3 = some (isOpt p) := by
  unfold option_option.f isOpt
  by_cases h : p.f0.f1 = 2
  . rw [if_pos h, h]; rfl
  . rw [if_neg h, beq_eq_false_iff_ne.mpr h, Bool.false_or]
theorem grp_len (t : List (Int × Int)) (c : Int) : (grp t c).length <= t.length := by
  unfold grp
  rw [List.length_map]
  exact List.length_filter_le _ _
theorem grp_snoc (t : List (Int × Int)) (a n c : Int) : grp (t ++ [(a, n)]) c = if (a == c) = true then grp t c ++ [n] else grp t c := by
  unfold grp
  rw [List.filter_append, List.map_append]
  by_cases h : (a == c) = true
  . rw [if_pos h]
    simp [h]
  . rw [if_neg h]
    simp [h]
def Holds (m : List (Int × List Int)) (t : List (Int × Int)) : Prop := ∀ c, (YtjaokhpbdhefhaaHand.look (· == ·) m c).getD [] = grp t c
theorem go_ev (ps : List S29) (ms : List S63) (l : List S57) : ∀ (m : List (Int × List Int)) (t : List (Int × Int)), Holds m t -> t.length + l.length < 1000000 ->
    ∃ m', Ev (fun k => option_Net.go k ps ms l m) ((gs ps ms l t).1, m') ∧ ((gs ps ms l t).1 = 0 -> Holds m' (gs ps ms l t).2) := by
  induction l with
  | nil => intro m t h _; exact ⟨m, Ev.val _, fun _ => h⟩
  | cons p r ih =>
    intro m t h hl
    simp only [List.length_cons] at hl
    simp only [option_Net.go, opt_some, Option.bind_some, gs]
    by_cases c : isOpt p = true
    . simp only [if_pos c]
      by_cases c2 : (wv ps ms p.f0 (netQ p)).2.2 = 0
      . rw [if_pos c2]
        have hc := wv_cur c2
        obtain ⟨m', h1, h2⟩ := ih (YtjaokhpbdhefhaaHand.put (· == ·) (wv ps ms p.f0 (netQ p)).2.1 (((YtjaokhpbdhefhaaHand.look (· == ·) m (wv ps ms p.f0 (netQ p)).2.1).getD []) ++ [(wv ps ms p.f0 (netQ p)).1]) m) (t ++ [((wv ps ms p.f0 (netQ p)).2.1, (wv ps ms p.f0 (netQ p)).1)])
          (fun c => by
            rw [YtjaokhpbdhefhaaHand.look_put _ _ (fun x y => by simp), grp_snoc]
            by_cases hcc : ((wv ps ms p.f0 (netQ p)).2.1 == c) = true
            . rw [if_pos hcc, if_pos hcc]
              have := beq_iff_eq.mp hcc
              subst this
              simp only [Option.getD_some]
              rw [h]
            . rw [if_neg hcc, if_neg hcc]
              exact h c) (by simp; omega)
        refine ⟨m', Ev.bind (wv_ev ps ms p) (Ev.pos c2 (Ev.pos hc (Ev.pos ?_ h1))), h2⟩
        rw [h]
        have := grp_len t (wv ps ms p.f0 (netQ p)).2.1
        omega
      . rw [if_neg c2]
        exact ⟨[], Ev.bind (wv_ev ps ms p) (Ev.neg c2 (Ev.val _)), fun h => absurd h c2⟩
    . simp only [if_neg c]
      exact ih m t h (by omega)
def ss (t : List (Int × Int)) : Nat -> Int -> List Int -> List Int × Int
  | 0, _, a => (a, 0)
  | j + 1, c, a => if (sm (grp t c)).2 = 0 then ss t j (c + 1) (a ++ [(sm (grp t c)).1]) else ([], (sm (grp t c)).2)
theorem ss_ev (t : List (Int × Int)) (m : List (Int × List Int)) (h : Holds m t) (hl : t.length <= 1000000) (j : Nat) : ∀ c a, Ev (fun k => option_Net.sums k m j c a) (ss t j c a) := by
  induction j with
  | zero => intro c a; exact Ev.val _
  | succ j ih =>
    intro c a
    simp only [option_Net.sums, ss]
    have hs := sm_ev (grp t c) (by have := grp_len t c; omega)
    rw [<- h c] at hs
    refine Ev.bind hs ?_
    rw [h c]
    exact Ev.both (fun _ => ih _ _) (fun _ => Ev.val _)
theorem gs_len (ps : List S29) (ms : List S63) (l : List S57) : ∀ t, (gs ps ms l t).2.length <= t.length + l.length := by
  induction l with
  | nil => intro t; simp [gs]
  | cons p r ih =>
    intro t
    rw [gs]
    split
    . split
      . have := ih (t ++ [((wv ps ms p.f0 (netQ p)).2.1, (wv ps ms p.f0 (netQ p)).1)])
        simp only [List.length_append, List.length_cons, List.length_nil] at this ⊢
        omega
      . simp
    . have := ih t
      simp only [List.length_cons]
      omega
def nv (ps : List S29) (l : List S57) (ms : List S63) : List Int × Int :=
  if prA ps = 0 then (if posC l = 0 then (if mkC ms = 0 then (if (gs ps ms l []).1 = 0 then ss (gs ps ms l []).2 8 0 [] else ([], (gs ps ms l []).1)) else ([], mkC ms)) else ([], posC l)) else ([], prA ps)
theorem posC_len {l : List S57} (h : posC l = 0) : l.length <= 128 := by
  unfold posC at h
  by_cases c : l.length > 128
  . rw [if_pos c] at h; cases h
  . omega
theorem nv_ev (ps : List S29) (l : List S57) (ms : List S63) : Ev (fun k => option_Net.f k ps l ms) (nv ps l ms) := by
  simp only [option_Net.f]
  unfold nv
  refine Ev.bind (prA_ev ps) (Ev.both (fun _ => Ev.bind (posC_ev l) (Ev.both (fun h1 => Ev.bind (mkC_ev ms) (Ev.both (fun _ => ?_) (fun _ => Ev.val _))) (fun _ => Ev.val _))) (fun _ => Ev.val _))
  have hl := posC_len h1
  obtain ⟨m', h2, h3⟩ := go_ev ps ms l [] [] (fun c => rfl) (by simp; omega)
  refine Ev.bind h2 (Ev.both (fun h4 => ss_ev _ _ (h3 h4) ?_ _ _ _) (fun _ => Ev.val _))
  have := gs_len ps ms l []
  simp only [List.length_nil] at this
  omega
theorem withinr_some (n lo hi : Int) : contangoref09_within.f n lo hi = some (decide (lo <= n ∧ n <= hi)) := by
  unfold contangoref09_within.f
  by_cases h : n ≥ lo
  . rw [if_pos h]
    congr 1
    exact decide_eq_decide.mpr ⟨fun h2 => ⟨h, h2⟩, fun h2 => h2.2⟩
  . rw [if_neg h]
    congr 1
    exact (decide_eq_false (by omega)).symm
theorem prCr_ev (p : S29) (hs : p.f0.size <= 9223372036854775806) : Ev (fun k => contangoref09_Check.f k p.f0 p.f1 p.f2 p.f3 p.f4 p.f5 p.f6) (prC p) := by
  simp only [contangoref09_Check.f, withinr_some, Option.bind_some, decide_eq_true_eq]
  refine Ev.bind (refName p.f0 hs) ?_
  unfold prC
  refine Ev.both (fun _ => Ev.both (fun _ => Ev.both (fun _ => Ev.both (fun c => ?_) (fun _ => Ev.val _)) (fun _ => Ev.val _)) (fun _ => Ev.val _)) (fun _ => Ev.val _)
  by_cases hG : -16777216 <= p.f4 ∧ p.f4 <= 16777216 ∧ -16777216 <= p.f5 ∧ p.f5 <= 16777216 ∧ p.f4 <= p.f5 ∧ Int.tmod p.f4 p.f3 = 0 ∧ Int.tmod p.f5 p.f3 = 0
  . rw [if_pos hG]
    obtain ⟨g1, g2, g3, g4, g5, g6, g7⟩ := hG
    exact Ev.pos ⟨g1, g2⟩ (Ev.pos ⟨g3, g4⟩ (Ev.neg (by omega) (Ev.neg (by omega) (Ev.pos g6 (Ev.pos g7 (Ev.val _))))))
  . rw [if_neg hG]
    refine Ev.ite (fun c1 => Ev.ite (fun c2 => Ev.ite (fun c3 => Ev.val _) (fun c3 => Ev.neg (by omega) (Ev.ite (fun c4 => Ev.neg (fun c5 => ?_) (Ev.val _)) (fun c4 => Ev.val _)))) (fun c2 => Ev.val _)) (fun c1 => Ev.val _)
    exact hG ⟨c1.1, c1.2, c2.1, c2.2, by omega, c4, c5⟩
theorem vlr_ev (p : S29) (pr q : Int) (hs : p.f0.size <= 9223372036854775806) : Ev (fun k => contangoref09_Value.f k p.f0 p.f1 p.f2 p.f3 p.f4 p.f5 p.f6 pr q) (vl p pr q) := by
  simp only [contangoref09_Value.f, withinr_some, Option.bind_some, decide_eq_true_eq]
  refine Ev.bind (prCr_ev p hs) ?_
  unfold vl
  refine Ev.both (fun h0 => Ev.both (fun h1 => Ev.both (fun h2 => ?_) (fun _ => Ev.val _)) (fun _ => Ev.val _)) (fun _ => Ev.val _)
  have hm := (prC_zero h0).2
  have b1 := mul_within (a := pr) (b := p.f2) (A := 33554432) (B := 4096) h1.1 h1.2 (by omega) (by omega)
  have b2 := mul_within (a := pr * p.f2) (b := q) (A := 137438953472) (B := 1048576) (by omega) (by omega) (by omega) (by omega)
  rw [wrap_small (n := pr * p.f2) (by omega) (by omega), wrap_small (by omega) (by omega)]
  exact Ev.val _
theorem order_some (a b : Int) : contangoref10_order.f a b = some (cmpI a b) := by
  unfold contangoref10_order.f cmpI
  split
  . rfl
  . split <;> rfl
theorem cmpr_ser (a b : S23) : contangoref10_Compare.f a.f0 a.f1 a.f2 a.f3 b.f0 b.f1 b.f2 b.f3 = some (cmpS a b) := by
  unfold contangoref10_Compare.f cmpS
  simp only [order_some, Option.bind_some]
  split
  . rfl
  . split
    . rfl
    . split
      . split <;> rfl
      . rfl
theorem lotsr_some (n : Int) : contangoref15_lots.f n = some (decide (0 <= n ∧ n <= 1048576)) := by
  unfold contangoref15_lots.f
  by_cases h : n ≥ 0
  . rw [if_pos h]
    congr 1
    exact decide_eq_decide.mpr ⟨fun h2 => ⟨h, h2⟩, fun h2 => h2.2⟩
  . rw [if_neg h]
    congr 1
    exact (decide_eq_false (by omega)).symm
theorem posrJ (l : List S57) (i : Nat) (hi : i < l.length) (b : Bool) (rest : Int)
    (h : Ev (fun k => contangoref15_Check.l0 k l (wrap64 ((i : Int) + 1))) rest) :
    Ev (fun k => contangoref15_Check.j1 k l (i : Int) b) (if b = true then 19 else if 0 <= l[i].f1 ∧ l[i].f1 <= 1048576 ∧ 0 <= l[i].f2 ∧ l[i].f2 <= 1048576 ∧ ¬ (l[i].f1 = 0 ∧ l[i].f2 = 0) then rest else 18) := by
  refine Ev.shift ?_
  simp only [contangoref15_Check.j1, lotsr_some, Option.bind_some, decide_eq_true_eq, rd_pos l i hi]
  refine Ev.both (fun _ => Ev.val _) (fun _ => Ev.pos (by omega) (Ev.pos (by omega) ?_))
  by_cases h1 : 0 <= l[i].f1 ∧ l[i].f1 <= 1048576
  . refine Ev.pos h1 ?_
    by_cases h2 : 0 <= l[i].f2 ∧ l[i].f2 <= 1048576
    . refine Ev.pos h2 ?_
      have hw : wrap64 (l[i].f1 + l[i].f2) = l[i].f1 + l[i].f2 := wrap_small (by omega) (by omega)
      rw [hw]
      by_cases h3 : l[i].f1 + l[i].f2 = 0
      . rw [if_neg (by omega)]
        exact Ev.pos h3 (Ev.val _)
      . rw [if_pos (by omega)]
        exact Ev.neg h3 h
    . rw [if_neg (by omega)]
      exact Ev.neg h2 (Ev.val _)
  . rw [if_neg (by omega)]
    exact Ev.neg h1 (Ev.val _)
theorem posrL (l : List S57) (hl : l.length <= 128) (n : Nat) : ∀ i : Nat, l.length - i = n -> i <= l.length ->
    Ev (fun k => contangoref15_Check.l0 k l (i : Int)) (scan posF (prevAt l i) (l.drop i)) := by
  induction n with
  | zero =>
    intro i hi hle
    refine Ev.shift ?_
    simp only [contangoref15_Check.l0]
    rw [List.drop_eq_nil_of_le (by omega)]
    exact Ev.neg (by omega) (Ev.val _)
  | succ n ih =>
    intro i hi hle
    have hlt : i < l.length := by omega
    have hw : wrap64 ((i : Int) + 1) = ((i + 1 : Nat) : Int) := by unfold wrap64; omega
    have ih2 := ih (i + 1) (by omega) (by omega)
    rw [prevAt_succ l i hlt] at ih2
    refine Ev.shift ?_
    simp only [contangoref15_Check.l0, rd_pos l i hlt]
    rw [List.drop_eq_getElem_cons hlt, scan_cons]
    refine Ev.pos (by omega) ?_
    by_cases h0 : i = 0
    . subst h0
      refine Ev.neg (by omega) ?_
      have hj := posrJ l 0 hlt false (scan posF (some l[0]) (l.drop (0 + 1))) (by rw [hw]; exact ih2)
      have e : (if posF (prevAt l 0) l[0] = 0 then scan posF (some l[0]) (l.drop (0 + 1)) else posF (prevAt l 0) l[0]) = _ := posOne false _ (scan posF (some l[0]) (l.drop (0 + 1)))
      rw [e]
      exact hj
    . have hw2 : wrap64 ((i : Int) - 1) = ((i - 1 : Nat) : Int) := by unfold wrap64; omega
      simp only [hw2]
      refine Ev.pos (by omega) (Ev.pos (by omega) (Ev.pos (by omega) (Ev.pos (by omega) ?_)))
      rw [rd_pos l (i - 1) (by omega), cmpr_ser]
      simp only [Option.bind_some]
      have hj := posrJ l i hlt (decide (cmpS l[i - 1].f0 l[i].f0 ≥ 0)) (scan posF (some l[i]) (l.drop (i + 1))) (by rw [hw]; exact ih2)
      have e : (if posF (prevAt l i) l[i] = 0 then scan posF (some l[i]) (l.drop (i + 1)) else posF (prevAt l i) l[i]) = (if decide (cmpS l[i - 1].f0 l[i].f0 ≥ 0) = true then 19 else if 0 <= l[i].f1 ∧ l[i].f1 <= 1048576 ∧ 0 <= l[i].f2 ∧ l[i].f2 <= 1048576 ∧ ¬ (l[i].f1 = 0 ∧ l[i].f2 = 0) then scan posF (some l[i]) (l.drop (i + 1)) else 18) := by
        rw [prevAt_pos l i (by omega) (by omega)]
        exact posOne (decide (cmpS l[i - 1].f0 l[i].f0 ≥ 0)) _ (scan posF (some l[i]) (l.drop (i + 1)))
      rw [e]
      exact hj
theorem posCr_ev (l : List S57) : Ev (fun k => contangoref15_Check.f k l) (posC l) := by
  simp only [contangoref15_Check.f]
  unfold posC
  by_cases h : l.length > 128
  . rw [if_pos h]
    exact Ev.pos (by omega) (Ev.val _)
  . rw [if_neg h]
    exact Ev.neg (by omega) (posrL l (by omega) l.length 0 (by omega) (by omega))
theorem w18_some (n lo hi : Int) : contangoref18_within.f n lo hi = some (decide (lo <= n ∧ n <= hi)) := by
  unfold contangoref18_within.f
  by_cases h : n ≥ lo
  . rw [if_pos h]
    congr 1
    exact decide_eq_decide.mpr ⟨fun h2 => ⟨h, h2⟩, fun h2 => h2.2⟩
  . rw [if_neg h]
    congr 1
    exact (decide_eq_false (by omega)).symm
theorem mkrJ (l : List S63) (i : Nat) (hi : i < l.length) (b : Bool) (rest : Int)
    (h : Ev (fun k => contangoref18_CheckAll.l0 k l (wrap64 ((i : Int) + 1))) rest) :
    Ev (fun k => contangoref18_CheckAll.j1 k l (i : Int) b) (if b = true then 19 else if -16777216 <= l[i].f1 ∧ l[i].f1 <= 16777216 then rest else 17) := by
  refine Ev.shift ?_
  simp only [contangoref18_CheckAll.j1, w18_some, Option.bind_some, decide_eq_true_eq, rd_mk l i hi]
  exact Ev.both (fun _ => Ev.val _) (fun _ => Ev.pos (by omega) (Ev.pos (by omega) (Ev.both (fun _ => h) (fun _ => Ev.val _))))
theorem mkrL (l : List S63) (hl : l.length <= 128) (n : Nat) : ∀ i : Nat, l.length - i = n -> i <= l.length ->
    Ev (fun k => contangoref18_CheckAll.l0 k l (i : Int)) (scan mkF (prevAt l i) (l.drop i)) := by
  induction n with
  | zero =>
    intro i hi hle
    refine Ev.shift ?_
    simp only [contangoref18_CheckAll.l0]
    rw [List.drop_eq_nil_of_le (by omega)]
    exact Ev.neg (by omega) (Ev.val _)
  | succ n ih =>
    intro i hi hle
    have hlt : i < l.length := by omega
    have hw : wrap64 ((i : Int) + 1) = ((i + 1 : Nat) : Int) := by unfold wrap64; omega
    have ih2 := ih (i + 1) (by omega) (by omega)
    rw [prevAt_succ l i hlt] at ih2
    refine Ev.shift ?_
    simp only [contangoref18_CheckAll.l0, rd_mk l i hlt]
    rw [List.drop_eq_getElem_cons hlt, scan_cons]
    refine Ev.pos (by omega) ?_
    by_cases h0 : i = 0
    . subst h0
      refine Ev.neg (by omega) ?_
      have hj := mkrJ l 0 hlt false (scan mkF (some l[0]) (l.drop (0 + 1))) (by rw [hw]; exact ih2)
      have e : (if mkF (prevAt l 0) l[0] = 0 then scan mkF (some l[0]) (l.drop (0 + 1)) else mkF (prevAt l 0) l[0]) = _ := mkOne false _ (scan mkF (some l[0]) (l.drop (0 + 1)))
      rw [e]
      exact hj
    . have hw2 : wrap64 ((i : Int) - 1) = ((i - 1 : Nat) : Int) := by unfold wrap64; omega
      simp only [hw2]
      refine Ev.pos (by omega) (Ev.pos (by omega) (Ev.pos (by omega) (Ev.pos (by omega) ?_)))
      rw [rd_mk l (i - 1) (by omega), cmpr_ser]
      simp only [Option.bind_some]
      have hj := mkrJ l i hlt (decide (cmpS l[i - 1].f0 l[i].f0 ≥ 0)) (scan mkF (some l[i]) (l.drop (i + 1))) (by rw [hw]; exact ih2)
      have e : (if mkF (prevAt l i) l[i] = 0 then scan mkF (some l[i]) (l.drop (i + 1)) else mkF (prevAt l i) l[i]) = (if decide (cmpS l[i - 1].f0 l[i].f0 ≥ 0) = true then 19 else if -16777216 <= l[i].f1 ∧ l[i].f1 <= 16777216 then scan mkF (some l[i]) (l.drop (i + 1)) else 17) := by
        rw [prevAt_pos l i (by omega) (by omega)]
        exact mkOne (decide (cmpS l[i - 1].f0 l[i].f0 ≥ 0)) _ (scan mkF (some l[i]) (l.drop (i + 1)))
      rw [e]
      exact hj
theorem mkCr_ev (l : List S63) : Ev (fun k => contangoref18_CheckAll.f k l) (mkC l) := by
  simp only [contangoref18_CheckAll.f]
  unfold mkC
  by_cases h : l.length > 128
  . rw [if_pos h]
    exact Ev.pos (by omega) (Ev.val _)
  . rw [if_neg h]
    exact Ev.neg (by omega) (mkrL l (by omega) l.length 0 (by omega) (by omega))
theorem prLr (l : List S29) (hl : l.length <= 32) (hs : ∀ p ∈ l, p.f0.size <= 9223372036854775806) (n : Nat) : ∀ i : Nat, l.length - i = n -> i <= l.length ->
    Ev (fun k => contangoref09_CheckAll.l0 k l (i : Int)) (scan prF (prevAt l i) (l.drop i)) := by
  induction n with
  | zero =>
    intro i hi hle
    refine Ev.shift ?_
    simp only [contangoref09_CheckAll.l0]
    rw [List.drop_eq_nil_of_le (by omega)]
    exact Ev.neg (by omega) (Ev.val _)
  | succ n ih =>
    intro i hi hle
    have hlt : i < l.length := by omega
    have hw : wrap64 ((i : Int) + 1) = ((i + 1 : Nat) : Int) := by unfold wrap64; omega
    have ih2 := ih (i + 1) (by omega) (by omega)
    rw [prevAt_succ l i hlt] at ih2
    refine Ev.shift ?_
    simp only [contangoref09_CheckAll.l0, rd_pr l i hlt, hw]
    rw [List.drop_eq_getElem_cons hlt, scan_cons]
    refine Ev.pos (by omega) (Ev.pos (by omega) (Ev.bind (prCr_ev l[i] (hs _ (List.getElem_mem hlt))) ?_))
    unfold prF
    by_cases hc : prC l[i] = 0
    . refine Ev.pos hc ?_
      rw [if_pos hc]
      by_cases h0 : i = 0
      . subst h0
        refine Ev.neg (by omega) ?_
        exact ih2
      . have hw2 : wrap64 ((i : Int) - 1) = ((i - 1 : Nat) : Int) := by unfold wrap64; omega
        rw [prevAt_pos l i (by omega) (by omega)]
        simp only [hw2]
        refine Ev.pos (by omega) (Ev.pos (by omega) (Ev.pos (by omega) ?_))
        rw [rd_pr l (i - 1) (by omega)]
        by_cases hb : Op.bytesLess l[i - 1].f0.toList l[i].f0.toList = true
        . rw [if_pos hb, if_pos rfl]
          exact Ev.pos hb ih2
        . rw [if_neg hb, if_neg (by decide)]
          exact Ev.neg hb (Ev.val _)
    . rw [if_neg hc, if_neg hc]
      exact Ev.neg hc (Ev.val _)
theorem prAr_ev (l : List S29) (hs : ∀ p ∈ l, p.f0.size <= 9223372036854775806) : Ev (fun k => contangoref09_CheckAll.f k l) (prA l) := by
  simp only [contangoref09_CheckAll.f]
  unfold prA
  by_cases h : l.length > 32
  . rw [if_pos h]
    exact Ev.pos (by omega) (Ev.val _)
  . rw [if_neg h]
    exact Ev.neg (by omega) (prLr l (by omega) hs l.length 0 (by omega) (by omega))
theorem tq (x : Int) : x = 1073741824 * x.tdiv 1073741824 + x.tmod 1073741824 ∧ -1073741824 < x.tmod 1073741824 ∧ x.tmod 1073741824 < 1073741824 := by
  by_cases h : 0 <= x
  . rw [Int.tdiv_eq_ediv_of_nonneg h, Int.tmod_eq_emod_of_nonneg h]
    omega
  . obtain ⟨y, rfl⟩ : ∃ y, x = -y := ⟨-x, by omega⟩
    rw [Int.neg_tdiv, Int.neg_tmod, Int.tdiv_eq_ediv_of_nonneg (by omega), Int.tmod_eq_emod_of_nonneg (by omega)]
    omega
theorem fitsr_some (n : Int) : contangoref01_Fits.f n = some (fitB n) := by
  unfold contangoref01_Fits.f fitB
  by_cases h : n ≥ -1152921504606846976
  . rw [if_pos h]
    congr 1
    exact decide_eq_decide.mpr ⟨fun h2 => ⟨h, h2⟩, fun h2 => h2.2⟩
  . rw [if_neg h]
    congr 1
    exact (decide_eq_false (by omega)).symm
theorem sumrL (l : List Int) (hl : l.length <= 1000000) (n : Nat) : ∀ (i : Nat) (hi lo : Int), l.length - i = n -> i <= l.length -> -(1073741825 * (i : Int)) <= hi -> hi <= 1073741825 * (i : Int) -> -(1073741824 * (i : Int)) <= lo -> lo <= 1073741824 * (i : Int) ->
    Ev (fun k => contangoref01_Sum.l0 k l hi lo (i : Int)) (smV (l.drop i) (hi * 1073741824 + lo)) := by
  induction n with
  | zero =>
    intro i hi lo hd hle h1 h2 h3 h4
    refine Ev.shift ?_
    simp only [contangoref01_Sum.l0]
    rw [List.drop_eq_nil_of_le (by omega)]
    refine Ev.neg (by omega) ?_
    have ht := tq lo
    generalize hq : lo.tdiv 1073741824 = q at *
    generalize hr : lo.tmod 1073741824 = r at *
    clear hq hr
    have e0 : wrap64 q = q := wrap_small (by omega) (by omega)
    have e1 : wrap64 (hi + q) = hi + q := wrap_small (by omega) (by omega)
    rw [e0, e1]
    have e : smV ([] : List Int) (hi * 1073741824 + lo) = if fitB (hi * 1073741824 + lo) = true then (hi * 1073741824 + lo, 0) else (0, 3) := by simp [smV, sumI]
    rw [e]
    by_cases c1 : hi + q < -1073741825
    . have hn : ¬ fitB (hi * 1073741824 + lo) = true := by unfold fitB; simp only [decide_eq_true_eq]; omega
      rw [if_neg hn]
      exact Ev.pos c1 (Ev.val _)
    . refine Ev.neg c1 ?_
      by_cases c2 : hi + q > 1073741825
      . have hn : ¬ fitB (hi * 1073741824 + lo) = true := by unfold fitB; simp only [decide_eq_true_eq]; omega
        rw [if_neg hn]
        exact Ev.pos c2 (Ev.val _)
      . refine Ev.neg c2 ?_
        have e2 : wrap64 ((hi + q) * 1073741824) = (hi + q) * 1073741824 := wrap_small (by omega) (by omega)
        have e3 : wrap64 ((hi + q) * 1073741824 + r) = hi * 1073741824 + lo := by
          rw [wrap_small (by omega) (by omega)]
          omega
        rw [e2, e3, fitsr_some]
        simp only [Option.bind_some]
        exact Ev.both (fun _ => Ev.val _) (fun _ => Ev.val _)
  | succ n ih =>
    intro i hi lo hd hle h1 h2 h3 h4
    have hlt : i < l.length := by omega
    have hw : wrap64 ((i : Int) + 1) = ((i + 1 : Nat) : Int) := by unfold wrap64; omega
    refine Ev.shift ?_
    simp only [contangoref01_Sum.l0, hw]
    have hr : rd l (i : Int) = l[i] := by simp [rd, List.getD_eq_getElem?_getD, hlt]
    rw [hr, List.drop_eq_getElem_cons hlt]
    refine Ev.pos (by omega) (Ev.pos (by omega) ?_)
    rw [fitsr_some]
    simp only [Option.bind_some]
    by_cases hf : fitB l[i] = true
    . refine Ev.pos hf ?_
      have hf2 := hf
      unfold fitB at hf2
      simp only [decide_eq_true_eq] at hf2
      have ht := tq l[i]
      generalize hq : l[i].tdiv 1073741824 = q at *
      generalize hr : l[i].tmod 1073741824 = r at *
      have e0 : wrap64 q = q := wrap_small (by omega) (by omega)
      have e1 : wrap64 (hi + q) = hi + q := wrap_small (by omega) (by omega)
      have e2 : wrap64 (lo + r) = lo + r := wrap_small (by omega) (by omega)
      rw [e0, e1, e2]
      have h := ih (i + 1) (hi + q) (lo + r) (by omega) (by omega) (by omega) (by omega) (by omega) (by omega)
      have e3 : smV (l[i] :: l.drop (i + 1)) (hi * 1073741824 + lo) = smV (l.drop (i + 1)) ((hi + q) * 1073741824 + (lo + r)) := by
        unfold smV
        rw [List.all_cons, hf, Bool.true_and]
        have e4 : hi * 1073741824 + lo + sumI (l[i] :: l.drop (i + 1)) = (hi + q) * 1073741824 + (lo + r) + sumI (l.drop (i + 1)) := by
          have : sumI (l[i] :: l.drop (i + 1)) = l[i] + sumI (l.drop (i + 1)) := rfl
          rw [this]
          omega
        rw [e4]
      rw [e3]
      exact h
    . have e : smV (l[i] :: l.drop (i + 1)) (hi * 1073741824 + lo) = (0, 2) := by
        unfold smV
        rw [List.all_cons, Bool.eq_false_iff.mpr hf, Bool.false_and]
        rfl
      rw [e]
      exact Ev.neg hf (Ev.val _)
theorem smr_ev (l : List Int) (hl : l.length <= 1000000) : Ev (fun k => contangoref01_Sum.f k l) (sm l) := by
  simp only [contangoref01_Sum.f]
  exact sumrL l hl l.length 0 0 0 (by omega) (by omega) (by omega) (by omega) (by omega) (by omega)
def tup (x : S29 × Bool) : ByteArray × Int × Int × Int × Int × Int × Bool × Bool := (x.1.f0, x.1.f1, x.1.f2, x.1.f3, x.1.f4, x.1.f5, x.1.f6, x.2)
theorem findr_loop (l : List S29) (hl : l.length <= 9223372036854775806) (s : ByteArray) (n : Nat) : ∀ i : Nat, l.length - i = n -> i <= l.length ->
    Ev (fun k => contangoref09_Find.l0 k l s (i : Int)) (tup (firstOf (fun x : S29 => x.f0.toList == s.toList) z29 (l.drop i))) := by
  induction n with
  | zero =>
    intro i hi hle
    refine Ev.shift ?_
    simp only [contangoref09_Find.l0]
    rw [List.drop_eq_nil_of_le (by omega)]
    exact Ev.neg (by omega) (Ev.val _)
  | succ n ih =>
    intro i hi hle
    have hlt : i < l.length := by omega
    have hw : wrap64 ((i : Int) + 1) = ((i + 1 : Nat) : Int) := by unfold wrap64; omega
    refine Ev.shift ?_
    simp only [contangoref09_Find.l0, rd_pr l i hlt, hw]
    rw [List.drop_eq_getElem_cons hlt, firstOf]
    refine Ev.pos (by omega) (Ev.pos (by omega) ?_)
    by_cases h : l[i].f0.toList = s.toList
    . rw [if_pos (beq_iff_eq.mpr h)]
      exact Ev.pos h (Ev.val _)
    . rw [if_neg (fun h2 => h (beq_iff_eq.mp h2))]
      exact Ev.neg h (ih (i + 1) (by omega) (by omega))
theorem findr_ev (l : List S29) (hl : l.length <= 9223372036854775806) (s : ByteArray) : Ev (fun k => contangoref09_Find.f k l s) (tup (prAt l s)) := by
  simp only [contangoref09_Find.f]
  exact findr_loop l hl s l.length 0 (by omega) (by omega)
theorem mkfr_loop (l : List S63) (hl : l.length <= 9223372036854775806) (s : S23) (n : Nat) : ∀ i : Nat, l.length - i = n -> i <= l.length ->
    Ev (fun k => contangoref18_Find.l0 k l (i : Int) s.f0 s.f1 s.f2 s.f3) (if idxOf (mark_Find.q s.f0 s.f1 s.f2 s.f3) (l.drop i) (i : Int) < 0 then ((0 : Int), false) else ((rd_T63 l (idxOf (mark_Find.q s.f0 s.f1 s.f2 s.f3) (l.drop i) (i : Int))).f1, true)) := by
  induction n with
  | zero =>
    intro i hi hle
    refine Ev.shift ?_
    simp only [contangoref18_Find.l0]
    rw [List.drop_eq_nil_of_le (by omega), idxOf, if_pos (by decide)]
    exact Ev.neg (by omega) (Ev.val _)
  | succ n ih =>
    intro i hi hle
    have hlt : i < l.length := by omega
    have hw : wrap64 ((i : Int) + 1) = ((i + 1 : Nat) : Int) := by unfold wrap64; omega
    refine Ev.shift ?_
    simp only [contangoref18_Find.l0, rd_mk l i hlt, hw]
    rw [List.drop_eq_getElem_cons hlt, idxOf]
    refine Ev.pos (by omega) (Ev.pos (by omega) ?_)
    by_cases h : mark_Find.q s.f0 s.f1 s.f2 s.f3 l[i] = true
    . rw [if_pos h, if_neg (by omega), rd_mk l i hlt]
      exact Ev.pos h (Ev.val _)
    . rw [if_neg h]
      exact Ev.neg h (ih (i + 1) (by omega) (by omega))
theorem mkfr_ev (l : List S63) (hl : l.length <= 9223372036854775806) (s : S23) : Ev (fun k => contangoref18_Find.f k l s.f0 s.f1 s.f2 s.f3) (mkAt l s) := by
  simp only [contangoref18_Find.f]
  exact mkfr_loop l hl s l.length 0 (by omega) (by omega)
theorem ints_self (l : List Int) (hl : l.length <= 1000000) (n : Nat) : ∀ i : Nat, l.length - i = n -> i <= l.length -> Ev (fun k => contangoref21_Ints.l0 k l l (i : Int)) true := by
  induction n with
  | zero =>
    intro i hi hle
    refine Ev.shift (Ev.shift ?_)
    simp only [contangoref21_Ints.l0, contangoref21_Ints.j1]
    exact Ev.neg (by omega) (Ev.neg (by decide) (Ev.valOf (by simp)))
  | succ n ih =>
    intro i hi hle
    have hlt : i < l.length := by omega
    have hw : wrap64 ((i : Int) + 1) = ((i + 1 : Nat) : Int) := by unfold wrap64; omega
    have hd : decide ((i : Int) < (l.length : Int)) = true := decide_eq_true (by omega)
    refine Ev.shift ?_
    simp only [contangoref21_Ints.l0, hd]
    refine Ev.pos (by omega) (Ev.shift ?_)
    simp only [contangoref21_Ints.j1, hw]
    exact Ev.pos trivial (Ev.pos (by omega) (Ev.pos (by omega) (Ev.pos (by omega) (Ev.pos trivial (ih (i + 1) (by omega) (by omega))))))
theorem same_self (l : List S57) (hl : l.length <= 9223372036854775806) (n : Nat) : ∀ i : Nat, l.length - i = n -> i <= l.length -> Ev (fun k => contangoref15_Same.l0 k l l (i : Int)) true := by
  induction n with
  | zero =>
    intro i hi hle
    refine Ev.shift (Ev.shift ?_)
    simp only [contangoref15_Same.l0, contangoref15_Same.j1]
    exact Ev.neg (by omega) (Ev.neg (by decide) (Ev.valOf (by simp)))
  | succ n ih =>
    intro i hi hle
    have hlt : i < l.length := by omega
    have hw : wrap64 ((i : Int) + 1) = ((i + 1 : Nat) : Int) := by unfold wrap64; omega
    have hd : decide ((i : Int) < (l.length : Int)) = true := decide_eq_true (by omega)
    refine Ev.shift ?_
    simp only [contangoref15_Same.l0, hd]
    refine Ev.pos (by omega) (Ev.shift ?_)
    simp only [contangoref15_Same.j1, hw]
    exact Ev.pos trivial (Ev.pos (by omega) (Ev.pos (by omega) (Ev.pos (by omega) (Ev.pos (by simp [eqD57]) (ih (i + 1) (by omega) (by omega))))))
theorem optr_some (p : S57) : contangoref21_option.f p.f0.f0 p.f0.f1 p.f0.f2 p.f0.f3 = some (isOpt p) := by
  unfold contangoref21_option.f isOpt
  by_cases h : p.f0.f1 = 2
  . rw [if_pos h, h]; rfl
  . rw [if_neg h, beq_eq_false_iff_ne.mpr h, Bool.false_or]
theorem partsr_loop (l : List S57) (hl : l.length < 2513169434916) (n : Nat) : ∀ (i : Nat) (a b : List S57), l.length - i = n -> i <= l.length -> a.length <= i -> b.length <= i ->
    Ev (fun k => contangoref21_Parts.l0 k l a b (i : Int)) (a ++ (l.drop i).filter (fun p => p.f0.f1 == 1), b ++ (l.drop i).filter isOpt) := by
  induction n with
  | zero =>
    intro i a b hi hle _ _
    refine Ev.shift ?_
    simp only [contangoref21_Parts.l0]
    rw [List.drop_eq_nil_of_le (by omega)]
    simp only [List.filter_nil, List.append_nil]
    exact Ev.neg (by omega) (Ev.val _)
  | succ n ih =>
    intro i a b hi hle ha hb
    have hlt : i < l.length := by omega
    have hw : wrap64 ((i : Int) + 1) = ((i + 1 : Nat) : Int) := by unfold wrap64; omega
    refine Ev.shift ?_
    simp only [contangoref21_Parts.l0, rd_pos l i hlt, hw, optr_some, Option.bind_some]
    rw [List.drop_eq_getElem_cons hlt, List.filter_cons, List.filter_cons]
    refine Ev.pos (by omega) (Ev.pos (by omega) ?_)
    by_cases c1 : l[i].f0.f1 = 1
    . have e1 : (l[i].f0.f1 == 1) = true := beq_iff_eq.mpr c1
      have e2 : isOpt l[i] = false := by unfold isOpt; rw [c1]; rfl
      rw [if_pos e1, if_neg (by rw [e2]; decide), e2]
      refine Ev.pos c1 (Ev.pos (by omega) (Ev.neg (by decide) ?_))
      have h := ih (i + 1) (a ++ [l[i]]) b (by omega) (by omega) (by simp; omega) (by omega)
      rw [List.append_assoc] at h
      exact h
    . have e1 : (l[i].f0.f1 == 1) = false := beq_eq_false_iff_ne.mpr c1
      rw [if_neg (by rw [e1]; decide)]
      refine Ev.neg c1 ?_
      by_cases c2 : isOpt l[i] = true
      . rw [if_pos c2]
        refine Ev.pos c2 (Ev.pos (by omega) ?_)
        have h := ih (i + 1) a (b ++ [l[i]]) (by omega) (by omega) (by omega) (by simp; omega)
        rw [List.append_assoc] at h
        exact h
      . rw [if_neg c2]
        exact Ev.neg c2 (ih (i + 1) a b (by omega) (by omega) (by omega) (by omega))
theorem first_size (ps : List S29) (h : ∀ p ∈ ps, p.f0.size <= 9223372036854775806) (s : ByteArray) : (prAt ps s).1.f0.size <= 9223372036854775806 := by
  unfold prAt
  induction ps with
  | nil => exact Nat.zero_le _
  | cons p r ih =>
    rw [firstOf]
    split
    . exact h p List.mem_cons_self
    . exact ih (fun y hy => h y (List.mem_cons_of_mem _ hy))
def HoldsA (m : List (List Int)) (t : List (Int × Int)) : Prop := m.length = 8 ∧ ∀ c : Nat, c < 8 -> m.getD c [] = grp t (c : Int)
theorem gor_ev (ps : List S29) (hps : ps.length <= 9223372036854775806) (hsz : ∀ p ∈ ps, p.f0.size <= 9223372036854775806) (ms : List S63) (hms : ms.length <= 9223372036854775806) (l : List S57) : ∀ (m : List (List Int)) (t : List (Int × Int)), HoldsA m t -> t.length + l.length < 1000000 ->
    ∃ m', Ev (fun k => contangoref21_Net.go k ps ms l m) ((gs ps ms l t).1, m') ∧ ((gs ps ms l t).1 = 0 -> HoldsA m' (gs ps ms l t).2) := by
  induction l with
  | nil => intro m t h _; exact ⟨m, Ev.val _, fun _ => h⟩
  | cons p r ih =>
    intro m t h hl
    simp only [List.length_cons] at hl
    simp only [contangoref21_Net.go, optr_some, Option.bind_some, gs]
    by_cases c : isOpt p = true
    . simp only [if_pos c]
      have hx : (prAt ps p.f0.f0).2 = true -> (prAt ps p.f0.f0).1.f0.size <= 9223372036854775806 := fun _ => first_size ps hsz p.f0.f0
      by_cases d1 : (prAt ps p.f0.f0).2 = true
      . by_cases d2 : (mkAt ms p.f0).2 = true
        . have hv := vlr_ev (prAt ps p.f0.f0).1 (mkAt ms p.f0).1 (netQ p) (hx d1)
          have ew : wv ps ms p.f0 (netQ p) = ((vl (prAt ps p.f0.f0).1 (mkAt ms p.f0).1 (netQ p)).1, (prAt ps p.f0.f0).1.f1, (vl (prAt ps p.f0.f0).1 (mkAt ms p.f0).1 (netQ p)).2) := by
            unfold wv
            rw [if_pos d1, if_pos d2]
          by_cases c2 : (wv ps ms p.f0 (netQ p)).2.2 = 0
          . rw [if_pos c2]
            have hc := wv_cur c2
            rw [ew] at c2 hc ⊢
            simp only at c2 hc ⊢
            obtain ⟨cn, hcn⟩ := Int.eq_ofNat_of_zero_le hc.1
            obtain ⟨m', h1, h2⟩ := ih (m.set cn (m.getD cn [] ++ [(vl (prAt ps p.f0.f0).1 (mkAt ms p.f0).1 (netQ p)).1])) (t ++ [((prAt ps p.f0.f0).1.f1, (vl (prAt ps p.f0.f0).1 (mkAt ms p.f0).1 (netQ p)).1)])
              ⟨by rw [List.length_set]; exact h.1, fun c hc8 => by
                rw [grp_snoc]
                by_cases hcc : cn = c
                . subst hcc
                  rw [if_pos (beq_iff_eq.mpr hcn), <- h.2 cn hc8]
                  rw [List.getD_eq_getElem?_getD, List.getElem?_set_self (by rw [h.1]; exact hc8)]
                  rfl
                . rw [if_neg (fun hb => hcc (by have := beq_iff_eq.mp hb; omega)), <- h.2 c hc8]
                  rw [List.getD_eq_getElem?_getD, List.getElem?_set_ne hcc, <- List.getD_eq_getElem?_getD]⟩ (by simp; omega)
            refine ⟨m', Ev.bind (findr_ev ps hps p.f0.f0) (Ev.pos d1 (Ev.bind (mkfr_ev ms hms p.f0) (Ev.pos d2 ?_))), h2⟩
            simp only [contangoref15_Net.f, Option.bind_some]
            refine Ev.bind hv (Ev.pos c2 (Ev.pos hc (Ev.pos ?_ ?_)))
            . show (m.getD (prAt ps p.f0.f0).1.f1.toNat []).length < 1000000
              rw [hcn, Int.toNat_natCast, h.2 cn (by omega)]
              have := grp_len t (cn : Int)
              omega
            . show Ev (fun k => contangoref21_Net.go k ps ms r (m.set (prAt ps p.f0.f0).1.f1.toNat (m.getD (prAt ps p.f0.f0).1.f1.toNat [] ++ [_]))) _
              rw [hcn, Int.toNat_natCast]
              rw [hcn] at h1
              exact h1
          . rw [if_neg c2]
            rw [ew] at c2 ⊢
            simp only at c2 ⊢
            refine ⟨[], Ev.bind (findr_ev ps hps p.f0.f0) (Ev.pos d1 (Ev.bind (mkfr_ev ms hms p.f0) (Ev.pos d2 ?_))), fun h => absurd h c2⟩
            simp only [contangoref15_Net.f, Option.bind_some]
            exact Ev.bind hv (Ev.neg c2 (Ev.val _))
        . have ew : wv ps ms p.f0 (netQ p) = (0, 0, 11) := by
            unfold wv
            rw [if_pos d1, if_neg d2]
          rw [ew, if_neg (by decide)]
          exact ⟨[], Ev.bind (findr_ev ps hps p.f0.f0) (Ev.pos d1 (Ev.bind (mkfr_ev ms hms p.f0) (Ev.neg d2 (Ev.val _)))), fun h => absurd h (by decide)⟩
      . have ew : wv ps ms p.f0 (netQ p) = (0, 0, 19) := by
          unfold wv
          rw [if_neg d1]
        rw [ew, if_neg (by decide)]
        exact ⟨[], Ev.bind (findr_ev ps hps p.f0.f0) (Ev.neg d1 (Ev.val _)), fun h => absurd h (by decide)⟩
    . simp only [if_neg c]
      exact ih m t h (by omega)
theorem ssr_ev (t : List (Int × Int)) (m : List (List Int)) (h : HoldsA m t) (hl : t.length <= 1000000) (j : Nat) : ∀ (c : Nat) a, c + j = 8 -> Ev (fun k => contangoref21_Net.sums k m j (c : Int) a) (ss t j (c : Int) a) := by
  induction j with
  | zero => intro c a _; exact Ev.val _
  | succ j ih =>
    intro c a hc
    simp only [contangoref21_Net.sums, ss]
    have hs := smr_ev (grp t (c : Int)) (by have := grp_len t (c : Int); omega)
    rw [<- h.2 c (by omega)] at hs
    rw [Int.toNat_natCast]
    refine Ev.bind hs ?_
    rw [h.2 c (by omega)]
    exact Ev.both (fun _ => ih (c + 1) _ (by omega)) (fun _ => Ev.val _)
theorem nvr_ev (ps : List S29) (hps : ps.length <= 9223372036854775806) (hsz : ∀ p ∈ ps, p.f0.size <= 9223372036854775806) (l : List S57) (ms : List S63) (hms : ms.length <= 9223372036854775806) : Ev (fun k => contangoref21_Net.f k ps l ms) (nv ps l ms) := by
  simp only [contangoref21_Net.f]
  unfold nv
  refine Ev.bind (prAr_ev ps hsz) (Ev.both (fun _ => Ev.bind (posCr_ev l) (Ev.both (fun h1 => Ev.bind (mkCr_ev ms) (Ev.both (fun _ => ?_) (fun _ => Ev.val _))) (fun _ => Ev.val _))) (fun _ => Ev.val _))
  have hl := posC_len h1
  obtain ⟨m', h2, h3⟩ := gor_ev ps hps hsz ms hms l (List.replicate 8 []) [] ⟨rfl, fun c hc => by rw [List.getD_eq_getElem?_getD, List.getElem?_replicate, if_pos hc]; rfl⟩ (by simp; omega)
  refine Ev.bind h2 (Ev.both (fun h4 => ssr_ev _ _ (h3 h4) ?_ 8 0 [] rfl) (fun _ => Ev.val _))
  have := gs_len ps ms l []
  simp only [List.length_nil] at this
  omega
theorem goes_true : contangolaw21_goes.f 60 = some true := by decide +kernel
theorem goes_ev : Ev (fun k => contangolaw21_goes.f k) true := Ev.of goes_true (fun k => contangolaw21_goes.mono k)
theorem parts_loop (l : List S57) (hl : l.length < 2513169434916) (n : Nat) : ∀ (i : Nat) (a b : List S57), l.length - i = n -> i <= l.length -> a.length <= i -> b.length <= i ->
    Ev (fun k => option_Parts.l0 k a b l (l.length : Int) (i : Int)) (a ++ (l.drop i).filter (fun p => p.f0.f1 == 1), b ++ (l.drop i).filter isOpt) := by
  induction n with
  | zero =>
    intro i a b hi hle _ _
    refine Ev.shift ?_
    simp only [option_Parts.l0]
    rw [List.drop_eq_nil_of_le (by omega)]
    simp only [List.filter_nil, List.append_nil]
    exact Ev.neg (by omega) (Ev.val _)
  | succ n ih =>
    intro i a b hi hle ha hb
    have hlt : i < l.length := by omega
    have hw : wrap64 ((i : Int) + 1) = ((i + 1 : Nat) : Int) := by unfold wrap64; omega
    refine Ev.shift ?_
    simp only [option_Parts.l0, rd_pos l i hlt, hw]
    rw [List.drop_eq_getElem_cons hlt, List.filter_cons, List.filter_cons]
    refine Ev.pos (by omega) (Ev.pos (by omega) (Ev.pos (by omega) ?_))
    by_cases c1 : l[i].f0.f1 = 1
    . have e1 : (l[i].f0.f1 == 1) = true := beq_iff_eq.mpr c1
      have e2 : isOpt l[i] = false := by unfold isOpt; rw [c1]; rfl
      rw [if_pos e1, if_neg (by rw [e2]; decide)]
      refine Ev.pos c1 (Ev.pos (by omega) ?_)
      have h := ih (i + 1) (a ++ [l[i]]) b (by omega) (by omega) (by simp; omega) (by omega)
      rw [List.append_assoc] at h
      exact h
    . have e1 : (l[i].f0.f1 == 1) = false := beq_eq_false_iff_ne.mpr c1
      rw [if_neg (by rw [e1]; decide)]
      refine Ev.neg c1 ?_
      by_cases c2 : l[i].f0.f1 = 2
      . have e2 : isOpt l[i] = true := by unfold isOpt; rw [c2]; rfl
        rw [if_pos e2]
        refine Ev.pos c2 (Ev.pos (by omega) ?_)
        have h := ih (i + 1) a (b ++ [l[i]]) (by omega) (by omega) (by omega) (by simp; omega)
        rw [List.append_assoc] at h
        exact h
      . refine Ev.neg c2 ?_
        by_cases c3 : l[i].f0.f1 = 3
        . have e2 : isOpt l[i] = true := by unfold isOpt; rw [c3]; rfl
          rw [if_pos e2]
          refine Ev.pos c3 (Ev.pos (by omega) ?_)
          have h := ih (i + 1) a (b ++ [l[i]]) (by omega) (by omega) (by omega) (by simp; omega)
          rw [List.append_assoc] at h
          exact h
        . have e2 : isOpt l[i] = false := by
            unfold isOpt
            rw [beq_eq_false_iff_ne.mpr c2, beq_eq_false_iff_ne.mpr c3]; rfl
          rw [if_neg (by rw [e2]; decide)]
          exact Ev.neg c3 (ih (i + 1) a b (by omega) (by omega) (by omega) (by omega))
theorem partsr_ev (l : List S57) (hl : l.length < 2513169434916) : Ev (fun k => contangoref21_Parts.f k l) (l.filter (fun p => p.f0.f1 == 1), l.filter isOpt) := by
  simp only [contangoref21_Parts.f]
  exact partsr_loop l hl l.length 0 [] [] (by omega) (by omega) (by simp) (by simp)
theorem partsp_ev (l : List S57) (hl : l.length < 2513169434916) : Ev (fun k => option_Parts.f k l) (l.filter (fun p => p.f0.f1 == 1), l.filter isOpt) := by
  simp only [option_Parts.f]
  exact parts_loop l hl l.length 0 [] [] (by omega) (by omega) (by simp) (by simp)
theorem ss_len (t : List (Int × Int)) (j : Nat) : ∀ c a, (ss t j c a).1.length <= a.length + j := by
  induction j with
  | zero => intro c a; exact Nat.le_refl _
  | succ j ih =>
    intro c a
    rw [ss]
    split
    . have := ih (c + 1) (a ++ [(sm (grp t c)).1])
      simp only [List.length_append, List.length_cons, List.length_nil] at this
      omega
    . simp
theorem nv_len (ps : List S29) (l : List S57) (ms : List S63) : (nv ps l ms).1.length <= 8 := by
  unfold nv
  split
  . split
    . split
      . split
        . have := ss_len (gs ps ms l []).2 8 0 []
          simpa using this
        . simp
      . simp
    . simp
  . simp
theorem OptionNets : contangolaw21_OptionNets.Said := by
  intro ps l ms hp _ _ hsp hsl hsm
  refine Ev.get ?_
  have hsz : ∀ p ∈ ps, p.f0.size <= 9223372036854775806 := fun p hm => by
    have h := hsp.2 p hm
    simp only [sz29] at h
    omega
  have hps : ps.length <= 9223372036854775806 := by have := hsp.1; omega
  have hms : ms.length <= 9223372036854775806 := by have := hsm.1; omega
  have hl : l.length < 2513169434916 := by have := hsl.1; omega
  have hfl : ∀ f : S57 -> Bool, (l.filter f).length <= 9223372036854775806 := fun f => by
    have := List.length_filter_le f l
    omega
  simp only [contangolaw21_OptionNets.f]
  refine Ev.bind (nv_ev ps l ms) (Ev.bind (nvr_ev ps hps hsz l ms hms) (Ev.bind (partsp_ev l hl) (Ev.bind (partsr_ev l hl) (Ev.bind (ints_self _ (by have := nv_len ps l ms; omega) _ 0 rfl (by omega)) (Ev.pos rfl (Ev.pos rfl ?_))))))
  exact Ev.bind (same_self _ (hfl _) _ 0 rfl (by omega)) (Ev.pos rfl (Ev.bind (same_self _ (hfl _) _ 0 rfl (by omega)) (Ev.pos rfl (Ev.bind goes_ev (Ev.val _)))))
end Go.Proofs.Ytjaokhpbdhefhaa.Pure
