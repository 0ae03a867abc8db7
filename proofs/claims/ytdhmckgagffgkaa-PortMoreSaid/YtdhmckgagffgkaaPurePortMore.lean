/- Of any offers, members and gaps: with further offers behind, all that were taken are taken by the same ones, and nobody is left who was not: the law, as a statement over numbers and lists. -/
import Derived.Test.YtdhmckgagffgkaaArgPortMore
namespace Go.Proofs.Ytdhmckgagffgkaa.Pure
set_option linter.unusedSimpArgs false
set_option linter.unusedVariables false
open Go.RowKit Go.Proofs.Ytdhmckgagffgkaa.PPortMore Go.Proofs.Ytdhmckgagffgkaa.Opens Go.Proofs.YtdhmckgagffgkaaW.PrintWords Go.Proofs.YtdhmckgagffgkaaW.PrintLast
/-- Comes to r, at all large numbers of rounds. -/
def Ev {α : Type} (g : Nat → Option α) (r : α) : Prop := ∃ K, ∀ k, K ≤ k → g k = some r
theorem Ev.shift {α : Type} {g : Nat → Option α} {r : α} (h : Ev (fun k => g (k + 1)) r) : Ev g r := by
  obtain ⟨K, h⟩ := h
  refine ⟨K + 1, fun k hk => ?_⟩
  obtain ⟨m, rfl⟩ : ∃ m, k = m + 1 := ⟨k - 1, by omega⟩
  exact h m (by omega)
theorem Ev.val {α : Type} (r : α) : Ev (fun _ => some r) r := ⟨0, fun _ _ => rfl⟩
theorem Ev.bind {α β : Type} {g : Nat → Option α} {f : Nat → α → Option β} {x : α} {r : β} (h : Ev g x) (h' : Ev (fun k => f k x) r) : Ev (fun k => (g k).bind (f k)) r := by
  obtain ⟨K, h⟩ := h
  obtain ⟨K', h'⟩ := h'
  exact ⟨max K K', fun k hk => by show (g k).bind (f k) = some r; rw [h k (by omega)]; exact h' k (by omega)⟩
theorem Ev.get {α : Type} {g : Nat → Option α} {r : α} (h : Ev g r) : ∃ k, g k = some r := by
  obtain ⟨K, h⟩ := h
  exact ⟨K, h K (Nat.le_refl _)⟩
theorem Ev.of {α : Type} {g : Nat → Option α} {r : α} {k0 : Nat} (h : g k0 = some r) (hm : ∀ k, LeO (g k) (g (k + 1))) : Ev g r := ⟨k0, fun _ hk => at_rounds hm hk h⟩
theorem Ev.pos {α : Type} {c : Prop} [Decidable c] {a b : Nat → Option α} {r : α} (hc : c) (h : Ev a r) : Ev (fun k => if c then a k else b k) r := by
  obtain ⟨K, h⟩ := h
  exact ⟨K, fun k hk => by show (if c then a k else b k) = some r; rw [if_pos hc]; exact h k hk⟩
theorem Ev.neg {α : Type} {c : Prop} [Decidable c] {a b : Nat → Option α} {r : α} (hc : ¬ c) (h : Ev b r) : Ev (fun k => if c then a k else b k) r := by
  obtain ⟨K, h⟩ := h
  exact ⟨K, fun k hk => by show (if c then a k else b k) = some r; rw [if_neg hc]; exact h k hk⟩
/-- Both ways, each where it is taken. -/
theorem Ev.ite {α : Type} {c : Prop} [Decidable c] {a b : Nat → Option α} {r : α} (h : c → Ev a r) (h' : ¬ c → Ev b r) : Ev (fun k => if c then a k else b k) r := by
  by_cases hc : c
  · exact Ev.pos hc (h hc)
  · exact Ev.neg hc (h' hc)
theorem wrap_small {n : Int} (h0 : -9223372036854775808 ≤ n) (h1 : n ≤ 9223372036854775807) : wrap64 n = n := by unfold wrap64; omega
/-- Both ways, each with its own end. -/
theorem Ev.both {α : Type} {c : Prop} [Decidable c] {a b : Nat → Option α} {r s : α} (h : c → Ev a r) (h' : ¬ c → Ev b s) : Ev (fun k => if c then a k else b k) (if c then r else s) := by
  by_cases hc : c
  · rw [if_pos hc]; exact Ev.pos hc (h hc)
  · rw [if_neg hc]; exact Ev.neg hc (h' hc)
theorem Ev.valOf {α : Type} {r s : α} (h : s = r) : Ev (fun _ => some r) s := by subst h; exact Ev.val _
theorem less_irrefl (a : List UInt8) : Op.bytesLess a a = false := by
  induction a with
  | nil => rfl
  | cons x r ih =>
    have h : ¬ x < x := fun h => by have := UInt8.lt_iff_toNat_lt.mp h; omega
    simp [Op.bytesLess, ih, h]
theorem less_trans (a : List UInt8) : ∀ b c : List UInt8, Op.bytesLess a b = true → Op.bytesLess b c = true → Op.bytesLess a c = true := by
  induction a with
  | nil =>
    intro b c h1 h2
    cases c with
    | nil => cases b <;> simp [Op.bytesLess] at h2
    | cons z c => rfl
  | cons x a ih =>
    intro b c h1 h2
    cases b with
    | nil => simp [Op.bytesLess] at h1
    | cons y b =>
      cases c with
      | nil => simp [Op.bytesLess] at h2
      | cons z c =>
        simp only [Op.bytesLess, Bool.or_eq_true, decide_eq_true_eq, Bool.and_eq_true, beq_iff_eq, UInt8.lt_iff_toNat_lt] at h1 h2 ⊢
        rcases h1 with h1 | ⟨rfl, h1⟩
        · rcases h2 with h2 | ⟨rfl, h2⟩
          · exact Or.inl (by omega)
          · exact Or.inl h1
        · rcases h2 with h2 | ⟨rfl, h2⟩
          · exact Or.inl h2
          · exact Or.inr ⟨rfl, ih _ _ h1 h2⟩
theorem less_flip {a b : List UInt8} (h : ¬ Op.bytesLess a b = true) (hne : b ≠ a) : Op.bytesLess b a = true := by
  have := Go.Proofs.YtdhmckgagffgkaaHand.bytesLess_flip b a
  have h' : Op.bytesLess a b = false := by simpa using h
  rw [h', beq_eq_false_iff_ne.mpr hne] at this
  simpa using this
theorem less_ne {a b : List UInt8} (h : Op.bytesLess a b = true) : a ≠ b := by
  intro e
  subst e
  rw [less_irrefl] at h
  cases h
theorem at_spec (a : ByteArray) (l : List S55) : ∀ i : Nat, (member_at.go a l i = -1 ∧ ∀ y ∈ l, y.f0.toList ≠ a.toList) ∨ ∃ j, ∃ h : j < l.length, member_at.go a l i = ((i + j : Nat) : Int) ∧ l[j].f0.toList = a.toList := by
  induction l with
  | nil => intro i; exact Or.inl ⟨rfl, fun y hy => by cases hy⟩
  | cons x r ih =>
    intro i
    simp only [member_at.go]
    by_cases c : x.f0.toList = a.toList
    · rw [if_pos c]
      exact Or.inr ⟨0, by simp, by simp, c⟩
    · rw [if_neg c, show ((i : Int) + 1) = ((i + 1 : Nat) : Int) from by omega]
      rcases ih (i + 1) with h | ⟨j, hj, h1, h2⟩
      · refine Or.inl ⟨h.1, fun y hy => ?_⟩
        rcases List.mem_cons.mp hy with rfl | hy
        · exact c
        · exact h.2 y hy
      · exact Or.inr ⟨j + 1, by simpa using hj, by rw [h1]; omega, by simpa using h2⟩
theorem at_none {a : ByteArray} {l : List S55} (h : member_at.go a l 0 < 0) : ∀ y ∈ l, y.f0.toList ≠ a.toList := by
  rcases at_spec a l 0 with c | ⟨j, hj, h1, _⟩
  · exact c.2
  · have : member_at.go a l 0 = ((0 + j : Nat) : Int) := h1
    omega
theorem at_some {a : ByteArray} {l : List S55} (h : ¬ member_at.go a l 0 < 0) : ∃ j, ∃ hj : j < l.length, member_at.go a l 0 = (j : Int) ∧ l[j].f0.toList = a.toList := by
  rcases at_spec a l 0 with c | ⟨j, hj, h1, h2⟩
  · exact absurd (by rw [show member_at.go a l 0 = -1 from c.1]; omega) h
  · exact ⟨j, hj, by have : member_at.go a l 0 = ((0 + j : Nat) : Int) := h1; omega, h2⟩
/-- The first member of a name. -/
def findP (l : List S55) (name : ByteArray) : ByteArray × Int × List S61 × Bool :=
  if member_at.go name l 0 < 0 then ((⟨#[]⟩ : ByteArray), 0, ([] : List S61), false) else ((rd_T55 l (member_at.go name l 0)).f0, (rd_T55 l (member_at.go name l 0)).f1, (rd_T55 l (member_at.go name l 0)).f2, true)
theorem rd45_mem (l : List S55) (i : Int) (h0 : 0 ≤ i) (h1 : i < l.length) : rd_T55 l i ∈ l := by
  have h : i.toNat < l.length := by omega
  have : rd_T55 l i = l[i.toNat] := by simp [rd_T55, h]
  rw [this]
  exact List.getElem_mem h
theorem at_bounds (l : List S55) (name : ByteArray) (h : ¬ member_at.go name l 0 < 0) : 0 ≤ member_at.go name l 0 ∧ member_at.go name l 0 < (l.length : Int) := by
  obtain ⟨j, hj, h1, _⟩ := at_some h
  exact ⟨by omega, by omega⟩
theorem findP_mem (l : List S55) (name : ByteArray) (Q : S61 → Prop) (h : ∀ y ∈ l, ∀ z ∈ y.f2, Q z) : ∀ z ∈ (findP l name).2.2.1, Q z := by
  unfold findP
  split
  · intro z hz
    cases hz
  · rename_i c
    have b := at_bounds l name c
    exact h _ (rd45_mem l _ b.1 b.2)
theorem findP_len (l : List S55) (name : ByteArray) (N : Nat) (h : ∀ y ∈ l, y.f2.length ≤ N) : (findP l name).2.2.1.length ≤ N := by
  unfold findP
  split
  · exact Nat.zero_le _
  · rename_i c
    have b := at_bounds l name c
    exact h _ (rd45_mem l _ b.1 b.2)
theorem find_some (l : List S55) (name : ByteArray) (hs : ∀ y ∈ l, y.f2.length * 24 ≤ 140737488351232) : member_Find.f l name = some (findP l name) := by
  simp only [member_Find.f, member_at.f, Option.bind_some, findP]
  by_cases c : member_at.go name l 0 < 0
  · rw [if_pos c, if_pos c]
  · have b := at_bounds l name c
    have hz := hs _ (rd45_mem l _ b.1 b.2)
    rw [if_neg c, if_neg c, if_pos b.1, if_pos b.2]
    simp only [api_Account.f]
    rw [if_pos (by omega)]
    rfl
/-- The account at a place; none. -/
def accAt (l : List S61) (i : Int) : ByteArray × Int × Bool := if i < 0 then ((⟨#[]⟩ : ByteArray), 0, false) else ((rd_T61 l i).f0, (rd_T61 l i).f1, true)
/-- The first account of a name. -/
def accP (l : List S61) (name : ByteArray) : ByteArray × Int × Bool := accAt l (idxOf (fun x : S61 => x.f0.toList == name.toList) l 0)
theorem account_some (l : List S55) (a b : ByteArray) (hs : ∀ y ∈ l, y.f2.length * 24 ≤ 140737488351232) : member_Account.f l a b = some (accP (findP l a).2.2.1 b) := by
  simp only [member_Account.f, find_some l a hs, Option.bind_some, accP, accAt]
  split <;> rfl
/-- What is wrong with members. -/
def chk (l : List S55) : Int := if 32 < l.length then 8 else firstErr (mErr l) l.length 0
theorem check_ev (l : List S55) : Ev (fun _ => member_Check.f l) (chk l) := Ev.val _
theorem chk_len {l : List S55} (h : chk l = 0) : l.length ≤ 32 := by
  unfold chk at h
  split at h
  · cases h
  · omega
theorem firstErr_none (f : Nat → Int) (d : Nat) : ∀ i, firstErr f d i = 0 → ∀ j, i ≤ j → j < i + d → f j = 0 := by
  induction d with
  | zero => intro i _ j h1 h2; omega
  | succ d ih =>
    intro i h j h1 h2
    simp only [firstErr] at h
    by_cases c : f i = 0
    · rw [if_pos c] at h
      by_cases e : i = j
      · subst e; exact c
      · exact ih (i + 1) h j (by omega) (by omega)
    · rw [if_neg c] at h; exact absurd h c
theorem chk_mErr {l : List S55} (h : chk l = 0) (i : Nat) (hi : i < l.length) : mErr l i = 0 := by
  have hl := chk_len h
  unfold chk at h
  rw [if_neg (by omega)] at h
  exact firstErr_none _ _ _ h i (Nat.zero_le _) (by omega)
theorem chk_few {l : List S55} (h : chk l = 0) : ∀ y ∈ l, y.f2.length ≤ 16 := by
  intro y hy
  obtain ⟨i, hi, rfl⟩ := List.getElem_of_mem hy
  have hm := chk_mErr h i hi
  have e : rd_T55 l (i : Int) = l[i] := by simp [rd_T55, hi]
  unfold mErr at hm
  rw [e] at hm
  by_cases c : stepErr (fun j => (rd_T55 l j).f0) i = 0
  · rw [if_pos c] at hm
    by_cases c2 : l[i].f1 < 1 ∨ 4 < l[i].f1
    · rw [if_pos c2] at hm; omega
    · rw [if_neg c2] at hm
      by_cases c3 : 16 < l[i].f2.length
      · rw [if_pos c3] at hm; omega
      · omega
  · rw [if_neg c] at hm; exact absurd hm c
theorem chk_kinds {l : List S55} (h : chk l = 0) : ∀ y ∈ l, ∀ z ∈ y.f2, 1 ≤ z.f1 ∧ z.f1 ≤ 3 := by
  intro y hy z hz
  obtain ⟨i, hi, rfl⟩ := List.getElem_of_mem hy
  have hm := chk_mErr h i hi
  have e : rd_T55 l (i : Int) = l[i] := by simp [rd_T55, hi]
  unfold mErr at hm
  rw [e] at hm
  by_cases c : stepErr (fun j => (rd_T55 l j).f0) i = 0
  · rw [if_pos c] at hm
    by_cases c2 : l[i].f1 < 1 ∨ 4 < l[i].f1
    · rw [if_pos c2] at hm; omega
    · rw [if_neg c2] at hm
      by_cases c3 : 16 < l[i].f2.length
      · rw [if_pos c3] at hm; omega
      · rw [if_neg c3] at hm
        obtain ⟨j, hj, rfl⟩ := List.getElem_of_mem hz
        have ha := firstErr_none _ _ _ hm j (Nat.zero_le _) (by omega)
        have e2 : rd_T61 l[i].f2 (j : Int) = l[i].f2[j] := by simp [rd_T61, hj]
        unfold aErr at ha
        rw [e2] at ha
        by_cases d : stepErr (fun j_1 => (rd_T61 l[i].f2 j_1).f0) j = 0
        · rw [if_pos d] at ha
          by_cases d2 : 1 ≤ l[i].f2[j].f1 ∧ l[i].f2[j].f1 ≤ 3
          · exact d2
          · rw [if_neg d2] at ha; omega
        · rw [if_neg d] at ha; exact absurd ha d
  · rw [if_neg c] at hm; exact absurd hm c
theorem firstErr_of (f : Nat → Int) (d : Nat) : ∀ i, (∀ j, i ≤ j → j < i + d → f j = 0) → firstErr f d i = 0 := by
  induction d with
  | zero => intro i h; rfl
  | succ d ih =>
    intro i h
    simp only [firstErr]
    rw [if_pos (h i (Nat.le_refl _) (by omega))]
    exact ih (i + 1) (fun j h1 h2 => h j (by omega) (by omega))
def lt53 (a b : S61) : Prop := Op.bytesLess a.f0.toList b.f0.toList = true
def lt45 (a b : S55) : Prop := Op.bytesLess a.f0.toList b.f0.toList = true
theorem chain {α : Type} (R : α → α → Prop) (ht : ∀ a b c, R a b → R b c → R a c) (l : List α) (h : ∀ (i : Nat) (h0 : i < l.length) (h1 : i + 1 < l.length), R l[i] l[i + 1]) : l.Pairwise R := by
  rw [List.pairwise_iff_getElem]
  intro i j hi hj hij
  induction j with
  | zero => omega
  | succ j ih =>
    by_cases c : i = j
    · subst c
      exact h i hi hj
    · exact ht _ _ _ (ih (by omega) (by omega)) (h j (by omega) hj)
theorem stepErr_zero (nm : Int → ByteArray) (i : Int) : stepErr nm i = 0 ↔ nameB (nm i) = true ∧ (0 < i → Op.bytesLess (nm (i - 1)).toList (nm i).toList = true) := by
  unfold stepErr
  by_cases c : nameB (nm i) = true
  · rw [if_pos c]
    by_cases c2 : 0 < i ∧ Op.bytesLess (nm (i - 1)).toList (nm i).toList = false
    · rw [if_pos c2]
      constructor
      · intro h; cases h
      · rintro ⟨_, h⟩
        have := h c2.1
        rw [c2.2] at this
        cases this
    · rw [if_neg c2]
      refine ⟨fun _ => ⟨c, fun h => ?_⟩, fun _ => rfl⟩
      cases hb : Op.bytesLess (nm (i - 1)).toList (nm i).toList
      · exact absurd ⟨h, hb⟩ c2
      · rfl
  · rw [if_neg c]
    constructor
    · intro h; cases h
    · rintro ⟨h, _⟩; exact absurd h c
/-- Accounts that may be. -/
def okAs (l : List S61) : Prop := (∀ z ∈ l, nameB z.f0 = true ∧ 1 ≤ z.f1 ∧ z.f1 ≤ 3) ∧ l.Pairwise lt53
theorem achk_iff (l : List S61) : firstErr (aErr l) l.length 0 = 0 ↔ okAs l := by
  have haz : ∀ i : Nat, aErr l i = 0 ↔ stepErr (fun j => (rd_T61 l j).f0) i = 0 ∧ 1 ≤ (rd_T61 l i).f1 ∧ (rd_T61 l i).f1 ≤ 3 := by
    intro i
    unfold aErr
    by_cases c : stepErr (fun j => (rd_T61 l j).f0) i = 0
    · rw [if_pos c]
      by_cases c2 : 1 ≤ (rd_T61 l i).f1 ∧ (rd_T61 l i).f1 ≤ 3
      · rw [if_pos c2]; exact ⟨fun _ => ⟨c, c2⟩, fun _ => rfl⟩
      · rw [if_neg c2]; exact ⟨(fun h => by cases h), fun h => absurd h.2 c2⟩
    · rw [if_neg c]; exact ⟨fun h => absurd h c, fun h => h.1⟩
  have hrd : ∀ (i : Nat) (h : i < l.length), rd_T61 l (i : Int) = l[i] := fun i h => by simp [rd_T61, h]
  constructor
  · intro h
    have h0 : ∀ i : Nat, i < l.length → aErr l i = 0 := fun i hi => firstErr_none _ _ _ h i (Nat.zero_le _) (by omega)
    refine ⟨fun z hz => ?_, chain lt53 (fun a b c => less_trans _ _ _) l (fun i h1 h2 => ?_)⟩
    · obtain ⟨i, hi, rfl⟩ := List.getElem_of_mem hz
      have a := (haz i).mp (h0 i hi)
      have b := ((stepErr_zero _ _).mp a.1).1
      simp only [hrd i hi] at a b
      exact ⟨b, a.2⟩
    · have a := (haz (i + 1)).mp (h0 (i + 1) h2)
      have b := ((stepErr_zero _ _).mp a.1).2 (by omega)
      rw [show (((i + 1 : Nat) : Int) - 1) = ((i : Nat) : Int) from by omega] at b
      simp only [hrd i h1, hrd (i + 1) h2] at b
      exact b
  · rintro ⟨h1, h2⟩
    refine firstErr_of _ _ _ (fun j _ hj => (haz j).mpr ?_)
    have hj' : j < l.length := by omega
    have hm := h1 _ (List.getElem_mem hj')
    refine ⟨(stepErr_zero _ _).mpr ⟨by simpa only [hrd j hj'] using hm.1, fun hp => ?_⟩, by rw [hrd j hj']; exact hm.2⟩
    have hj1 : j - 1 < l.length := by omega
    rw [show ((j : Int) - 1) = ((j - 1 : Nat) : Int) from by omega]
    simp only [hrd j hj', hrd (j - 1) hj1]
    exact List.pairwise_iff_getElem.mp h2 (j - 1) j hj1 hj' (by omega)
/-- A member that may be. -/
def okM (y : S55) : Prop := nameB y.f0 = true ∧ 1 ≤ y.f1 ∧ y.f1 ≤ 4 ∧ y.f2.length ≤ 16 ∧ okAs y.f2
theorem chk_iff (l : List S55) : chk l = 0 ↔ l.length ≤ 32 ∧ (∀ y ∈ l, okM y) ∧ l.Pairwise lt45 := by
  have haz : ∀ i : Nat, mErr l i = 0 ↔ stepErr (fun j => (rd_T55 l j).f0) i = 0 ∧ 1 ≤ (rd_T55 l i).f1 ∧ (rd_T55 l i).f1 ≤ 4 ∧ (rd_T55 l i).f2.length ≤ 16 ∧ okAs (rd_T55 l i).f2 := by
    intro i
    unfold mErr
    by_cases c : stepErr (fun j => (rd_T55 l j).f0) i = 0
    · rw [if_pos c]
      by_cases c2 : (rd_T55 l i).f1 < 1 ∨ 4 < (rd_T55 l i).f1
      · rw [if_pos c2]; exact ⟨(fun h => by cases h), fun h => by omega⟩
      · rw [if_neg c2]
        by_cases c3 : 16 < (rd_T55 l i).f2.length
        · rw [if_pos c3]; exact ⟨(fun h => by cases h), fun h => by omega⟩
        · rw [if_neg c3, achk_iff]
          exact ⟨fun h => ⟨c, by omega, by omega, by omega, h⟩, fun h => h.2.2.2.2⟩
    · rw [if_neg c]; exact ⟨fun h => absurd h c, fun h => h.1⟩
  have hrd : ∀ (i : Nat) (h : i < l.length), rd_T55 l (i : Int) = l[i] := fun i h => by simp [rd_T55, h]
  constructor
  · intro h
    have hl := chk_len h
    have h' : firstErr (mErr l) l.length 0 = 0 := by unfold chk at h; rw [if_neg (by omega)] at h; exact h
    have h0 : ∀ i : Nat, i < l.length → mErr l i = 0 := fun i hi => firstErr_none _ _ _ h' i (Nat.zero_le _) (by omega)
    refine ⟨hl, fun z hz => ?_, chain lt45 (fun a b c => less_trans _ _ _) l (fun i h1 h2 => ?_)⟩
    · obtain ⟨i, hi, rfl⟩ := List.getElem_of_mem hz
      have a := (haz i).mp (h0 i hi)
      have b := ((stepErr_zero _ _).mp a.1).1
      simp only [hrd i hi] at a b
      exact ⟨b, a.2⟩
    · have a := (haz (i + 1)).mp (h0 (i + 1) h2)
      have b := ((stepErr_zero _ _).mp a.1).2 (by omega)
      rw [show (((i + 1 : Nat) : Int) - 1) = ((i : Nat) : Int) from by omega] at b
      simp only [hrd i h1, hrd (i + 1) h2] at b
      exact b
  · rintro ⟨h0, h1, h2⟩
    unfold chk
    rw [if_neg (by omega)]
    refine firstErr_of _ _ _ (fun j _ hj => (haz j).mpr ?_)
    have hj' : j < l.length := by omega
    have hm := h1 _ (List.getElem_mem hj')
    refine ⟨(stepErr_zero _ _).mpr ⟨by simpa only [hrd j hj'] using hm.1, fun hp => ?_⟩, by rw [hrd j hj']; exact hm.2⟩
    have hj1 : j - 1 < l.length := by omega
    rw [show ((j : Int) - 1) = ((j - 1 : Nat) : Int) from by omega]
    simp only [hrd j hj', hrd (j - 1) hj1]
    exact List.pairwise_iff_getElem.mp h2 (j - 1) j hj1 hj' (by omega)
/-- The accounts of clients among accounts. -/
def clientsOf (nm : ByteArray) (l : List S61) : List S45 := (l.filter fun a => !(a.f1 == 1)).map fun a => ⟨nm, a.f0⟩
theorem clientsOf_drop (nm : ByteArray) (l : List S61) (i : Nat) (h : i < l.length) :
    clientsOf nm (l.drop i) = if (rd_T61 l i).f1 = 1 then clientsOf nm (l.drop (i + 1)) else (⟨nm, (rd_T61 l i).f0⟩ : S45) :: clientsOf nm (l.drop (i + 1)) := by
  have e : l.drop i = rd_T61 l i :: l.drop (i + 1) := by
    rw [List.drop_eq_getElem_cons h]
    simp [rd_T61, h]
  rw [e]
  unfold clientsOf
  by_cases c : (rd_T61 l i).f1 = 1
  · rw [if_pos c, List.filter_cons_of_neg (by simp [c])]
  · rw [if_neg c, List.filter_cons_of_pos (by simp [c])]
    rfl
theorem clientsOf_len (nm : ByteArray) (l : List S61) : (clientsOf nm l).length ≤ l.length := by
  unfold clientsOf
  rw [List.length_map]
  exact List.length_filter_le _ _
def whatP (n : Int) : Int := if n = 1 then 1 else if n = 2 then 2 else if n = 3 then 2 else 0
theorem what_ev (n : Int) : Ev (fun _ => port_what.f n) (whatP n) :=
  Ev.both (fun _ => Ev.val _) (fun _ => Ev.both (fun _ => Ev.val _) (fun _ => Ev.both (fun _ => Ev.val _) (fun _ => Ev.val _)))
theorem what_house (n : Int) : whatP n = 1 ↔ n = 1 := by
  unfold whatP
  constructor
  · intro h
    by_cases c : n = 1
    · exact c
    · rw [if_neg c] at h
      split at h
      · omega
      · split at h <;> omega
  · intro h; rw [if_pos h]
theorem clients_loop (nm : ByteArray) (st : Int) (l : List S61) (hn : l.length ≤ 2000000) (d : Nat) : ∀ (i : Nat) (out : List S45), l.length - i = d → i ≤ l.length → out.length + d ≤ 4000000 →
    Ev (fun k => port_Clients.l0 k out l (l.length : Int) i nm st l) (out ++ clientsOf nm (l.drop i)) := by
  induction d with
  | zero =>
    intro i out hd hi hb
    obtain rfl : i = l.length := by omega
    refine Ev.shift ?_
    simp only [port_Clients.l0, List.drop_length, clientsOf, List.filter_nil, List.map_nil, List.append_nil]
    exact Ev.neg (by omega) (Ev.val _)
  | succ d ih =>
    intro i out hd hi hb
    have hw : wrap64 ((i : Int) + 1) = ((i + 1 : Nat) : Int) := by unfold wrap64; omega
    rw [clientsOf_drop nm l i (by omega)]
    refine Ev.shift ?_
    simp only [port_Clients.l0, hw]
    refine Ev.pos (by omega) (Ev.pos (by omega) (Ev.pos (by omega) (Ev.bind (what_ev _) ?_)))
    by_cases c : (rd_T61 l i).f1 = 1
    · rw [if_pos c]
      exact Ev.pos ((what_house _).mpr c) (ih (i + 1) out (by omega) (by omega) (by omega))
    · rw [if_neg c]
      have h := ih (i + 1) (out ++ [(⟨nm, (rd_T61 l i).f0⟩ : S45)]) (by omega) (by omega) (by simp; omega)
      exact Ev.neg (fun h => c ((what_house _).mp h)) (Ev.pos (by omega) (by simpa using h))
/-- The clients of a member. -/
def clP (l : List S55) (a : ByteArray) : List S45 := clientsOf a (findP l a).2.2.1
theorem clP_name (l : List S55) (a : ByteArray) : clientsOf (findP l a).1 (findP l a).2.2.1 = clP l a := by
  unfold clP
  by_cases c : member_at.go a l 0 < 0
  · unfold findP
    rw [if_pos c]
    rfl
  · obtain ⟨j, hj, h1, h2⟩ := at_some c
    have : (findP l a).1 = a := by
      unfold findP
      rw [if_neg c, h1]
      have e : rd_T55 l (j : Int) = l[j] := by simp [rd_T55, hj]
      rw [e]
      exact bytes_inj h2
    rw [this]
theorem clients_ev (l : List S55) (a : ByteArray) (hs : ∀ y ∈ l, y.f2.length ≤ 1048576) : Ev (fun k => port_Clients.f k l a) (clP l a) := by
  simp only [port_Clients.f]
  rw [find_some l a (fun y hy => by have := hs y hy; omega)]
  simp only [Option.bind_some]
  have hl := findP_len l a 1048576 hs
  have h := clients_loop (findP l a).1 (findP l a).2.1 (findP l a).2.2.1 (by omega) _ 0 [] rfl (Nat.zero_le _) (by simp; omega)
  rw [← clP_name]
  simpa using h
theorem clP_len (l : List S55) (a : ByteArray) (N : Nat) (hs : ∀ y ∈ l, y.f2.length ≤ N) : (clP l a).length ≤ N :=
  Nat.le_trans (clientsOf_len _ _) (findP_len l a N hs)
def O2 (x : S50) : S47 := ⟨x.f0, x.f1, x.f2⟩
def G2 (x : S52) : S62 := ⟨x.f0, x.f1, x.f2, x.f3⟩
theorem rdO (l : List S50) (i : Nat) (h : i < l.length) : rd_T50 l i = l[i] := by simp [rd_T50, h]
theorem rdG (l : List S52) (i : Nat) (h : i < l.length) : rd_T52 l i = l[i] := by simp [rd_T52, h]
theorem rdO2 (l : List S50) (i : Nat) (h : i < l.length) : rd_T47 (l.map O2) i = O2 (rd_T50 l i) := by
  rw [rdO l i h]
  simp [rd_T47, h]
theorem dropO (l : List S50) (i : Nat) (h : i < l.length) : l.drop i = rd_T50 l i :: l.drop (i + 1) := by
  rw [List.drop_eq_getElem_cons h, rdO l i h]
theorem dropG (l : List S52) (i : Nat) (h : i < l.length) : l.drop i = rd_T52 l i :: l.drop (i + 1) := by
  rw [List.drop_eq_getElem_cons h, rdG l i h]
theorem dropC (l : List S45) (i : Nat) (h : i < l.length) : l.drop i = rd_T45 l i :: l.drop (i + 1) := by
  rw [List.drop_eq_getElem_cons h]
  simp [rd_T45, h]
theorem offers_loop (l : List S50) (hn : l.length ≤ 5000) (d : Nat) : ∀ (i : Nat) (out : List S47), l.length - i = d → i ≤ l.length → out.length + d ≤ 20000 → Ev (fun k => contangolaw42_Offers.l0 k l out (l.length : Int) i) (out ++ (l.drop i).map O2) := by
  induction d with
  | zero =>
    intro i out hd hi hb
    obtain rfl : i = l.length := by omega
    refine Ev.shift ?_
    simp only [contangolaw42_Offers.l0, List.drop_length, List.map_nil, List.append_nil]
    exact Ev.neg (by omega) (Ev.val _)
  | succ d ih =>
    intro i out hd hi hb
    have hw : wrap64 ((i : Int) + 1) = ((i + 1 : Nat) : Int) := by unfold wrap64; omega
    have h := ih (i + 1) (out ++ [O2 (rd_T50 l i)]) (by omega) (by omega) (by simp; omega)
    rw [dropO l i (by omega)]
    refine Ev.shift ?_
    simp only [contangolaw42_Offers.l0, hw]
    refine Ev.pos (by omega) (Ev.pos (by omega) (Ev.pos (by omega) (Ev.pos (by omega) ?_)))
    simpa [O2] using h
theorem offers_ev (l : List S50) (hn : l.length ≤ 5000) : Ev (fun k => contangolaw42_Offers.f k l) (l.map O2) := by
  simp only [contangolaw42_Offers.f]
  simpa using offers_loop l hn _ 0 [] rfl (Nat.zero_le _) (by simp; omega)
theorem gaps_loop (l : List S52) (hn : l.length ≤ 5000) (d : Nat) : ∀ (i : Nat) (out : List S62), l.length - i = d → i ≤ l.length → out.length + d ≤ 20000 → Ev (fun k => contangolaw42_Gaps.l0 k l out (l.length : Int) i) (out ++ (l.drop i).map G2) := by
  induction d with
  | zero =>
    intro i out hd hi hb
    obtain rfl : i = l.length := by omega
    refine Ev.shift ?_
    simp only [contangolaw42_Gaps.l0, List.drop_length, List.map_nil, List.append_nil]
    exact Ev.neg (by omega) (Ev.val _)
  | succ d ih =>
    intro i out hd hi hb
    have hw : wrap64 ((i : Int) + 1) = ((i + 1 : Nat) : Int) := by unfold wrap64; omega
    have h := ih (i + 1) (out ++ [G2 (rd_T52 l i)]) (by omega) (by omega) (by simp; omega)
    rw [dropG l i (by omega)]
    refine Ev.shift ?_
    simp only [contangolaw42_Gaps.l0, hw]
    refine Ev.pos (by omega) (Ev.pos (by omega) (Ev.pos (by omega) (Ev.pos (by omega) ?_)))
    simpa [G2] using h
theorem gaps_ev (l : List S52) (hn : l.length ≤ 5000) : Ev (fun k => contangolaw42_Gaps.f k l) (l.map G2) := by
  simp only [contangolaw42_Gaps.f]
  simpa using gaps_loop l hn _ 0 [] rfl (Nat.zero_le _) (by simp; omega)
/-- What is wrong with an offer. -/
def oneP (m : List S55) (d : ByteArray) (x : S50) : Int :=
  if (accP (findP m x.f0.f0).2.2.1 x.f0.f1).2.2 = true ∧ (accP (findP m x.f0.f0).2.2.1 x.f0.f1).2.1 ≠ 1 ∧ x.f0.f0.toList = d.toList then
    (if (findP m x.f1.f0).2.2.2 = true ∧ (findP m x.f1.f0).2.1 = 1 then
      (if (accP (findP m x.f1.f0).2.2.1 x.f1.f1).2.2 = true ∧ (accP (findP m x.f1.f0).2.2.1 x.f1.f1).2.1 ≠ 1 ∧ (accP (findP m x.f1.f0).2.2.1 x.f1.f1).2.1 = (accP (findP m x.f0.f0).2.2.1 x.f0.f1).2.1 then
        (if x.f2 < 0 then 2 else if x.f2 > 1152921504606846976 then 2 else 0)
      else 21)
    else 20)
  else 21
theorem what_client (n : Int) (h : 1 ≤ n ∧ n ≤ 3) : (whatP n == 2) = true ↔ n ≠ 1 := by
  unfold whatP
  rcases (by omega : n = 1 ∨ n = 2 ∨ n = 3) with rfl | rfl | rfl <;> simp
/-- Kinds of accounts that are found. -/
def KindsOk (m : List S55) : Prop := ∀ y ∈ m, ∀ z ∈ y.f2, 1 ≤ z.f1 ∧ z.f1 ≤ 3
theorem accP_kind (m : List S55) (hk : KindsOk m) (a b : ByteArray) (h : (accP (findP m a).2.2.1 b).2.2 = true) : 1 ≤ (accP (findP m a).2.2.1 b).2.1 ∧ (accP (findP m a).2.2.1 b).2.1 ≤ 3 := by
  have hall := findP_mem m a (fun z => 1 ≤ z.f1 ∧ z.f1 ≤ 3) hk
  generalize (findP m a).2.2.1 = l at h hall ⊢
  unfold accP accAt at h ⊢
  by_cases c : idxOf (fun x : S61 => x.f0.toList == b.toList) l 0 < 0
  · rw [if_pos c] at h; cases h
  · rw [if_neg c] at h ⊢
    rcases idxOf_lt (fun x : S61 => x.f0.toList == b.toList) l 0 with e | e
    · omega
    · refine hall _ ?_
      generalize idxOf (fun x : S61 => x.f0.toList == b.toList) l 0 = j at c e
      have hj : j.toNat < l.length := by omega
      have : rd_T61 l j = l[j.toNat] := by simp [rd_T61, hj]
      rw [this]
      exact List.getElem_mem hj
/-- What the program asks of an account of a client. -/
theorem pclients_ev (m : List S55) (hs : ∀ y ∈ m, y.f2.length * 24 ≤ 140737488351232) (a b : ByteArray) :
    Ev (fun _ => port_clients.f m a b) ((accP (findP m a).2.2.1 b).2.1, (accP (findP m a).2.2.1 b).2.2 && (whatP (accP (findP m a).2.2.1 b).2.1 == 2)) := by
  simp only [port_clients.f, account_some m a b hs, Option.bind_some]
  generalize accP (findP m a).2.2.1 b = t
  refine Ev.ite (fun c => Ev.bind (what_ev _) (Ev.valOf (by simp [c]))) (fun c => Ev.valOf ?_)
  have : t.2.2 = false := by simpa using c
  simp [this]
theorem one_ev (m : List S55) (hk : KindsOk m) (hs : ∀ y ∈ m, y.f2.length * 24 ≤ 140737488351232) (d : ByteArray) (x : S50) :
    Ev (fun k => port_one.f k x.f0.f0 x.f0.f1 x.f1.f0 x.f1.f1 x.f2 m d) (oneP m d x) := by
  have k1 := accP_kind m hk x.f0.f0 x.f0.f1
  have k2 := accP_kind m hk x.f1.f0 x.f1.f1
  simp only [port_one.f]
  refine Ev.bind (pclients_ev m hs _ _) ?_
  unfold oneP
  have j2 : ∀ b : Bool, Ev (fun k => port_one.j2 k b x.f0.f0 x.f0.f1 x.f1.f0 x.f1.f1 x.f2) (if b = true then 21 else (if x.f2 < 0 then 2 else if x.f2 > 1152921504606846976 then 2 else 0)) := by
    intro b
    refine Ev.shift ?_
    simp only [port_one.j2]
    exact Ev.both (fun _ => Ev.val _) (fun _ => Ev.both (fun _ => Ev.val _) (fun _ => Ev.both (fun _ => Ev.val _) (fun _ => Ev.val _)))
  have j1 : ∀ b : Bool, Ev (fun k => port_one.j1 k m (accP (findP m x.f0.f0).2.2.1 x.f0.f1).2.1 b x.f0.f0 x.f0.f1 x.f1.f0 x.f1.f1 x.f2) (if b = true then 20 else (if (accP (findP m x.f1.f0).2.2.1 x.f1.f1).2.2 = true ∧ (accP (findP m x.f1.f0).2.2.1 x.f1.f1).2.1 ≠ 1 ∧ (accP (findP m x.f1.f0).2.2.1 x.f1.f1).2.1 = (accP (findP m x.f0.f0).2.2.1 x.f0.f1).2.1 then
        (if x.f2 < 0 then 2 else if x.f2 > 1152921504606846976 then 2 else 0)
      else 21)) := by
    intro b
    refine Ev.shift ?_
    simp only [port_one.j1]
    refine Ev.both (fun _ => Ev.val _) (fun _ => Ev.bind (pclients_ev m hs _ _) ?_)
    generalize accP (findP m x.f1.f0).2.2.1 x.f1.f1 = t at k2 ⊢
    generalize (accP (findP m x.f0.f0).2.2.1 x.f0.f1).2.1 = n
    by_cases c : t.2.2 = true
    · have hw := what_client _ (k2 c)
      by_cases c1 : t.2.1 = 1
      · rw [if_neg (fun h => h.2.1 c1)]
        refine Ev.neg (fun h => ?_) (j2 true)
        simp only [c, Bool.true_and] at h
        exact hw.mp h c1
      · refine Ev.pos (by simp only [c, Bool.true_and]; exact hw.mpr c1) ?_
        by_cases c2 : t.2.1 = n
        · rw [if_pos ⟨c, c1, c2⟩]
          have := j2 (t.2.1 != n)
          rwa [if_neg (by simp [c2])] at this
        · rw [if_neg (fun h => c2 h.2.2)]
          have := j2 (t.2.1 != n)
          rwa [if_pos (by simp [c2])] at this
    · rw [if_neg (fun h => c h.1)]
      exact Ev.neg (fun h => c (by simp only [Bool.and_eq_true] at h; exact h.1)) (j2 true)
  have j0 : ∀ b : Bool, Ev (fun k => port_one.j0 k m (accP (findP m x.f0.f0).2.2.1 x.f0.f1).2.1 b x.f0.f0 x.f0.f1 x.f1.f0 x.f1.f1 x.f2) (if b = true then 21 else (if (findP m x.f1.f0).2.2.2 = true ∧ (findP m x.f1.f0).2.1 = 1 then
      (if (accP (findP m x.f1.f0).2.2.1 x.f1.f1).2.2 = true ∧ (accP (findP m x.f1.f0).2.2.1 x.f1.f1).2.1 ≠ 1 ∧ (accP (findP m x.f1.f0).2.2.1 x.f1.f1).2.1 = (accP (findP m x.f0.f0).2.2.1 x.f0.f1).2.1 then
        (if x.f2 < 0 then 2 else if x.f2 > 1152921504606846976 then 2 else 0)
      else 21)
    else 20)) := by
    intro b
    refine Ev.shift ?_
    simp only [port_one.j0, find_some m _ hs, Option.bind_some]
    refine Ev.both (fun _ => Ev.val _) (fun _ => ?_)
    by_cases c : (findP m x.f1.f0).2.2.2 = true
    · refine Ev.pos c ?_
      by_cases c1 : (findP m x.f1.f0).2.1 = 1
      · rw [if_pos ⟨c, c1⟩]
        have := j1 ((findP m x.f1.f0).2.1 != 1)
        rwa [if_neg (by simp [c1])] at this
      · rw [if_neg (fun h => c1 h.2)]
        have := j1 ((findP m x.f1.f0).2.1 != 1)
        rwa [if_pos (by simp [c1])] at this
    · rw [if_neg (fun h => c h.1)]
      exact Ev.neg c (j1 true)
  by_cases c : (accP (findP m x.f0.f0).2.2.1 x.f0.f1).2.2 = true
  · have hw := what_client _ (k1 c)
    by_cases c1 : (accP (findP m x.f0.f0).2.2.1 x.f0.f1).2.1 = 1
    · rw [if_neg (fun h => h.2.1 c1)]
      refine Ev.neg (fun h => ?_) (j0 true)
      simp only [c, Bool.true_and] at h
      exact hw.mp h c1
    · refine Ev.pos (by simp only [c, Bool.true_and]; exact hw.mpr c1) ?_
      by_cases c2 : x.f0.f0.toList = d.toList
      · rw [if_pos ⟨c, c1, c2⟩]
        have := j0 (x.f0.f0.toList != d.toList)
        rwa [if_neg (by simp [c2])] at this
      · rw [if_neg (fun h => c2 h.2.2)]
        have := j0 (x.f0.f0.toList != d.toList)
        rwa [if_pos (by simp [c2])] at this
  · rw [if_neg (fun h => c h.1)]
    exact Ev.neg (fun h => c (by simp only [Bool.and_eq_true] at h; exact h.1)) (j0 true)
/-- What is wrong with offers. -/
def checkP (m : List S55) (d : ByteArray) (l : List S50) : Int :=
  if chk m = 0 then (if (findP m d).2.2.2 = true then (if 1024 < l.length then 8 else firstErr (fun i => oneP m d (rd_T50 l i)) l.length 0) else 20) else chk m
theorem check_loop (m : List S55) (hk : KindsOk m) (hs : ∀ y ∈ m, y.f2.length * 24 ≤ 140737488351232) (d : ByteArray) (l : List S50) (hl : l.length ≤ 1024) (e : Nat) : ∀ i : Nat, l.length - i = e → i ≤ l.length →
    Ev (fun k => port_Check.l0 k m d (l.map O2) ((l.map O2).length : Int) i) (firstErr (fun i => oneP m d (rd_T50 l i)) e i) := by
  induction e with
  | zero =>
    intro i hd hi
    refine Ev.shift ?_
    simp only [port_Check.l0, List.length_map]
    exact Ev.neg (by omega) (Ev.val _)
  | succ e ih =>
    intro i hd hi
    have hw : wrap64 ((i : Int) + 1) = ((i + 1 : Nat) : Int) := by unfold wrap64; omega
    have h := ih (i + 1) (by omega) (by omega)
    refine Ev.shift ?_
    simp only [port_Check.l0, hw]
    rw [rdO2 l i (by omega)]
    refine Ev.pos (by simp; omega) (Ev.pos (by omega) (Ev.pos (by simp; omega) (Ev.bind (one_ev m hk hs d (rd_T50 l i)) ?_)))
    simp only [firstErr]
    exact Ev.both (fun _ => h) (fun _ => Ev.val _)
theorem pcheck_ev (m : List S55) (hk : chk m = 0 → KindsOk m) (hs : ∀ y ∈ m, y.f2.length * 24 ≤ 140737488351232) (d : ByteArray) (l : List S50) : Ev (fun k => port_Check.f k (l.map O2) m d) (checkP m d l) := by
  simp only [port_Check.f, checkP]
  refine Ev.bind (check_ev m) (Ev.both (fun c => ?_) (fun _ => Ev.val _))
  rw [find_some m d hs]
  simp only [Option.bind_some]
  refine Ev.both (fun _ => ?_) (fun _ => Ev.val _)
  by_cases c2 : 1024 < l.length
  · rw [if_pos c2]
    exact Ev.pos (by simp; omega) (Ev.val _)
  · rw [if_neg c2]
    exact Ev.neg (by simp; omega) (check_loop m (hk c) hs d l (by omega) _ 0 rfl (Nat.zero_le _))
/-- The first offer of an account that is enough. -/
def takO (l : List S50) (a : S45) (n : Int) : Option S50 := l.find? fun o => accQ o.f0 a && decide (n ≤ o.f2)
def takR : Option S50 → ByteArray × ByteArray × ByteArray × ByteArray × Int × Bool
  | none => ((⟨#[]⟩ : ByteArray), (⟨#[]⟩ : ByteArray), (⟨#[]⟩ : ByteArray), (⟨#[]⟩ : ByteArray), 0, false)
  | some o => (o.f0.f0, o.f0.f1, o.f1.f0, o.f1.f1, o.f2, true)
theorem taker_loop (l : List S50) (hl : l.length ≤ 5000) (a : S45) (n : Int) (e : Nat) : ∀ i : Nat, l.length - i = e → i ≤ l.length →
    Ev (fun k => port_taker.l0 k n (l.map O2) ((l.map O2).length : Int) i a.f0 a.f1 (⟨#[]⟩ : ByteArray) (⟨#[]⟩ : ByteArray) (⟨#[]⟩ : ByteArray) (⟨#[]⟩ : ByteArray) 0) (takR (takO (l.drop i) a n)) := by
  induction e with
  | zero =>
    intro i hd hi
    obtain rfl : i = l.length := by omega
    refine Ev.shift ?_
    simp only [port_taker.l0, List.length_map, List.drop_length]
    exact Ev.neg (by omega) (Ev.val _)
  | succ e ih =>
    intro i hd hi
    have hw : wrap64 ((i : Int) + 1) = ((i + 1 : Nat) : Int) := by unfold wrap64; omega
    have h := ih (i + 1) (by omega) (by omega)
    rw [dropO l i (by omega)]
    unfold takO at h ⊢
    rw [List.find?_cons]
    refine Ev.shift ?_
    simp only [port_taker.l0, hw]
    rw [rdO2 l i (by omega)]
    generalize rd_T50 l i = o
    refine Ev.pos (by simp; omega) (Ev.pos (by omega) (Ev.pos (by simp; omega) ?_))
    simp only [O2]
    by_cases c : (o.f0.f0.toList == a.f0.toList && (o.f0.f1.toList == a.f1.toList)) = true
    · refine Ev.pos c ?_
      by_cases c2 : n ≤ o.f2
      · have : (accQ o.f0 a && decide (n ≤ o.f2)) = true := by rw [show accQ o.f0 a = true from c, decide_eq_true c2]; rfl
        rw [this]
        exact Ev.pos c2 (Ev.val _)
      · have : (accQ o.f0 a && decide (n ≤ o.f2)) = false := by rw [decide_eq_false c2, Bool.and_false]
        rw [this]
        exact Ev.neg c2 h
    · have : (accQ o.f0 a && decide (n ≤ o.f2)) = false := by
        have : accQ o.f0 a = false := by
          simp only [accQ]
          simpa using c
        rw [this, Bool.false_and]
      rw [this]
      exact Ev.neg c h
theorem taker_ev (l : List S50) (hl : l.length ≤ 5000) (a : S45) (n : Int) : Ev (fun k => port_taker.f k (l.map O2) a.f0 a.f1 n) (takR (takO l a n)) := by
  simp only [port_taker.f]
  simpa using taker_loop l hl a n _ 0 rfl (Nat.zero_le _)
/-- Is an account in a list, ahead of which others were seen, there twice? -/
def twP : List S45 → List S45 → Bool
  | _, [] => false
  | s, a :: r => (s.any fun x => accQ x a) || twP (s ++ [a]) r
theorem look_any (m : List (S45 × Int)) (a : S45) : (Go.Proofs.YtdhmckgagffgkaaHand.look accQ m a).isSome = (m.map (·.1)).any fun x => accQ x a := by
  induction m with
  | nil => rfl
  | cons p r ih =>
    unfold Go.Proofs.YtdhmckgagffgkaaHand.look at ih ⊢
    rw [List.find?_cons]
    simp only [List.map_cons, List.any_cons]
    cases accQ p.1 a
    · simpa using ih
    · rfl
theorem scan_eq (l : List S52) : ∀ m : List (S45 × Int), port_Plan.scan (l.map G2) m = if twP (m.map (·.1)) (l.map (·.f0)) = true then none else some (m ++ l.map fun g => (g.f0, g.f3)) := by
  induction l with
  | nil => intro m; simp [port_Plan.scan, twP]
  | cons g r ih =>
    intro m
    have h := look_any m g.f0
    simp only [List.map_cons, port_Plan.scan, twP]
    rw [← h]
    have e : (G2 g).f0 = g.f0 := rfl
    rw [e]
    cases Go.Proofs.YtdhmckgagffgkaaHand.look accQ m g.f0 with
    | some n => simp
    | none =>
      simp only [Option.isSome_none, Bool.false_or]
      rw [ih]
      simp [G2]
/-- One client: who takes it, or that it is left. -/
def stepP (l : List S50) (gs : List S52) (a : S45) (tf : List S50 × List S45) : List S50 × List S45 :=
  match gs.find? fun g => accQ g.f0 a with
  | none => tf
  | some g => match takO l a g.f3 with
    | none => (tf.1, tf.2 ++ [a])
    | some o => (tf.1 ++ [o], tf.2)
def goP (l : List S50) (gs : List S52) : List S45 → List S50 × List S45 → List S50 × List S45
  | [], tf => tf
  | a :: r, tf => goP l gs r (stepP l gs a tf)
theorem look_find (gs : List S52) (a : S45) : Go.Proofs.YtdhmckgagffgkaaHand.look accQ (gs.map fun g => (g.f0, g.f3)) a = (gs.find? fun g => accQ g.f0 a).map (·.f3) := by
  induction gs with
  | nil => rfl
  | cons g r ih =>
    unfold Go.Proofs.YtdhmckgagffgkaaHand.look at ih ⊢
    rw [List.map_cons, List.find?_cons, List.find?_cons]
    cases accQ g.f0 a
    · simpa using ih
    · rfl
theorem stepP_len (l : List S50) (gs : List S52) (a : S45) (tf : List S50 × List S45) : (stepP l gs a tf).1.length + (stepP l gs a tf).2.length ≤ tf.1.length + tf.2.length + 1 := by
  unfold stepP
  split
  · omega
  · split
    · simp; omega
    · simp; omega
theorem go_ev (l : List S50) (hl : l.length ≤ 5000) (gs : List S52) (cs : List S45) : ∀ tf : List S50 × List S45, tf.1.length + tf.2.length + cs.length ≤ 100000 →
    Ev (fun k => port_Plan.go k (l.map O2) (gs.map fun g => (g.f0, g.f3)) cs (tf.1.map O2) tf.2) ((goP l gs cs tf).1.map O2, (goP l gs cs tf).2, 0) := by
  induction cs with
  | nil => intro tf _; exact Ev.val _
  | cons a r ih =>
    intro tf hb
    have hlen := stepP_len l gs a tf
    have h := ih (stepP l gs a tf) (by simp only [List.length_cons] at hb; omega)
    simp only [port_Plan.go, goP, look_find]
    unfold stepP at h ⊢
    cases hf : gs.find? (fun g => accQ g.f0 a) with
    | none =>
      rw [hf] at h
      exact h
    | some g =>
      rw [hf] at h
      simp only [Option.map_some] at h ⊢
      refine Ev.bind (taker_ev l hl a g.f3) ?_
      cases ht : takO l a g.f3 with
      | none =>
        rw [ht] at h
        simp only [takR] at h ⊢
        exact Ev.neg (by simp) (Ev.pos (by simp only [List.length_cons] at hb; omega) h)
      | some o =>
        rw [ht] at h
        simp only [takR] at h ⊢
        refine Ev.pos trivial (Ev.pos (by simp only [List.length_map, List.length_cons] at hb ⊢; omega) ?_)
        simpa [O2] using h
/-- What is planned. -/
def planP (l : List S50) (m : List S55) (d : ByteArray) (gs : List S52) : List S50 × List S45 × Int :=
  if checkP m d l = 0 then (if gs.length ≤ 1024 then (if twP [] (gs.map (·.f0)) = true then ([], [], 12) else ((goP l gs (clP m d) ([], [])).1, (goP l gs (clP m d) ([], [])).2, 0)) else ([], [], 8)) else ([], [], checkP m d l)
theorem plan_ev (l : List S50) (hl : l.length ≤ 5000) (m : List S55) (hk : chk m = 0 → KindsOk m) (hs : ∀ y ∈ m, y.f2.length * 24 ≤ 140737488351232) (d : ByteArray) (gs : List S52) (hg : ∀ g ∈ gs, accOk g.f0 = true) (hc : ∀ a ∈ clP m d, accOk a = true) :
    Ev (fun k => port_Plan.f k (l.map O2) m d (gs.map G2)) ((planP l m d gs).1.map O2, (planP l m d gs).2.1, (planP l m d gs).2.2) := by
  simp only [port_Plan.f, planP]
  refine Ev.bind (pcheck_ev m hk hs d l) ?_
  by_cases c : checkP m d l = 0
  · rw [if_pos c]
    refine Ev.pos c ?_
    have c0 : chk m = 0 := by
      unfold checkP at c
      by_cases c1 : chk m = 0
      · exact c1
      · rw [if_neg c1] at c; exact absurd c c1
    have few := chk_few c0
    by_cases c2 : gs.length ≤ 1024
    · rw [if_pos c2]
      refine Ev.pos (by simpa using c2) (Ev.pos ?_ ?_)
      · rw [List.all_eq_true]
        intro g hg'
        obtain ⟨x, hx, rfl⟩ := List.mem_map.mp hg'
        exact hg x hx
      · rw [scan_eq]
        by_cases c3 : twP [] (gs.map (·.f0)) = true
        · simp only [List.map_nil, c3, if_true]
          exact Ev.val _
        · simp only [List.map_nil, c3, if_false, List.nil_append]
          have hcl := clP_len m d 16 few
          refine Ev.bind (clients_ev m d (fun y hy => by have := few y hy; omega)) (Ev.pos (List.all_eq_true.mpr hc) ?_)
          exact go_ev l hl gs (clP m d) ([], []) (by simp; omega)
    · rw [if_neg c2]
      exact Ev.neg (by simpa using c2) (Ev.val _)
  · rw [if_neg c]
    exact Ev.neg c (Ev.val _)
theorem accQ_trans {x y z : S45} (h1 : accQ x z = true) (h2 : accQ y z = true) : accQ x y = true := by
  rw [accQ_iff] at *
  rw [h1, h2]
theorem twP_tail (s : List S45) (l : List S45) (h : twP s l = false) : ∀ x ∈ s, ∀ y ∈ l, accQ x y = false := by
  induction l generalizing s with
  | nil => intro x _ y hy; cases hy
  | cons a r ih =>
    simp only [twP, Bool.or_eq_false_iff] at h
    intro x hx y hy
    rcases List.mem_cons.mp hy with rfl | hy
    · have := List.any_eq_false.mp h.1 x hx
      simpa using this
    · exact ih (s ++ [a]) h.2 x (List.mem_append_left _ hx) y hy
theorem goP_len (l : List S50) (gs : List S52) (cs : List S45) : ∀ tf, (goP l gs cs tf).1.length + (goP l gs cs tf).2.length ≤ tf.1.length + tf.2.length + cs.length := by
  induction cs with
  | nil => intro tf; exact Nat.le_refl _
  | cons a r ih =>
    intro tf
    simp only [goP, List.length_cons]
    refine Nat.le_trans (ih _) ?_
    have := stepP_len l gs a tf
    omega
theorem planP_len (l : List S50) (m : List S55) (d : ByteArray) (gs : List S52) : (planP l m d gs).1.length ≤ 16 ∧ (planP l m d gs).2.1.length ≤ 16 := by
  unfold planP
  by_cases c : checkP m d l = 0
  · rw [if_pos c]
    have c0 : chk m = 0 := by
      unfold checkP at c
      by_cases c1 : chk m = 0
      · exact c1
      · rw [if_neg c1] at c; exact absurd c c1
    have hcl := clP_len m d 16 (chk_few c0)
    have hgo := goP_len l gs (clP m d) ([], [])
    simp only [List.length_nil] at hgo
    split
    · split
      · exact ⟨by simp, by simp⟩
      · exact ⟨by show (goP l gs (clP m d) ([], [])).1.length ≤ 16; omega, by show (goP l gs (clP m d) ([], [])).2.length ≤ 16; omega⟩
    · exact ⟨by simp, by simp⟩
  · rw [if_neg c]; exact ⟨by simp, by simp⟩
theorem few_ev (l : List S50) (m : List S55) (d : ByteArray) (gs : List S52) : Ev (fun _ => contangolaw42_few.f l m d gs) (decide (l.length ≤ 1100) && decide (m.length ≤ 60) && decide (gs.length ≤ 1100)) := by
  simp only [contangolaw42_few.f]
  by_cases c1 : l.length ≤ 1100
  · by_cases c2 : m.length ≤ 60
    · refine Ev.pos (by omega) (Ev.pos (by omega) (Ev.valOf ?_))
      simp only [decide_eq_true c1, decide_eq_true c2, Bool.true_and]
      exact decide_eq_decide.mpr (by omega)
    · exact Ev.pos (by omega) (Ev.neg (by omega) (Ev.valOf (by simp [c2])))
  · exact Ev.neg (by omega) (Ev.valOf (by simp [c1]))
theorem clP_mem (m : List S55) (d : ByteArray) (a : S45) (h : a ∈ clP m d) : a.f0 = d ∧ ∃ y ∈ m, ∃ z ∈ y.f2, a.f1 = z.f0 := by
  unfold clP clientsOf at h
  obtain ⟨z, hz, rfl⟩ := List.mem_map.mp h
  refine ⟨rfl, ?_⟩
  have hz2 := (List.mem_filter.mp hz).1
  exact findP_mem m d (fun z => ∃ y ∈ m, ∃ z' ∈ y.f2, z.f0 = z'.f0) (fun y hy z hz => ⟨y, hy, z, hz, rfl⟩) z hz2
/-- How often an account stands in a list. -/
def cntA (l : List S45) (a : S45) : Nat := l.countP fun x => accQ x a
theorem in_loop (l : List S45) (hl : l.length ≤ 100000) (a : S45) (e : Nat) : ∀ (i c : Nat), l.length - i = e → i ≤ l.length → c ≤ i → Ev (fun k => contangolaw42_in.l0 k l (c : Int) (l.length : Int) i a.f0 a.f1) (((c + cntA (l.drop i) a : Nat) : Int)) := by
  induction e with
  | zero =>
    intro i c hd hi hc
    obtain rfl : i = l.length := by omega
    refine Ev.shift ?_
    simp only [contangolaw42_in.l0, List.drop_length, cntA, List.countP_nil, Nat.add_zero]
    exact Ev.neg (by omega) (Ev.val _)
  | succ e ih =>
    intro i c hd hi hc
    have hw : wrap64 ((i : Int) + 1) = ((i + 1 : Nat) : Int) := by unfold wrap64; omega
    have hw2 : wrap64 ((c : Int) + 1) = ((c + 1 : Nat) : Int) := by unfold wrap64; omega
    rw [dropC l i (by omega)]
    refine Ev.shift ?_
    simp only [contangolaw42_in.l0, hw, hw2]
    refine Ev.pos (by omega) (Ev.pos (by omega) (Ev.pos (by omega) ?_))
    unfold cntA at ih ⊢
    by_cases q : accQ (rd_T45 l i) a = true
    · have h := ih (i + 1) (c + 1) (by omega) (by omega) (by omega)
      have e1 : c + (rd_T45 l i :: l.drop (i + 1)).countP (fun x => accQ x a) = c + 1 + (l.drop (i + 1)).countP (fun x => accQ x a) := by
        simp only [List.countP_cons, q, if_true]
        omega
      rw [e1]
      exact Ev.pos q h
    · have h := ih (i + 1) c (by omega) (by omega) (by omega)
      have e1 : c + (rd_T45 l i :: l.drop (i + 1)).countP (fun x => accQ x a) = c + (l.drop (i + 1)).countP (fun x => accQ x a) := by
        have q' : accQ (rd_T45 l i) a = false := by simpa using q
        simp only [List.countP_cons, q', Bool.false_eq_true, if_false, Nat.add_zero]
      rw [e1]
      exact Ev.neg q h
theorem in_ev (l : List S45) (hl : l.length ≤ 100000) (a : S45) : Ev (fun k => contangolaw42_in.f k l a.f0 a.f1) ((cntA l a : Nat) : Int) := by
  simp only [contangolaw42_in.f]
  have := in_loop l hl a _ 0 0 rfl (Nat.zero_le _) (Nat.le_refl _)
  simpa using this
theorem accQ_symm (x y : S45) : accQ x y = accQ y x := by
  simp only [accQ]
  rw [Bool.eq_iff_iff]
  simp only [Bool.and_eq_true, beq_iff_eq]
  exact ⟨fun h => ⟨h.1.symm, h.2.symm⟩, fun h => ⟨h.1.symm, h.2.symm⟩⟩
/-- Is there a gap of an account? -/
def hg (gs : List S52) (c : S45) : Nat := if (gs.find? fun g => accQ g.f0 c).isSome = true then 1 else 0
theorem takO_spec {l : List S50} {a : S45} {n : Int} {o : S50} (h : takO l a n = some o) : o ∈ l ∧ accQ o.f0 a = true ∧ n ≤ o.f2 := by
  unfold takO at h
  have h1 := List.find?_some h
  simp only [Bool.and_eq_true, decide_eq_true_eq] at h1
  exact ⟨List.mem_of_find?_eq_some h, h1.1, h1.2⟩
theorem stepP_sum (l : List S50) (gs : List S52) (c : S45) (tf : List S50 × List S45) : (stepP l gs c tf).1.length + (stepP l gs c tf).2.length = tf.1.length + tf.2.length + hg gs c := by
  unfold stepP hg
  cases gs.find? (fun g => accQ g.f0 c) with
  | none => simp
  | some g =>
    simp only [Option.isSome_some, if_true]
    cases takO l c g.f3 with
    | none => simp only [List.length_append, List.length_cons, List.length_nil]; omega
    | some o => simp only [List.length_append, List.length_cons, List.length_nil]; omega
theorem goP_sum (l : List S50) (gs : List S52) (cs : List S45) : ∀ tf, (goP l gs cs tf).1.length + (goP l gs cs tf).2.length = tf.1.length + tf.2.length + (cs.map (hg gs)).sum := by
  induction cs with
  | nil => intro tf; rfl
  | cons c r ih =>
    intro tf
    simp only [goP, List.map_cons, List.sum_cons]
    rw [ih, stepP_sum]
    omega
/-- Every offer that is taken was offered, and is enough for a gap. -/
theorem goP_taken (l : List S50) (gs : List S52) (cs : List S45) : ∀ tf, (∀ o ∈ tf.1, o ∈ l ∧ ∃ g ∈ gs, accQ g.f0 o.f0 = true ∧ g.f3 ≤ o.f2) → ∀ o ∈ (goP l gs cs tf).1, o ∈ l ∧ ∃ g ∈ gs, accQ g.f0 o.f0 = true ∧ g.f3 ≤ o.f2 := by
  induction cs with
  | nil => intro tf h; exact h
  | cons c r ih =>
    intro tf h
    simp only [goP]
    refine ih _ ?_
    unfold stepP
    cases hf : gs.find? (fun g => accQ g.f0 c) with
    | none => exact h
    | some g =>
      simp only
      cases ht : takO l c g.f3 with
      | none => exact h
      | some o =>
        intro o' ho'
        rcases List.mem_append.mp ho' with h1 | h1
        · exact h o' h1
        · obtain rfl := List.mem_singleton.mp h1
          obtain ⟨t1, t2, t3⟩ := takO_spec ht
          have g1 := List.find?_some hf
          exact ⟨t1, g, List.mem_of_find?_eq_some hf, by rw [accQ_symm] at t2; exact accQ_trans g1 (by rw [accQ_symm]; exact t2), t3⟩
theorem goP_cnt (l : List S50) (gs : List S52) (g : S52) (hgm : g ∈ gs) (cs : List S45) : ∀ tf, cntA ((goP l gs cs tf).2 ++ (goP l gs cs tf).1.map (·.f0)) g.f0 = cntA (tf.2 ++ tf.1.map (·.f0)) g.f0 + cntA cs g.f0 := by
  induction cs with
  | nil => intro tf; rfl
  | cons c r ih =>
    intro tf
    simp only [goP]
    rw [ih]
    have key : cntA ((stepP l gs c tf).2 ++ (stepP l gs c tf).1.map (·.f0)) g.f0 = cntA (tf.2 ++ tf.1.map (·.f0)) g.f0 + (if accQ c g.f0 = true then 1 else 0) := by
      unfold stepP
      cases hf : gs.find? (fun g => accQ g.f0 c) with
      | none =>
        have := List.find?_eq_none.mp hf g hgm
        rw [accQ_symm] at this
        simp only [if_neg this]
        rfl
      | some g' =>
        simp only
        cases ht : takO l c g'.f3 with
        | none =>
          simp only [cntA, List.countP_append, List.countP_cons, List.countP_nil]
          omega
        | some o =>
          obtain ⟨_, t2, _⟩ := takO_spec ht
          have e : accQ o.f0 g.f0 = accQ c g.f0 := by
            have := (accQ_iff _ _).mp t2
            rw [Bool.eq_iff_iff, accQ_iff, accQ_iff, this]
          simp only [cntA, List.map_append, List.map_cons, List.map_nil, List.countP_append, List.countP_cons, List.countP_nil, e]
          omega
    rw [key]
    simp only [cntA, List.countP_cons]
    omega
theorem gap_cnt (gs : List S52) (c : S45) : ∀ s, twP s (gs.map (·.f0)) = false → gs.countP (fun g => accQ g.f0 c) = hg gs c := by
  induction gs with
  | nil => intro s _; rfl
  | cons g r ih =>
    intro s h
    simp only [List.map_cons, twP, Bool.or_eq_false_iff] at h
    have hi := ih _ h.2
    by_cases q : accQ g.f0 c = true
    · have hno : ∀ g' ∈ r, accQ g'.f0 c = false := by
        intro g' hg'
        have h1 := twP_tail _ _ h.2 g.f0 (List.mem_append_right _ (List.mem_singleton.mpr rfl)) g'.f0 (List.mem_map.mpr ⟨g', hg', rfl⟩)
        cases hq : accQ g'.f0 c with
        | false => rfl
        | true => rw [accQ_trans q hq] at h1; cases h1
      have hz : r.countP (fun g => accQ g.f0 c) = 0 := List.countP_eq_zero.mpr (fun g' hg' => by rw [hno g' hg']; simp)
      simp only [List.countP_cons, q, if_true, hz]
      unfold hg
      rw [List.find?_cons, q]
      rfl
    · have q' : accQ g.f0 c = false := by simpa using q
      simp only [List.countP_cons, q', Bool.false_eq_true, if_false, Nat.add_zero, hi]
      unfold hg
      rw [List.find?_cons, q']
theorem double (gs : List S52) (cs : List S45) : (gs.map fun g => cntA cs g.f0).sum = (cs.map fun c => gs.countP fun g => accQ g.f0 c).sum := by
  induction cs with
  | nil =>
    simp only [cntA, List.countP_nil, List.map_nil, List.sum_nil]
    induction gs with
    | nil => rfl
    | cons g r ih => simpa using ih
  | cons c r ih =>
    simp only [List.map_cons, List.sum_cons]
    rw [← ih]
    clear ih
    induction gs with
    | nil => rfl
    | cons g q ih =>
      simp only [List.map_cons, List.sum_cons, List.countP_cons]
      rw [ih, accQ_symm g.f0 c]
      simp only [cntA, List.countP_cons]
      omega
theorem double' (gs : List S52) (h : twP [] (gs.map (·.f0)) = false) (cs : List S45) : (gs.map fun g => cntA cs g.f0).sum = (cs.map (hg gs)).sum := by
  rw [double]
  congr 1
  exact List.map_congr_left (fun c _ => gap_cnt gs c [] h)
/-- An offer that may be is one to somebody who is active. -/
theorem oneP_zero {m : List S55} {d : ByteArray} {x : S50} (h : oneP m d x = 0) : (findP m x.f1.f0).2.2.2 = true ∧ (findP m x.f1.f0).2.1 = 1 := by
  unfold oneP at h
  split at h
  · split at h
    · assumption
    · omega
  · omega
theorem checkP_all {m : List S55} {d : ByteArray} {l : List S50} (h : checkP m d l = 0) : chk m = 0 ∧ ∀ x ∈ l, oneP m d x = 0 := by
  unfold checkP at h
  by_cases c1 : chk m = 0
  · rw [if_pos c1] at h
    refine ⟨c1, fun x hx => ?_⟩
    split at h
    · split at h
      · omega
      · obtain ⟨i, hi, rfl⟩ := List.getElem_of_mem hx
        have := firstErr_none _ _ _ h i (Nat.zero_le _) (by omega)
        rwa [rdO l i hi] at this
    · omega
  · rw [if_neg c1] at h; exact absurd h c1
theorem goes_true : contangolaw42_goes.f 60 = some true := by decide +kernel
theorem goes_ev : Ev (fun k => contangolaw42_goes.f k) true := Ev.of goes_true (fun k => contangolaw42_goes.mono k)
theorem takO_append (l more : List S50) (a : S45) (n : Int) : takO (l ++ more) a n = (takO l a n).or (takO more a n) := by
  unfold takO
  rw [List.find?_append]
theorem goP_more (l more : List S50) (gs : List S52) (cs : List S45) : ∀ tf tf', (∀ o ∈ tf.1, o ∈ tf'.1) → (∀ a ∈ tf'.2, a ∈ tf.2) →
    (∀ o ∈ (goP l gs cs tf).1, o ∈ (goP (l ++ more) gs cs tf').1) ∧ ∀ a ∈ (goP (l ++ more) gs cs tf').2, a ∈ (goP l gs cs tf).2 := by
  induction cs with
  | nil => intro tf tf' h1 h2; exact ⟨h1, h2⟩
  | cons c r ih =>
    intro tf tf' h1 h2
    simp only [goP]
    have key : (∀ o ∈ (stepP l gs c tf).1, o ∈ (stepP (l ++ more) gs c tf').1) ∧ ∀ a ∈ (stepP (l ++ more) gs c tf').2, a ∈ (stepP l gs c tf).2 := by
      unfold stepP
      cases gs.find? (fun g => accQ g.f0 c) with
      | none => exact ⟨h1, h2⟩
      | some g =>
        simp only
        rw [takO_append]
        cases takO l c g.f3 with
        | none =>
          simp only [Option.none_or]
          cases takO more c g.f3 with
          | none =>
            refine ⟨h1, fun a ha => ?_⟩
            rcases List.mem_append.mp ha with h | h
            · exact List.mem_append_left _ (h2 a h)
            · exact List.mem_append_right _ h
          | some o => exact ⟨fun o ho => List.mem_append_left _ (h1 o ho), fun a ha => List.mem_append_left _ (h2 a ha)⟩
        | some o =>
          simp only [Option.some_or]
          refine ⟨fun x hx => ?_, h2⟩
          rcases List.mem_append.mp hx with h | h
          · exact List.mem_append_left _ (h1 x h)
          · exact List.mem_append_right _ h
    exact ih _ _ key.1 key.2
theorem goP_left (l : List S50) (gs : List S52) (cs : List S45) : ∀ tf, ∃ x, (goP l gs cs tf).2 = tf.2 ++ x ∧ x.Sublist cs := by
  induction cs with
  | nil => intro tf; exact ⟨[], by simp [goP], List.Sublist.refl _⟩
  | cons c r ih =>
    intro tf
    simp only [goP]
    obtain ⟨x, h1, h2⟩ := ih (stepP l gs c tf)
    have key : (stepP l gs c tf).2 = tf.2 ∨ (stepP l gs c tf).2 = tf.2 ++ [c] := by
      unfold stepP
      cases gs.find? (fun g => accQ g.f0 c) with
      | none => exact Or.inl rfl
      | some g =>
        simp only
        cases takO l c g.f3 with
        | none => exact Or.inr rfl
        | some o => exact Or.inl rfl
    rcases key with k | k
    · exact ⟨x, by rw [h1, k], h2.cons _⟩
    · exact ⟨c :: x, by rw [h1, k]; simp, h2.cons_cons _⟩
theorem cnt_one (l : List S45) (h : l.Pairwise fun x y => accQ x y = false) (a : S45) (ha : a ∈ l) : cntA l a = 1 := by
  induction l with
  | nil => cases ha
  | cons c r ih =>
    rw [List.pairwise_cons] at h
    have hself : accQ a a = true := by rw [accQ_iff]
    unfold cntA at ih ⊢
    rcases List.mem_cons.mp ha with rfl | hr
    · have hz : r.countP (fun x => accQ x a) = 0 := List.countP_eq_zero.mpr (fun y hy => by rw [accQ_symm, h.1 y hy]; simp)
      simp only [List.countP_cons, hself, if_true, hz]
    · have hc : accQ c a = false := h.1 a hr
      simp only [List.countP_cons, hc, Bool.false_eq_true, if_false, Nat.add_zero]
      exact ih h.2 hr
theorem clP_apart (m : List S55) (hc : chk m = 0) (d : ByteArray) : (clP m d).Pairwise fun x y => accQ x y = false := by
  have hv := (chk_iff m).mp hc
  have hs : (findP m d).2.2.1.Pairwise lt53 := by
    unfold findP
    split
    · exact List.Pairwise.nil
    · rename_i c
      have b := at_bounds m d c
      exact (hv.2.1 _ (rd45_mem m _ b.1 b.2)).2.2.2.2.2
  unfold clP clientsOf
  rw [List.pairwise_map]
  refine List.Pairwise.imp ?_ (hs.filter _)
  intro x y h
  have hne := less_ne h
  cases q : accQ (⟨d, x.f0⟩ : S45) ⟨d, y.f0⟩ with
  | false => rfl
  | true =>
    simp only [accQ, Bool.and_eq_true, beq_iff_eq] at q
    exact absurd q.2 hne
def eqO (x o : S50) : Bool := ((x.f0.f0.toList == o.f0.f0.toList && (x.f0.f1.toList == o.f0.f1.toList)) && ((x.f1.f0.toList == o.f1.f0.toList && (x.f1.f1.toList == o.f1.f1.toList)) && (x.f2 == o.f2)))
theorem eqO_refl (o : S50) : eqO o o = true := by simp [eqO]
theorem m1_ev (tk th : List S50) (hth : th.length ≤ 5000) (lf st : List S45) (n i : Int) (o : S50) (ho : o ∈ th) (H : Ev (fun k => contangolaw42_PortMore.l0 k (tk.map O2) lf (th.map O2) st (tk.map O2) n (wrap64 (i + 1))) true) (e : Nat) :
    ∀ (j : Nat) (b : Bool), th.length - j = e → j ≤ th.length → (o ∈ th.take j → b = true) →
      Ev (fun k => contangolaw42_PortMore.l1 k (tk.map O2) lf (th.map O2) st b (tk.map O2) n i (th.map O2) (((th.map O2).length : Nat) : Int) j o.f0.f0 o.f0.f1 o.f1.f0 o.f1.f1 o.f2) true := by
  induction e with
  | zero =>
    intro j b hd hj hb
    obtain rfl : j = th.length := by clear hb; omega
    rw [List.take_length] at hb
    refine Ev.shift ?_
    simp only [contangolaw42_PortMore.l1, List.length_map]
    exact Ev.neg (by clear hb; omega) (Ev.pos (hb ho) H)
  | succ e ih =>
    intro j b hd hj hb
    have hw : wrap64 ((j : Int) + 1) = ((j + 1 : Nat) : Int) := by clear hb; unfold wrap64; omega
    have hj0 : j < th.length := by clear hb; omega
    have hj1 : th.length - (j + 1) = e := by clear hb; omega
    have hj2 : j + 1 ≤ th.length := by clear hb; omega
    have hj3 : (j : Int) < (((th.map O2).length : Nat) : Int) := by clear hb; simp only [List.length_map]; omega
    have hj4 : 0 ≤ (j : Int) := by clear hb; omega
    have htk : th.take (j + 1) = th.take j ++ [rd_T50 th j] := by rw [List.take_succ_eq_append_getElem hj0, rdO th j hj0]
    refine Ev.shift ?_
    simp only [contangolaw42_PortMore.l1, hw]
    rw [rdO2 th j hj0]
    generalize hgg : rd_T50 th j = g at htk ⊢
    refine Ev.pos hj3 (Ev.pos hj4 (Ev.pos hj3 (Ev.ite (fun c => ih (j + 1) true hj1 hj2 (fun _ => rfl)) (fun c => ?_))))
    refine ih (j + 1) (eqO g o) hj1 hj2 (fun h => ?_)
    rw [htk] at h
    rcases List.mem_append.mp h with h | h
    · exact absurd (hb h) c
    · rw [List.mem_singleton.mp h]
      exact eqO_refl _
theorem m2_ev (tk th : List S47) (lf st : List S45) (hl : lf.length ≤ 1000) (hst : st.length ≤ 1000) (hone : ∀ a ∈ st, cntA lf a = 1) (hsum : th.length + st.length = tk.length + lf.length) (e : Nat) : ∀ j : Nat, st.length - j = e → j ≤ st.length →
    Ev (fun k => contangolaw42_PortMore.l2 k tk lf th st st (st.length : Int) j) true := by
  induction e with
  | zero =>
    intro j hd hj
    refine Ev.shift ?_
    simp only [contangolaw42_PortMore.l2]
    refine Ev.neg (by omega) (Ev.pos ?_ (Ev.bind goes_ev (Ev.val _)))
    rw [show ((th.length : Int) + (st.length : Int)) = (tk.length : Int) + (lf.length : Int) from by omega]
  | succ e ih =>
    intro j hd hj
    have hw : wrap64 ((j : Int) + 1) = ((j + 1 : Nat) : Int) := by unfold wrap64; omega
    have h := ih (j + 1) (by omega) (by omega)
    have hmem : rd_T45 st j ∈ st := by
      have : rd_T45 st j = st[j] := by simp [rd_T45, show j < st.length by omega]
      rw [this]
      exact List.getElem_mem _
    refine Ev.shift ?_
    simp only [contangolaw42_PortMore.l2, hw]
    exact Ev.pos (by omega) (Ev.pos (by omega) (Ev.pos (by omega) (Ev.bind (in_ev lf (by omega) _) (Ev.pos (by rw [hone _ hmem]; rfl) h))))
theorem m0_ev (tk th : List S50) (htk : tk.length ≤ 5000) (hth : th.length ≤ 5000) (lf st : List S45) (hsub : ∀ o ∈ tk, o ∈ th) (H : Ev (fun k => contangolaw42_PortMore.l2 k (tk.map O2) lf (th.map O2) st st (st.length : Int) 0) true) (e : Nat) : ∀ i : Nat, tk.length - i = e → i ≤ tk.length →
    Ev (fun k => contangolaw42_PortMore.l0 k (tk.map O2) lf (th.map O2) st (tk.map O2) (((tk.map O2).length : Nat) : Int) i) true := by
  induction e with
  | zero =>
    intro i hd hi
    refine Ev.shift ?_
    simp only [contangolaw42_PortMore.l0, List.length_map]
    exact Ev.neg (by omega) H
  | succ e ih =>
    intro i hd hi
    have hw : wrap64 ((i : Int) + 1) = ((i + 1 : Nat) : Int) := by unfold wrap64; omega
    have h := ih (i + 1) (by omega) (by omega)
    have hmem : rd_T50 tk i ∈ tk := by rw [rdO tk i (by omega)]; exact List.getElem_mem _
    refine Ev.shift ?_
    simp only [contangolaw42_PortMore.l0]
    rw [rdO2 tk i (by omega)]
    refine Ev.pos (by simp; omega) (Ev.pos (by omega) (Ev.pos (by simp; omega) ?_))
    exact m1_ev tk th hth lf st _ _ (rd_T50 tk i) (hsub _ hmem) (by rw [hw]; exact h) _ 0 false rfl (Nat.zero_le _) (by simp)
theorem firstErr_le (f g : Nat → Int) (d : Nat) (hfg : ∀ i, i < d → f i = g i) (d' : Nat) (hd : d ≤ d') (h : firstErr g d' 0 = 0) : firstErr f d 0 = 0 :=
  firstErr_of _ _ _ (fun j _ hj => by rw [hfg j (by omega)]; exact firstErr_none _ _ _ h j (Nat.zero_le _) (by omega))
theorem checkP_less {m : List S55} {d : ByteArray} {l more : List S50} (h : checkP m d (l ++ more) = 0) : checkP m d l = 0 := by
  unfold checkP at h ⊢
  by_cases c1 : chk m = 0
  · rw [if_pos c1] at h ⊢
    by_cases c2 : (findP m d).2.2.2 = true
    · rw [if_pos c2] at h ⊢
      by_cases c3 : 1024 < (l ++ more).length
      · rw [if_pos c3] at h; omega
      · rw [if_neg c3] at h
        have hl : ¬ 1024 < l.length := by rw [List.length_append] at c3; omega
        rw [if_neg hl]
        refine firstErr_le _ _ _ (fun i hi => ?_) _ (by rw [List.length_append]; omega) h
        rw [rdO l i hi, rdO (l ++ more) i (by rw [List.length_append]; omega), List.getElem_append_left hi]
    · rw [if_neg c2] at h; omega
  · rw [if_neg c1] at h; exact absurd h c1
theorem planP_ok {l : List S50} {m : List S55} {d : ByteArray} {gs : List S52} : (planP l m d gs).2.2 = 0 ↔ checkP m d l = 0 ∧ gs.length ≤ 1024 ∧ twP [] (gs.map (·.f0)) = false := by
  unfold planP
  by_cases c1 : checkP m d l = 0
  · rw [if_pos c1]
    by_cases c2 : gs.length ≤ 1024
    · rw [if_pos c2]
      cases htw : twP [] (gs.map (·.f0)) with
      | true => simp
      | false => exact ⟨fun _ => ⟨c1, c2, rfl⟩, fun _ => rfl⟩
    · rw [if_neg c2]
      exact ⟨(fun h => by simp at h), fun h => absurd h.2.1 c2⟩
  · rw [if_neg c1]
    exact ⟨fun h => absurd h c1, fun h => absurd h.1 c1⟩
theorem PortMore : contangolaw42_PortMore.Said := by
  intro l more x gs hokl hokm hokx hokg hszl hszm hszx hszg
  refine Ev.get ?_
  obtain ⟨m, d⟩ := x
  simp only [ok25] at hokx
  simp only [sz25] at hszx
  have hsz : ∀ y ∈ m, ∀ z ∈ y.f2, z.f0.size ≤ 9223372036854775806 := by
    intro y hy
    have h := hszx.1.2 y hy
    simp only [sz55, sz61] at h
    exact fun z hz => by have := (h.2.2.2 z hz).1; omega
  have hs1 : ∀ y ∈ m, y.f2.length * 24 ≤ 140737488351232 := fun y hy => (hszx.1.2 y hy).2.2.1
  have hml := hszm.1
  have hll := hszl.1
  simp only [contangolaw42_PortMore.f]
  have j0t : Ev (fun k => contangolaw42_PortMore.j0 k l more gs true m d) true := by
    refine Ev.shift ?_
    simp only [contangolaw42_PortMore.j0]
    exact Ev.pos trivial (Ev.bind goes_ev (Ev.val _))
  refine Ev.bind (few_ev l m d gs) (Ev.ite (fun c => ?_) (fun c => j0t))
  have hw : wrap64 ((l.length : Int) + (more.length : Int)) = ((l.length + more.length : Nat) : Int) := by unfold wrap64; omega
  rw [hw]
  by_cases c3 : ((l.length + more.length : Nat) : Int) > 1024
  · rw [decide_eq_true c3]; exact j0t
  rw [decide_eq_false c3]
  simp only [Bool.and_eq_true, decide_eq_true_eq] at c
  have hg : ∀ g ∈ gs, accOk g.f0 = true := by
    intro g hg
    have h := (hokg.2 g hg).1
    simp only [ok45] at h
    simp only [accOk, Bool.and_eq_true, decide_eq_true_eq]
    exact h
  have hc : ∀ a ∈ clP m d, accOk a = true := by
    intro a ha
    obtain ⟨h1, y, hy, z, hz, h2⟩ := clP_mem m d a ha
    have := hsz y hy z hz
    simp only [accOk, Bool.and_eq_true, decide_eq_true_eq, h1, h2]
    exact ⟨hokx.2, by omega⟩
  refine Ev.shift ?_
  simp only [contangolaw42_PortMore.j0, Option.bind_some, List.nil_append, List.length_nil]
  refine Ev.neg (by simp) (Ev.bind (offers_ev l (by omega)) (Ev.bind (gaps_ev gs (by omega)) (Ev.bind (plan_ev l (by omega) m (fun c => chk_kinds c) hs1 d gs hg hc) ?_)))
  refine Ev.pos (by omega) (Ev.pos (by omega) (Ev.bind (offers_ev (l ++ more) (by rw [List.length_append]; omega)) (Ev.bind (gaps_ev gs (by omega)) (Ev.bind (plan_ev (l ++ more) (by rw [List.length_append]; omega) m (fun c => chk_kinds c) hs1 d gs hg hc) ?_))))
  have less : (planP (l ++ more) m d gs).2.2 = 0 → (planP l m d gs).2.2 = 0 := fun h => by
    obtain ⟨h1, h2, h3⟩ := planP_ok.mp h
    exact planP_ok.mpr ⟨checkP_less h1, h2, h3⟩
  by_cases e0 : (planP l m d gs).2.2 = 0
  · refine Ev.pos e0 (Ev.shift ?_)
    simp only [contangolaw42_PortMore.j1]
    by_cases e1 : (planP (l ++ more) m d gs).2.2 = 0
    · refine Ev.neg (by simp [e1]) ?_
      obtain ⟨k1, k2, k3⟩ := planP_ok.mp e0
      obtain ⟨q1, _, _⟩ := planP_ok.mp e1
      obtain ⟨k0, kall⟩ := checkP_all k1
      have few := chk_few k0
      have hcl := clP_len m d 16 few
      obtain ⟨p1, p2⟩ := planP_len l m d gs
      obtain ⟨p3, p4⟩ := planP_len (l ++ more) m d gs
      have u1 : planP l m d gs = ((goP l gs (clP m d) ([], [])).1, (goP l gs (clP m d) ([], [])).2, 0) := by
        unfold planP
        rw [if_pos k1, if_pos k2, k3]
        rfl
      have u2 : planP (l ++ more) m d gs = ((goP (l ++ more) gs (clP m d) ([], [])).1, (goP (l ++ more) gs (clP m d) ([], [])).2, 0) := by
        unfold planP
        rw [if_pos q1, if_pos k2, k3]
        rfl
      rw [u1] at p1 p2 ⊢
      rw [u2] at p3 p4 ⊢
      simp only at p1 p2 p3 p4 ⊢
      obtain ⟨m1, m2⟩ := goP_more l more gs (clP m d) ([], []) ([], []) (fun o ho => ho) (fun a ha => ha)
      have s1 := goP_sum l gs (clP m d) ([], [])
      have s2 := goP_sum (l ++ more) gs (clP m d) ([], [])
      obtain ⟨xl, x1, x2⟩ := goP_left l gs (clP m d) ([], [])
      have hap : (goP l gs (clP m d) ([], [])).2.Pairwise fun x y => accQ x y = false := by
        rw [x1, List.nil_append]
        exact (clP_apart m k0 d).sublist x2
      exact m0_ev _ _ (by omega) (by omega) _ _ m1 (m2_ev _ _ _ _ (by omega) (by omega) (fun a ha => cnt_one _ hap a (m2 a ha)) (by simp only [List.length_map]; omega) _ 0 rfl (Nat.zero_le _)) _ 0 rfl (Nat.zero_le _)
    · exact Ev.pos (by simp [e1]) (Ev.pos e0 (Ev.bind goes_ev (Ev.val _)))
  · refine Ev.neg e0 (Ev.shift ?_)
    simp only [contangolaw42_PortMore.j1]
    exact Ev.pos trivial (Ev.neg e0 (Ev.neg (fun h => e0 (less h)) (Ev.bind goes_ev (Ev.val _))))
end Go.Proofs.Ytdhmckgagffgkaa.Pure
