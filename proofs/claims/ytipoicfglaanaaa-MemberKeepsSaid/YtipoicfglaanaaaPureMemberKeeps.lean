/- Whatever is turned: members may be, nobody else's status or account turns, and nobody who is in default, or left, comes back: the law, as a statement over numbers and lists. -/
import Derived.Test.YtipoicfglaanaaaArgMemberKeeps
namespace Go.Proofs.Ytipoicfglaanaaa.Pure
set_option linter.unusedSimpArgs false
set_option linter.unusedVariables false
open Go.RowKit Go.Proofs.Ytipoicfglaanaaa.PMemberKeeps Go.Proofs.Ytipoicfglaanaaa.Opens Go.Proofs.YtipoicfglaanaaaW.PrintWords Go.Proofs.YtipoicfglaanaaaW.PrintLast
/-- Comes to r, at all large numbers of rounds. -/
def Ev {α : Type} (g : Nat → Option α) (r : α) : Prop := ∃ K, ∀ k, K ≤ k → g k = some r
theorem Ev.shift {α : Type} {g : Nat → Option α} {r : α} (h : Ev (fun k => g (k + 1)) r) : Ev g r := by
  obtain ⟨K, h⟩ := h
  refine ⟨K + 1, fun k hk => ?_⟩
  obtain ⟨m, rfl⟩ : ∃ m, k = m + 1 := ⟨k - 1, by omega⟩
  exact h m (by omega)
theorem Ev.val {α : Type} (r : α) : Ev (fun _ => some r) r := ⟨0, fun _ _ => rfl⟩
theorem Ev.bind {α β : Type} {g : Nat → Option α} {f : Nat → α → Option β} {x : α} {r : β} (h : Ev g x) (h' : Ev (fun k => f k x) r) : Ev (fun k => (g k).bind (f k)) r := by
  obtain ⟨K, h⟩ := h
  obtain ⟨K', h'⟩ := h'
  exact ⟨max K K', fun k hk => by show (g k).bind (f k) = some r; rw [h k (by omega)]; exact h' k (by omega)⟩
theorem Ev.get {α : Type} {g : Nat → Option α} {r : α} (h : Ev g r) : ∃ k, g k = some r := by
  obtain ⟨K, h⟩ := h
  exact ⟨K, h K (Nat.le_refl _)⟩
theorem Ev.of {α : Type} {g : Nat → Option α} {r : α} {k0 : Nat} (h : g k0 = some r) (hm : ∀ k, LeO (g k) (g (k + 1))) : Ev g r := ⟨k0, fun _ hk => at_rounds hm hk h⟩
theorem Ev.pos {α : Type} {c : Prop} [Decidable c] {a b : Nat → Option α} {r : α} (hc : c) (h : Ev a r) : Ev (fun k => if c then a k else b k) r := by
  obtain ⟨K, h⟩ := h
  exact ⟨K, fun k hk => by show (if c then a k else b k) = some r; rw [if_pos hc]; exact h k hk⟩
theorem Ev.neg {α : Type} {c : Prop} [Decidable c] {a b : Nat → Option α} {r : α} (hc : ¬ c) (h : Ev b r) : Ev (fun k => if c then a k else b k) r := by
  obtain ⟨K, h⟩ := h
  exact ⟨K, fun k hk => by show (if c then a k else b k) = some r; rw [if_neg hc]; exact h k hk⟩
/-- Both ways, each where it is taken. -/
theorem Ev.ite {α : Type} {c : Prop} [Decidable c] {a b : Nat → Option α} {r : α} (h : c → Ev a r) (h' : ¬ c → Ev b r) : Ev (fun k => if c then a k else b k) r := by
  by_cases hc : c
  · exact Ev.pos hc (h hc)
  · exact Ev.neg hc (h' hc)
theorem wrap_small {n : Int} (h0 : -9223372036854775808 ≤ n) (h1 : n ≤ 9223372036854775807) : wrap64 n = n := by unfold wrap64; omega
/-- Both ways, each with its own end. -/
theorem Ev.both {α : Type} {c : Prop} [Decidable c] {a b : Nat → Option α} {r s : α} (h : c → Ev a r) (h' : ¬ c → Ev b s) : Ev (fun k => if c then a k else b k) (if c then r else s) := by
  by_cases hc : c
  · rw [if_pos hc]; exact Ev.pos hc (h hc)
  · rw [if_neg hc]; exact Ev.neg hc (h' hc)
theorem Ev.valOf {α : Type} {r s : α} (h : s = r) : Ev (fun _ => some r) s := by subst h; exact Ev.val _
theorem less_irrefl (a : List UInt8) : Op.bytesLess a a = false := by
  induction a with
  | nil => rfl
  | cons x r ih =>
    have h : ¬ x < x := fun h => by have := UInt8.lt_iff_toNat_lt.mp h; omega
    simp [Op.bytesLess, ih, h]
theorem less_trans (a : List UInt8) : ∀ b c : List UInt8, Op.bytesLess a b = true → Op.bytesLess b c = true → Op.bytesLess a c = true := by
  induction a with
  | nil =>
    intro b c h1 h2
    cases c with
    | nil => cases b <;> simp [Op.bytesLess] at h2
    | cons z c => rfl
  | cons x a ih =>
    intro b c h1 h2
    cases b with
    | nil => simp [Op.bytesLess] at h1
    | cons y b =>
      cases c with
      | nil => simp [Op.bytesLess] at h2
      | cons z c =>
        simp only [Op.bytesLess, Bool.or_eq_true, decide_eq_true_eq, Bool.and_eq_true, beq_iff_eq, UInt8.lt_iff_toNat_lt] at h1 h2 ⊢
        rcases h1 with h1 | ⟨rfl, h1⟩
        · rcases h2 with h2 | ⟨rfl, h2⟩
          · exact Or.inl (by omega)
          · exact Or.inl h1
        · rcases h2 with h2 | ⟨rfl, h2⟩
          · exact Or.inl h2
          · exact Or.inr ⟨rfl, ih _ _ h1 h2⟩
theorem less_flip {a b : List UInt8} (h : ¬ Op.bytesLess a b = true) (hne : b ≠ a) : Op.bytesLess b a = true := by
  have := Go.Proofs.YtipoicfglaanaaaHand.bytesLess_flip b a
  have h' : Op.bytesLess a b = false := by simpa using h
  rw [h', beq_eq_false_iff_ne.mpr hne] at this
  simpa using this
theorem less_ne {a b : List UInt8} (h : Op.bytesLess a b = true) : a ≠ b := by
  intro e
  subst e
  rw [less_irrefl] at h
  cases h
/-- The first member of a name. -/
def findP (l : List S45) (name : ByteArray) : ByteArray × Int × List S53 × Bool :=
  if member_at.go name l 0 < 0 then ((⟨#[]⟩ : ByteArray), 0, ([] : List S53), false) else ((rd_T45 l (member_at.go name l 0)).f0, (rd_T45 l (member_at.go name l 0)).f1, (rd_T45 l (member_at.go name l 0)).f2, true)
theorem rd45_mem (l : List S45) (i : Int) (h0 : 0 ≤ i) (h1 : i < l.length) : rd_T45 l i ∈ l := by
  have h : i.toNat < l.length := by omega
  have : rd_T45 l i = l[i.toNat] := by simp [rd_T45, h]
  rw [this]
  exact List.getElem_mem h
theorem at_bounds (l : List S45) (name : ByteArray) (h : ¬ member_at.go name l 0 < 0) : 0 ≤ member_at.go name l 0 ∧ member_at.go name l 0 < (l.length : Int) := by
  rcases member_at.go_lt name l 0 with c | c
  · exact absurd (by omega) h
  · exact ⟨c.1, by omega⟩
theorem findP_mem (l : List S45) (name : ByteArray) (Q : S53 → Prop) (h : ∀ y ∈ l, ∀ z ∈ y.f2, Q z) : ∀ z ∈ (findP l name).2.2.1, Q z := by
  unfold findP
  split
  · intro z hz
    cases hz
  · rename_i c
    have b := at_bounds l name c
    exact h _ (rd45_mem l _ b.1 b.2)
theorem findP_len (l : List S45) (name : ByteArray) (N : Nat) (h : ∀ y ∈ l, y.f2.length ≤ N) : (findP l name).2.2.1.length ≤ N := by
  unfold findP
  split
  · exact Nat.zero_le _
  · rename_i c
    have b := at_bounds l name c
    exact h _ (rd45_mem l _ b.1 b.2)
theorem find_some (l : List S45) (name : ByteArray) (hs : ∀ y ∈ l, y.f2.length * 24 ≤ 140737488351232) : member_Find.f l name = some (findP l name) := by
  simp only [member_Find.f, member_at.f, Option.bind_some, findP]
  by_cases c : member_at.go name l 0 < 0
  · rw [if_pos c, if_pos c]
  · have b := at_bounds l name c
    have hz := hs _ (rd45_mem l _ b.1 b.2)
    rw [if_neg c, if_neg c, if_pos b.1, if_pos b.2]
    simp only [api_Account.f]
    rw [if_pos (by omega)]
    rfl
/-- The account at a place; none. -/
def accAt (l : List S53) (i : Int) : ByteArray × Int × Bool := if i < 0 then ((⟨#[]⟩ : ByteArray), 0, false) else ((rd_T53 l i).f0, (rd_T53 l i).f1, true)
/-- The first account of a name. -/
def accP (l : List S53) (name : ByteArray) : ByteArray × Int × Bool := accAt l (idxOf (fun x : S53 => x.f0.toList == name.toList) l 0)
theorem account_some (l : List S45) (a b : ByteArray) (hs : ∀ y ∈ l, y.f2.length * 24 ≤ 140737488351232) : member_Account.f l a b = some (accP (findP l a).2.2.1 b) := by
  simp only [member_Account.f, find_some l a hs, Option.bind_some, accP, accAt]
  split <;> rfl
theorem one_loop (l : List S53) (hn : l.length ≤ 140737488351232) (a c : ByteArray) (b e : Int) (d : Nat) : ∀ i : Nat, l.length - i = d → i ≤ l.length → Ev (fun k => contangoref11_One.l0 k i a b l c e l) true := by
  induction d with
  | zero =>
    intro i hd hi
    refine Ev.shift ?_
    simp only [contangoref11_One.l0]
    exact Ev.neg (by omega) (Ev.val _)
  | succ d ih =>
    intro i hd hi
    have hw : wrap64 ((i : Int) + 1) = ((i + 1 : Nat) : Int) := by unfold wrap64; omega
    have h := ih (i + 1) (by omega) (by omega)
    refine Ev.shift ?_
    simp only [contangoref11_One.l0, hw]
    exact Ev.pos (by omega) (Ev.pos (by omega) (Ev.pos (by omega) (Ev.neg (by simp) h)))
/-- A member is itself. -/
theorem one_refl (a : ByteArray) (b : Int) (l : List S53) (hn : l.length ≤ 140737488351232) : Ev (fun k => contangoref11_One.f k a b l a b l) true := by
  simp only [contangoref11_One.f]
  refine Ev.pos trivial (Ev.pos trivial (Ev.shift ?_))
  simp only [contangoref11_One.j0]
  exact Ev.neg (by simp) (one_loop l hn a a b b _ 0 rfl (Nat.zero_le _))
theorem drop45 (l : List S45) (i : Nat) (h : i < l.length) : l.drop i = rd_T45 l i :: l.drop (i + 1) := by
  rw [List.drop_eq_getElem_cons h]
  simp [rd_T45, h]
theorem drop53 (l : List S53) (i : Nat) (h : i < l.length) : l.drop i = rd_T53 l i :: l.drop (i + 1) := by
  rw [List.drop_eq_getElem_cons h]
  simp [rd_T53, h]
/-- What is wrong with members. -/
def chk (l : List S45) : Int := if 32 < l.length then 8 else firstErr (mErr l) l.length 0
theorem check_ev (l : List S45) : Ev (fun _ => member_Check.f l) (chk l) := Ev.val _
theorem chk_len {l : List S45} (h : chk l = 0) : l.length ≤ 32 := by
  unfold chk at h
  split at h
  · cases h
  · omega
theorem chk_few {l : List S45} (h : chk l = 0) : ∀ y ∈ l, y.f2.length ≤ 16 := by
  intro y hy
  obtain ⟨i, hi, rfl⟩ := List.getElem_of_mem hy
  have := member_Check.few (l := l) (congrArg some h) hi
  simpa [rd_T45, hi] using this
theorem own_ev {l : List S45} (h : chk l = 0) : Ev (fun _ => member_own.f l) l := by
  have h1 := chk_len h
  have h2 := chk_few h
  refine Ev.pos ⟨by omega, ?_⟩ (Ev.val _)
  rw [List.all_eq_true]
  intro y hy
  have := h2 y hy
  exact decide_eq_true (by omega)
theorem at_ev (l : List S45) (a : ByteArray) : Ev (fun _ => member_at.f l a) (member_at.go a l 0) := Ev.val _
/-- A list with one more, ahead of the first of which p holds. -/
def insL {α : Type} (p : α → Bool) (x : α) : List α → List α
  | [] => [x]
  | y :: r => if p y = true then x :: y :: r else y :: insL p x r
def nidx {α : Type} (p : α → Bool) : List α → Nat
  | [] => 0
  | y :: r => if p y = true then 0 else nidx p r + 1
theorem placeOf_nidx {α : Type} (p : α → Bool) : ∀ (l : List α) (i : Nat), placeOf (idxOf p l i) (i + l.length) = i + nidx p l := by
  intro l
  induction l with
  | nil => intro i; simp [idxOf, placeOf, nidx]
  | cons y r ih =>
    intro i
    simp only [idxOf, nidx]
    split
    · simp [placeOf]
    · have := ih (i + 1)
      rw [show ((i : Int) + 1) = ((i + 1 : Nat) : Int) from by omega, List.length_cons, show i + (r.length + 1) = i + 1 + r.length from by omega, this]
      omega
theorem insL_insAt {α : Type} (p : α → Bool) (x : α) (l : List α) : insL p x l = insAt l (placeOf (idxOf p l 0) l.length) x := by
  have h := placeOf_nidx p l 0
  simp only [Nat.zero_add, Int.natCast_zero] at h
  have h' : placeOf (idxOf p l 0) l.length = nidx p l := h
  rw [h']
  clear h h'
  induction l with
  | nil => rfl
  | cons y r ih =>
    simp only [insL, nidx]
    split
    · rfl
    · rw [ih]
      simp [insAt]
def addR (l : List S45) (a : ByteArray) : List S45 × Int :=
  if chk l = 0 then (if nameB a = true then (if 0 ≤ member_at.go a l 0 then ([], 12) else if 32 ≤ l.length then ([], 8) else (insL (fun m : S45 => Op.bytesLess a.toList m.f0.toList) ⟨a, 1, []⟩ l, 0)) else ([], 10)) else ([], chk l)
theorem add_ev (l : List S45) (a : ByteArray) : Ev (fun _ => member_Add.f l a) (addR l a) := by
  simp only [member_Add.f, addR]
  refine Ev.bind (check_ev l) (Ev.both (fun c => Ev.both (fun c2 => Ev.both (fun c3 => Ev.val _) (fun c3 => ?_)) (fun c2 => Ev.val _)) (fun c => Ev.val _))
  have hl := chk_len c
  by_cases c4 : l.length = 32
  · rw [if_pos (show 32 ≤ l.length by omega)]
    exact Ev.pos c4 (Ev.val _)
  · rw [if_neg (show ¬ 32 ≤ l.length by omega)]
    refine Ev.neg c4 (Ev.bind (own_ev c) (Ev.valOf ?_))
    rw [insL_insAt]
/-- The members with one turned. -/
def statR (l : List S45) (a : ByteArray) (st : Int) : List S45 × Int :=
  if chk l = 0 then (if member_at.go a l 0 < 0 then ([], 20) else
    if ((rd_T45 l (member_at.go a l 0)).f1 = 1 ∧ 2 ≤ st ∧ st ≤ 4) ∨ ((rd_T45 l (member_at.go a l 0)).f1 = 2 ∧ (st = 1 ∨ st = 3)) then
      (l.set (member_at.go a l 0).toNat ⟨(rd_T45 l (member_at.go a l 0)).f0, st, (rd_T45 l (member_at.go a l 0)).f2⟩, 0)
    else ([], 13)) else ([], chk l)
theorem stat_ev (l : List S45) (a : ByteArray) (st : Int) : Ev (fun _ => member_Status.f l a st) (statR l a st) := by
  simp only [member_Status.f, statR]
  refine Ev.bind (check_ev l) (Ev.both (fun c => Ev.bind (at_ev l a) (Ev.both (fun c2 => Ev.val _) (fun c2 => ?_))) (fun c => Ev.val _))
  have b := at_bounds l a c2
  refine Ev.pos b.1 (Ev.pos b.2 ?_)
  generalize hf : (rd_T45 l (member_at.go a l 0)).f1 = f
  have yes : ∀ h : (f = 1 ∧ 2 ≤ st ∧ st ≤ 4) ∨ (f = 2 ∧ (st = 1 ∨ st = 3)), Ev (fun _ => (member_own.f l).bind fun t => if member_at.go a l 0 < (t.length : Int) then some (t.set (member_at.go a l 0).toNat (⟨(rd_T45 t (member_at.go a l 0)).f0, st, (rd_T45 t (member_at.go a l 0)).f2⟩ : S45), (0 : Int)) else none) (if (f = 1 ∧ 2 ≤ st ∧ st ≤ 4) ∨ (f = 2 ∧ (st = 1 ∨ st = 3)) then (l.set (member_at.go a l 0).toNat ⟨(rd_T45 l (member_at.go a l 0)).f0, st, (rd_T45 l (member_at.go a l 0)).f2⟩, 0) else ([], 13)) := by
    intro h
    rw [if_pos h]
    exact Ev.bind (own_ev c) (Ev.pos b.2 (Ev.val _))
  have no : ∀ h : ¬ ((f = 1 ∧ 2 ≤ st ∧ st ≤ 4) ∨ (f = 2 ∧ (st = 1 ∨ st = 3))), Ev (fun _ => some (([], 13) : List S45 × Int)) (if (f = 1 ∧ 2 ≤ st ∧ st ≤ 4) ∨ (f = 2 ∧ (st = 1 ∨ st = 3)) then (l.set (member_at.go a l 0).toNat ⟨(rd_T45 l (member_at.go a l 0)).f0, st, (rd_T45 l (member_at.go a l 0)).f2⟩, 0) else ([], 13)) := by
    intro h
    rw [if_neg h]
    exact Ev.val _
  exact Ev.ite (fun s1 => Ev.ite (fun h2 => Ev.ite (fun h4 => yes (by omega)) (fun h4 => no (by omega))) (fun h2 => no (by omega))) (fun s1 => Ev.ite (fun s2 => Ev.ite (fun h1 => yes (by omega)) (fun h1 => Ev.ite (fun h3 => yes (by omega)) (fun h3 => no (by omega)))) (fun s2 => no (by omega)))
def openR (l : List S45) (a b : ByteArray) (n : Int) : List S45 × Int :=
  if chk l = 0 then (if member_at.go a l 0 < 0 ∨ (rd_T45 l (member_at.go a l 0)).f1 ≠ 1 then ([], 20) else
    if nameB b = true then (if 1 ≤ n ∧ n ≤ 3 then (if (accP (findP l a).2.2.1 b).2.2 = true then ([], 12) else
      if (rd_T45 l (member_at.go a l 0)).f2.length = 16 then ([], 8) else
      (l.set (member_at.go a l 0).toNat ⟨(rd_T45 l (member_at.go a l 0)).f0, (rd_T45 l (member_at.go a l 0)).f1, insL (fun x : S53 => Op.bytesLess b.toList x.f0.toList) ⟨b, n⟩ (rd_T45 l (member_at.go a l 0)).f2⟩, 0))
    else ([], 21)) else ([], 10)) else ([], chk l)
theorem open_ev (l : List S45) (a b : ByteArray) (n : Int) (hs : ∀ y ∈ l, y.f2.length * 24 ≤ 140737488351232) : Ev (fun _ => member_Open.f l a b n) (openR l a b n) := by
  simp only [member_Open.f, openR]
  refine Ev.bind (check_ev l) (Ev.both (fun c => Ev.both (fun c2 => Ev.val _) (fun c2 => Ev.both (fun c3 => Ev.both (fun c4 => ?_) (fun c4 => Ev.val _)) (fun c3 => Ev.val _))) (fun c => Ev.val _))
  rw [account_some l a b hs, Option.bind_some]
  refine Ev.both (fun c5 => Ev.val _) (fun c5 => Ev.both (fun c6 => Ev.val _) (fun c6 => Ev.bind (own_ev c) (Ev.valOf ?_)))
  have b := at_bounds l a (fun h => c2 (Or.inl h))
  rw [insL_insAt, show (((member_at.go a l 0).toNat : Nat) : Int) = member_at.go a l 0 from by omega]
theorem insL_length {α : Type} (p : α → Bool) (x : α) (l : List α) : (insL p x l).length = l.length + 1 := by
  induction l with
  | nil => rfl
  | cons y r ih =>
    simp only [insL]
    split
    · rfl
    · simp [ih]
theorem insL_mem {α : Type} (p : α → Bool) (x : α) (l : List α) (z : α) (h : z ∈ insL p x l) : z = x ∨ z ∈ l := by
  induction l with
  | nil => exact Or.inl (by simpa [insL] using h)
  | cons y r ih =>
    simp only [insL] at h
    split at h
    · simpa using h
    · rcases List.mem_cons.mp h with h | h
      · exact Or.inr (by simp [h])
      · rcases ih h with h | h
        · exact Or.inl h
        · exact Or.inr (by simp [h])
theorem addR_small (l : List S45) (a : ByteArray) : (addR l a).1.length ≤ 33 ∧ ∀ y ∈ (addR l a).1, y.f2.length ≤ 17 := by
  unfold addR
  split
  · rename_i c
    have hl := chk_len c
    have hf := chk_few c
    repeat' split
    all_goals first
      | (refine ⟨by simp, fun y hy => by cases hy⟩)
      | (refine ⟨by rw [insL_length]; omega, fun y hy => ?_⟩
         rcases insL_mem _ _ _ _ hy with rfl | h
         · simp
         · have := hf y h; omega)
  · exact ⟨by simp, fun y hy => by cases hy⟩
theorem set_small (l : List S45) (hl : l.length ≤ 32) (hf : ∀ y ∈ l, y.f2.length ≤ 16) (i : Nat) (x : S45) (hx : x.f2.length ≤ 17) : (l.set i x).length ≤ 33 ∧ ∀ y ∈ l.set i x, y.f2.length ≤ 17 := by
  refine ⟨by rw [List.length_set]; omega, fun y hy => ?_⟩
  rcases List.mem_or_eq_of_mem_set hy with h | rfl
  · have := hf y h; omega
  · exact hx
theorem statR_small (l : List S45) (a : ByteArray) (st : Int) : (statR l a st).1.length ≤ 33 ∧ ∀ y ∈ (statR l a st).1, y.f2.length ≤ 17 := by
  unfold statR
  split
  · rename_i c
    have hl := chk_len c
    have hf := chk_few c
    split
    · exact ⟨by simp, fun y hy => by cases hy⟩
    · rename_i c2
      have bd := at_bounds l a c2
      have hm := hf _ (rd45_mem l _ bd.1 bd.2)
      split
      · exact set_small l hl hf _ _ (by simp; omega)
      · exact ⟨by simp, fun y hy => by cases hy⟩
  · exact ⟨by simp, fun y hy => by cases hy⟩
theorem openR_small (l : List S45) (a b : ByteArray) (n : Int) : (openR l a b n).1.length ≤ 33 ∧ ∀ y ∈ (openR l a b n).1, y.f2.length ≤ 17 := by
  unfold openR
  split
  · rename_i c
    have hl := chk_len c
    have hf := chk_few c
    split
    · exact ⟨by simp, fun y hy => by cases hy⟩
    · rename_i c2
      have bd := at_bounds l a (fun h => c2 (Or.inl h))
      have hm := hf _ (rd45_mem l _ bd.1 bd.2)
      repeat' split
      all_goals first
        | (refine ⟨by simp, fun y hy => by cases hy⟩)
        | (refine set_small l hl hf _ _ ?_
           simp only [insL_length]
           omega)
  · exact ⟨by simp, fun y hy => by cases hy⟩
theorem firstErr_of (f : Nat → Int) (d : Nat) : ∀ i, (∀ j, i ≤ j → j < i + d → f j = 0) → firstErr f d i = 0 := by
  induction d with
  | zero => intro i h; rfl
  | succ d ih =>
    intro i h
    simp only [firstErr]
    rw [if_pos (h i (Nat.le_refl _) (by omega))]
    exact ih (i + 1) (fun j h1 h2 => h j (by omega) (by omega))
def lt53 (a b : S53) : Prop := Op.bytesLess a.f0.toList b.f0.toList = true
def lt45 (a b : S45) : Prop := Op.bytesLess a.f0.toList b.f0.toList = true
theorem chain {α : Type} (R : α → α → Prop) (ht : ∀ a b c, R a b → R b c → R a c) (l : List α) (h : ∀ (i : Nat) (h0 : i < l.length) (h1 : i + 1 < l.length), R l[i] l[i + 1]) : l.Pairwise R := by
  rw [List.pairwise_iff_getElem]
  intro i j hi hj hij
  induction j with
  | zero => omega
  | succ j ih =>
    by_cases c : i = j
    · subst c
      exact h i hi hj
    · exact ht _ _ _ (ih (by omega) (by omega)) (h j (by omega) hj)
theorem stepErr_zero (nm : Int → ByteArray) (i : Int) : stepErr nm i = 0 ↔ nameB (nm i) = true ∧ (0 < i → Op.bytesLess (nm (i - 1)).toList (nm i).toList = true) := by
  unfold stepErr
  by_cases c : nameB (nm i) = true
  · rw [if_pos c]
    by_cases c2 : 0 < i ∧ Op.bytesLess (nm (i - 1)).toList (nm i).toList = false
    · rw [if_pos c2]
      constructor
      · intro h; cases h
      · rintro ⟨_, h⟩
        have := h c2.1
        rw [c2.2] at this
        cases this
    · rw [if_neg c2]
      refine ⟨fun _ => ⟨c, fun h => ?_⟩, fun _ => rfl⟩
      cases hb : Op.bytesLess (nm (i - 1)).toList (nm i).toList
      · exact absurd ⟨h, hb⟩ c2
      · rfl
  · rw [if_neg c]
    constructor
    · intro h; cases h
    · rintro ⟨h, _⟩; exact absurd h c
/-- Accounts that may be. -/
def okAs (l : List S53) : Prop := (∀ z ∈ l, nameB z.f0 = true ∧ 1 ≤ z.f1 ∧ z.f1 ≤ 3) ∧ l.Pairwise lt53
theorem achk_iff (l : List S53) : firstErr (aErr l) l.length 0 = 0 ↔ okAs l := by
  have haz : ∀ i : Nat, aErr l i = 0 ↔ stepErr (fun j => (rd_T53 l j).f0) i = 0 ∧ 1 ≤ (rd_T53 l i).f1 ∧ (rd_T53 l i).f1 ≤ 3 := by
    intro i
    unfold aErr
    by_cases c : stepErr (fun j => (rd_T53 l j).f0) i = 0
    · rw [if_pos c]
      by_cases c2 : 1 ≤ (rd_T53 l i).f1 ∧ (rd_T53 l i).f1 ≤ 3
      · rw [if_pos c2]; exact ⟨fun _ => ⟨c, c2⟩, fun _ => rfl⟩
      · rw [if_neg c2]; exact ⟨(fun h => by cases h), fun h => absurd h.2 c2⟩
    · rw [if_neg c]; exact ⟨fun h => absurd h c, fun h => h.1⟩
  have hrd : ∀ (i : Nat) (h : i < l.length), rd_T53 l (i : Int) = l[i] := fun i h => by simp [rd_T53, h]
  constructor
  · intro h
    have h0 : ∀ i : Nat, i < l.length → aErr l i = 0 := fun i hi => firstErr_zero _ _ _ h i (Nat.zero_le _) (by omega)
    refine ⟨fun z hz => ?_, chain lt53 (fun a b c => less_trans _ _ _) l (fun i h1 h2 => ?_)⟩
    · obtain ⟨i, hi, rfl⟩ := List.getElem_of_mem hz
      have a := (haz i).mp (h0 i hi)
      have b := ((stepErr_zero _ _).mp a.1).1
      simp only [hrd i hi] at a b
      exact ⟨b, a.2⟩
    · have a := (haz (i + 1)).mp (h0 (i + 1) h2)
      have b := ((stepErr_zero _ _).mp a.1).2 (by omega)
      rw [show (((i + 1 : Nat) : Int) - 1) = ((i : Nat) : Int) from by omega] at b
      simp only [hrd i h1, hrd (i + 1) h2] at b
      exact b
  · rintro ⟨h1, h2⟩
    refine firstErr_of _ _ _ (fun j _ hj => (haz j).mpr ?_)
    have hj' : j < l.length := by omega
    have hm := h1 _ (List.getElem_mem hj')
    refine ⟨(stepErr_zero _ _).mpr ⟨by simpa only [hrd j hj'] using hm.1, fun hp => ?_⟩, by rw [hrd j hj']; exact hm.2⟩
    have hj1 : j - 1 < l.length := by omega
    rw [show ((j : Int) - 1) = ((j - 1 : Nat) : Int) from by omega]
    simp only [hrd j hj', hrd (j - 1) hj1]
    exact List.pairwise_iff_getElem.mp h2 (j - 1) j hj1 hj' (by omega)
/-- A member that may be. -/
def okM (y : S45) : Prop := nameB y.f0 = true ∧ 1 ≤ y.f1 ∧ y.f1 ≤ 4 ∧ y.f2.length ≤ 16 ∧ okAs y.f2
theorem chk_iff (l : List S45) : chk l = 0 ↔ l.length ≤ 32 ∧ (∀ y ∈ l, okM y) ∧ l.Pairwise lt45 := by
  have haz : ∀ i : Nat, mErr l i = 0 ↔ stepErr (fun j => (rd_T45 l j).f0) i = 0 ∧ 1 ≤ (rd_T45 l i).f1 ∧ (rd_T45 l i).f1 ≤ 4 ∧ (rd_T45 l i).f2.length ≤ 16 ∧ okAs (rd_T45 l i).f2 := by
    intro i
    unfold mErr
    by_cases c : stepErr (fun j => (rd_T45 l j).f0) i = 0
    · rw [if_pos c]
      by_cases c2 : (rd_T45 l i).f1 < 1 ∨ 4 < (rd_T45 l i).f1
      · rw [if_pos c2]; exact ⟨(fun h => by cases h), fun h => by omega⟩
      · rw [if_neg c2]
        by_cases c3 : 16 < (rd_T45 l i).f2.length
        · rw [if_pos c3]; exact ⟨(fun h => by cases h), fun h => by omega⟩
        · rw [if_neg c3, achk_iff]
          exact ⟨fun h => ⟨c, by omega, by omega, by omega, h⟩, fun h => h.2.2.2.2⟩
    · rw [if_neg c]; exact ⟨fun h => absurd h c, fun h => h.1⟩
  have hrd : ∀ (i : Nat) (h : i < l.length), rd_T45 l (i : Int) = l[i] := fun i h => by simp [rd_T45, h]
  constructor
  · intro h
    have hl := chk_len h
    have h' : firstErr (mErr l) l.length 0 = 0 := by unfold chk at h; rw [if_neg (by omega)] at h; exact h
    have h0 : ∀ i : Nat, i < l.length → mErr l i = 0 := fun i hi => firstErr_zero _ _ _ h' i (Nat.zero_le _) (by omega)
    refine ⟨hl, fun z hz => ?_, chain lt45 (fun a b c => less_trans _ _ _) l (fun i h1 h2 => ?_)⟩
    · obtain ⟨i, hi, rfl⟩ := List.getElem_of_mem hz
      have a := (haz i).mp (h0 i hi)
      have b := ((stepErr_zero _ _).mp a.1).1
      simp only [hrd i hi] at a b
      exact ⟨b, a.2⟩
    · have a := (haz (i + 1)).mp (h0 (i + 1) h2)
      have b := ((stepErr_zero _ _).mp a.1).2 (by omega)
      rw [show (((i + 1 : Nat) : Int) - 1) = ((i : Nat) : Int) from by omega] at b
      simp only [hrd i h1, hrd (i + 1) h2] at b
      exact b
  · rintro ⟨h0, h1, h2⟩
    unfold chk
    rw [if_neg (by omega)]
    refine firstErr_of _ _ _ (fun j _ hj => (haz j).mpr ?_)
    have hj' : j < l.length := by omega
    have hm := h1 _ (List.getElem_mem hj')
    refine ⟨(stepErr_zero _ _).mpr ⟨by simpa only [hrd j hj'] using hm.1, fun hp => ?_⟩, by rw [hrd j hj']; exact hm.2⟩
    have hj1 : j - 1 < l.length := by omega
    rw [show ((j : Int) - 1) = ((j - 1 : Nat) : Int) from by omega]
    simp only [hrd j hj', hrd (j - 1) hj1]
    exact List.pairwise_iff_getElem.mp h2 (j - 1) j hj1 hj' (by omega)
theorem at_spec (a : ByteArray) (l : List S45) : ∀ i : Nat, (member_at.go a l i = -1 ∧ ∀ y ∈ l, y.f0.toList ≠ a.toList) ∨ ∃ j, ∃ h : j < l.length, member_at.go a l i = ((i + j : Nat) : Int) ∧ l[j].f0.toList = a.toList := by
  induction l with
  | nil => intro i; exact Or.inl ⟨rfl, fun y hy => by cases hy⟩
  | cons x r ih =>
    intro i
    simp only [member_at.go]
    by_cases c : x.f0.toList = a.toList
    · rw [if_pos c]
      exact Or.inr ⟨0, by simp, by simp, c⟩
    · rw [if_neg c, show ((i : Int) + 1) = ((i + 1 : Nat) : Int) from by omega]
      rcases ih (i + 1) with h | ⟨j, hj, h1, h2⟩
      · refine Or.inl ⟨h.1, fun y hy => ?_⟩
        rcases List.mem_cons.mp hy with rfl | hy
        · exact c
        · exact h.2 y hy
      · exact Or.inr ⟨j + 1, by simpa using hj, by rw [h1]; omega, by simpa using h2⟩
theorem at_none {a : ByteArray} {l : List S45} (h : member_at.go a l 0 < 0) : ∀ y ∈ l, y.f0.toList ≠ a.toList := by
  rcases at_spec a l 0 with c | ⟨j, hj, h1, _⟩
  · exact c.2
  · have : member_at.go a l 0 = ((0 + j : Nat) : Int) := h1
    omega
theorem at_some {a : ByteArray} {l : List S45} (h : ¬ member_at.go a l 0 < 0) : ∃ j, ∃ hj : j < l.length, member_at.go a l 0 = (j : Int) ∧ l[j].f0.toList = a.toList := by
  rcases at_spec a l 0 with c | ⟨j, hj, h1, h2⟩
  · exact absurd (by rw [show member_at.go a l 0 = -1 from c.1]; omega) h
  · exact ⟨j, hj, by have : member_at.go a l 0 = ((0 + j : Nat) : Int) := h1; omega, h2⟩
theorem find_mem {r : List S45} (hp : r.Pairwise lt45) {z : S45} (hz : z ∈ r) : findP r z.f0 = (z.f0, z.f1, z.f2, true) := by
  have hn : ¬ member_at.go z.f0 r 0 < 0 := fun h => at_none h z hz rfl
  obtain ⟨j, hj, h1, h2⟩ := at_some hn
  have e : r[j] = z := by
    obtain ⟨i, hi, rfl⟩ := List.getElem_of_mem hz
    rcases Nat.lt_trichotomy i j with c | c | c
    · exact absurd h2.symm (less_ne (List.pairwise_iff_getElem.mp hp i j hi hj c))
    · subst c; rfl
    · exact absurd h2 (less_ne (List.pairwise_iff_getElem.mp hp j i hj hi c))
  unfold findP
  rw [if_neg hn, h1]
  have : rd_T45 r (j : Int) = z := by rw [← e]; simp [rd_T45, hj]
  rw [this]
/-- Each of l is found in r as it was, or, of one name, with its accounts at least, and no status lost that is final. -/
def Kept (name : ByteArray) (l r : List S45) : Prop :=
  ∀ y ∈ l, ∃ z : S45, findP r y.f0 = (z.f0, z.f1, z.f2, true) ∧ (z = y ∨ (y.f0.toList = name.toList ∧ (3 ≤ y.f1 → z.f1 = y.f1) ∧ y.f2.length ≤ z.f2.length))
def Step (name : ByteArray) (l : List S45) (r : List S45 × Int) : Prop := (r.2 ≠ 0 → r.1 = []) ∧ (r.2 = 0 → chk r.1 = 0 ∧ Kept name l r.1)
theorem insL_pair {α : Type} (R : α → α → Prop) (ht : ∀ a b c, R a b → R b c → R a c) (p : α → Bool) (x : α) (hp : ∀ y, p y = true → R x y) (l : List α) (hn : ∀ y ∈ l, ¬ p y = true → R y x) (h : l.Pairwise R) : (insL p x l).Pairwise R := by
  induction l with
  | nil => simp [insL]
  | cons y r ih =>
    rw [List.pairwise_cons] at h
    simp only [insL]
    by_cases c : p y = true
    · rw [if_pos c]
      refine List.pairwise_cons.mpr ⟨fun z hz => ?_, List.pairwise_cons.mpr h⟩
      rcases List.mem_cons.mp hz with rfl | hz
      · exact hp _ c
      · exact ht _ _ _ (hp _ c) (h.1 z hz)
    · rw [if_neg c]
      refine List.pairwise_cons.mpr ⟨fun z hz => ?_, ih (fun y hy => hn y (List.mem_cons_of_mem _ hy)) h.2⟩
      rcases insL_mem _ _ _ _ hz with rfl | hz
      · exact hn y (List.mem_cons_self ..) c
      · exact h.1 z hz
theorem insL_has {α : Type} (p : α → Bool) (x : α) (l : List α) (z : α) (h : z ∈ l) : z ∈ insL p x l := by
  induction l with
  | nil => cases h
  | cons y r ih =>
    simp only [insL]
    split
    · exact List.mem_cons_of_mem _ h
    · rcases List.mem_cons.mp h with rfl | h
      · exact List.mem_cons_self ..
      · exact List.mem_cons_of_mem _ (ih h)
theorem add_step (l : List S45) (a b : ByteArray) (hl : chk l = 0) (hab : a = b) : Step b l (addR l a) := by
  subst hab
  unfold addR
  rw [if_pos hl]
  obtain ⟨v1, v2, v3⟩ := (chk_iff l).mp hl
  by_cases c2 : nameB a = true
  · rw [if_pos c2]
    by_cases c3 : 0 ≤ member_at.go a l 0
    · rw [if_pos c3]; exact ⟨fun _ => rfl, fun h => by cases h⟩
    · rw [if_neg c3]
      by_cases c4 : 32 ≤ l.length
      · rw [if_pos c4]; exact ⟨fun _ => rfl, fun h => by cases h⟩
      · rw [if_neg c4]
        have hnew := at_none (a := a) (l := l) (by omega)
        have hpw : (insL (fun m : S45 => Op.bytesLess a.toList m.f0.toList) ⟨a, 1, []⟩ l).Pairwise lt45 :=
          insL_pair lt45 (fun _ _ _ => less_trans _ _ _) (fun m : S45 => Op.bytesLess a.toList m.f0.toList) ⟨a, 1, []⟩ (fun y h => h) l (fun y hy h => less_flip h (hnew y hy)) v3
        refine ⟨fun h => absurd rfl h, fun _ => ⟨(chk_iff _).mpr ⟨by rw [insL_length]; omega, fun y hy => ?_, hpw⟩, fun y hy => ⟨y, find_mem hpw (insL_has _ _ _ _ hy), Or.inl rfl⟩⟩⟩
        rcases insL_mem _ _ _ _ hy with rfl | h
        · exact ⟨c2, by simp, by simp, by simp, fun z hz => (by cases hz), List.Pairwise.nil⟩
        · exact v2 y h
  · rw [if_neg c2]; exact ⟨fun _ => rfl, fun h => by cases h⟩
/-- One member turned, its name as it was. -/
theorem set_step (l : List S45) (a : ByteArray) (hl : chk l = 0) (j : Nat) (hj : j < l.length) (hn : l[j].f0.toList = a.toList) (x : S45) (hx : x.f0 = l[j].f0) (hok : okM x) (hst : 3 ≤ l[j].f1 → x.f1 = l[j].f1) (hlen : l[j].f2.length ≤ x.f2.length) :
    chk (l.set j x) = 0 ∧ Kept a l (l.set j x) := by
  obtain ⟨v1, v2, v3⟩ := (chk_iff l).mp hl
  have hf0 : ∀ (i : Nat) (h : i < l.length), ((l.set j x)[i]'(by simpa using h)).f0 = l[i].f0 := by
    intro i h
    rw [List.getElem_set]
    split
    · rename_i e; subst e; exact hx
    · rfl
  have hpw : (l.set j x).Pairwise lt45 := by
    rw [List.pairwise_iff_getElem]
    intro i k hi hk hik
    have hi' : i < l.length := by simpa using hi
    have hk' : k < l.length := by simpa using hk
    have := List.pairwise_iff_getElem.mp v3 i k hi' hk' hik
    unfold lt45 at this ⊢
    rw [hf0 i hi', hf0 k hk']
    exact this
  refine ⟨(chk_iff _).mpr ⟨by simpa using v1, fun y hy => ?_, hpw⟩, fun y hy => ?_⟩
  · rcases List.mem_or_eq_of_mem_set hy with h | rfl
    · exact v2 y h
    · exact hok
  · obtain ⟨i, hi, rfl⟩ := List.getElem_of_mem hy
    by_cases c : j = i
    · subst c
      have hm : x ∈ l.set j x := List.mem_iff_getElem.mpr ⟨j, by simpa using hi, by simp⟩
      have := find_mem hpw hm
      rw [hx] at this
      exact ⟨x, by rw [this, hx], Or.inr ⟨hn, hst, hlen⟩⟩
    · have hm : l[i] ∈ l.set j x := List.mem_iff_getElem.mpr ⟨i, by simpa using hi, by rw [List.getElem_set_ne c]⟩
      exact ⟨l[i], find_mem hpw hm, Or.inl rfl⟩
theorem stat_step (l : List S45) (a : ByteArray) (st : Int) (hl : chk l = 0) : Step a l (statR l a st) := by
  unfold statR
  rw [if_pos hl]
  by_cases c2 : member_at.go a l 0 < 0
  · rw [if_pos c2]; exact ⟨fun _ => rfl, fun h => by cases h⟩
  · rw [if_neg c2]
    obtain ⟨j, hj, h1, h2⟩ := at_some c2
    have hrd : rd_T45 l (j : Int) = l[j] := by simp [rd_T45, hj]
    rw [h1, hrd]
    by_cases c3 : (l[j].f1 = 1 ∧ 2 ≤ st ∧ st ≤ 4) ∨ (l[j].f1 = 2 ∧ (st = 1 ∨ st = 3))
    · rw [if_pos c3]
      have v := ((chk_iff l).mp hl).2.1 _ (List.getElem_mem hj)
      refine ⟨fun h => absurd rfl h, fun _ => ?_⟩
      exact set_step l a hl j hj h2 ⟨l[j].f0, st, l[j].f2⟩ rfl ⟨v.1, by show 1 ≤ st; omega, by show st ≤ 4; omega, v.2.2.2.1, v.2.2.2.2⟩ (fun h => by omega) (Nat.le_refl _)
    · rw [if_neg c3]; exact ⟨fun _ => rfl, fun h => by cases h⟩
theorem idx_none {p : S53 → Bool} : ∀ (l : List S53) (i : Int), 0 ≤ i → idxOf p l i < 0 → ∀ y ∈ l, p y = false := by
  intro l
  induction l with
  | nil => intro i _ _ y hy; cases hy
  | cons x r ih =>
    intro i h0 h y hy
    simp only [idxOf] at h
    by_cases c : p x = true
    · rw [if_pos c] at h; omega
    · rw [if_neg c] at h
      rcases List.mem_cons.mp hy with rfl | hy
      · simpa using c
      · exact ih (i + 1) (by omega) h y hy
theorem open_step (l : List S45) (a b : ByteArray) (n : Int) (hl : chk l = 0) : Step a l (openR l a b n) := by
  unfold openR
  rw [if_pos hl]
  by_cases c2 : member_at.go a l 0 < 0 ∨ (rd_T45 l (member_at.go a l 0)).f1 ≠ 1
  · rw [if_pos c2]; exact ⟨fun _ => rfl, fun h => by cases h⟩
  rw [if_neg c2]
  have c2' : ¬ member_at.go a l 0 < 0 := fun h => c2 (Or.inl h)
  have hf : findP l a = ((rd_T45 l (member_at.go a l 0)).f0, (rd_T45 l (member_at.go a l 0)).f1, (rd_T45 l (member_at.go a l 0)).f2, true) := by unfold findP; rw [if_neg c2']
  obtain ⟨j, hj, h1, h2⟩ := at_some c2'
  have hrd : rd_T45 l (j : Int) = l[j] := by simp [rd_T45, hj]
  rw [h1, hrd] at hf
  rw [h1, hrd] at c2 ⊢
  rw [hf]
  by_cases c3 : nameB b = true
  · rw [if_pos c3]
    by_cases c4 : 1 ≤ n ∧ n ≤ 3
    · rw [if_pos c4]
      by_cases c5 : (accP l[j].f2 b).2.2 = true
      · rw [if_pos c5]; exact ⟨fun _ => rfl, fun h => by cases h⟩
      · rw [if_neg c5]
        by_cases c6 : l[j].f2.length = 16
        · rw [if_pos c6]; exact ⟨fun _ => rfl, fun h => by cases h⟩
        · rw [if_neg c6]
          have v := ((chk_iff l).mp hl).2.1 _ (List.getElem_mem hj)
          have hidx : idxOf (fun x : S53 => x.f0.toList == b.toList) l[j].f2 0 < 0 := by
            by_cases c7 : idxOf (fun x : S53 => x.f0.toList == b.toList) l[j].f2 0 < 0
            · exact c7
            · exfalso
              apply c5
              unfold accP accAt
              rw [if_neg c7]
          have hnew := idx_none _ 0 (Int.le_refl _) hidx
          refine ⟨fun h => absurd rfl h, fun _ => ?_⟩
          refine set_step l a hl j hj h2 ⟨l[j].f0, l[j].f1, insL (fun x : S53 => Op.bytesLess b.toList x.f0.toList) ⟨b, n⟩ l[j].f2⟩ rfl ⟨v.1, v.2.1, v.2.2.1, ?_, ?_, ?_⟩ (fun _ => rfl) (by show _ ≤ (insL _ _ _).length; rw [insL_length]; omega)
          · show (insL _ _ _).length ≤ 16
            rw [insL_length]
            have := v.2.2.2.1
            omega
          · intro z hz
            rcases insL_mem _ _ _ _ hz with rfl | h
            · exact ⟨c3, c4⟩
            · exact v.2.2.2.2.1 z h
          · exact insL_pair lt53 (fun _ _ _ => less_trans _ _ _) (fun x : S53 => Op.bytesLess b.toList x.f0.toList) ⟨b, n⟩ (fun y h => h) _ (fun y hy h => less_flip h (by have := hnew y hy; simpa using this)) v.2.2.2.2.2
    · rw [if_neg c4]; exact ⟨fun _ => rfl, fun h => by cases h⟩
  · rw [if_neg c3]; exact ⟨fun _ => rfl, fun h => by cases h⟩
theorem goes_true : contangolaw11_goes.f 40 = some true := by decide +kernel
theorem goes_ev : Ev (fun k => contangolaw11_goes.f k) true := Ev.of goes_true (fun k => contangolaw11_goes.mono k)
theorem inner_ev (turns : List S42) (l r : List S45) (i : Int) (a0 : Int) (a b : ByteArray) (n : Int) (hl : chk l = 0) (hr : chk r = 0) (hk : Kept a l r) (H : Ev (fun k => contangolaw11_MemberKeeps.l0 k turns r (wrap64 (i + 1))) true) (d : Nat) :
    ∀ j : Nat, l.length - j = d → j ≤ l.length → Ev (fun k => contangolaw11_MemberKeeps.l1 k turns l i r j a0 a b n) true := by
  induction d with
  | zero =>
    intro j hd hj
    refine Ev.shift ?_
    simp only [contangolaw11_MemberKeeps.l1]
    exact Ev.neg (by omega) H
  | succ d ih =>
    intro j hd hj
    have hl32 := chk_len hl
    have hw : wrap64 ((j : Int) + 1) = ((j + 1 : Nat) : Int) := by unfold wrap64; omega
    have h := ih (j + 1) (by omega) (by omega)
    have hm := rd45_mem l (j : Int) (by omega) (by omega)
    obtain ⟨z, hf, hz⟩ := hk _ hm
    refine Ev.shift ?_
    simp only [contangolaw11_MemberKeeps.l1, hw]
    have few := chk_few hr
    rw [find_some r _ (fun y hy => by have := few y hy; omega), hf]
    simp only [Option.bind_some]
    have hlen := chk_few hl _ hm
    refine Ev.pos (by omega) (Ev.pos (by omega) (Ev.pos trivial ?_))
    rcases hz with rfl | ⟨e, h3, h4⟩
    · refine Ev.ite (fun c => Ev.ite (fun c3 => Ev.pos rfl (Ev.neg (by omega) h)) (fun c3 => Ev.neg (by omega) h)) (fun c => Ev.bind (one_refl _ _ _ (by omega)) (Ev.pos rfl (Ev.ite (fun c3 => Ev.pos rfl (Ev.neg (by omega) h)) (fun c3 => Ev.neg (by omega) h))))
    · exact Ev.pos e (Ev.ite (fun c3 => Ev.pos (h3 c3) (Ev.neg (by omega) h)) (fun c3 => Ev.neg (by omega) h))
theorem join_ev (turns : List S42) (l : List S45) (r : List S45 × Int) (i : Nat) (hi : i < turns.length) (ht : turns.length ≤ 60) (a0 : Int) (a b : ByteArray) (n : Int) (hl : chk l = 0) (hs : Step a l r)
    (H : ∀ m : List S45, chk m = 0 → Ev (fun k => contangolaw11_MemberKeeps.l0 k turns m ((i + 1 : Nat) : Int)) true) : Ev (fun k => contangolaw11_MemberKeeps.j1 k turns l i r.1 r.2 a0 a b n) true := by
  have hw : wrap64 ((i : Int) + 1) = ((i + 1 : Nat) : Int) := by unfold wrap64; omega
  refine Ev.shift ?_
  simp only [contangolaw11_MemberKeeps.j1]
  refine Ev.ite (fun c => ?_) (fun c => ?_)
  · obtain ⟨h1, h2⟩ := hs.2 c
    refine Ev.bind (check_ev r.1) (Ev.pos h1 ?_)
    exact inner_ev turns l r.1 i a0 a b n hl h1 h2 (by rw [hw]; exact H _ h1) _ 0 rfl (Nat.zero_le _)
  · refine Ev.neg (by rw [hs.1 c]; simp) ?_
    rw [hw]
    exact H _ hl
theorem outer_ev (turns : List S42) (ht : turns.length ≤ 60) (d : Nat) : ∀ (i : Nat) (l : List S45), turns.length - i = d → i ≤ turns.length → chk l = 0 → Ev (fun k => contangolaw11_MemberKeeps.l0 k turns l i) true := by
  induction d with
  | zero =>
    intro i l hd hi hl
    refine Ev.shift ?_
    simp only [contangolaw11_MemberKeeps.l0]
    exact Ev.neg (by omega) (Ev.bind goes_ev (Ev.val _))
  | succ d ih =>
    intro i l hd hi hl
    have few := chk_few hl
    have H : ∀ m : List S45, chk m = 0 → Ev (fun k => contangolaw11_MemberKeeps.l0 k turns m ((i + 1 : Nat) : Int)) true := fun m hm => ih (i + 1) m (by omega) (by omega) hm
    refine Ev.shift ?_
    simp only [contangolaw11_MemberKeeps.l0]
    refine Ev.pos (by omega) (Ev.pos (by omega) (Ev.bind (add_ev l _) (Ev.ite (fun c => ?_) (fun c => Ev.ite (fun c1 => ?_) (fun c1 => ?_)))))
    · exact Ev.bind (open_ev l _ _ _ (fun y hy => by have := few y hy; omega)) (join_ev turns l _ i (by omega) ht _ _ _ _ hl (open_step l _ _ _ hl) H)
    · exact join_ev turns l _ i (by omega) ht _ _ _ _ hl (add_step l _ _ hl rfl) H
    · exact Ev.bind (stat_ev l _ _) (join_ev turns l _ i (by omega) ht _ _ _ _ hl (stat_step l _ _ hl) H)
theorem MemberKeeps : contangolaw11_MemberKeeps.Said := by
  intro turns hok hsz
  refine Ev.get ?_
  simp only [contangolaw11_MemberKeeps.f]
  refine Ev.ite (fun c => Ev.bind goes_ev (Ev.val _)) (fun c => ?_)
  exact outer_ev turns (by omega) _ 0 [] rfl (Nat.zero_le _) rfl
end Go.Proofs.Ytipoicfglaanaaa.Pure
