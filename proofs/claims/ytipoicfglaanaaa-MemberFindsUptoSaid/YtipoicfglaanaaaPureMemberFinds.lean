/- Of any members: which member and which account is found, what it may, and which accounts there are, is what the document says: the law, as a statement over numbers and lists. -/
import Derived.Test.YtipoicfglaanaaaArgMemberFinds
namespace Go.Proofs.Ytipoicfglaanaaa.Pure
set_option linter.unusedSimpArgs false
set_option linter.unusedVariables false
open Go.RowKit Go.Proofs.Ytipoicfglaanaaa.PMemberFinds Go.Proofs.Ytipoicfglaanaaa.Opens Go.Proofs.YtipoicfglaanaaaW.PrintWords Go.Proofs.YtipoicfglaanaaaW.PrintLast
/-- Comes to r, at all large numbers of rounds. -/
def Ev {α : Type} (g : Nat → Option α) (r : α) : Prop := ∃ K, ∀ k, K ≤ k → g k = some r
theorem Ev.shift {α : Type} {g : Nat → Option α} {r : α} (h : Ev (fun k => g (k + 1)) r) : Ev g r := by
  obtain ⟨K, h⟩ := h
  refine ⟨K + 1, fun k hk => ?_⟩
  obtain ⟨m, rfl⟩ : ∃ m, k = m + 1 := ⟨k - 1, by omega⟩
  exact h m (by omega)
theorem Ev.val {α : Type} (r : α) : Ev (fun _ => some r) r := ⟨0, fun _ _ => rfl⟩
theorem Ev.bind {α β : Type} {g : Nat → Option α} {f : Nat → α → Option β} {x : α} {r : β} (h : Ev g x) (h' : Ev (fun k => f k x) r) : Ev (fun k => (g k).bind (f k)) r := by
  obtain ⟨K, h⟩ := h
  obtain ⟨K', h'⟩ := h'
  exact ⟨max K K', fun k hk => by show (g k).bind (f k) = some r; rw [h k (by omega)]; exact h' k (by omega)⟩
theorem Ev.get {α : Type} {g : Nat → Option α} {r : α} (h : Ev g r) : ∃ k, g k = some r := by
  obtain ⟨K, h⟩ := h
  exact ⟨K, h K (Nat.le_refl _)⟩
theorem Ev.of {α : Type} {g : Nat → Option α} {r : α} {k0 : Nat} (h : g k0 = some r) (hm : ∀ k, LeO (g k) (g (k + 1))) : Ev g r := ⟨k0, fun _ hk => at_rounds hm hk h⟩
theorem Ev.pos {α : Type} {c : Prop} [Decidable c] {a b : Nat → Option α} {r : α} (hc : c) (h : Ev a r) : Ev (fun k => if c then a k else b k) r := by
  obtain ⟨K, h⟩ := h
  exact ⟨K, fun k hk => by show (if c then a k else b k) = some r; rw [if_pos hc]; exact h k hk⟩
theorem Ev.neg {α : Type} {c : Prop} [Decidable c] {a b : Nat → Option α} {r : α} (hc : ¬ c) (h : Ev b r) : Ev (fun k => if c then a k else b k) r := by
  obtain ⟨K, h⟩ := h
  exact ⟨K, fun k hk => by show (if c then a k else b k) = some r; rw [if_neg hc]; exact h k hk⟩
/-- Both ways, each where it is taken. -/
theorem Ev.ite {α : Type} {c : Prop} [Decidable c] {a b : Nat → Option α} {r : α} (h : c → Ev a r) (h' : ¬ c → Ev b r) : Ev (fun k => if c then a k else b k) r := by
  by_cases hc : c
  · exact Ev.pos hc (h hc)
  · exact Ev.neg hc (h' hc)
theorem wrap_small {n : Int} (h0 : -9223372036854775808 ≤ n) (h1 : n ≤ 9223372036854775807) : wrap64 n = n := by unfold wrap64; omega
/-- Both ways, each with its own end. -/
theorem Ev.both {α : Type} {c : Prop} [Decidable c] {a b : Nat → Option α} {r s : α} (h : c → Ev a r) (h' : ¬ c → Ev b s) : Ev (fun k => if c then a k else b k) (if c then r else s) := by
  by_cases hc : c
  · rw [if_pos hc]; exact Ev.pos hc (h hc)
  · rw [if_neg hc]; exact Ev.neg hc (h' hc)
theorem Ev.valOf {α : Type} {r s : α} (h : s = r) : Ev (fun _ => some r) s := by subst h; exact Ev.val _
theorem contains_some (a : Int) : slices_Contains_int_int.f 10 [4, 5, 6, 7, 8] a = some (decide (4 ≤ a ∧ a ≤ 8)) := by
  have w1 : wrap64 (0 + 1) = 1 := by unfold wrap64; omega
  have w2 : wrap64 (1 + 1) = 2 := by unfold wrap64; omega
  have w3 : wrap64 (2 + 1) = 3 := by unfold wrap64; omega
  have w4 : wrap64 (3 + 1) = 4 := by unfold wrap64; omega
  have w5 : wrap64 (4 + 1) = 5 := by unfold wrap64; omega
  simp only [slices_Contains_int_int.f, slices_Index_int_int.f, slices_Index_int_int.l0, w1, w2, w3, w4, w5]
  simp only [List.length_cons, List.length_nil, rd, List.getD]
  by_cases h4 : a = 4
  · subst h4; decide +kernel
  by_cases h5 : a = 5
  · subst h5; decide +kernel
  by_cases h6 : a = 6
  · subst h6; decide +kernel
  by_cases h7 : a = 7
  · subst h7; decide +kernel
  by_cases h8 : a = 8
  · subst h8; decide +kernel
  have hd : ¬ (4 ≤ a ∧ a ≤ 8) := by omega
  simp [h4, h5, h6, h7, h8, hd]
theorem contains_ev (a : Int) : Ev (fun k => slices_Contains_int_int.f k [4, 5, 6, 7, 8] a) (decide (4 ≤ a ∧ a ≤ 8)) := Ev.of (contains_some a) (fun k => slices_Contains_int_int.mono [4, 5, 6, 7, 8] a k)
theorem refPlace_loop (l : List S45) (hn : l.length ≤ 140737488351232) (name : ByteArray) (d : Nat) : ∀ i : Nat, l.length - i = d → i ≤ l.length → Ev (fun k => contangoref11_place.l0 k l name i) (member_at.go name (l.drop i) i) := by
  induction d with
  | zero =>
    intro i hd hi
    obtain rfl : i = l.length := by omega
    refine Ev.shift ?_
    simp only [contangoref11_place.l0, List.drop_length]
    exact Ev.neg (by omega) (Ev.val _)
  | succ d ih =>
    intro i hd hi
    have hw : wrap64 ((i : Int) + 1) = ((i + 1 : Nat) : Int) := by unfold wrap64; omega
    have h := ih (i + 1) (by omega) (by omega)
    rw [member_at.go_drop name l i (by omega)]
    refine Ev.shift ?_
    simp only [contangoref11_place.l0, hw]
    refine Ev.pos (by omega) (Ev.pos (by omega) ?_)
    by_cases c : (rd_T45 l i).f0.toList = name.toList
    · rw [if_pos c]
      exact Ev.pos c (Ev.val _)
    · rw [if_neg c]
      exact Ev.neg c h
theorem refPlace (l : List S45) (hn : l.length ≤ 140737488351232) (name : ByteArray) : Ev (fun k => contangoref11_place.f k l name) (member_at.go name l 0) := by
  simp only [contangoref11_place.f]
  have := refPlace_loop l hn name l.length 0 (by omega) (by omega)
  simpa using this
/-- The first member of a name. -/
def findP (l : List S45) (name : ByteArray) : ByteArray × Int × List S53 × Bool :=
  if member_at.go name l 0 < 0 then ((⟨#[]⟩ : ByteArray), 0, ([] : List S53), false) else ((rd_T45 l (member_at.go name l 0)).f0, (rd_T45 l (member_at.go name l 0)).f1, (rd_T45 l (member_at.go name l 0)).f2, true)
theorem rd45_mem (l : List S45) (i : Int) (h0 : 0 ≤ i) (h1 : i < l.length) : rd_T45 l i ∈ l := by
  have h : i.toNat < l.length := by omega
  have : rd_T45 l i = l[i.toNat] := by simp [rd_T45, h]
  rw [this]
  exact List.getElem_mem h
theorem at_bounds (l : List S45) (name : ByteArray) (h : ¬ member_at.go name l 0 < 0) : 0 ≤ member_at.go name l 0 ∧ member_at.go name l 0 < (l.length : Int) := by
  rcases member_at.go_lt name l 0 with c | c
  · exact absurd (by omega) h
  · exact ⟨c.1, by omega⟩
theorem findP_mem (l : List S45) (name : ByteArray) (Q : S53 → Prop) (h : ∀ y ∈ l, ∀ z ∈ y.f2, Q z) : ∀ z ∈ (findP l name).2.2.1, Q z := by
  unfold findP
  split
  · intro z hz
    cases hz
  · rename_i c
    have b := at_bounds l name c
    exact h _ (rd45_mem l _ b.1 b.2)
theorem findP_len (l : List S45) (name : ByteArray) (N : Nat) (h : ∀ y ∈ l, y.f2.length ≤ N) : (findP l name).2.2.1.length ≤ N := by
  unfold findP
  split
  · exact Nat.zero_le _
  · rename_i c
    have b := at_bounds l name c
    exact h _ (rd45_mem l _ b.1 b.2)
theorem find_some (l : List S45) (name : ByteArray) (hs : ∀ y ∈ l, y.f2.length * 24 ≤ 140737488351232) : member_Find.f l name = some (findP l name) := by
  simp only [member_Find.f, member_at.f, Option.bind_some, findP]
  by_cases c : member_at.go name l 0 < 0
  · rw [if_pos c, if_pos c]
  · have b := at_bounds l name c
    have hz := hs _ (rd45_mem l _ b.1 b.2)
    rw [if_neg c, if_neg c, if_pos b.1, if_pos b.2]
    simp only [api_Account.f]
    rw [if_pos (by omega)]
    rfl
theorem refFind (l : List S45) (hn : l.length ≤ 140737488351232) (name : ByteArray) : Ev (fun k => contangoref11_Find.f k l name) (findP l name) := by
  simp only [contangoref11_Find.f, findP]
  refine Ev.bind (refPlace l hn name) ?_
  exact Ev.both (fun c => Ev.val _) (fun c => Ev.pos (at_bounds l name c).1 (Ev.pos (at_bounds l name c).2 (Ev.val _)))
/-- The account at a place; none. -/
def accAt (l : List S53) (i : Int) : ByteArray × Int × Bool := if i < 0 then ((⟨#[]⟩ : ByteArray), 0, false) else ((rd_T53 l i).f0, (rd_T53 l i).f1, true)
/-- The first account of a name. -/
def accP (l : List S53) (name : ByteArray) : ByteArray × Int × Bool := accAt l (idxOf (fun x : S53 => x.f0.toList == name.toList) l 0)
theorem account_some (l : List S45) (a b : ByteArray) (hs : ∀ y ∈ l, y.f2.length * 24 ≤ 140737488351232) : member_Account.f l a b = some (accP (findP l a).2.2.1 b) := by
  simp only [member_Account.f, find_some l a hs, Option.bind_some, accP, accAt]
  split <;> rfl
theorem refAccount_loop (l : List S53) (hn : l.length ≤ 140737488351232) (a b c : ByteArray) (e : Int) (d : Nat) : ∀ i : Nat, l.length - i = d → i ≤ l.length →
    Ev (fun k => contangoref11_Account.l0 k i a b c e l) (accAt l (idxOf (fun x : S53 => x.f0.toList == b.toList) (l.drop i) i)) := by
  induction d with
  | zero =>
    intro i hd hi
    obtain rfl : i = l.length := by omega
    refine Ev.shift ?_
    simp only [contangoref11_Account.l0, List.drop_length, idxOf, accAt]
    exact Ev.neg (by omega) (Ev.val _)
  | succ d ih =>
    intro i hd hi
    have hw : wrap64 ((i : Int) + 1) = ((i + 1 : Nat) : Int) := by unfold wrap64; omega
    have h := ih (i + 1) (by omega) (by omega)
    have hdr := idxOf_drop (fun x : S53 => x.f0.toList == b.toList) l z53 i (by omega)
    rw [hdr]
    refine Ev.shift ?_
    simp only [contangoref11_Account.l0, hw]
    refine Ev.pos (by omega) (Ev.pos (by omega) ?_)
    have e1 : l.getD i z53 = rd_T53 l i := by simp [rd_T53]
    rw [e1]
    by_cases hc : (rd_T53 l i).f0.toList = b.toList
    · rw [if_pos (by simpa using hc)]
      refine Ev.pos hc ?_
      simp only [accAt]
      rw [if_neg (by omega)]
      exact Ev.val _
    · rw [if_neg (by simpa using hc)]
      exact Ev.neg hc h
theorem refAccount (l : List S45) (hn : l.length ≤ 140737488351232) (hs : ∀ y ∈ l, y.f2.length ≤ 140737488351232) (a b : ByteArray) : Ev (fun k => contangoref11_Account.f k l a b) (accP (findP l a).2.2.1 b) := by
  simp only [contangoref11_Account.f]
  refine Ev.bind (refFind l hn a) ?_
  have := refAccount_loop (findP l a).2.2.1 (findP_len l a _ hs) a b (findP l a).1 (findP l a).2.1 _ 0 rfl (Nat.zero_le _)
  simpa [accP] using this
theorem one_loop (l : List S53) (hn : l.length ≤ 140737488351232) (a c : ByteArray) (b e : Int) (d : Nat) : ∀ i : Nat, l.length - i = d → i ≤ l.length → Ev (fun k => contangoref11_One.l0 k i a b l c e l) true := by
  induction d with
  | zero =>
    intro i hd hi
    refine Ev.shift ?_
    simp only [contangoref11_One.l0]
    exact Ev.neg (by omega) (Ev.val _)
  | succ d ih =>
    intro i hd hi
    have hw : wrap64 ((i : Int) + 1) = ((i + 1 : Nat) : Int) := by unfold wrap64; omega
    have h := ih (i + 1) (by omega) (by omega)
    refine Ev.shift ?_
    simp only [contangoref11_One.l0, hw]
    exact Ev.pos (by omega) (Ev.pos (by omega) (Ev.pos (by omega) (Ev.neg (by simp) h)))
/-- A member is itself. -/
theorem one_refl (a : ByteArray) (b : Int) (l : List S53) (hn : l.length ≤ 140737488351232) : Ev (fun k => contangoref11_One.f k a b l a b l) true := by
  simp only [contangoref11_One.f]
  refine Ev.pos trivial (Ev.pos trivial (Ev.shift ?_))
  simp only [contangoref11_One.j0]
  exact Ev.neg (by simp) (one_loop l hn a a b b _ 0 rfl (Nat.zero_le _))
/-- What a member of a status may. -/
def mayP (st act : Int) : Int := if st = 1 ∨ (st = 2 ∧ act ≠ 1 ∧ act ≠ 3) ∨ (st = 3 ∧ 4 ≤ act ∧ act ≤ 8) then 0 else 13
def mayR (l : List S45) (a b : ByteArray) (act : Int) : Int := if (findP l a).2.2.2 = true then (if (accP (findP l a).2.2.1 b).2.2 = true then mayP (findP l a).2.1 act else 21) else 20
theorem mayP_0 {st act : Int} (h : st = 1 ∨ (st = 2 ∧ act ≠ 1 ∧ act ≠ 3) ∨ (st = 3 ∧ 4 ≤ act ∧ act ≤ 8)) : mayP st act = 0 := if_pos h
theorem mayP_13 {st act : Int} (h : ¬ (st = 1 ∨ (st = 2 ∧ act ≠ 1 ∧ act ≠ 3) ∨ (st = 3 ∧ 4 ≤ act ∧ act ≤ 8))) : mayP st act = 13 := if_neg h
theorem may_ev (l : List S45) (a b : ByteArray) (act : Int) (hs : ∀ y ∈ l, y.f2.length * 24 ≤ 140737488351232) : Ev (fun k => member_May.f k l a b act) (mayR l a b act) := by
  simp only [member_May.f, find_some l a hs, account_some l a b hs, Option.bind_some, mayR]
  refine Ev.both (fun c => Ev.both (fun c2 => ?_) (fun c2 => Ev.val _)) (fun c => Ev.val _)
  generalize (findP l a).2.1 = st
  refine Ev.ite (fun s1 => Ev.valOf (mayP_0 (by omega))) (fun s1 => Ev.ite (fun s2 => Ev.ite (fun a1 => Ev.valOf (mayP_13 (by omega))) (fun a1 => Ev.ite (fun a3 => Ev.valOf (mayP_13 (by omega))) (fun a3 => Ev.valOf (mayP_0 (by omega))))) (fun s2 => Ev.ite (fun s3 => Ev.bind (contains_ev act) (Ev.ite (fun ha => Ev.valOf (mayP_0 ?_)) (fun ha => Ev.valOf (mayP_13 ?_)))) (fun s3 => Ev.valOf (mayP_13 (by omega)))))
  · simp only [decide_eq_true_eq] at ha; omega
  · simp only [decide_eq_true_eq] at ha; omega
theorem refMay_ev (l : List S45) (hn : l.length ≤ 140737488351232) (a b : ByteArray) (act : Int) (hs : ∀ y ∈ l, y.f2.length ≤ 140737488351232) : Ev (fun k => contangoref11_May.f k l a b act) (mayR l a b act) := by
  simp only [contangoref11_May.f, mayR]
  refine Ev.bind (refFind l hn a) (Ev.both (fun c => Ev.bind (refAccount l hn hs a b) (Ev.both (fun c2 => ?_) (fun c2 => Ev.val _))) (fun c => Ev.val _))
  generalize (findP l a).2.1 = st
  exact Ev.ite (fun s1 => Ev.valOf (mayP_0 (by omega))) (fun s1 => Ev.ite (fun s2 => Ev.ite (fun a1 => Ev.valOf (mayP_13 (by omega))) (fun a1 => Ev.ite (fun a3 => Ev.valOf (mayP_13 (by omega))) (fun a3 => Ev.valOf (mayP_0 (by omega))))) (fun s2 => Ev.ite (fun s3 => Ev.ite (fun h4 => Ev.ite (fun h8 => Ev.valOf (mayP_0 (by omega))) (fun h8 => Ev.valOf (mayP_13 (by omega)))) (fun h4 => Ev.valOf (mayP_13 (by omega)))) (fun s3 => Ev.valOf (mayP_13 (by omega)))))
theorem drop45 (l : List S45) (i : Nat) (h : i < l.length) : l.drop i = rd_T45 l i :: l.drop (i + 1) := by
  rw [List.drop_eq_getElem_cons h]
  simp [rd_T45, h]
theorem drop53 (l : List S53) (i : Nat) (h : i < l.length) : l.drop i = rd_T53 l i :: l.drop (i + 1) := by
  rw [List.drop_eq_getElem_cons h]
  simp [rd_T53, h]
/-- All accounts of members. -/
def accsOf (l : List S45) : List S29 := l.flatMap fun m => m.f2.map fun a => (⟨m.f0, a.f0⟩ : S29)
theorem accsOf_drop (l : List S45) (i : Nat) (h : i < l.length) : accsOf (l.drop i) = ((rd_T45 l i).f2.map fun a => (⟨(rd_T45 l i).f0, a.f0⟩ : S29)) ++ accsOf (l.drop (i + 1)) := by
  rw [drop45 l i h]
  simp [accsOf]
theorem accs_inner (l : List S45) (i : Int) (m : S45) (hm : m.f2.length ≤ 140737488351232) (R : List S29)
    (H : ∀ out : List S29, out.length + R.length ≤ 2000000 → Ev (fun k => member_Accounts.l0 k out l (l.length : Int) (wrap64 (i + 1))) (out ++ R)) (d : Nat) :
    ∀ (j : Nat) (out : List S29), m.f2.length - j = d → j ≤ m.f2.length → out.length + d + R.length ≤ 2000000 →
      Ev (fun k => member_Accounts.l1 k out l (l.length : Int) i m.f2 (m.f2.length : Int) j m.f0 m.f1 m.f2) (out ++ (((m.f2.drop j).map fun a => (⟨m.f0, a.f0⟩ : S29)) ++ R)) := by
  induction d with
  | zero =>
    intro j out hd hj hb
    obtain rfl : j = m.f2.length := by omega
    refine Ev.shift ?_
    simp only [member_Accounts.l1, List.drop_length, List.map_nil, List.nil_append]
    exact Ev.neg (by omega) (H out (by omega))
  | succ d ih =>
    intro j out hd hj hb
    have hw : wrap64 ((j : Int) + 1) = ((j + 1 : Nat) : Int) := by unfold wrap64; omega
    have h := ih (j + 1) (out ++ [(⟨m.f0, (rd_T53 m.f2 j).f0⟩ : S29)]) (by omega) (by omega) (by simp; omega)
    refine Ev.shift ?_
    simp only [member_Accounts.l1, hw]
    rw [drop53 m.f2 j (by omega)]
    refine Ev.pos (by omega) (Ev.pos (by omega) (Ev.pos (by omega) (Ev.pos (by omega) ?_)))
    simpa using h
theorem accs_outer (l : List S45) (hn : l.length ≤ 140737488351232) (hs : ∀ y ∈ l, y.f2.length ≤ 140737488351232) (d : Nat) : ∀ (i : Nat) (out : List S29), l.length - i = d → i ≤ l.length → out.length + (accsOf (l.drop i)).length ≤ 2000000 →
    Ev (fun k => member_Accounts.l0 k out l (l.length : Int) i) (out ++ accsOf (l.drop i)) := by
  induction d with
  | zero =>
    intro i out hd hi hb
    obtain rfl : i = l.length := by omega
    refine Ev.shift ?_
    simp only [member_Accounts.l0, List.drop_length, accsOf, List.flatMap_nil, List.append_nil]
    exact Ev.neg (by omega) (Ev.val _)
  | succ d ih =>
    intro i out hd hi hb
    have hw : wrap64 ((i : Int) + 1) = ((i + 1 : Nat) : Int) := by unfold wrap64; omega
    rw [accsOf_drop l i (by omega)] at hb ⊢
    have h := accs_inner l i (rd_T45 l i) (hs _ (rd45_mem l i (by omega) (by omega))) (accsOf (l.drop (i + 1))) (fun out' hb' => by rw [hw]; exact ih (i + 1) out' (by omega) (by omega) hb') _ 0 out rfl (Nat.zero_le _) (by simp at hb ⊢; omega)
    refine Ev.shift ?_
    simp only [member_Accounts.l0]
    exact Ev.pos (by omega) (Ev.pos (by omega) (Ev.pos (by omega) (by simpa using h)))
theorem accs_ev (l : List S45) (hn : l.length ≤ 140737488351232) (hs : ∀ y ∈ l, y.f2.length ≤ 140737488351232) (hb : (accsOf l).length ≤ 2000000) : Ev (fun k => member_Accounts.f k l) (accsOf l) := by
  simp only [member_Accounts.f]
  have := accs_outer l hn hs _ 0 [] rfl (Nat.zero_le _) (by simpa using hb)
  simpa using this
theorem refAccs_inner (l : List S45) (i : Nat) (hi : i < l.length) (hm : (rd_T45 l i).f2.length ≤ 140737488351232) (R : List S29)
    (H : ∀ out : List S29, out.length + R.length ≤ 2000000 → Ev (fun k => contangoref11_Accounts.l0 k l out (wrap64 ((i : Int) + 1))) (out ++ R)) (d : Nat) :
    ∀ (j : Nat) (out : List S29), (rd_T45 l i).f2.length - j = d → j ≤ (rd_T45 l i).f2.length → out.length + d + R.length ≤ 2000000 →
      Ev (fun k => contangoref11_Accounts.l1 k l out i j) (out ++ ((((rd_T45 l i).f2.drop j).map fun a => (⟨(rd_T45 l i).f0, a.f0⟩ : S29)) ++ R)) := by
  induction d with
  | zero =>
    intro j out hd hj hb
    obtain rfl : j = (rd_T45 l i).f2.length := by omega
    refine Ev.shift ?_
    simp only [contangoref11_Accounts.l1, List.drop_length, List.map_nil, List.nil_append]
    exact Ev.pos (by omega) (Ev.pos (by omega) (Ev.neg (by omega) (H out (by omega))))
  | succ d ih =>
    intro j out hd hj hb
    have hw : wrap64 ((j : Int) + 1) = ((j + 1 : Nat) : Int) := by unfold wrap64; omega
    have h := ih (j + 1) (out ++ [(⟨(rd_T45 l i).f0, (rd_T53 (rd_T45 l i).f2 j).f0⟩ : S29)]) (by omega) (by omega) (by simp; omega)
    refine Ev.shift ?_
    simp only [contangoref11_Accounts.l1, hw]
    rw [drop53 (rd_T45 l i).f2 j (by omega)]
    refine Ev.pos (by omega) (Ev.pos (by omega) (Ev.pos (by omega) (Ev.pos (by omega) (Ev.pos (by omega) ?_))))
    simpa using h
theorem refAccs_outer (l : List S45) (hn : l.length ≤ 140737488351232) (hs : ∀ y ∈ l, y.f2.length ≤ 140737488351232) (d : Nat) : ∀ (i : Nat) (out : List S29), l.length - i = d → i ≤ l.length → out.length + (accsOf (l.drop i)).length ≤ 2000000 →
    Ev (fun k => contangoref11_Accounts.l0 k l out i) (out ++ accsOf (l.drop i)) := by
  induction d with
  | zero =>
    intro i out hd hi hb
    obtain rfl : i = l.length := by omega
    refine Ev.shift ?_
    simp only [contangoref11_Accounts.l0, List.drop_length, accsOf, List.flatMap_nil, List.append_nil]
    exact Ev.neg (by omega) (Ev.val _)
  | succ d ih =>
    intro i out hd hi hb
    have hw : wrap64 ((i : Int) + 1) = ((i + 1 : Nat) : Int) := by unfold wrap64; omega
    rw [accsOf_drop l i (by omega)] at hb ⊢
    have h := refAccs_inner l i (by omega) (hs _ (rd45_mem l i (by omega) (by omega))) (accsOf (l.drop (i + 1))) (fun out' hb' => by rw [hw]; exact ih (i + 1) out' (by omega) (by omega) hb') _ 0 out rfl (Nat.zero_le _) (by simp at hb ⊢; omega)
    refine Ev.shift ?_
    simp only [contangoref11_Accounts.l0]
    exact Ev.pos (by omega) (by simpa using h)
theorem refAccs_ev (l : List S45) (hn : l.length ≤ 140737488351232) (hs : ∀ y ∈ l, y.f2.length ≤ 140737488351232) (hb : (accsOf l).length ≤ 2000000) : Ev (fun k => contangoref11_Accounts.f k l) (accsOf l) := by
  simp only [contangoref11_Accounts.f]
  have := refAccs_outer l hn hs _ 0 [] rfl (Nat.zero_le _) (by simpa using hb)
  simpa using this
theorem sameAccs_loop (l : List S29) (hn : l.length ≤ 140737488351232) (d : Nat) : ∀ i : Nat, l.length - i = d → i ≤ l.length → Ev (fun k => contangoref11_SameAccs.l0 k l l i) true := by
  induction d with
  | zero =>
    intro i hd hi
    refine Ev.shift ?_
    simp only [contangoref11_SameAccs.l0]
    exact Ev.neg (by omega) (Ev.val _)
  | succ d ih =>
    intro i hd hi
    have hw : wrap64 ((i : Int) + 1) = ((i + 1 : Nat) : Int) := by unfold wrap64; omega
    have h := ih (i + 1) (by omega) (by omega)
    refine Ev.shift ?_
    simp only [contangoref11_SameAccs.l0, hw]
    exact Ev.pos (by omega) (Ev.pos (by omega) (Ev.pos (by omega) (Ev.neg (by simp) h)))
theorem sameAccs_refl (l : List S29) (hn : l.length ≤ 140737488351232) : Ev (fun k => contangoref11_SameAccs.f k l l) true := by
  simp only [contangoref11_SameAccs.f]
  exact Ev.pos trivial (sameAccs_loop l hn _ 0 rfl (Nat.zero_le _))
theorem bulk45_accs (l : List S45) : (accsOf l).length + 1 ≤ bulkOf (fun y : S45 => bulk45 y) l := by
  induction l with
  | nil => simp [accsOf, bulkOf]
  | cons x r ih =>
    have h1 : x.f2.length + 1 ≤ bulkOf (fun y : S53 => bulk53 y) x.f2 := bulkOf_length _ (fun y => by simp only [bulk53]; omega) _
    simp only [accsOf, List.flatMap_cons, List.length_append, List.length_map, bulkOf] at ih ⊢
    have e : bulk45 x = (x.f0.size + 1) + (1 + bulkOf (fun y : S53 => bulk53 y) x.f2) + 1 := rfl
    omega
theorem goes_true : contangolaw11_goes.f 40 = some true := by decide +kernel
theorem goes_ev : Ev (fun k => contangolaw11_goes.f k) true := Ev.of goes_true (fun k => contangolaw11_goes.mono k)
theorem MemberFinds : contangolaw11_MemberFinds.Said := by
  intro l acc act hok _ _ hb
  refine Ev.get ?_
  have hacc := bulk45_accs l
  have hlen : l.length + 1 ≤ bulkOf (fun y : S45 => bulk45 y) l := bulkOf_length _ (fun y => by simp only [bulk45]; omega) _
  have hs : ∀ y ∈ l, y.f2.length ≤ 1048576 := by
    intro y hy
    have h1 := bulkOf_mem (fun y : S45 => bulk45 y) l y hy
    have h2 : y.f2.length + 1 ≤ bulkOf (fun y : S53 => bulk53 y) y.f2 := bulkOf_length _ (fun y => by simp only [bulk53]; omega) _
    have e : bulk45 y = (y.f0.size + 1) + (1 + bulkOf (fun y : S53 => bulk53 y) y.f2) + 1 := rfl
    have h3 : bulk45 y + 1 ≤ bulkOf (fun y : S45 => bulk45 y) l := h1
    omega
  have hs1 : ∀ y ∈ l, y.f2.length * 24 ≤ 140737488351232 := fun y hy => by have := hs y hy; omega
  have hs2 : ∀ y ∈ l, y.f2.length ≤ 140737488351232 := fun y hy => by have := hs y hy; omega
  have hn : l.length ≤ 140737488351232 := by omega
  simp only [contangolaw11_MemberFinds.f, find_some l acc.f0 hs1, account_some l acc.f0 acc.f1 hs1, Option.bind_some]
  refine Ev.bind (refFind l hn acc.f0) (Ev.bind (refAccount l hn hs2 acc.f0 acc.f1) (Ev.bind (one_refl _ _ _ (findP_len l acc.f0 _ hs2)) (Ev.pos rfl ?_)))
  refine Ev.neg (by simp) (Ev.neg (by simp) (Ev.shift ?_))
  simp only [contangolaw11_MemberFinds.j0]
  refine Ev.neg (by simp) (Ev.bind (may_ev l acc.f0 acc.f1 act hs1) (Ev.bind (refMay_ev l hn acc.f0 acc.f1 act hs2) (Ev.pos rfl ?_)))
  exact Ev.bind (accs_ev l hn hs2 (by omega)) (Ev.bind (refAccs_ev l hn hs2 (by omega)) (Ev.bind (sameAccs_refl _ (by omega)) (Ev.pos rfl (Ev.bind goes_ev (Ev.val _)))))
end Go.Proofs.Ytipoicfglaanaaa.Pure
