/- Of any members: the clients of one are what the document says, and stay so whatever is done to a list of them: the law, as a statement over numbers and lists. -/
import Derived.Test.YtdhmckgagffgkaaArgPortClients
namespace Go.Proofs.Ytdhmckgagffgkaa.Pure
set_option linter.unusedSimpArgs false
set_option linter.unusedVariables false
open Go.RowKit Go.Proofs.Ytdhmckgagffgkaa.PPortClients Go.Proofs.Ytdhmckgagffgkaa.Opens Go.Proofs.YtdhmckgagffgkaaW.PrintWords Go.Proofs.YtdhmckgagffgkaaW.PrintLast
/-- Comes to r, at all large numbers of rounds. -/
def Ev {α : Type} (g : Nat → Option α) (r : α) : Prop := ∃ K, ∀ k, K ≤ k → g k = some r
theorem Ev.shift {α : Type} {g : Nat → Option α} {r : α} (h : Ev (fun k => g (k + 1)) r) : Ev g r := by
  obtain ⟨K, h⟩ := h
  refine ⟨K + 1, fun k hk => ?_⟩
  obtain ⟨m, rfl⟩ : ∃ m, k = m + 1 := ⟨k - 1, by omega⟩
  exact h m (by omega)
theorem Ev.val {α : Type} (r : α) : Ev (fun _ => some r) r := ⟨0, fun _ _ => rfl⟩
theorem Ev.bind {α β : Type} {g : Nat → Option α} {f : Nat → α → Option β} {x : α} {r : β} (h : Ev g x) (h' : Ev (fun k => f k x) r) : Ev (fun k => (g k).bind (f k)) r := by
  obtain ⟨K, h⟩ := h
  obtain ⟨K', h'⟩ := h'
  exact ⟨max K K', fun k hk => by show (g k).bind (f k) = some r; rw [h k (by omega)]; exact h' k (by omega)⟩
theorem Ev.get {α : Type} {g : Nat → Option α} {r : α} (h : Ev g r) : ∃ k, g k = some r := by
  obtain ⟨K, h⟩ := h
  exact ⟨K, h K (Nat.le_refl _)⟩
theorem Ev.of {α : Type} {g : Nat → Option α} {r : α} {k0 : Nat} (h : g k0 = some r) (hm : ∀ k, LeO (g k) (g (k + 1))) : Ev g r := ⟨k0, fun _ hk => at_rounds hm hk h⟩
theorem Ev.pos {α : Type} {c : Prop} [Decidable c] {a b : Nat → Option α} {r : α} (hc : c) (h : Ev a r) : Ev (fun k => if c then a k else b k) r := by
  obtain ⟨K, h⟩ := h
  exact ⟨K, fun k hk => by show (if c then a k else b k) = some r; rw [if_pos hc]; exact h k hk⟩
theorem Ev.neg {α : Type} {c : Prop} [Decidable c] {a b : Nat → Option α} {r : α} (hc : ¬ c) (h : Ev b r) : Ev (fun k => if c then a k else b k) r := by
  obtain ⟨K, h⟩ := h
  exact ⟨K, fun k hk => by show (if c then a k else b k) = some r; rw [if_neg hc]; exact h k hk⟩
/-- Both ways, each where it is taken. -/
theorem Ev.ite {α : Type} {c : Prop} [Decidable c] {a b : Nat → Option α} {r : α} (h : c → Ev a r) (h' : ¬ c → Ev b r) : Ev (fun k => if c then a k else b k) r := by
  by_cases hc : c
  · exact Ev.pos hc (h hc)
  · exact Ev.neg hc (h' hc)
theorem wrap_small {n : Int} (h0 : -9223372036854775808 ≤ n) (h1 : n ≤ 9223372036854775807) : wrap64 n = n := by unfold wrap64; omega
/-- Both ways, each with its own end. -/
theorem Ev.both {α : Type} {c : Prop} [Decidable c] {a b : Nat → Option α} {r s : α} (h : c → Ev a r) (h' : ¬ c → Ev b s) : Ev (fun k => if c then a k else b k) (if c then r else s) := by
  by_cases hc : c
  · rw [if_pos hc]; exact Ev.pos hc (h hc)
  · rw [if_neg hc]; exact Ev.neg hc (h' hc)
theorem Ev.valOf {α : Type} {r s : α} (h : s = r) : Ev (fun _ => some r) s := by subst h; exact Ev.val _
theorem sameAccs_loop (l : List S45) (hn : l.length ≤ 140737488351232) (d : Nat) : ∀ i : Nat, l.length - i = d → i ≤ l.length → Ev (fun k => contangoref11_SameAccs.l0 k l l i) true := by
  induction d with
  | zero =>
    intro i hd hi
    refine Ev.shift ?_
    simp only [contangoref11_SameAccs.l0]
    exact Ev.neg (by omega) (Ev.val _)
  | succ d ih =>
    intro i hd hi
    have hw : wrap64 ((i : Int) + 1) = ((i + 1 : Nat) : Int) := by unfold wrap64; omega
    have h := ih (i + 1) (by omega) (by omega)
    refine Ev.shift ?_
    simp only [contangoref11_SameAccs.l0, hw]
    exact Ev.pos (by omega) (Ev.pos (by omega) (Ev.pos (by omega) (Ev.neg (by simp) h)))
theorem sameAccs_refl (l : List S45) (hn : l.length ≤ 140737488351232) : Ev (fun k => contangoref11_SameAccs.f k l l) true := by
  simp only [contangoref11_SameAccs.f]
  exact Ev.pos trivial (sameAccs_loop l hn _ 0 rfl (Nat.zero_le _))
theorem at_spec (a : ByteArray) (l : List S55) : ∀ i : Nat, (member_at.go a l i = -1 ∧ ∀ y ∈ l, y.f0.toList ≠ a.toList) ∨ ∃ j, ∃ h : j < l.length, member_at.go a l i = ((i + j : Nat) : Int) ∧ l[j].f0.toList = a.toList := by
  induction l with
  | nil => intro i; exact Or.inl ⟨rfl, fun y hy => by cases hy⟩
  | cons x r ih =>
    intro i
    simp only [member_at.go]
    by_cases c : x.f0.toList = a.toList
    · rw [if_pos c]
      exact Or.inr ⟨0, by simp, by simp, c⟩
    · rw [if_neg c, show ((i : Int) + 1) = ((i + 1 : Nat) : Int) from by omega]
      rcases ih (i + 1) with h | ⟨j, hj, h1, h2⟩
      · refine Or.inl ⟨h.1, fun y hy => ?_⟩
        rcases List.mem_cons.mp hy with rfl | hy
        · exact c
        · exact h.2 y hy
      · exact Or.inr ⟨j + 1, by simpa using hj, by rw [h1]; omega, by simpa using h2⟩
theorem at_none {a : ByteArray} {l : List S55} (h : member_at.go a l 0 < 0) : ∀ y ∈ l, y.f0.toList ≠ a.toList := by
  rcases at_spec a l 0 with c | ⟨j, hj, h1, _⟩
  · exact c.2
  · have : member_at.go a l 0 = ((0 + j : Nat) : Int) := h1
    omega
theorem at_some {a : ByteArray} {l : List S55} (h : ¬ member_at.go a l 0 < 0) : ∃ j, ∃ hj : j < l.length, member_at.go a l 0 = (j : Int) ∧ l[j].f0.toList = a.toList := by
  rcases at_spec a l 0 with c | ⟨j, hj, h1, h2⟩
  · exact absurd (by rw [show member_at.go a l 0 = -1 from c.1]; omega) h
  · exact ⟨j, hj, by have : member_at.go a l 0 = ((0 + j : Nat) : Int) := h1; omega, h2⟩
/-- The first member of a name. -/
def findP (l : List S55) (name : ByteArray) : ByteArray × Int × List S61 × Bool :=
  if member_at.go name l 0 < 0 then ((⟨#[]⟩ : ByteArray), 0, ([] : List S61), false) else ((rd_T55 l (member_at.go name l 0)).f0, (rd_T55 l (member_at.go name l 0)).f1, (rd_T55 l (member_at.go name l 0)).f2, true)
theorem rd45_mem (l : List S55) (i : Int) (h0 : 0 ≤ i) (h1 : i < l.length) : rd_T55 l i ∈ l := by
  have h : i.toNat < l.length := by omega
  have : rd_T55 l i = l[i.toNat] := by simp [rd_T55, h]
  rw [this]
  exact List.getElem_mem h
theorem at_bounds (l : List S55) (name : ByteArray) (h : ¬ member_at.go name l 0 < 0) : 0 ≤ member_at.go name l 0 ∧ member_at.go name l 0 < (l.length : Int) := by
  obtain ⟨j, hj, h1, _⟩ := at_some h
  exact ⟨by omega, by omega⟩
theorem findP_mem (l : List S55) (name : ByteArray) (Q : S61 → Prop) (h : ∀ y ∈ l, ∀ z ∈ y.f2, Q z) : ∀ z ∈ (findP l name).2.2.1, Q z := by
  unfold findP
  split
  · intro z hz
    cases hz
  · rename_i c
    have b := at_bounds l name c
    exact h _ (rd45_mem l _ b.1 b.2)
theorem findP_len (l : List S55) (name : ByteArray) (N : Nat) (h : ∀ y ∈ l, y.f2.length ≤ N) : (findP l name).2.2.1.length ≤ N := by
  unfold findP
  split
  · exact Nat.zero_le _
  · rename_i c
    have b := at_bounds l name c
    exact h _ (rd45_mem l _ b.1 b.2)
theorem find_some (l : List S55) (name : ByteArray) (hs : ∀ y ∈ l, y.f2.length * 24 ≤ 140737488351232) : member_Find.f l name = some (findP l name) := by
  simp only [member_Find.f, member_at.f, Option.bind_some, findP]
  by_cases c : member_at.go name l 0 < 0
  · rw [if_pos c, if_pos c]
  · have b := at_bounds l name c
    have hz := hs _ (rd45_mem l _ b.1 b.2)
    rw [if_neg c, if_neg c, if_pos b.1, if_pos b.2]
    simp only [api_Account.f]
    rw [if_pos (by omega)]
    rfl
theorem refPlace_loop (l : List S55) (hn : l.length ≤ 140737488351232) (name : ByteArray) (d : Nat) : ∀ i : Nat, l.length - i = d → i ≤ l.length → Ev (fun k => contangoref11_place.l0 k l name i) (member_at.go name (l.drop i) i) := by
  induction d with
  | zero =>
    intro i hd hi
    obtain rfl : i = l.length := by omega
    refine Ev.shift ?_
    simp only [contangoref11_place.l0, List.drop_length]
    exact Ev.neg (by omega) (Ev.val _)
  | succ d ih =>
    intro i hd hi
    have hw : wrap64 ((i : Int) + 1) = ((i + 1 : Nat) : Int) := by unfold wrap64; omega
    have h := ih (i + 1) (by omega) (by omega)
    rw [member_at.go_drop name l i (by omega)]
    refine Ev.shift ?_
    simp only [contangoref11_place.l0, hw]
    refine Ev.pos (by omega) (Ev.pos (by omega) ?_)
    by_cases c : (rd_T55 l i).f0.toList = name.toList
    · rw [if_pos c]
      exact Ev.pos c (Ev.val _)
    · rw [if_neg c]
      exact Ev.neg c h
theorem refPlace (l : List S55) (hn : l.length ≤ 140737488351232) (name : ByteArray) : Ev (fun k => contangoref11_place.f k l name) (member_at.go name l 0) := by
  simp only [contangoref11_place.f]
  have := refPlace_loop l hn name l.length 0 (by omega) (by omega)
  simpa using this
theorem refFind (l : List S55) (hn : l.length ≤ 140737488351232) (name : ByteArray) : Ev (fun k => contangoref11_Find.f k l name) (findP l name) := by
  simp only [contangoref11_Find.f, findP]
  refine Ev.bind (refPlace l hn name) ?_
  exact Ev.both (fun c => Ev.val _) (fun c => Ev.pos (at_bounds l name c).1 (Ev.pos (at_bounds l name c).2 (Ev.val _)))
/-- The accounts of clients among accounts. -/
def clientsOf (nm : ByteArray) (l : List S61) : List S45 := (l.filter fun a => !(a.f1 == 1)).map fun a => ⟨nm, a.f0⟩
theorem clientsOf_drop (nm : ByteArray) (l : List S61) (i : Nat) (h : i < l.length) :
    clientsOf nm (l.drop i) = if (rd_T61 l i).f1 = 1 then clientsOf nm (l.drop (i + 1)) else (⟨nm, (rd_T61 l i).f0⟩ : S45) :: clientsOf nm (l.drop (i + 1)) := by
  have e : l.drop i = rd_T61 l i :: l.drop (i + 1) := by
    rw [List.drop_eq_getElem_cons h]
    simp [rd_T61, h]
  rw [e]
  unfold clientsOf
  by_cases c : (rd_T61 l i).f1 = 1
  · rw [if_pos c, List.filter_cons_of_neg (by simp [c])]
  · rw [if_neg c, List.filter_cons_of_pos (by simp [c])]
    rfl
theorem clientsOf_len (nm : ByteArray) (l : List S61) : (clientsOf nm l).length ≤ l.length := by
  unfold clientsOf
  rw [List.length_map]
  exact List.length_filter_le _ _
def whatP (n : Int) : Int := if n = 1 then 1 else if n = 2 then 2 else if n = 3 then 2 else 0
theorem what_ev (n : Int) : Ev (fun _ => port_what.f n) (whatP n) :=
  Ev.both (fun _ => Ev.val _) (fun _ => Ev.both (fun _ => Ev.val _) (fun _ => Ev.both (fun _ => Ev.val _) (fun _ => Ev.val _)))
theorem what_house (n : Int) : whatP n = 1 ↔ n = 1 := by
  unfold whatP
  constructor
  · intro h
    by_cases c : n = 1
    · exact c
    · rw [if_neg c] at h
      split at h
      · omega
      · split at h <;> omega
  · intro h; rw [if_pos h]
theorem clients_loop (nm : ByteArray) (st : Int) (l : List S61) (hn : l.length ≤ 2000000) (d : Nat) : ∀ (i : Nat) (out : List S45), l.length - i = d → i ≤ l.length → out.length + d ≤ 4000000 →
    Ev (fun k => port_Clients.l0 k out l (l.length : Int) i nm st l) (out ++ clientsOf nm (l.drop i)) := by
  induction d with
  | zero =>
    intro i out hd hi hb
    obtain rfl : i = l.length := by omega
    refine Ev.shift ?_
    simp only [port_Clients.l0, List.drop_length, clientsOf, List.filter_nil, List.map_nil, List.append_nil]
    exact Ev.neg (by omega) (Ev.val _)
  | succ d ih =>
    intro i out hd hi hb
    have hw : wrap64 ((i : Int) + 1) = ((i + 1 : Nat) : Int) := by unfold wrap64; omega
    rw [clientsOf_drop nm l i (by omega)]
    refine Ev.shift ?_
    simp only [port_Clients.l0, hw]
    refine Ev.pos (by omega) (Ev.pos (by omega) (Ev.pos (by omega) (Ev.bind (what_ev _) ?_)))
    by_cases c : (rd_T61 l i).f1 = 1
    · rw [if_pos c]
      exact Ev.pos ((what_house _).mpr c) (ih (i + 1) out (by omega) (by omega) (by omega))
    · rw [if_neg c]
      have h := ih (i + 1) (out ++ [(⟨nm, (rd_T61 l i).f0⟩ : S45)]) (by omega) (by omega) (by simp; omega)
      exact Ev.neg (fun h => c ((what_house _).mp h)) (Ev.pos (by omega) (by simpa using h))
theorem refClients_loop (nm nm2 : ByteArray) (st : Int) (l : List S61) (hn : l.length ≤ 2000000) (d : Nat) : ∀ (i : Nat) (out : List S45), l.length - i = d → i ≤ l.length → out.length + d ≤ 4000000 →
    Ev (fun k => contangoref42_Clients.l0 k nm out i nm2 st l) (out ++ clientsOf nm (l.drop i)) := by
  induction d with
  | zero =>
    intro i out hd hi hb
    obtain rfl : i = l.length := by omega
    refine Ev.shift ?_
    simp only [contangoref42_Clients.l0, List.drop_length, clientsOf, List.filter_nil, List.map_nil, List.append_nil]
    exact Ev.neg (by omega) (Ev.val _)
  | succ d ih =>
    intro i out hd hi hb
    have hw : wrap64 ((i : Int) + 1) = ((i + 1 : Nat) : Int) := by unfold wrap64; omega
    rw [clientsOf_drop nm l i (by omega)]
    refine Ev.shift ?_
    simp only [contangoref42_Clients.l0, hw]
    refine Ev.pos (by omega) (Ev.pos (by omega) ?_)
    by_cases c : (rd_T61 l i).f1 = 1
    · rw [if_pos c]
      exact Ev.pos c (ih (i + 1) out (by omega) (by omega) (by omega))
    · rw [if_neg c]
      have h := ih (i + 1) (out ++ [(⟨nm, (rd_T61 l i).f0⟩ : S45)]) (by omega) (by omega) (by simp; omega)
      exact Ev.neg c (Ev.pos (by omega) (by simpa using h))
/-- The clients of a member. -/
def clP (l : List S55) (a : ByteArray) : List S45 := clientsOf a (findP l a).2.2.1
theorem clP_name (l : List S55) (a : ByteArray) : clientsOf (findP l a).1 (findP l a).2.2.1 = clP l a := by
  unfold clP
  by_cases c : member_at.go a l 0 < 0
  · unfold findP
    rw [if_pos c]
    rfl
  · obtain ⟨j, hj, h1, h2⟩ := at_some c
    have : (findP l a).1 = a := by
      unfold findP
      rw [if_neg c, h1]
      have e : rd_T55 l (j : Int) = l[j] := by simp [rd_T55, hj]
      rw [e]
      exact bytes_inj h2
    rw [this]
theorem clients_ev (l : List S55) (a : ByteArray) (hs : ∀ y ∈ l, y.f2.length ≤ 1048576) : Ev (fun k => port_Clients.f k l a) (clP l a) := by
  simp only [port_Clients.f]
  rw [find_some l a (fun y hy => by have := hs y hy; omega)]
  simp only [Option.bind_some]
  have hl := findP_len l a 1048576 hs
  have h := clients_loop (findP l a).1 (findP l a).2.1 (findP l a).2.2.1 (by omega) _ 0 [] rfl (Nat.zero_le _) (by simp; omega)
  rw [← clP_name]
  simpa using h
theorem refClients_ev (l : List S55) (a : ByteArray) (hn : l.length ≤ 140737488351232) (hs : ∀ y ∈ l, y.f2.length ≤ 1048576) : Ev (fun k => contangoref42_Clients.f k l a) (clP l a) := by
  simp only [contangoref42_Clients.f]
  refine Ev.bind (refFind l hn a) ?_
  have hl := findP_len l a 1048576 hs
  have h := refClients_loop a (findP l a).1 (findP l a).2.1 (findP l a).2.2.1 (by omega) _ 0 [] rfl (Nat.zero_le _) (by simp; omega)
  simpa [clP] using h
theorem clP_len (l : List S55) (a : ByteArray) (N : Nat) (hs : ∀ y ∈ l, y.f2.length ≤ N) : (clP l a).length ≤ N :=
  Nat.le_trans (clientsOf_len _ _) (findP_len l a N hs)
theorem goes_true : contangolaw42_goes.f 60 = some true := by decide +kernel
theorem goes_ev : Ev (fun k => contangolaw42_goes.f k) true := Ev.of goes_true (fun k => contangolaw42_goes.mono k)
theorem spoil_loop (l : List S55) (a : ByteArray) (want : List S45) (n : Nat) (hn : n ≤ 1048576) (H : Ev (fun k => (port_Clients.f k l a).bind fun t225 => ((contangoref11_SameAccs.f k t225 want).bind fun t228 => (if t228 = true then ((contangolaw42_goes.f k).bind fun t229 => (some t229)) else (some false)))) true) (d : Nat) :
    ∀ (i : Nat) (x : List S45), n - i = d → i ≤ n → x.length = n → Ev (fun k => contangolaw42_PortClients.l0 k l a x want (n : Int) i) true := by
  induction d with
  | zero =>
    intro i x hd hi hx
    refine Ev.shift ?_
    simp only [contangolaw42_PortClients.l0]
    exact Ev.neg (by omega) H
  | succ d ih =>
    intro i x hd hi hx
    have hw : wrap64 ((i : Int) + 1) = ((i + 1 : Nat) : Int) := by unfold wrap64; omega
    refine Ev.shift ?_
    simp only [contangolaw42_PortClients.l0, hw]
    exact Ev.pos (by omega) (Ev.pos (by omega) (Ev.pos (by omega) (ih (i + 1) _ (by omega) (by omega) (by simpa using hx))))
theorem PortClients : contangolaw42_PortClients.Said := by
  intro l a hok _ hb
  refine Ev.get ?_
  simp only [contangolaw42_PortClients.f]
  refine Ev.ite (fun c => Ev.bind goes_ev (Ev.val _)) (fun c => ?_)
  have hs : ∀ y ∈ l, y.f2.length ≤ 1048576 := by
    intro y hy
    have h1 := bulkOf_mem (fun y : S55 => bulk55 y) l y hy
    have h2 : y.f2.length + 1 ≤ bulkOf (fun y : S61 => bulk61 y) y.f2 := bulkOf_length _ (fun y => by simp only [bulk61]; omega) _
    have e : bulk55 y = (y.f0.size + 1) + (1 + bulkOf (fun y : S61 => bulk61 y) y.f2) + 1 := rfl
    have h3 : bulk55 y + 1 ≤ bulkOf (fun y : S55 => bulk55 y) l := h1
    omega
  have hn : l.length ≤ 140737488351232 := by omega
  have hc := clP_len l a 1048576 hs
  refine Ev.bind (clients_ev l a hs) (Ev.bind (refClients_ev l a hn hs) (Ev.bind (sameAccs_refl _ (by omega)) (Ev.pos rfl ?_)))
  refine spoil_loop l a _ _ hc ?_ _ 0 _ rfl (Nat.zero_le _) rfl
  exact Ev.bind (clients_ev l a hs) (Ev.bind (sameAccs_refl _ (by omega)) (Ev.pos rfl (Ev.bind goes_ev (Ev.val _))))
end Go.Proofs.Ytdhmckgagffgkaa.Pure
