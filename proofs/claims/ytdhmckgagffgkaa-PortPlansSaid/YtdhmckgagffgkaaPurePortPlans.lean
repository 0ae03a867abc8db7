/- Of any offers, members and gaps: who takes which client, who is left, or why that is not told, is what the document says: the law, as a statement over numbers and lists. -/
import Derived.Test.YtdhmckgagffgkaaArgPortPlans
namespace Go.Proofs.Ytdhmckgagffgkaa.Pure
set_option linter.unusedSimpArgs false
set_option linter.unusedVariables false
open Go.RowKit Go.Proofs.Ytdhmckgagffgkaa.PPortPlans Go.Proofs.Ytdhmckgagffgkaa.Opens Go.Proofs.YtdhmckgagffgkaaW.PrintWords Go.Proofs.YtdhmckgagffgkaaW.PrintLast
/-- Comes to r, at all large numbers of rounds. -/
def Ev {α : Type} (g : Nat → Option α) (r : α) : Prop := ∃ K, ∀ k, K ≤ k → g k = some r
theorem Ev.shift {α : Type} {g : Nat → Option α} {r : α} (h : Ev (fun k => g (k + 1)) r) : Ev g r := by
  obtain ⟨K, h⟩ := h
  refine ⟨K + 1, fun k hk => ?_⟩
  obtain ⟨m, rfl⟩ : ∃ m, k = m + 1 := ⟨k - 1, by omega⟩
  exact h m (by omega)
theorem Ev.val {α : Type} (r : α) : Ev (fun _ => some r) r := ⟨0, fun _ _ => rfl⟩
theorem Ev.bind {α β : Type} {g : Nat → Option α} {f : Nat → α → Option β} {x : α} {r : β} (h : Ev g x) (h' : Ev (fun k => f k x) r) : Ev (fun k => (g k).bind (f k)) r := by
  obtain ⟨K, h⟩ := h
  obtain ⟨K', h'⟩ := h'
  exact ⟨max K K', fun k hk => by show (g k).bind (f k) = some r; rw [h k (by omega)]; exact h' k (by omega)⟩
theorem Ev.get {α : Type} {g : Nat → Option α} {r : α} (h : Ev g r) : ∃ k, g k = some r := by
  obtain ⟨K, h⟩ := h
  exact ⟨K, h K (Nat.le_refl _)⟩
theorem Ev.of {α : Type} {g : Nat → Option α} {r : α} {k0 : Nat} (h : g k0 = some r) (hm : ∀ k, LeO (g k) (g (k + 1))) : Ev g r := ⟨k0, fun _ hk => at_rounds hm hk h⟩
theorem Ev.pos {α : Type} {c : Prop} [Decidable c] {a b : Nat → Option α} {r : α} (hc : c) (h : Ev a r) : Ev (fun k => if c then a k else b k) r := by
  obtain ⟨K, h⟩ := h
  exact ⟨K, fun k hk => by show (if c then a k else b k) = some r; rw [if_pos hc]; exact h k hk⟩
theorem Ev.neg {α : Type} {c : Prop} [Decidable c] {a b : Nat → Option α} {r : α} (hc : ¬ c) (h : Ev b r) : Ev (fun k => if c then a k else b k) r := by
  obtain ⟨K, h⟩ := h
  exact ⟨K, fun k hk => by show (if c then a k else b k) = some r; rw [if_neg hc]; exact h k hk⟩
/-- Both ways, each where it is taken. -/
theorem Ev.ite {α : Type} {c : Prop} [Decidable c] {a b : Nat → Option α} {r : α} (h : c → Ev a r) (h' : ¬ c → Ev b r) : Ev (fun k => if c then a k else b k) r := by
  by_cases hc : c
  · exact Ev.pos hc (h hc)
  · exact Ev.neg hc (h' hc)
theorem wrap_small {n : Int} (h0 : -9223372036854775808 ≤ n) (h1 : n ≤ 9223372036854775807) : wrap64 n = n := by unfold wrap64; omega
/-- Both ways, each with its own end. -/
theorem Ev.both {α : Type} {c : Prop} [Decidable c] {a b : Nat → Option α} {r s : α} (h : c → Ev a r) (h' : ¬ c → Ev b s) : Ev (fun k => if c then a k else b k) (if c then r else s) := by
  by_cases hc : c
  · rw [if_pos hc]; exact Ev.pos hc (h hc)
  · rw [if_neg hc]; exact Ev.neg hc (h' hc)
theorem Ev.valOf {α : Type} {r s : α} (h : s = r) : Ev (fun _ => some r) s := by subst h; exact Ev.val _
theorem refName_loop (s : ByteArray) (hs : s.size ≤ 9223372036854775806) (d : Nat) : ∀ i : Nat, 1 ≤ i → s.size - i = d → i ≤ s.size → Ev (fun k => contangoref03_Name.l0 k s i) (restB s d i && decide (0 < s.size) && decide (s.size ≤ 12)) := by
  induction d with
  | zero =>
    intro i h1 hd hi
    refine Ev.shift ?_
    simp only [contangoref03_Name.l0]
    refine Ev.neg (by omega) (Ev.pos (by omega) ?_)
    have e1 : decide ((s.size : Int) ≤ 12) = decide (s.size ≤ 12) := decide_eq_decide.mpr (by omega)
    have e2 : decide (0 < s.size) = true := decide_eq_true (by omega)
    rw [e1, e2]
    exact Ev.val _
  | succ d ih =>
    intro i h1 hd hi
    refine Ev.shift ?_
    simp only [contangoref03_Name.l0]
    have hw : wrap64 ((i : Int) + 1) = ((i + 1 : Nat) : Int) := by unfold wrap64; omega
    have h := ih (i + 1) (by omega) (by omega) (by omega)
    rw [hw]
    refine Ev.pos (by omega) (Ev.pos (by omega) ?_)
    simp only [restB, letB, digB]
    by_cases c1 : 97 ≤ bt s i
    · by_cases c2 : bt s i ≤ 122
      · simpa [c1, c2] using h
      · have c3 : ¬ bt s i < 48 := by omega
        have c4 : 57 < bt s i := by omega
        have c5 : ¬ bt s i ≤ 57 := by omega
        have c6 : ¬ (i : Int) = 0 := by omega
        simp only [c1, c2, c3, c4, c5, c6, ge_iff_le, gt_iff_lt, if_true, if_false, decide_true, decide_false, Bool.and_false, Bool.or_false, Bool.false_and]
        exact Ev.val _
    · by_cases c3 : bt s i < 48
      · have c6 : ¬ (i : Int) = 0 := by omega
        have c7 : ¬ 48 ≤ bt s i := by omega
        simp only [c1, c3, c6, c7, ge_iff_le, gt_iff_lt, if_true, if_false, decide_false, Bool.false_and, Bool.or_false]
        exact Ev.val _
      · have c6 : ¬ (i : Int) = 0 := by omega
        have c7 : 48 ≤ bt s i := by omega
        by_cases c4 : 57 < bt s i
        · have c5 : ¬ bt s i ≤ 57 := by omega
          simp only [c1, c3, c4, c5, c6, c7, ge_iff_le, gt_iff_lt, if_true, if_false, decide_true, decide_false, Bool.and_false, Bool.false_and, Bool.or_false]
          exact Ev.val _
        · have c5 : bt s i ≤ 57 := by omega
          simp only [c1, c3, c4, c5, c6, c7, ge_iff_le, gt_iff_lt, if_true, if_false, decide_true, decide_false, Bool.and_true, Bool.false_and, Bool.true_and, Bool.false_or]
          exact h
/-- What the document says of a name is what the code says. -/
theorem refName (s : ByteArray) (hs : s.size ≤ 9223372036854775806) : Ev (fun k => contangoref03_Name.f k s) (nameB s) := by
  simp only [contangoref03_Name.f]
  refine Ev.shift ?_
  simp only [contangoref03_Name.l0]
  by_cases h0 : s.size = 0
  · refine Ev.neg (by omega) (Ev.neg (by omega) ?_)
    have : nameB s = false := by simp [nameB, h0]
    rw [this]
    exact Ev.val _
  · have hw : wrap64 ((0 : Int) + 1) = ((1 : Nat) : Int) := by unfold wrap64; omega
    have h := refName_loop s hs (s.size - 1) 1 (by omega) (by omega) (by omega)
    refine Ev.pos (by omega) (Ev.pos (by omega) ?_)
    rw [hw]
    have hd : decide (0 < s.size) = true := decide_eq_true (by omega)
    obtain ⟨d, hdd⟩ : ∃ d, s.size = d + 1 := ⟨s.size - 1, by omega⟩
    have hn : nameB s = (letB (bt s 0) && (restB s (s.size - 1) 1 && decide (0 < s.size) && decide (s.size ≤ 12))) := by
      rw [hd]
      simp only [nameB, hd]
      rw [show restB s s.size 0 = ((letB (bt s 0) || digB (bt s 0)) && restB s (s.size - 1) 1) from by rw [hdd]; rfl]
      cases letB (bt s 0) <;> cases decide (s.size ≤ 12) <;> cases restB s (s.size - 1) 1 <;> simp
    rw [hn]
    simp only [letB]
    by_cases c1 : 97 ≤ bt s 0
    · by_cases c2 : bt s 0 ≤ 122
      · simp only [c1, c2, ge_iff_le, if_true, decide_true, Bool.true_and]
        exact h
      · simp only [c1, c2, ge_iff_le, if_true, if_false, decide_true, decide_false, Bool.and_false, Bool.false_and]
        exact Ev.val _
    · simp only [c1, ge_iff_le, if_true, if_false, decide_false, Bool.false_and]
      exact Ev.val _
theorem refAccounts_loop (l : List S61) (hn : l.length ≤ 16) (hs : ∀ y ∈ l, y.f0.size ≤ 9223372036854775806) (d : Nat) : ∀ i : Nat, l.length - i = d → i ≤ l.length → Ev (fun k => contangoref11_accounts.l0 k l i) (firstErr (aErr l) d i) := by
  induction d with
  | zero =>
    intro i hd hi
    refine Ev.shift ?_
    simp only [contangoref11_accounts.l0]
    exact Ev.neg (by omega) (Ev.val _)
  | succ d ih =>
    intro i hd hi
    have hw : wrap64 ((i : Int) + 1) = ((i + 1 : Nat) : Int) := by unfold wrap64; omega
    have h := ih (i + 1) (by omega) (by omega)
    have hil : i < l.length := by omega
    have hsz : (rd_T61 l i).f0.size ≤ 9223372036854775806 := by
      have : rd_T61 l i = l[i] := by simp [rd_T61, hil]
      rw [this]
      exact hs _ (List.getElem_mem hil)
    refine Ev.shift ?_
    simp only [contangoref11_accounts.l0]
    refine Ev.pos (by omega) (Ev.pos (by omega) (Ev.bind (refName _ hsz) ?_))
    have hf : firstErr (aErr l) (d + 1) i = if aErr l i = 0 then firstErr (aErr l) d (i + 1) else aErr l i := rfl
    rw [hf]
    by_cases hnm : nameB (rd_T61 l i).f0 = true
    · refine Ev.pos hnm ?_
      have key : ∀ b : Bool, (b = true ↔ (0 < (i : Int) ∧ Op.bytesLess (rd_T61 l ((i : Int) - 1)).f0.toList (rd_T61 l i).f0.toList = false)) → Ev (fun k => contangoref11_accounts.j1 k l i b) (if aErr l i = 0 then firstErr (aErr l) d (i + 1) else aErr l i) := by
        intro b hb
        refine Ev.shift ?_
        simp only [contangoref11_accounts.j1, hw]
        refine Ev.ite (fun hbt => ?_) (fun hbt => ?_)
        · have : aErr l i = 12 := by
            have hst : stepErr (fun j => (rd_T61 l j).f0) i = 12 := by simp only [stepErr]; rw [if_pos hnm, if_pos (hb.mp hbt)]
            simp [aErr, hst]
          rw [this]
          exact Ev.val _
        · have hst : stepErr (fun j => (rd_T61 l j).f0) i = 0 := by simp only [stepErr]; rw [if_pos hnm, if_neg (fun hh => hbt (hb.mpr hh))]
          refine Ev.pos (by omega) (Ev.pos (by omega) (Ev.ite (fun c1 => ?_) (fun c1 => Ev.ite (fun c2 => ?_) (fun c2 => ?_))))
          · have : aErr l i = 21 := by simp only [aErr, hst, if_true]; rw [if_neg (by omega)]
            rw [this]
            exact Ev.val _
          · have : aErr l i = 21 := by simp only [aErr, hst, if_true]; rw [if_neg (by omega)]
            rw [this]
            exact Ev.val _
          · have : aErr l i = 0 := by simp only [aErr, hst, if_true]; rw [if_pos (by omega)]
            rw [if_pos this]
            exact h
      refine Ev.ite (fun c => ?_) (fun c => ?_)
      · have hw1 : wrap64 ((i : Int) - 1) = (i : Int) - 1 := by unfold wrap64; omega
        rw [hw1]
        refine Ev.pos (by omega) (Ev.pos (by omega) (key _ ?_))
        have c' : 0 < (i : Int) := c
        have c'' : 0 < i := by omega
        simp [c'']
      · exact key _ (by simp only [Bool.false_eq_true, false_iff]; intro hh; exact c hh.1)
    · refine Ev.neg hnm ?_
      have : aErr l i = 10 := by
        have hst : stepErr (fun j => (rd_T61 l j).f0) i = 10 := by simp only [stepErr]; rw [if_neg hnm]
        simp [aErr, hst]
      rw [this]
      exact Ev.val _
theorem refAccounts (l : List S61) (hs : ∀ y ∈ l, y.f0.size ≤ 9223372036854775806) : Ev (fun k => contangoref11_accounts.f k l) (if 16 < l.length then 8 else firstErr (aErr l) l.length 0) := by
  simp only [contangoref11_accounts.f]
  refine Ev.ite (fun c => ?_) (fun c => ?_)
  · rw [if_pos (by omega)]
    exact Ev.val _
  · rw [if_neg (by omega)]
    exact refAccounts_loop l (by omega) hs l.length 0 (by omega) (by omega)
theorem refCheck_loop (l : List S55) (hn : l.length ≤ 32) (hs : ∀ y ∈ l, y.f0.size ≤ 9223372036854775806 ∧ ∀ z ∈ y.f2, z.f0.size ≤ 9223372036854775806) (d : Nat) : ∀ i : Nat, l.length - i = d → i ≤ l.length → Ev (fun k => contangoref11_Check.l0 k l i) (firstErr (mErr l) d i) := by
  induction d with
  | zero =>
    intro i hd hi
    refine Ev.shift ?_
    simp only [contangoref11_Check.l0]
    exact Ev.neg (by omega) (Ev.val _)
  | succ d ih =>
    intro i hd hi
    have hw : wrap64 ((i : Int) + 1) = ((i + 1 : Nat) : Int) := by unfold wrap64; omega
    have h := ih (i + 1) (by omega) (by omega)
    have hil : i < l.length := by omega
    obtain ⟨hsz, hsa⟩ : (rd_T55 l i).f0.size ≤ 9223372036854775806 ∧ ∀ z ∈ (rd_T55 l i).f2, z.f0.size ≤ 9223372036854775806 := by
      have : rd_T55 l i = l[i] := by simp [rd_T55, hil]
      rw [this]
      exact hs _ (List.getElem_mem hil)
    refine Ev.shift ?_
    simp only [contangoref11_Check.l0]
    refine Ev.pos (by omega) (Ev.pos (by omega) (Ev.bind (refName _ hsz) ?_))
    have hf : firstErr (mErr l) (d + 1) i = if mErr l i = 0 then firstErr (mErr l) d (i + 1) else mErr l i := rfl
    rw [hf]
    by_cases hnm : nameB (rd_T55 l i).f0 = true
    · refine Ev.pos hnm ?_
      have key : ∀ b : Bool, (b = true ↔ (0 < (i : Int) ∧ Op.bytesLess (rd_T55 l ((i : Int) - 1)).f0.toList (rd_T55 l i).f0.toList = false)) → Ev (fun k => contangoref11_Check.j1 k l i b) (if mErr l i = 0 then firstErr (mErr l) d (i + 1) else mErr l i) := by
        intro b hb
        refine Ev.shift ?_
        simp only [contangoref11_Check.j1]
        refine Ev.ite (fun hbt => ?_) (fun hbt => ?_)
        · have : mErr l i = 12 := by
            have hst : stepErr (fun j => (rd_T55 l j).f0) i = 12 := by simp only [stepErr]; rw [if_pos hnm, if_pos (hb.mp hbt)]
            simp [mErr, hst]
          rw [this]
          exact Ev.val _
        · have hst : stepErr (fun j => (rd_T55 l j).f0) i = 0 := by simp only [stepErr]; rw [if_pos hnm, if_neg (fun hh => hbt (hb.mpr hh))]
          have key2 : ∀ b : Bool, (b = true ↔ ((rd_T55 l i).f1 < 1 ∨ 4 < (rd_T55 l i).f1)) → Ev (fun k => contangoref11_Check.j2 k l i b) (if mErr l i = 0 then firstErr (mErr l) d (i + 1) else mErr l i) := by
            intro b hb2
            refine Ev.shift ?_
            simp only [contangoref11_Check.j2, hw]
            refine Ev.ite (fun hbt2 => ?_) (fun hbt2 => ?_)
            · have : mErr l i = 13 := by simp only [mErr, hst, if_true]; rw [if_pos (hb2.mp hbt2)]
              rw [this]
              exact Ev.val _
            · have hm : mErr l i = (if 16 < (rd_T55 l i).f2.length then 8 else firstErr (aErr (rd_T55 l i).f2) (rd_T55 l i).f2.length 0) := by simp only [mErr, hst, if_true]; rw [if_neg (fun hh => hbt2 (hb2.mpr hh))]
              refine Ev.pos (by omega) (Ev.pos (by omega) (Ev.bind (refAccounts _ hsa) ?_))
              rw [← hm]
              refine Ev.ite (fun c => ?_) (fun c => ?_)
              · rw [if_pos c]
                exact h
              · rw [if_neg c]
                exact Ev.val _
          refine Ev.pos (by omega) (Ev.pos (by omega) (Ev.ite (fun c1 => ?_) (fun c1 => ?_)))
          · exact key2 _ (by simp [c1])
          · exact key2 _ (by simp; omega)
      refine Ev.ite (fun c => ?_) (fun c => ?_)
      · have hw1 : wrap64 ((i : Int) - 1) = (i : Int) - 1 := by unfold wrap64; omega
        rw [hw1]
        refine Ev.pos (by omega) (Ev.pos (by omega) (key _ ?_))
        have c' : 0 < (i : Int) := c
        have c'' : 0 < i := by omega
        simp [c'']
      · exact key _ (by simp only [Bool.false_eq_true, false_iff]; intro hh; exact c hh.1)
    · refine Ev.neg hnm ?_
      have : mErr l i = 10 := by
        have hst : stepErr (fun j => (rd_T55 l j).f0) i = 10 := by simp only [stepErr]; rw [if_neg hnm]
        simp [mErr, hst]
      rw [this]
      exact Ev.val _
/-- What the document says of members is what the code says. -/
theorem refCheck (l : List S55) (hs : ∀ y ∈ l, y.f0.size ≤ 9223372036854775806 ∧ ∀ z ∈ y.f2, z.f0.size ≤ 9223372036854775806) : Ev (fun k => contangoref11_Check.f k l) (if 32 < l.length then 8 else firstErr (mErr l) l.length 0) := by
  simp only [contangoref11_Check.f]
  refine Ev.ite (fun c => ?_) (fun c => ?_)
  · rw [if_pos (by omega)]
    exact Ev.val _
  · rw [if_neg (by omega)]
    exact refCheck_loop l (by omega) hs l.length 0 (by omega) (by omega)
theorem at_spec (a : ByteArray) (l : List S55) : ∀ i : Nat, (member_at.go a l i = -1 ∧ ∀ y ∈ l, y.f0.toList ≠ a.toList) ∨ ∃ j, ∃ h : j < l.length, member_at.go a l i = ((i + j : Nat) : Int) ∧ l[j].f0.toList = a.toList := by
  induction l with
  | nil => intro i; exact Or.inl ⟨rfl, fun y hy => by cases hy⟩
  | cons x r ih =>
    intro i
    simp only [member_at.go]
    by_cases c : x.f0.toList = a.toList
    · rw [if_pos c]
      exact Or.inr ⟨0, by simp, by simp, c⟩
    · rw [if_neg c, show ((i : Int) + 1) = ((i + 1 : Nat) : Int) from by omega]
      rcases ih (i + 1) with h | ⟨j, hj, h1, h2⟩
      · refine Or.inl ⟨h.1, fun y hy => ?_⟩
        rcases List.mem_cons.mp hy with rfl | hy
        · exact c
        · exact h.2 y hy
      · exact Or.inr ⟨j + 1, by simpa using hj, by rw [h1]; omega, by simpa using h2⟩
theorem at_none {a : ByteArray} {l : List S55} (h : member_at.go a l 0 < 0) : ∀ y ∈ l, y.f0.toList ≠ a.toList := by
  rcases at_spec a l 0 with c | ⟨j, hj, h1, _⟩
  · exact c.2
  · have : member_at.go a l 0 = ((0 + j : Nat) : Int) := h1
    omega
theorem at_some {a : ByteArray} {l : List S55} (h : ¬ member_at.go a l 0 < 0) : ∃ j, ∃ hj : j < l.length, member_at.go a l 0 = (j : Int) ∧ l[j].f0.toList = a.toList := by
  rcases at_spec a l 0 with c | ⟨j, hj, h1, h2⟩
  · exact absurd (by rw [show member_at.go a l 0 = -1 from c.1]; omega) h
  · exact ⟨j, hj, by have : member_at.go a l 0 = ((0 + j : Nat) : Int) := h1; omega, h2⟩
/-- The first member of a name. -/
def findP (l : List S55) (name : ByteArray) : ByteArray × Int × List S61 × Bool :=
  if member_at.go name l 0 < 0 then ((⟨#[]⟩ : ByteArray), 0, ([] : List S61), false) else ((rd_T55 l (member_at.go name l 0)).f0, (rd_T55 l (member_at.go name l 0)).f1, (rd_T55 l (member_at.go name l 0)).f2, true)
theorem rd45_mem (l : List S55) (i : Int) (h0 : 0 ≤ i) (h1 : i < l.length) : rd_T55 l i ∈ l := by
  have h : i.toNat < l.length := by omega
  have : rd_T55 l i = l[i.toNat] := by simp [rd_T55, h]
  rw [this]
  exact List.getElem_mem h
theorem at_bounds (l : List S55) (name : ByteArray) (h : ¬ member_at.go name l 0 < 0) : 0 ≤ member_at.go name l 0 ∧ member_at.go name l 0 < (l.length : Int) := by
  obtain ⟨j, hj, h1, _⟩ := at_some h
  exact ⟨by omega, by omega⟩
theorem findP_mem (l : List S55) (name : ByteArray) (Q : S61 → Prop) (h : ∀ y ∈ l, ∀ z ∈ y.f2, Q z) : ∀ z ∈ (findP l name).2.2.1, Q z := by
  unfold findP
  split
  · intro z hz
    cases hz
  · rename_i c
    have b := at_bounds l name c
    exact h _ (rd45_mem l _ b.1 b.2)
theorem findP_len (l : List S55) (name : ByteArray) (N : Nat) (h : ∀ y ∈ l, y.f2.length ≤ N) : (findP l name).2.2.1.length ≤ N := by
  unfold findP
  split
  · exact Nat.zero_le _
  · rename_i c
    have b := at_bounds l name c
    exact h _ (rd45_mem l _ b.1 b.2)
theorem find_some (l : List S55) (name : ByteArray) (hs : ∀ y ∈ l, y.f2.length * 24 ≤ 140737488351232) : member_Find.f l name = some (findP l name) := by
  simp only [member_Find.f, member_at.f, Option.bind_some, findP]
  by_cases c : member_at.go name l 0 < 0
  · rw [if_pos c, if_pos c]
  · have b := at_bounds l name c
    have hz := hs _ (rd45_mem l _ b.1 b.2)
    rw [if_neg c, if_neg c, if_pos b.1, if_pos b.2]
    simp only [api_Account.f]
    rw [if_pos (by omega)]
    rfl
/-- The account at a place; none. -/
def accAt (l : List S61) (i : Int) : ByteArray × Int × Bool := if i < 0 then ((⟨#[]⟩ : ByteArray), 0, false) else ((rd_T61 l i).f0, (rd_T61 l i).f1, true)
/-- The first account of a name. -/
def accP (l : List S61) (name : ByteArray) : ByteArray × Int × Bool := accAt l (idxOf (fun x : S61 => x.f0.toList == name.toList) l 0)
theorem account_some (l : List S55) (a b : ByteArray) (hs : ∀ y ∈ l, y.f2.length * 24 ≤ 140737488351232) : member_Account.f l a b = some (accP (findP l a).2.2.1 b) := by
  simp only [member_Account.f, find_some l a hs, Option.bind_some, accP, accAt]
  split <;> rfl
theorem refPlace_loop (l : List S55) (hn : l.length ≤ 140737488351232) (name : ByteArray) (d : Nat) : ∀ i : Nat, l.length - i = d → i ≤ l.length → Ev (fun k => contangoref11_place.l0 k l name i) (member_at.go name (l.drop i) i) := by
  induction d with
  | zero =>
    intro i hd hi
    obtain rfl : i = l.length := by omega
    refine Ev.shift ?_
    simp only [contangoref11_place.l0, List.drop_length]
    exact Ev.neg (by omega) (Ev.val _)
  | succ d ih =>
    intro i hd hi
    have hw : wrap64 ((i : Int) + 1) = ((i + 1 : Nat) : Int) := by unfold wrap64; omega
    have h := ih (i + 1) (by omega) (by omega)
    rw [member_at.go_drop name l i (by omega)]
    refine Ev.shift ?_
    simp only [contangoref11_place.l0, hw]
    refine Ev.pos (by omega) (Ev.pos (by omega) ?_)
    by_cases c : (rd_T55 l i).f0.toList = name.toList
    · rw [if_pos c]
      exact Ev.pos c (Ev.val _)
    · rw [if_neg c]
      exact Ev.neg c h
theorem refPlace (l : List S55) (hn : l.length ≤ 140737488351232) (name : ByteArray) : Ev (fun k => contangoref11_place.f k l name) (member_at.go name l 0) := by
  simp only [contangoref11_place.f]
  have := refPlace_loop l hn name l.length 0 (by omega) (by omega)
  simpa using this
theorem refFind (l : List S55) (hn : l.length ≤ 140737488351232) (name : ByteArray) : Ev (fun k => contangoref11_Find.f k l name) (findP l name) := by
  simp only [contangoref11_Find.f, findP]
  refine Ev.bind (refPlace l hn name) ?_
  exact Ev.both (fun c => Ev.val _) (fun c => Ev.pos (at_bounds l name c).1 (Ev.pos (at_bounds l name c).2 (Ev.val _)))
theorem refAccount_loop (l : List S61) (hn : l.length ≤ 140737488351232) (a b c : ByteArray) (e : Int) (d : Nat) : ∀ i : Nat, l.length - i = d → i ≤ l.length →
    Ev (fun k => contangoref11_Account.l0 k i a b c e l) (accAt l (idxOf (fun x : S61 => x.f0.toList == b.toList) (l.drop i) i)) := by
  induction d with
  | zero =>
    intro i hd hi
    obtain rfl : i = l.length := by omega
    refine Ev.shift ?_
    simp only [contangoref11_Account.l0, List.drop_length, idxOf, accAt]
    exact Ev.neg (by omega) (Ev.val _)
  | succ d ih =>
    intro i hd hi
    have hw : wrap64 ((i : Int) + 1) = ((i + 1 : Nat) : Int) := by unfold wrap64; omega
    have h := ih (i + 1) (by omega) (by omega)
    have hdr := idxOf_drop (fun x : S61 => x.f0.toList == b.toList) l z61 i (by omega)
    rw [hdr]
    refine Ev.shift ?_
    simp only [contangoref11_Account.l0, hw]
    refine Ev.pos (by omega) (Ev.pos (by omega) ?_)
    have e1 : l.getD i z61 = rd_T61 l i := by simp [rd_T61]
    rw [e1]
    by_cases hc : (rd_T61 l i).f0.toList = b.toList
    · rw [if_pos (by simpa using hc)]
      refine Ev.pos hc ?_
      simp only [accAt]
      rw [if_neg (by omega)]
      exact Ev.val _
    · rw [if_neg (by simpa using hc)]
      exact Ev.neg hc h
theorem refAccount (l : List S55) (hn : l.length ≤ 140737488351232) (hs : ∀ y ∈ l, y.f2.length ≤ 140737488351232) (a b : ByteArray) : Ev (fun k => contangoref11_Account.f k l a b) (accP (findP l a).2.2.1 b) := by
  simp only [contangoref11_Account.f]
  refine Ev.bind (refFind l hn a) ?_
  have := refAccount_loop (findP l a).2.2.1 (findP_len l a _ hs) a b (findP l a).1 (findP l a).2.1 _ 0 rfl (Nat.zero_le _)
  simpa [accP] using this
/-- What is wrong with members. -/
def chk (l : List S55) : Int := if 32 < l.length then 8 else firstErr (mErr l) l.length 0
theorem check_ev (l : List S55) : Ev (fun _ => member_Check.f l) (chk l) := Ev.val _
theorem chk_len {l : List S55} (h : chk l = 0) : l.length ≤ 32 := by
  unfold chk at h
  split at h
  · cases h
  · omega
theorem firstErr_none (f : Nat → Int) (d : Nat) : ∀ i, firstErr f d i = 0 → ∀ j, i ≤ j → j < i + d → f j = 0 := by
  induction d with
  | zero => intro i _ j h1 h2; omega
  | succ d ih =>
    intro i h j h1 h2
    simp only [firstErr] at h
    by_cases c : f i = 0
    · rw [if_pos c] at h
      by_cases e : i = j
      · subst e; exact c
      · exact ih (i + 1) h j (by omega) (by omega)
    · rw [if_neg c] at h; exact absurd h c
theorem chk_mErr {l : List S55} (h : chk l = 0) (i : Nat) (hi : i < l.length) : mErr l i = 0 := by
  have hl := chk_len h
  unfold chk at h
  rw [if_neg (by omega)] at h
  exact firstErr_none _ _ _ h i (Nat.zero_le _) (by omega)
theorem chk_few {l : List S55} (h : chk l = 0) : ∀ y ∈ l, y.f2.length ≤ 16 := by
  intro y hy
  obtain ⟨i, hi, rfl⟩ := List.getElem_of_mem hy
  have hm := chk_mErr h i hi
  have e : rd_T55 l (i : Int) = l[i] := by simp [rd_T55, hi]
  unfold mErr at hm
  rw [e] at hm
  by_cases c : stepErr (fun j => (rd_T55 l j).f0) i = 0
  · rw [if_pos c] at hm
    by_cases c2 : l[i].f1 < 1 ∨ 4 < l[i].f1
    · rw [if_pos c2] at hm; omega
    · rw [if_neg c2] at hm
      by_cases c3 : 16 < l[i].f2.length
      · rw [if_pos c3] at hm; omega
      · omega
  · rw [if_neg c] at hm; exact absurd hm c
theorem chk_kinds {l : List S55} (h : chk l = 0) : ∀ y ∈ l, ∀ z ∈ y.f2, 1 ≤ z.f1 ∧ z.f1 ≤ 3 := by
  intro y hy z hz
  obtain ⟨i, hi, rfl⟩ := List.getElem_of_mem hy
  have hm := chk_mErr h i hi
  have e : rd_T55 l (i : Int) = l[i] := by simp [rd_T55, hi]
  unfold mErr at hm
  rw [e] at hm
  by_cases c : stepErr (fun j => (rd_T55 l j).f0) i = 0
  · rw [if_pos c] at hm
    by_cases c2 : l[i].f1 < 1 ∨ 4 < l[i].f1
    · rw [if_pos c2] at hm; omega
    · rw [if_neg c2] at hm
      by_cases c3 : 16 < l[i].f2.length
      · rw [if_pos c3] at hm; omega
      · rw [if_neg c3] at hm
        obtain ⟨j, hj, rfl⟩ := List.getElem_of_mem hz
        have ha := firstErr_none _ _ _ hm j (Nat.zero_le _) (by omega)
        have e2 : rd_T61 l[i].f2 (j : Int) = l[i].f2[j] := by simp [rd_T61, hj]
        unfold aErr at ha
        rw [e2] at ha
        by_cases d : stepErr (fun j_1 => (rd_T61 l[i].f2 j_1).f0) j = 0
        · rw [if_pos d] at ha
          by_cases d2 : 1 ≤ l[i].f2[j].f1 ∧ l[i].f2[j].f1 ≤ 3
          · exact d2
          · rw [if_neg d2] at ha; omega
        · rw [if_neg d] at ha; exact absurd ha d
  · rw [if_neg c] at hm; exact absurd hm c
theorem sameAccs_loop (l : List S45) (hn : l.length ≤ 140737488351232) (d : Nat) : ∀ i : Nat, l.length - i = d → i ≤ l.length → Ev (fun k => contangoref11_SameAccs.l0 k l l i) true := by
  induction d with
  | zero =>
    intro i hd hi
    refine Ev.shift ?_
    simp only [contangoref11_SameAccs.l0]
    exact Ev.neg (by omega) (Ev.val _)
  | succ d ih =>
    intro i hd hi
    have hw : wrap64 ((i : Int) + 1) = ((i + 1 : Nat) : Int) := by unfold wrap64; omega
    have h := ih (i + 1) (by omega) (by omega)
    refine Ev.shift ?_
    simp only [contangoref11_SameAccs.l0, hw]
    exact Ev.pos (by omega) (Ev.pos (by omega) (Ev.pos (by omega) (Ev.neg (by simp) h)))
theorem sameAccs_refl (l : List S45) (hn : l.length ≤ 140737488351232) : Ev (fun k => contangoref11_SameAccs.f k l l) true := by
  simp only [contangoref11_SameAccs.f]
  exact Ev.pos trivial (sameAccs_loop l hn _ 0 rfl (Nat.zero_le _))
/-- The accounts of clients among accounts. -/
def clientsOf (nm : ByteArray) (l : List S61) : List S45 := (l.filter fun a => !(a.f1 == 1)).map fun a => ⟨nm, a.f0⟩
theorem clientsOf_drop (nm : ByteArray) (l : List S61) (i : Nat) (h : i < l.length) :
    clientsOf nm (l.drop i) = if (rd_T61 l i).f1 = 1 then clientsOf nm (l.drop (i + 1)) else (⟨nm, (rd_T61 l i).f0⟩ : S45) :: clientsOf nm (l.drop (i + 1)) := by
  have e : l.drop i = rd_T61 l i :: l.drop (i + 1) := by
    rw [List.drop_eq_getElem_cons h]
    simp [rd_T61, h]
  rw [e]
  unfold clientsOf
  by_cases c : (rd_T61 l i).f1 = 1
  · rw [if_pos c, List.filter_cons_of_neg (by simp [c])]
  · rw [if_neg c, List.filter_cons_of_pos (by simp [c])]
    rfl
theorem clientsOf_len (nm : ByteArray) (l : List S61) : (clientsOf nm l).length ≤ l.length := by
  unfold clientsOf
  rw [List.length_map]
  exact List.length_filter_le _ _
def whatP (n : Int) : Int := if n = 1 then 1 else if n = 2 then 2 else if n = 3 then 2 else 0
theorem what_ev (n : Int) : Ev (fun _ => port_what.f n) (whatP n) :=
  Ev.both (fun _ => Ev.val _) (fun _ => Ev.both (fun _ => Ev.val _) (fun _ => Ev.both (fun _ => Ev.val _) (fun _ => Ev.val _)))
theorem what_house (n : Int) : whatP n = 1 ↔ n = 1 := by
  unfold whatP
  constructor
  · intro h
    by_cases c : n = 1
    · exact c
    · rw [if_neg c] at h
      split at h
      · omega
      · split at h <;> omega
  · intro h; rw [if_pos h]
theorem clients_loop (nm : ByteArray) (st : Int) (l : List S61) (hn : l.length ≤ 2000000) (d : Nat) : ∀ (i : Nat) (out : List S45), l.length - i = d → i ≤ l.length → out.length + d ≤ 4000000 →
    Ev (fun k => port_Clients.l0 k out l (l.length : Int) i nm st l) (out ++ clientsOf nm (l.drop i)) := by
  induction d with
  | zero =>
    intro i out hd hi hb
    obtain rfl : i = l.length := by omega
    refine Ev.shift ?_
    simp only [port_Clients.l0, List.drop_length, clientsOf, List.filter_nil, List.map_nil, List.append_nil]
    exact Ev.neg (by omega) (Ev.val _)
  | succ d ih =>
    intro i out hd hi hb
    have hw : wrap64 ((i : Int) + 1) = ((i + 1 : Nat) : Int) := by unfold wrap64; omega
    rw [clientsOf_drop nm l i (by omega)]
    refine Ev.shift ?_
    simp only [port_Clients.l0, hw]
    refine Ev.pos (by omega) (Ev.pos (by omega) (Ev.pos (by omega) (Ev.bind (what_ev _) ?_)))
    by_cases c : (rd_T61 l i).f1 = 1
    · rw [if_pos c]
      exact Ev.pos ((what_house _).mpr c) (ih (i + 1) out (by omega) (by omega) (by omega))
    · rw [if_neg c]
      have h := ih (i + 1) (out ++ [(⟨nm, (rd_T61 l i).f0⟩ : S45)]) (by omega) (by omega) (by simp; omega)
      exact Ev.neg (fun h => c ((what_house _).mp h)) (Ev.pos (by omega) (by simpa using h))
theorem refClients_loop (nm nm2 : ByteArray) (st : Int) (l : List S61) (hn : l.length ≤ 2000000) (d : Nat) : ∀ (i : Nat) (out : List S45), l.length - i = d → i ≤ l.length → out.length + d ≤ 4000000 →
    Ev (fun k => contangoref42_Clients.l0 k nm out i nm2 st l) (out ++ clientsOf nm (l.drop i)) := by
  induction d with
  | zero =>
    intro i out hd hi hb
    obtain rfl : i = l.length := by omega
    refine Ev.shift ?_
    simp only [contangoref42_Clients.l0, List.drop_length, clientsOf, List.filter_nil, List.map_nil, List.append_nil]
    exact Ev.neg (by omega) (Ev.val _)
  | succ d ih =>
    intro i out hd hi hb
    have hw : wrap64 ((i : Int) + 1) = ((i + 1 : Nat) : Int) := by unfold wrap64; omega
    rw [clientsOf_drop nm l i (by omega)]
    refine Ev.shift ?_
    simp only [contangoref42_Clients.l0, hw]
    refine Ev.pos (by omega) (Ev.pos (by omega) ?_)
    by_cases c : (rd_T61 l i).f1 = 1
    · rw [if_pos c]
      exact Ev.pos c (ih (i + 1) out (by omega) (by omega) (by omega))
    · rw [if_neg c]
      have h := ih (i + 1) (out ++ [(⟨nm, (rd_T61 l i).f0⟩ : S45)]) (by omega) (by omega) (by simp; omega)
      exact Ev.neg c (Ev.pos (by omega) (by simpa using h))
/-- The clients of a member. -/
def clP (l : List S55) (a : ByteArray) : List S45 := clientsOf a (findP l a).2.2.1
theorem clP_name (l : List S55) (a : ByteArray) : clientsOf (findP l a).1 (findP l a).2.2.1 = clP l a := by
  unfold clP
  by_cases c : member_at.go a l 0 < 0
  · unfold findP
    rw [if_pos c]
    rfl
  · obtain ⟨j, hj, h1, h2⟩ := at_some c
    have : (findP l a).1 = a := by
      unfold findP
      rw [if_neg c, h1]
      have e : rd_T55 l (j : Int) = l[j] := by simp [rd_T55, hj]
      rw [e]
      exact bytes_inj h2
    rw [this]
theorem clients_ev (l : List S55) (a : ByteArray) (hs : ∀ y ∈ l, y.f2.length ≤ 1048576) : Ev (fun k => port_Clients.f k l a) (clP l a) := by
  simp only [port_Clients.f]
  rw [find_some l a (fun y hy => by have := hs y hy; omega)]
  simp only [Option.bind_some]
  have hl := findP_len l a 1048576 hs
  have h := clients_loop (findP l a).1 (findP l a).2.1 (findP l a).2.2.1 (by omega) _ 0 [] rfl (Nat.zero_le _) (by simp; omega)
  rw [← clP_name]
  simpa using h
theorem refClients_ev (l : List S55) (a : ByteArray) (hn : l.length ≤ 140737488351232) (hs : ∀ y ∈ l, y.f2.length ≤ 1048576) : Ev (fun k => contangoref42_Clients.f k l a) (clP l a) := by
  simp only [contangoref42_Clients.f]
  refine Ev.bind (refFind l hn a) ?_
  have hl := findP_len l a 1048576 hs
  have h := refClients_loop a (findP l a).1 (findP l a).2.1 (findP l a).2.2.1 (by omega) _ 0 [] rfl (Nat.zero_le _) (by simp; omega)
  simpa [clP] using h
theorem clP_len (l : List S55) (a : ByteArray) (N : Nat) (hs : ∀ y ∈ l, y.f2.length ≤ N) : (clP l a).length ≤ N :=
  Nat.le_trans (clientsOf_len _ _) (findP_len l a N hs)
def O2 (x : S50) : S47 := ⟨x.f0, x.f1, x.f2⟩
def G2 (x : S52) : S62 := ⟨x.f0, x.f1, x.f2, x.f3⟩
theorem rdO (l : List S50) (i : Nat) (h : i < l.length) : rd_T50 l i = l[i] := by simp [rd_T50, h]
theorem rdG (l : List S52) (i : Nat) (h : i < l.length) : rd_T52 l i = l[i] := by simp [rd_T52, h]
theorem rdO2 (l : List S50) (i : Nat) (h : i < l.length) : rd_T47 (l.map O2) i = O2 (rd_T50 l i) := by
  rw [rdO l i h]
  simp [rd_T47, h]
theorem dropO (l : List S50) (i : Nat) (h : i < l.length) : l.drop i = rd_T50 l i :: l.drop (i + 1) := by
  rw [List.drop_eq_getElem_cons h, rdO l i h]
theorem dropG (l : List S52) (i : Nat) (h : i < l.length) : l.drop i = rd_T52 l i :: l.drop (i + 1) := by
  rw [List.drop_eq_getElem_cons h, rdG l i h]
theorem dropC (l : List S45) (i : Nat) (h : i < l.length) : l.drop i = rd_T45 l i :: l.drop (i + 1) := by
  rw [List.drop_eq_getElem_cons h]
  simp [rd_T45, h]
theorem offers_loop (l : List S50) (hn : l.length ≤ 5000) (d : Nat) : ∀ (i : Nat) (out : List S47), l.length - i = d → i ≤ l.length → out.length + d ≤ 20000 → Ev (fun k => contangolaw42_Offers.l0 k l out (l.length : Int) i) (out ++ (l.drop i).map O2) := by
  induction d with
  | zero =>
    intro i out hd hi hb
    obtain rfl : i = l.length := by omega
    refine Ev.shift ?_
    simp only [contangolaw42_Offers.l0, List.drop_length, List.map_nil, List.append_nil]
    exact Ev.neg (by omega) (Ev.val _)
  | succ d ih =>
    intro i out hd hi hb
    have hw : wrap64 ((i : Int) + 1) = ((i + 1 : Nat) : Int) := by unfold wrap64; omega
    have h := ih (i + 1) (out ++ [O2 (rd_T50 l i)]) (by omega) (by omega) (by simp; omega)
    rw [dropO l i (by omega)]
    refine Ev.shift ?_
    simp only [contangolaw42_Offers.l0, hw]
    refine Ev.pos (by omega) (Ev.pos (by omega) (Ev.pos (by omega) (Ev.pos (by omega) ?_)))
    simpa [O2] using h
theorem offers_ev (l : List S50) (hn : l.length ≤ 5000) : Ev (fun k => contangolaw42_Offers.f k l) (l.map O2) := by
  simp only [contangolaw42_Offers.f]
  simpa using offers_loop l hn _ 0 [] rfl (Nat.zero_le _) (by simp; omega)
theorem gaps_loop (l : List S52) (hn : l.length ≤ 5000) (d : Nat) : ∀ (i : Nat) (out : List S62), l.length - i = d → i ≤ l.length → out.length + d ≤ 20000 → Ev (fun k => contangolaw42_Gaps.l0 k l out (l.length : Int) i) (out ++ (l.drop i).map G2) := by
  induction d with
  | zero =>
    intro i out hd hi hb
    obtain rfl : i = l.length := by omega
    refine Ev.shift ?_
    simp only [contangolaw42_Gaps.l0, List.drop_length, List.map_nil, List.append_nil]
    exact Ev.neg (by omega) (Ev.val _)
  | succ d ih =>
    intro i out hd hi hb
    have hw : wrap64 ((i : Int) + 1) = ((i + 1 : Nat) : Int) := by unfold wrap64; omega
    have h := ih (i + 1) (out ++ [G2 (rd_T52 l i)]) (by omega) (by omega) (by simp; omega)
    rw [dropG l i (by omega)]
    refine Ev.shift ?_
    simp only [contangolaw42_Gaps.l0, hw]
    refine Ev.pos (by omega) (Ev.pos (by omega) (Ev.pos (by omega) (Ev.pos (by omega) ?_)))
    simpa [G2] using h
theorem gaps_ev (l : List S52) (hn : l.length ≤ 5000) : Ev (fun k => contangolaw42_Gaps.f k l) (l.map G2) := by
  simp only [contangolaw42_Gaps.f]
  simpa using gaps_loop l hn _ 0 [] rfl (Nat.zero_le _) (by simp; omega)
/-- What is wrong with an offer. -/
def oneP (m : List S55) (d : ByteArray) (x : S50) : Int :=
  if (accP (findP m x.f0.f0).2.2.1 x.f0.f1).2.2 = true ∧ (accP (findP m x.f0.f0).2.2.1 x.f0.f1).2.1 ≠ 1 ∧ x.f0.f0.toList = d.toList then
    (if (findP m x.f1.f0).2.2.2 = true ∧ (findP m x.f1.f0).2.1 = 1 then
      (if (accP (findP m x.f1.f0).2.2.1 x.f1.f1).2.2 = true ∧ (accP (findP m x.f1.f0).2.2.1 x.f1.f1).2.1 ≠ 1 ∧ (accP (findP m x.f1.f0).2.2.1 x.f1.f1).2.1 = (accP (findP m x.f0.f0).2.2.1 x.f0.f1).2.1 then
        (if x.f2 < 0 then 2 else if x.f2 > 1152921504606846976 then 2 else 0)
      else 21)
    else 20)
  else 21
theorem what_client (n : Int) (h : 1 ≤ n ∧ n ≤ 3) : (whatP n == 2) = true ↔ n ≠ 1 := by
  unfold whatP
  rcases (by omega : n = 1 ∨ n = 2 ∨ n = 3) with rfl | rfl | rfl <;> simp
/-- Kinds of accounts that are found. -/
def KindsOk (m : List S55) : Prop := ∀ y ∈ m, ∀ z ∈ y.f2, 1 ≤ z.f1 ∧ z.f1 ≤ 3
theorem accP_kind (m : List S55) (hk : KindsOk m) (a b : ByteArray) (h : (accP (findP m a).2.2.1 b).2.2 = true) : 1 ≤ (accP (findP m a).2.2.1 b).2.1 ∧ (accP (findP m a).2.2.1 b).2.1 ≤ 3 := by
  have hall := findP_mem m a (fun z => 1 ≤ z.f1 ∧ z.f1 ≤ 3) hk
  generalize (findP m a).2.2.1 = l at h hall ⊢
  unfold accP accAt at h ⊢
  by_cases c : idxOf (fun x : S61 => x.f0.toList == b.toList) l 0 < 0
  · rw [if_pos c] at h; cases h
  · rw [if_neg c] at h ⊢
    rcases idxOf_lt (fun x : S61 => x.f0.toList == b.toList) l 0 with e | e
    · omega
    · refine hall _ ?_
      generalize idxOf (fun x : S61 => x.f0.toList == b.toList) l 0 = j at c e
      have hj : j.toNat < l.length := by omega
      have : rd_T61 l j = l[j.toNat] := by simp [rd_T61, hj]
      rw [this]
      exact List.getElem_mem hj
/-- What the program asks of an account of a client. -/
theorem pclients_ev (m : List S55) (hs : ∀ y ∈ m, y.f2.length * 24 ≤ 140737488351232) (a b : ByteArray) :
    Ev (fun _ => port_clients.f m a b) ((accP (findP m a).2.2.1 b).2.1, (accP (findP m a).2.2.1 b).2.2 && (whatP (accP (findP m a).2.2.1 b).2.1 == 2)) := by
  simp only [port_clients.f, account_some m a b hs, Option.bind_some]
  generalize accP (findP m a).2.2.1 b = t
  refine Ev.ite (fun c => Ev.bind (what_ev _) (Ev.valOf (by simp [c]))) (fun c => Ev.valOf ?_)
  have : t.2.2 = false := by simpa using c
  simp [this]
theorem one_ev (m : List S55) (hk : KindsOk m) (hs : ∀ y ∈ m, y.f2.length * 24 ≤ 140737488351232) (d : ByteArray) (x : S50) :
    Ev (fun k => port_one.f k x.f0.f0 x.f0.f1 x.f1.f0 x.f1.f1 x.f2 m d) (oneP m d x) := by
  have k1 := accP_kind m hk x.f0.f0 x.f0.f1
  have k2 := accP_kind m hk x.f1.f0 x.f1.f1
  simp only [port_one.f]
  refine Ev.bind (pclients_ev m hs _ _) ?_
  unfold oneP
  have j2 : ∀ b : Bool, Ev (fun k => port_one.j2 k b x.f0.f0 x.f0.f1 x.f1.f0 x.f1.f1 x.f2) (if b = true then 21 else (if x.f2 < 0 then 2 else if x.f2 > 1152921504606846976 then 2 else 0)) := by
    intro b
    refine Ev.shift ?_
    simp only [port_one.j2]
    exact Ev.both (fun _ => Ev.val _) (fun _ => Ev.both (fun _ => Ev.val _) (fun _ => Ev.both (fun _ => Ev.val _) (fun _ => Ev.val _)))
  have j1 : ∀ b : Bool, Ev (fun k => port_one.j1 k m (accP (findP m x.f0.f0).2.2.1 x.f0.f1).2.1 b x.f0.f0 x.f0.f1 x.f1.f0 x.f1.f1 x.f2) (if b = true then 20 else (if (accP (findP m x.f1.f0).2.2.1 x.f1.f1).2.2 = true ∧ (accP (findP m x.f1.f0).2.2.1 x.f1.f1).2.1 ≠ 1 ∧ (accP (findP m x.f1.f0).2.2.1 x.f1.f1).2.1 = (accP (findP m x.f0.f0).2.2.1 x.f0.f1).2.1 then
        (if x.f2 < 0 then 2 else if x.f2 > 1152921504606846976 then 2 else 0)
      else 21)) := by
    intro b
    refine Ev.shift ?_
    simp only [port_one.j1]
    refine Ev.both (fun _ => Ev.val _) (fun _ => Ev.bind (pclients_ev m hs _ _) ?_)
    generalize accP (findP m x.f1.f0).2.2.1 x.f1.f1 = t at k2 ⊢
    generalize (accP (findP m x.f0.f0).2.2.1 x.f0.f1).2.1 = n
    by_cases c : t.2.2 = true
    · have hw := what_client _ (k2 c)
      by_cases c1 : t.2.1 = 1
      · rw [if_neg (fun h => h.2.1 c1)]
        refine Ev.neg (fun h => ?_) (j2 true)
        simp only [c, Bool.true_and] at h
        exact hw.mp h c1
      · refine Ev.pos (by simp only [c, Bool.true_and]; exact hw.mpr c1) ?_
        by_cases c2 : t.2.1 = n
        · rw [if_pos ⟨c, c1, c2⟩]
          have := j2 (t.2.1 != n)
          rwa [if_neg (by simp [c2])] at this
        · rw [if_neg (fun h => c2 h.2.2)]
          have := j2 (t.2.1 != n)
          rwa [if_pos (by simp [c2])] at this
    · rw [if_neg (fun h => c h.1)]
      exact Ev.neg (fun h => c (by simp only [Bool.and_eq_true] at h; exact h.1)) (j2 true)
  have j0 : ∀ b : Bool, Ev (fun k => port_one.j0 k m (accP (findP m x.f0.f0).2.2.1 x.f0.f1).2.1 b x.f0.f0 x.f0.f1 x.f1.f0 x.f1.f1 x.f2) (if b = true then 21 else (if (findP m x.f1.f0).2.2.2 = true ∧ (findP m x.f1.f0).2.1 = 1 then
      (if (accP (findP m x.f1.f0).2.2.1 x.f1.f1).2.2 = true ∧ (accP (findP m x.f1.f0).2.2.1 x.f1.f1).2.1 ≠ 1 ∧ (accP (findP m x.f1.f0).2.2.1 x.f1.f1).2.1 = (accP (findP m x.f0.f0).2.2.1 x.f0.f1).2.1 then
        (if x.f2 < 0 then 2 else if x.f2 > 1152921504606846976 then 2 else 0)
      else 21)
    else 20)) := by
    intro b
    refine Ev.shift ?_
    simp only [port_one.j0, find_some m _ hs, Option.bind_some]
    refine Ev.both (fun _ => Ev.val _) (fun _ => ?_)
    by_cases c : (findP m x.f1.f0).2.2.2 = true
    · refine Ev.pos c ?_
      by_cases c1 : (findP m x.f1.f0).2.1 = 1
      · rw [if_pos ⟨c, c1⟩]
        have := j1 ((findP m x.f1.f0).2.1 != 1)
        rwa [if_neg (by simp [c1])] at this
      · rw [if_neg (fun h => c1 h.2)]
        have := j1 ((findP m x.f1.f0).2.1 != 1)
        rwa [if_pos (by simp [c1])] at this
    · rw [if_neg (fun h => c h.1)]
      exact Ev.neg c (j1 true)
  by_cases c : (accP (findP m x.f0.f0).2.2.1 x.f0.f1).2.2 = true
  · have hw := what_client _ (k1 c)
    by_cases c1 : (accP (findP m x.f0.f0).2.2.1 x.f0.f1).2.1 = 1
    · rw [if_neg (fun h => h.2.1 c1)]
      refine Ev.neg (fun h => ?_) (j0 true)
      simp only [c, Bool.true_and] at h
      exact hw.mp h c1
    · refine Ev.pos (by simp only [c, Bool.true_and]; exact hw.mpr c1) ?_
      by_cases c2 : x.f0.f0.toList = d.toList
      · rw [if_pos ⟨c, c1, c2⟩]
        have := j0 (x.f0.f0.toList != d.toList)
        rwa [if_neg (by simp [c2])] at this
      · rw [if_neg (fun h => c2 h.2.2)]
        have := j0 (x.f0.f0.toList != d.toList)
        rwa [if_pos (by simp [c2])] at this
  · rw [if_neg (fun h => c h.1)]
    exact Ev.neg (fun h => c (by simp only [Bool.and_eq_true] at h; exact h.1)) (j0 true)
/-- What is wrong with offers. -/
def checkP (m : List S55) (d : ByteArray) (l : List S50) : Int :=
  if chk m = 0 then (if (findP m d).2.2.2 = true then (if 1024 < l.length then 8 else firstErr (fun i => oneP m d (rd_T50 l i)) l.length 0) else 20) else chk m
theorem check_loop (m : List S55) (hk : KindsOk m) (hs : ∀ y ∈ m, y.f2.length * 24 ≤ 140737488351232) (d : ByteArray) (l : List S50) (hl : l.length ≤ 1024) (e : Nat) : ∀ i : Nat, l.length - i = e → i ≤ l.length →
    Ev (fun k => port_Check.l0 k m d (l.map O2) ((l.map O2).length : Int) i) (firstErr (fun i => oneP m d (rd_T50 l i)) e i) := by
  induction e with
  | zero =>
    intro i hd hi
    refine Ev.shift ?_
    simp only [port_Check.l0, List.length_map]
    exact Ev.neg (by omega) (Ev.val _)
  | succ e ih =>
    intro i hd hi
    have hw : wrap64 ((i : Int) + 1) = ((i + 1 : Nat) : Int) := by unfold wrap64; omega
    have h := ih (i + 1) (by omega) (by omega)
    refine Ev.shift ?_
    simp only [port_Check.l0, hw]
    rw [rdO2 l i (by omega)]
    refine Ev.pos (by simp; omega) (Ev.pos (by omega) (Ev.pos (by simp; omega) (Ev.bind (one_ev m hk hs d (rd_T50 l i)) ?_)))
    simp only [firstErr]
    exact Ev.both (fun _ => h) (fun _ => Ev.val _)
theorem pcheck_ev (m : List S55) (hk : chk m = 0 → KindsOk m) (hs : ∀ y ∈ m, y.f2.length * 24 ≤ 140737488351232) (d : ByteArray) (l : List S50) : Ev (fun k => port_Check.f k (l.map O2) m d) (checkP m d l) := by
  simp only [port_Check.f, checkP]
  refine Ev.bind (check_ev m) (Ev.both (fun c => ?_) (fun _ => Ev.val _))
  rw [find_some m d hs]
  simp only [Option.bind_some]
  refine Ev.both (fun _ => ?_) (fun _ => Ev.val _)
  by_cases c2 : 1024 < l.length
  · rw [if_pos c2]
    exact Ev.pos (by simp; omega) (Ev.val _)
  · rw [if_neg c2]
    exact Ev.neg (by simp; omega) (check_loop m (hk c) hs d l (by omega) _ 0 rfl (Nat.zero_le _))
/-- The first offer of an account that is enough. -/
def takO (l : List S50) (a : S45) (n : Int) : Option S50 := l.find? fun o => accQ o.f0 a && decide (n ≤ o.f2)
def takR : Option S50 → ByteArray × ByteArray × ByteArray × ByteArray × Int × Bool
  | none => ((⟨#[]⟩ : ByteArray), (⟨#[]⟩ : ByteArray), (⟨#[]⟩ : ByteArray), (⟨#[]⟩ : ByteArray), 0, false)
  | some o => (o.f0.f0, o.f0.f1, o.f1.f0, o.f1.f1, o.f2, true)
theorem taker_loop (l : List S50) (hl : l.length ≤ 5000) (a : S45) (n : Int) (e : Nat) : ∀ i : Nat, l.length - i = e → i ≤ l.length →
    Ev (fun k => port_taker.l0 k n (l.map O2) ((l.map O2).length : Int) i a.f0 a.f1 (⟨#[]⟩ : ByteArray) (⟨#[]⟩ : ByteArray) (⟨#[]⟩ : ByteArray) (⟨#[]⟩ : ByteArray) 0) (takR (takO (l.drop i) a n)) := by
  induction e with
  | zero =>
    intro i hd hi
    obtain rfl : i = l.length := by omega
    refine Ev.shift ?_
    simp only [port_taker.l0, List.length_map, List.drop_length]
    exact Ev.neg (by omega) (Ev.val _)
  | succ e ih =>
    intro i hd hi
    have hw : wrap64 ((i : Int) + 1) = ((i + 1 : Nat) : Int) := by unfold wrap64; omega
    have h := ih (i + 1) (by omega) (by omega)
    rw [dropO l i (by omega)]
    unfold takO at h ⊢
    rw [List.find?_cons]
    refine Ev.shift ?_
    simp only [port_taker.l0, hw]
    rw [rdO2 l i (by omega)]
    generalize rd_T50 l i = o
    refine Ev.pos (by simp; omega) (Ev.pos (by omega) (Ev.pos (by simp; omega) ?_))
    simp only [O2]
    by_cases c : (o.f0.f0.toList == a.f0.toList && (o.f0.f1.toList == a.f1.toList)) = true
    · refine Ev.pos c ?_
      by_cases c2 : n ≤ o.f2
      · have : (accQ o.f0 a && decide (n ≤ o.f2)) = true := by rw [show accQ o.f0 a = true from c, decide_eq_true c2]; rfl
        rw [this]
        exact Ev.pos c2 (Ev.val _)
      · have : (accQ o.f0 a && decide (n ≤ o.f2)) = false := by rw [decide_eq_false c2, Bool.and_false]
        rw [this]
        exact Ev.neg c2 h
    · have : (accQ o.f0 a && decide (n ≤ o.f2)) = false := by
        have : accQ o.f0 a = false := by
          simp only [accQ]
          simpa using c
        rw [this, Bool.false_and]
      rw [this]
      exact Ev.neg c h
theorem taker_ev (l : List S50) (hl : l.length ≤ 5000) (a : S45) (n : Int) : Ev (fun k => port_taker.f k (l.map O2) a.f0 a.f1 n) (takR (takO l a n)) := by
  simp only [port_taker.f]
  simpa using taker_loop l hl a n _ 0 rfl (Nat.zero_le _)
/-- Is an account in a list, ahead of which others were seen, there twice? -/
def twP : List S45 → List S45 → Bool
  | _, [] => false
  | s, a :: r => (s.any fun x => accQ x a) || twP (s ++ [a]) r
theorem look_any (m : List (S45 × Int)) (a : S45) : (Go.Proofs.YtdhmckgagffgkaaHand.look accQ m a).isSome = (m.map (·.1)).any fun x => accQ x a := by
  induction m with
  | nil => rfl
  | cons p r ih =>
    unfold Go.Proofs.YtdhmckgagffgkaaHand.look at ih ⊢
    rw [List.find?_cons]
    simp only [List.map_cons, List.any_cons]
    cases accQ p.1 a
    · simpa using ih
    · rfl
theorem scan_eq (l : List S52) : ∀ m : List (S45 × Int), port_Plan.scan (l.map G2) m = if twP (m.map (·.1)) (l.map (·.f0)) = true then none else some (m ++ l.map fun g => (g.f0, g.f3)) := by
  induction l with
  | nil => intro m; simp [port_Plan.scan, twP]
  | cons g r ih =>
    intro m
    have h := look_any m g.f0
    simp only [List.map_cons, port_Plan.scan, twP]
    rw [← h]
    have e : (G2 g).f0 = g.f0 := rfl
    rw [e]
    cases Go.Proofs.YtdhmckgagffgkaaHand.look accQ m g.f0 with
    | some n => simp
    | none =>
      simp only [Option.isSome_none, Bool.false_or]
      rw [ih]
      simp [G2]
/-- One client: who takes it, or that it is left. -/
def stepP (l : List S50) (gs : List S52) (a : S45) (tf : List S50 × List S45) : List S50 × List S45 :=
  match gs.find? fun g => accQ g.f0 a with
  | none => tf
  | some g => match takO l a g.f3 with
    | none => (tf.1, tf.2 ++ [a])
    | some o => (tf.1 ++ [o], tf.2)
def goP (l : List S50) (gs : List S52) : List S45 → List S50 × List S45 → List S50 × List S45
  | [], tf => tf
  | a :: r, tf => goP l gs r (stepP l gs a tf)
theorem look_find (gs : List S52) (a : S45) : Go.Proofs.YtdhmckgagffgkaaHand.look accQ (gs.map fun g => (g.f0, g.f3)) a = (gs.find? fun g => accQ g.f0 a).map (·.f3) := by
  induction gs with
  | nil => rfl
  | cons g r ih =>
    unfold Go.Proofs.YtdhmckgagffgkaaHand.look at ih ⊢
    rw [List.map_cons, List.find?_cons, List.find?_cons]
    cases accQ g.f0 a
    · simpa using ih
    · rfl
theorem stepP_len (l : List S50) (gs : List S52) (a : S45) (tf : List S50 × List S45) : (stepP l gs a tf).1.length + (stepP l gs a tf).2.length ≤ tf.1.length + tf.2.length + 1 := by
  unfold stepP
  split
  · omega
  · split
    · simp; omega
    · simp; omega
theorem go_ev (l : List S50) (hl : l.length ≤ 5000) (gs : List S52) (cs : List S45) : ∀ tf : List S50 × List S45, tf.1.length + tf.2.length + cs.length ≤ 100000 →
    Ev (fun k => port_Plan.go k (l.map O2) (gs.map fun g => (g.f0, g.f3)) cs (tf.1.map O2) tf.2) ((goP l gs cs tf).1.map O2, (goP l gs cs tf).2, 0) := by
  induction cs with
  | nil => intro tf _; exact Ev.val _
  | cons a r ih =>
    intro tf hb
    have hlen := stepP_len l gs a tf
    have h := ih (stepP l gs a tf) (by simp only [List.length_cons] at hb; omega)
    simp only [port_Plan.go, goP, look_find]
    unfold stepP at h ⊢
    cases hf : gs.find? (fun g => accQ g.f0 a) with
    | none =>
      rw [hf] at h
      exact h
    | some g =>
      rw [hf] at h
      simp only [Option.map_some] at h ⊢
      refine Ev.bind (taker_ev l hl a g.f3) ?_
      cases ht : takO l a g.f3 with
      | none =>
        rw [ht] at h
        simp only [takR] at h ⊢
        exact Ev.neg (by simp) (Ev.pos (by simp only [List.length_cons] at hb; omega) h)
      | some o =>
        rw [ht] at h
        simp only [takR] at h ⊢
        refine Ev.pos trivial (Ev.pos (by simp only [List.length_map, List.length_cons] at hb ⊢; omega) ?_)
        simpa [O2] using h
/-- What is planned. -/
def planP (l : List S50) (m : List S55) (d : ByteArray) (gs : List S52) : List S50 × List S45 × Int :=
  if checkP m d l = 0 then (if gs.length ≤ 1024 then (if twP [] (gs.map (·.f0)) = true then ([], [], 12) else ((goP l gs (clP m d) ([], [])).1, (goP l gs (clP m d) ([], [])).2, 0)) else ([], [], 8)) else ([], [], checkP m d l)
theorem plan_ev (l : List S50) (hl : l.length ≤ 5000) (m : List S55) (hk : chk m = 0 → KindsOk m) (hs : ∀ y ∈ m, y.f2.length * 24 ≤ 140737488351232) (d : ByteArray) (gs : List S52) (hg : ∀ g ∈ gs, accOk g.f0 = true) (hc : ∀ a ∈ clP m d, accOk a = true) :
    Ev (fun k => port_Plan.f k (l.map O2) m d (gs.map G2)) ((planP l m d gs).1.map O2, (planP l m d gs).2.1, (planP l m d gs).2.2) := by
  simp only [port_Plan.f, planP]
  refine Ev.bind (pcheck_ev m hk hs d l) ?_
  by_cases c : checkP m d l = 0
  · rw [if_pos c]
    refine Ev.pos c ?_
    have c0 : chk m = 0 := by
      unfold checkP at c
      by_cases c1 : chk m = 0
      · exact c1
      · rw [if_neg c1] at c; exact absurd c c1
    have few := chk_few c0
    by_cases c2 : gs.length ≤ 1024
    · rw [if_pos c2]
      refine Ev.pos (by simpa using c2) (Ev.pos ?_ ?_)
      · rw [List.all_eq_true]
        intro g hg'
        obtain ⟨x, hx, rfl⟩ := List.mem_map.mp hg'
        exact hg x hx
      · rw [scan_eq]
        by_cases c3 : twP [] (gs.map (·.f0)) = true
        · simp only [List.map_nil, c3, if_true]
          exact Ev.val _
        · simp only [List.map_nil, c3, if_false, List.nil_append]
          have hcl := clP_len m d 16 few
          refine Ev.bind (clients_ev m d (fun y hy => by have := few y hy; omega)) (Ev.pos (List.all_eq_true.mpr hc) ?_)
          exact go_ev l hl gs (clP m d) ([], []) (by simp; omega)
    · rw [if_neg c2]
      exact Ev.neg (by simpa using c2) (Ev.val _)
  · rw [if_neg c]
    exact Ev.neg c (Ev.val _)
theorem refOne_ev (m : List S55) (hn : m.length ≤ 140737488351232) (hs : ∀ y ∈ m, y.f2.length ≤ 140737488351232) (d : ByteArray) (x : S50) :
    Ev (fun k => contangoref42_one.f k x.f0.f0 x.f0.f1 x.f1.f0 x.f1.f1 x.f2 m d) (oneP m d x) := by
  simp only [contangoref42_one.f]
  refine Ev.bind (refAccount m hn hs _ _) ?_
  unfold oneP
  generalize accP (findP m x.f0.f0).2.2.1 x.f0.f1 = a
  have j2 : ∀ b : Bool, Ev (fun k => contangoref42_one.j2 k b x.f0.f0 x.f0.f1 x.f1.f0 x.f1.f1 x.f2) (if b = true then 21 else (if x.f2 < 0 then 2 else if x.f2 > 1152921504606846976 then 2 else 0)) := by
    intro b
    refine Ev.shift ?_
    simp only [contangoref42_one.j2]
    exact Ev.both (fun _ => Ev.val _) (fun _ => Ev.both (fun _ => Ev.val _) (fun _ => Ev.both (fun _ => Ev.val _) (fun _ => Ev.val _)))
  have j1 : ∀ b : Bool, Ev (fun k => contangoref42_one.j1 k m b x.f0.f0 x.f0.f1 x.f1.f0 x.f1.f1 x.f2 a.1 a.2.1) (if b = true then 20 else (if (accP (findP m x.f1.f0).2.2.1 x.f1.f1).2.2 = true ∧ (accP (findP m x.f1.f0).2.2.1 x.f1.f1).2.1 ≠ 1 ∧ (accP (findP m x.f1.f0).2.2.1 x.f1.f1).2.1 = a.2.1 then
        (if x.f2 < 0 then 2 else if x.f2 > 1152921504606846976 then 2 else 0)
      else 21)) := by
    intro b
    refine Ev.shift ?_
    simp only [contangoref42_one.j1]
    refine Ev.both (fun _ => Ev.val _) (fun _ => Ev.bind (refAccount m hn hs _ _) ?_)
    generalize accP (findP m x.f1.f0).2.2.1 x.f1.f1 = t
    by_cases c : t.2.2 = true
    · refine Ev.pos c ?_
      by_cases c1 : t.2.1 = 1
      · rw [if_neg (fun h => h.2.1 c1)]
        exact Ev.pos c1 (j2 true)
      · refine Ev.neg c1 ?_
        by_cases c2 : t.2.1 = a.2.1
        · rw [if_pos ⟨c, c1, c2⟩]
          have := j2 (t.2.1 != a.2.1)
          rwa [if_neg (by simp [c2])] at this
        · rw [if_neg (fun h => c2 h.2.2)]
          have := j2 (t.2.1 != a.2.1)
          rwa [if_pos (by simp [c2])] at this
    · rw [if_neg (fun h => c h.1)]
      exact Ev.neg c (j2 true)
  have j0 : ∀ b : Bool, Ev (fun k => contangoref42_one.j0 k m b x.f0.f0 x.f0.f1 x.f1.f0 x.f1.f1 x.f2 a.1 a.2.1) (if b = true then 21 else (if (findP m x.f1.f0).2.2.2 = true ∧ (findP m x.f1.f0).2.1 = 1 then
      (if (accP (findP m x.f1.f0).2.2.1 x.f1.f1).2.2 = true ∧ (accP (findP m x.f1.f0).2.2.1 x.f1.f1).2.1 ≠ 1 ∧ (accP (findP m x.f1.f0).2.2.1 x.f1.f1).2.1 = a.2.1 then
        (if x.f2 < 0 then 2 else if x.f2 > 1152921504606846976 then 2 else 0)
      else 21)
    else 20)) := by
    intro b
    refine Ev.shift ?_
    simp only [contangoref42_one.j0]
    refine Ev.both (fun _ => Ev.val _) (fun _ => Ev.bind (refFind m hn _) ?_)
    by_cases c : (findP m x.f1.f0).2.2.2 = true
    · refine Ev.pos c ?_
      by_cases c1 : (findP m x.f1.f0).2.1 = 1
      · rw [if_pos ⟨c, c1⟩]
        have := j1 ((findP m x.f1.f0).2.1 != 1)
        rwa [if_neg (by simp [c1])] at this
      · rw [if_neg (fun h => c1 h.2)]
        have := j1 ((findP m x.f1.f0).2.1 != 1)
        rwa [if_pos (by simp [c1])] at this
    · rw [if_neg (fun h => c h.1)]
      exact Ev.neg c (j1 true)
  by_cases c2 : x.f0.f0.toList = d.toList
  · refine Ev.pos c2 ?_
    by_cases c : a.2.2 = true
    · refine Ev.pos c ?_
      by_cases c1 : a.2.1 = 1
      · rw [if_neg (fun h => h.2.1 c1)]
        have := j0 (a.2.1 == 1)
        rwa [if_pos (by simp [c1])] at this
      · rw [if_pos ⟨c, c1, c2⟩]
        have := j0 (a.2.1 == 1)
        rwa [if_neg (by simp [c1])] at this
    · rw [if_neg (fun h => c h.1)]
      exact Ev.neg c (j0 true)
  · rw [if_neg (fun h => c2 h.2.2)]
    exact Ev.neg c2 (j0 true)
theorem refCheck42_loop (m : List S55) (hn : m.length ≤ 140737488351232) (hs : ∀ y ∈ m, y.f2.length ≤ 140737488351232) (d : ByteArray) (l : List S50) (hl : l.length ≤ 1024) (e : Nat) : ∀ i : Nat, l.length - i = e → i ≤ l.length →
    Ev (fun k => contangoref42_Check.l0 k l m d i) (firstErr (fun i => oneP m d (rd_T50 l i)) e i) := by
  induction e with
  | zero =>
    intro i hd hi
    refine Ev.shift ?_
    simp only [contangoref42_Check.l0]
    exact Ev.neg (by omega) (Ev.val _)
  | succ e ih =>
    intro i hd hi
    have hw : wrap64 ((i : Int) + 1) = ((i + 1 : Nat) : Int) := by unfold wrap64; omega
    have h := ih (i + 1) (by omega) (by omega)
    refine Ev.shift ?_
    simp only [contangoref42_Check.l0, hw]
    refine Ev.pos (by omega) (Ev.pos (by omega) (Ev.bind (refOne_ev m hn hs d (rd_T50 l i)) ?_))
    simp only [firstErr]
    exact Ev.both (fun _ => h) (fun _ => Ev.val _)
theorem rcheck_ev (m : List S55) (hn : m.length ≤ 140737488351232) (hs : ∀ y ∈ m, y.f2.length ≤ 140737488351232) (hsz : ∀ y ∈ m, y.f0.size ≤ 9223372036854775806 ∧ ∀ z ∈ y.f2, z.f0.size ≤ 9223372036854775806) (d : ByteArray) (l : List S50) : Ev (fun k => contangoref42_Check.f k l m d) (checkP m d l) := by
  simp only [contangoref42_Check.f, checkP]
  refine Ev.bind (refCheck m hsz) (Ev.both (fun c => Ev.bind (refFind m hn d) (Ev.both (fun _ => ?_) (fun _ => Ev.val _))) (fun _ => Ev.val _))
  by_cases c2 : 1024 < l.length
  · rw [if_pos c2]
    exact Ev.pos (by omega) (Ev.val _)
  · rw [if_neg c2]
    exact Ev.neg (by omega) (refCheck42_loop m hn hs d l (by omega) _ 0 rfl (Nat.zero_le _))
/-- Where the first offer that is enough stands. -/
def takI (l : List S50) (a : S45) (n : Int) (i : Int) : Int := idxOf (fun o : S50 => accQ o.f0 a && decide (n ≤ o.f2)) l i
theorem takI_takO (l : List S50) (a : S45) (n : Int) : ∀ i : Nat, (takO l a n = none ∧ takI l a n i = -1) ∨ ∃ j : Nat, ∃ h : j < l.length, takO l a n = some l[j] ∧ takI l a n i = ((i + j : Nat) : Int) := by
  induction l with
  | nil => intro i; exact Or.inl ⟨rfl, rfl⟩
  | cons x r ih =>
    intro i
    unfold takO takI at ih ⊢
    rw [List.find?_cons]
    simp only [idxOf]
    by_cases hq : (accQ x.f0 a && decide (n ≤ x.f2)) = true
    · rw [if_pos hq]
      refine Or.inr ⟨0, by simp, ?_, by simp⟩
      simp only [hq]
      rfl
    · rw [if_neg hq]
      have hf : (accQ x.f0 a && decide (n ≤ x.f2)) = false := by simpa using hq
      simp only [hf]
      rw [show ((i : Int) + 1) = ((i + 1 : Nat) : Int) from by omega]
      rcases ih (i + 1) with h | ⟨j, hj, h1, h2⟩
      · exact Or.inl h
      · exact Or.inr ⟨j + 1, by simpa using hj, by simpa using h1, by rw [h2]; omega⟩
theorem rtaker_loop (l : List S50) (hl : l.length ≤ 5000) (a : S45) (u v n : Int) (e : Nat) : ∀ i : Nat, l.length - i = e → i ≤ l.length →
    Ev (fun k => contangoref42_taker.l0 k l i a.f0 a.f1 u v n) (takI (l.drop i) a n i) := by
  induction e with
  | zero =>
    intro i hd hi
    obtain rfl : i = l.length := by omega
    refine Ev.shift ?_
    simp only [contangoref42_taker.l0, List.drop_length, takI, idxOf]
    exact Ev.neg (by omega) (Ev.val _)
  | succ e ih =>
    intro i hd hi
    have hw : wrap64 ((i : Int) + 1) = ((i + 1 : Nat) : Int) := by unfold wrap64; omega
    have h := ih (i + 1) (by omega) (by omega)
    rw [dropO l i (by omega)]
    unfold takI at h ⊢
    simp only [idxOf]
    refine Ev.shift ?_
    simp only [contangoref42_taker.l0, hw]
    generalize rd_T50 l i = o
    refine Ev.pos (by omega) (Ev.pos (by omega) ?_)
    by_cases c : (o.f0.f0.toList == a.f0.toList && (o.f0.f1.toList == a.f1.toList)) = true
    · refine Ev.pos c ?_
      by_cases c2 : n ≤ o.f2
      · rw [if_pos (show (accQ o.f0 a && decide (n ≤ o.f2)) = true by rw [show accQ o.f0 a = true from c, decide_eq_true c2]; rfl)]
        exact Ev.pos c2 (Ev.val _)
      · rw [if_neg (by rw [decide_eq_false c2, Bool.and_false]; simp)]
        exact Ev.neg c2 h
    · have : accQ o.f0 a = false := by
        simp only [accQ]
        simpa using c
      rw [if_neg (by rw [this, Bool.false_and]; simp)]
      exact Ev.neg c h
theorem rtaker_ev (l : List S50) (hl : l.length ≤ 5000) (a : S45) (u v n : Int) : Ev (fun k => contangoref42_taker.f k l a.f0 a.f1 u v n) (takI l a n 0) := by
  simp only [contangoref42_taker.f]
  simpa using rtaker_loop l hl a u v n _ 0 rfl (Nat.zero_le _)
theorem twice_inner (l : List S52) (hl : l.length ≤ 5000) (i : Nat) (hi : i < l.length) (R : Bool) (H : Ev (fun k => contangoref42_twice.l0 k l ((i + 1 : Nat) : Int)) R) (e : Nat) : ∀ j : Nat, i - j = e → j ≤ i →
    Ev (fun k => contangoref42_twice.l1 k l i j) ((((l.take i).drop j).any fun g => accQ g.f0 (rd_T52 l i).f0) || R) := by
  induction e with
  | zero =>
    intro j hd hj
    obtain rfl : j = i := by omega
    have hw : wrap64 ((j : Int) + 1) = ((j + 1 : Nat) : Int) := by unfold wrap64; omega
    refine Ev.shift ?_
    simp only [contangoref42_twice.l1, hw]
    rw [List.drop_eq_nil_of_le (by rw [List.length_take]; omega)]
    simp only [List.any_nil, Bool.false_or]
    exact Ev.neg (by omega) H
  | succ e ih =>
    intro j hd hj
    have hw : wrap64 ((j : Int) + 1) = ((j + 1 : Nat) : Int) := by unfold wrap64; omega
    have h := ih (j + 1) (by omega) (by omega)
    have hdr : (l.take i).drop j = rd_T52 l j :: (l.take i).drop (j + 1) := by
      rw [List.drop_eq_getElem_cons (by rw [List.length_take]; omega)]
      congr 1
      rw [List.getElem_take, rdG l j (by omega)]
    rw [hdr]
    refine Ev.shift ?_
    simp only [contangoref42_twice.l1, hw, List.any_cons]
    refine Ev.pos (by omega) (Ev.pos (by omega) (Ev.pos (by omega) (Ev.pos (by omega) (Ev.pos (by omega) ?_))))
    by_cases c : (((rd_T52 l j).f0.f0).toList == ((rd_T52 l i).f0.f0).toList && (((rd_T52 l j).f0.f1).toList == ((rd_T52 l i).f0.f1).toList)) = true
    · rw [show accQ (rd_T52 l j).f0 (rd_T52 l i).f0 = true from c]
      exact Ev.pos c (Ev.val _)
    · have : accQ (rd_T52 l j).f0 (rd_T52 l i).f0 = false := by
        simp only [accQ]
        simpa using c
      rw [this, Bool.false_or]
      exact Ev.neg c h
theorem twice_loop (l : List S52) (hl : l.length ≤ 5000) (e : Nat) : ∀ i : Nat, l.length - i = e → i ≤ l.length → Ev (fun k => contangoref42_twice.l0 k l i) (twP ((l.take i).map (·.f0)) ((l.drop i).map (·.f0))) := by
  induction e with
  | zero =>
    intro i hd hi
    obtain rfl : i = l.length := by omega
    refine Ev.shift ?_
    simp only [contangoref42_twice.l0, List.drop_length, List.map_nil, twP]
    exact Ev.neg (by omega) (Ev.val _)
  | succ e ih =>
    intro i hd hi
    have h := ih (i + 1) (by omega) (by omega)
    have h2 := twice_inner l hl i (by omega) _ h i 0 (by omega) (Nat.zero_le _)
    rw [dropG l i (by omega)]
    simp only [List.map_cons, twP]
    rw [List.take_succ_eq_append_getElem (by omega), ← rdG l i (by omega), List.map_append] at h2
    refine Ev.shift ?_
    simp only [contangoref42_twice.l0]
    refine Ev.pos (by omega) ?_
    have e : ((l.take i).map (·.f0)).any (fun x => accQ x (rd_T52 l i).f0) = (l.take i).any fun g => accQ g.f0 (rd_T52 l i).f0 := List.any_map
    rw [e]
    exact h2
theorem twice_ev (l : List S52) (hl : l.length ≤ 5000) : Ev (fun k => contangoref42_twice.f k l) (twP [] (l.map (·.f0))) := by
  simp only [contangoref42_twice.f]
  simpa using twice_loop l hl _ 0 rfl (Nat.zero_le _)
/-- All gaps of an account, one by one. -/
def stepAll (l : List S50) (a : S45) : List S52 → List S50 × List S45 → List S50 × List S45
  | [], tf => tf
  | g :: r, tf => stepAll l a r (if accQ g.f0 a = true then (match takO l a g.f3 with
    | none => (tf.1, tf.2 ++ [a])
    | some o => (tf.1 ++ [o], tf.2)) else tf)
theorem stepAll_none (l : List S50) (a : S45) (gs : List S52) (h : ∀ g ∈ gs, accQ g.f0 a = false) : ∀ tf, stepAll l a gs tf = tf := by
  induction gs with
  | nil => intro tf; rfl
  | cons g r ih =>
    intro tf
    simp only [stepAll]
    rw [h g (List.mem_cons_self ..)]
    exact ih (fun g hg => h g (List.mem_cons_of_mem _ hg)) tf
theorem accQ_trans {x y z : S45} (h1 : accQ x z = true) (h2 : accQ y z = true) : accQ x y = true := by
  rw [accQ_iff] at *
  rw [h1, h2]
theorem twP_tail (s : List S45) (l : List S45) (h : twP s l = false) : ∀ x ∈ s, ∀ y ∈ l, accQ x y = false := by
  induction l generalizing s with
  | nil => intro x _ y hy; cases hy
  | cons a r ih =>
    simp only [twP, Bool.or_eq_false_iff] at h
    intro x hx y hy
    rcases List.mem_cons.mp hy with rfl | hy
    · have := List.any_eq_false.mp h.1 x hx
      simpa using this
    · exact ih (s ++ [a]) h.2 x (List.mem_append_left _ hx) y hy
theorem stepAll_step (l : List S50) (a : S45) (gs : List S52) : ∀ (s : List S45) tf, twP s (gs.map (·.f0)) = false → stepAll l a gs tf = stepP l gs a tf := by
  induction gs with
  | nil => intro s tf _; rfl
  | cons g r ih =>
    intro s tf h
    simp only [List.map_cons, twP, Bool.or_eq_false_iff] at h
    simp only [stepAll, stepP, List.find?_cons]
    by_cases c : accQ g.f0 a = true
    · rw [c]
      simp only [if_true]
      have hno : ∀ g' ∈ r, accQ g'.f0 a = false := by
        intro g' hg'
        have h1 := twP_tail _ _ h.2 g.f0 (List.mem_append_right _ (List.mem_singleton.mpr rfl)) g'.f0 (List.mem_map.mpr ⟨g', hg', rfl⟩)
        cases hq : accQ g'.f0 a with
        | false => rfl
        | true => rw [accQ_trans c hq] at h1; cases h1
      rw [stepAll_none l a r hno]
    · have : accQ g.f0 a = false := by simpa using c
      rw [this]
      simp only [Bool.false_eq_true, if_false]
      exact ih _ tf h.2
theorem stepAll_len (l : List S50) (a : S45) (gs : List S52) : ∀ tf, (stepAll l a gs tf).1.length + (stepAll l a gs tf).2.length ≤ tf.1.length + tf.2.length + gs.length := by
  induction gs with
  | nil => intro tf; exact Nat.le_refl _
  | cons g r ih =>
    intro tf
    simp only [stepAll]
    refine Nat.le_trans (ih _) ?_
    split
    · split
      · simp; omega
      · simp; omega
    · simp only [List.length_cons]; omega
theorem rplan_inner (l : List S50) (hl : l.length ≤ 5000) (gs : List S52) (hg : gs.length ≤ 5000) (cs : List S45) (y : Nat) (hy : y < cs.length) (R : List S50 × List S45 × Int)
    (e : Nat) : ∀ (j : Nat) (tf : List S50 × List S45), gs.length - j = e → j ≤ gs.length → tf.1.length + tf.2.length + e ≤ 1000000000 →
    Ev (fun k => contangoref42_Plan.l0 k l gs (stepAll l (rd_T45 cs y) (gs.drop j) tf).1 (stepAll l (rd_T45 cs y) (gs.drop j) tf).2 cs (wrap64 ((y : Int) + 1))) R →
    Ev (fun k => contangoref42_Plan.l1 k l gs tf.1 tf.2 cs y j) R := by
  induction e with
  | zero =>
    intro j tf hd hj hb H
    obtain rfl : j = gs.length := by omega
    rw [List.drop_length] at H
    refine Ev.shift ?_
    simp only [contangoref42_Plan.l1]
    exact Ev.neg (by omega) H
  | succ e ih =>
    intro j tf hd hj hb H
    have hw : wrap64 ((j : Int) + 1) = ((j + 1 : Nat) : Int) := by unfold wrap64; omega
    rw [dropG gs j (by omega)] at H
    simp only [stepAll] at H
    refine Ev.shift ?_
    simp only [contangoref42_Plan.l1, hw]
    generalize hgg : rd_T52 gs j = g at H ⊢
    generalize haa : rd_T45 cs y = a at H ⊢
    refine Ev.pos (by omega) (Ev.pos (by omega) (Ev.pos (by omega) (Ev.pos (by omega) ?_)))
    by_cases c : accQ g.f0 a = true
    · rw [if_pos c] at H
      refine Ev.neg ?_ ?_
      · simp only [accQ, Bool.and_eq_true] at c
        simp [c.1, c.2]
      · have e1 : g.f0 = a := by
          have := (accQ_iff _ _).mp c
          simp only [accK, Value.agg.injEq, Array.mk.injEq, List.cons.injEq, Value.string.injEq] at this
          cases hgf : g.f0
          cases a
          rw [hgf] at this
          simp_all
        rw [e1]
        refine Ev.bind (rtaker_ev l hl a g.f1 g.f2 g.f3) ?_
        rcases takI_takO l a g.f3 0 with ⟨hto, ht'⟩ | ⟨q, hq, hto, h1⟩
        · rw [hto] at H
          rw [show takI l a g.f3 0 = -1 from ht']
          refine Ev.pos (by omega) (Ev.pos (by omega) ?_)
          have := ih (j + 1) (tf.1, tf.2 ++ [a]) (by omega) (by omega) (by simp; omega) (by rw [haa]; exact H)
          exact this
        · rw [hto] at H
          have h1' : takI l a g.f3 0 = (q : Int) := by rw [show ((q : Nat) : Int) = ((0 + q : Nat) : Int) from by omega]; exact h1
          rw [h1']
          refine Ev.neg (by omega) (Ev.pos (by omega) (Ev.pos (by omega) (Ev.pos (by omega) ?_)))
          rw [rdO l q hq]
          have := ih (j + 1) (tf.1 ++ [l[q]], tf.2) (by omega) (by omega) (by simp; omega) (by rw [haa]; exact H)
          exact this
    · rw [if_neg c] at H
      have cf : accQ g.f0 a = false := by simpa using c
      refine Ev.pos ?_ ?_
      · simp only [accQ, Bool.and_eq_false_iff] at cf
        rcases cf with h | h <;> simp [h]
      · have := ih (j + 1) tf (by omega) (by omega) (by omega) (by rw [haa]; exact H)
        exact this
theorem rplan_outer (l : List S50) (hl : l.length ≤ 5000) (gs : List S52) (hg : gs.length ≤ 5000) (htw : twP [] (gs.map (·.f0)) = false) (cs : List S45) (hcs : cs.length ≤ 1000) (e : Nat) : ∀ (y : Nat) (tf : List S50 × List S45), cs.length - y = e → y ≤ cs.length → tf.1.length + tf.2.length + e * 5000 ≤ 100000000 →
    Ev (fun k => contangoref42_Plan.l0 k l gs tf.1 tf.2 cs y) ((goP l gs (cs.drop y) tf).1, (goP l gs (cs.drop y) tf).2, 0) := by
  induction e with
  | zero =>
    intro y tf hd hi hb
    obtain rfl : y = cs.length := by omega
    refine Ev.shift ?_
    simp only [contangoref42_Plan.l0, List.drop_length, goP]
    exact Ev.neg (by omega) (Ev.val _)
  | succ e ih =>
    intro y tf hd hi hb
    have hw : wrap64 ((y : Int) + 1) = ((y + 1 : Nat) : Int) := by unfold wrap64; omega
    have hlen := stepAll_len l (rd_T45 cs y) gs tf
    have h := ih (y + 1) (stepAll l (rd_T45 cs y) gs tf) (by omega) (by omega) (by omega)
    rw [dropC cs y (by omega)]
    simp only [goP]
    rw [← stepAll_step l _ gs [] tf htw]
    refine Ev.shift ?_
    simp only [contangoref42_Plan.l0]
    refine Ev.pos (by omega) ?_
    have h2 := rplan_inner l hl gs hg cs y (by omega) ((goP l gs (cs.drop (y + 1)) (stepAll l (rd_T45 cs y) gs tf)).1, (goP l gs (cs.drop (y + 1)) (stepAll l (rd_T45 cs y) gs tf)).2, 0) gs.length 0 tf (by omega) (Nat.zero_le _) (by omega) (by rw [hw]; exact h)
    exact h2
theorem rplan_ev (l : List S50) (hl : l.length ≤ 5000) (m : List S55) (hn : m.length ≤ 140737488351232) (hs : ∀ y ∈ m, y.f2.length ≤ 140737488351232) (hsz : ∀ y ∈ m, y.f0.size ≤ 9223372036854775806 ∧ ∀ z ∈ y.f2, z.f0.size ≤ 9223372036854775806) (d : ByteArray) (gs : List S52) :
    Ev (fun k => contangoref42_Plan.f k l m d gs) (planP l m d gs) := by
  simp only [contangoref42_Plan.f, planP]
  refine Ev.bind (rcheck_ev m hn hs hsz d l) (Ev.both (fun c => ?_) (fun _ => Ev.val _))
  have c0 : chk m = 0 := by
    unfold checkP at c
    by_cases c1 : chk m = 0
    · exact c1
    · rw [if_neg c1] at c; exact absurd c c1
  have few := chk_few c0
  by_cases c2 : gs.length ≤ 1024
  · rw [if_pos c2]
    refine Ev.neg (by omega) (Ev.bind (twice_ev gs (by omega)) ?_)
    cases htw : twP [] (gs.map (·.f0)) with
    | true => exact Ev.pos rfl (Ev.val _)
    | false =>
      simp only [Bool.false_eq_true, if_false]
      refine Ev.bind (refClients_ev m d hn (fun y hy => by have := few y hy; omega)) ?_
      have hcl := clP_len m d 16 few
      exact rplan_outer l hl gs (by omega) htw (clP m d) (by omega) _ 0 ([], []) rfl (Nat.zero_le _) (by simp; omega)
  · rw [if_neg c2]
    exact Ev.pos (by omega) (Ev.val _)
theorem back_loop (l : List S50) (hn : l.length ≤ 100000) (e : Nat) : ∀ (i : Nat) (out : List S50), l.length - i = e → i ≤ l.length → out.length + e ≤ 1000000 → Ev (fun k => contangolaw42_back.l0 k (l.map O2) out (((l.map O2).length : Nat) : Int) i) (out ++ l.drop i) := by
  induction e with
  | zero =>
    intro i out hd hi hb
    obtain rfl : i = l.length := by omega
    refine Ev.shift ?_
    simp only [contangolaw42_back.l0, List.drop_length, List.append_nil, List.length_map]
    exact Ev.neg (by omega) (Ev.val _)
  | succ e ih =>
    intro i out hd hi hb
    have hw : wrap64 ((i : Int) + 1) = ((i + 1 : Nat) : Int) := by unfold wrap64; omega
    have h := ih (i + 1) (out ++ [rd_T50 l i]) (by omega) (by omega) (by simp; omega)
    rw [dropO l i (by omega)]
    refine Ev.shift ?_
    simp only [contangolaw42_back.l0, hw]
    rw [rdO2 l i (by omega)]
    refine Ev.pos (by simp; omega) (Ev.pos (by omega) (Ev.pos (by simp; omega) (Ev.pos (by omega) ?_)))
    simpa [O2] using h
theorem back_ev (l : List S50) (hn : l.length ≤ 100000) : Ev (fun k => contangolaw42_back.f k (l.map O2)) l := by
  simp only [contangolaw42_back.f]
  simpa using back_loop l hn _ 0 [] rfl (Nat.zero_le _) (by simp; omega)
theorem same42_loop (l : List S50) (hn : l.length ≤ 140737488351232) (d : Nat) : ∀ i : Nat, l.length - i = d → i ≤ l.length → Ev (fun k => contangoref42_Same.l0 k l l i) true := by
  induction d with
  | zero =>
    intro i hd hi
    refine Ev.shift ?_
    simp only [contangoref42_Same.l0]
    exact Ev.neg (by omega) (Ev.val _)
  | succ d ih =>
    intro i hd hi
    have hw : wrap64 ((i : Int) + 1) = ((i + 1 : Nat) : Int) := by unfold wrap64; omega
    have h := ih (i + 1) (by omega) (by omega)
    refine Ev.shift ?_
    simp only [contangoref42_Same.l0, hw]
    exact Ev.pos (by omega) (Ev.pos (by omega) (Ev.pos (by omega) (Ev.neg (by simp) h)))
theorem same42_refl (l : List S50) (hn : l.length ≤ 140737488351232) : Ev (fun k => contangoref42_Same.f k l l) true := by
  simp only [contangoref42_Same.f]
  exact Ev.pos trivial (same42_loop l hn _ 0 rfl (Nat.zero_le _))
theorem goP_len (l : List S50) (gs : List S52) (cs : List S45) : ∀ tf, (goP l gs cs tf).1.length + (goP l gs cs tf).2.length ≤ tf.1.length + tf.2.length + cs.length := by
  induction cs with
  | nil => intro tf; exact Nat.le_refl _
  | cons a r ih =>
    intro tf
    simp only [goP, List.length_cons]
    refine Nat.le_trans (ih _) ?_
    have := stepP_len l gs a tf
    omega
theorem planP_len (l : List S50) (m : List S55) (d : ByteArray) (gs : List S52) : (planP l m d gs).1.length ≤ 16 ∧ (planP l m d gs).2.1.length ≤ 16 := by
  unfold planP
  by_cases c : checkP m d l = 0
  · rw [if_pos c]
    have c0 : chk m = 0 := by
      unfold checkP at c
      by_cases c1 : chk m = 0
      · exact c1
      · rw [if_neg c1] at c; exact absurd c c1
    have hcl := clP_len m d 16 (chk_few c0)
    have hgo := goP_len l gs (clP m d) ([], [])
    simp only [List.length_nil] at hgo
    split
    · split
      · exact ⟨by simp, by simp⟩
      · exact ⟨by show (goP l gs (clP m d) ([], [])).1.length ≤ 16; omega, by show (goP l gs (clP m d) ([], [])).2.length ≤ 16; omega⟩
    · exact ⟨by simp, by simp⟩
  · rw [if_neg c]; exact ⟨by simp, by simp⟩
theorem few_ev (l : List S50) (m : List S55) (d : ByteArray) (gs : List S52) : Ev (fun _ => contangolaw42_few.f l m d gs) (decide (l.length ≤ 1100) && decide (m.length ≤ 60) && decide (gs.length ≤ 1100)) := by
  simp only [contangolaw42_few.f]
  by_cases c1 : l.length ≤ 1100
  · by_cases c2 : m.length ≤ 60
    · refine Ev.pos (by omega) (Ev.pos (by omega) (Ev.valOf ?_))
      simp only [decide_eq_true c1, decide_eq_true c2, Bool.true_and]
      exact decide_eq_decide.mpr (by omega)
    · exact Ev.pos (by omega) (Ev.neg (by omega) (Ev.valOf (by simp [c2])))
  · exact Ev.neg (by omega) (Ev.valOf (by simp [c1]))
theorem goes_true : contangolaw42_goes.f 60 = some true := by decide +kernel
theorem goes_ev : Ev (fun k => contangolaw42_goes.f k) true := Ev.of goes_true (fun k => contangolaw42_goes.mono k)
theorem spoil_loop (l : List S50) (n : Nat) (hn : n ≤ 1048576) (H : Ev (fun k => (contangolaw42_back.f k (l.map O2)).bind fun t357 => ((contangoref42_Same.f k t357 l).bind fun t360 => (if t360 = true then ((contangolaw42_goes.f k).bind fun t361 => (some t361)) else (some false)))) true) (d : Nat) :
    ∀ (i : Nat) (x : List S47), n - i = d → i ≤ n → x.length = n → Ev (fun k => contangolaw42_PortPlans.l0 k l (l.map O2) x (n : Int) i) true := by
  induction d with
  | zero =>
    intro i x hd hi hx
    refine Ev.shift ?_
    simp only [contangolaw42_PortPlans.l0]
    exact Ev.neg (by omega) H
  | succ d ih =>
    intro i x hd hi hx
    have hw : wrap64 ((i : Int) + 1) = ((i + 1 : Nat) : Int) := by unfold wrap64; omega
    refine Ev.shift ?_
    simp only [contangolaw42_PortPlans.l0, hw]
    exact Ev.pos (by omega) (Ev.pos (by omega) (Ev.pos (by omega) (ih (i + 1) _ (by omega) (by omega) (by simpa using hx))))
theorem clP_mem (m : List S55) (d : ByteArray) (a : S45) (h : a ∈ clP m d) : a.f0 = d ∧ ∃ y ∈ m, ∃ z ∈ y.f2, a.f1 = z.f0 := by
  unfold clP clientsOf at h
  obtain ⟨z, hz, rfl⟩ := List.mem_map.mp h
  refine ⟨rfl, ?_⟩
  have hz2 := (List.mem_filter.mp hz).1
  exact findP_mem m d (fun z => ∃ y ∈ m, ∃ z' ∈ y.f2, z.f0 = z'.f0) (fun y hy z hz => ⟨y, hy, z, hz, rfl⟩) z hz2
theorem PortPlans : contangolaw42_PortPlans.Said := by
  intro l x gs hokl hokx hokg hszl hszx hszg
  refine Ev.get ?_
  obtain ⟨m, d⟩ := x
  simp only [ok25] at hokx
  simp only [sz25] at hszx
  have hsz : ∀ y ∈ m, y.f0.size ≤ 9223372036854775806 ∧ ∀ z ∈ y.f2, z.f0.size ≤ 9223372036854775806 := by
    intro y hy
    have h := hszx.1.2 y hy
    simp only [sz55, sz61] at h
    exact ⟨by omega, fun z hz => by have := (h.2.2.2 z hz).1; omega⟩
  have hs1 : ∀ y ∈ m, y.f2.length * 24 ≤ 140737488351232 := fun y hy => (hszx.1.2 y hy).2.2.1
  have hs2 : ∀ y ∈ m, y.f2.length ≤ 140737488351232 := fun y hy => by have := hs1 y hy; omega
  have hn : m.length ≤ 140737488351232 := by have := hszx.1.1; omega
  simp only [contangolaw42_PortPlans.f]
  refine Ev.bind (few_ev l m d gs) (Ev.ite (fun c => ?_) (fun c => Ev.bind goes_ev (Ev.val _)))
  simp only [Bool.and_eq_true, decide_eq_true_eq] at c
  have hg : ∀ g ∈ gs, accOk g.f0 = true := by
    intro g hg
    have h := (hokg.2 g hg).1
    simp only [ok45] at h
    simp only [accOk, Bool.and_eq_true, decide_eq_true_eq]
    exact h
  have hc : ∀ a ∈ clP m d, accOk a = true := by
    intro a ha
    obtain ⟨h1, y, hy, z, hz, h2⟩ := clP_mem m d a ha
    have := (hsz y hy).2 z hz
    simp only [accOk, Bool.and_eq_true, decide_eq_true_eq, h1, h2]
    exact ⟨hokx.2, by omega⟩
  obtain ⟨p1, p2⟩ := planP_len l m d gs
  refine Ev.bind (offers_ev l (by omega)) (Ev.bind (gaps_ev gs (by omega)) (Ev.bind (plan_ev l (by omega) m (fun c => chk_kinds c) hs1 d gs hg hc) (Ev.bind (rplan_ev l (by omega) m hn hs2 hsz d gs) ?_)))
  refine Ev.bind (pcheck_ev m (fun c => chk_kinds c) hs1 d l) (Ev.bind (rcheck_ev m hn hs2 hsz d l) (Ev.pos rfl ?_))
  refine Ev.bind (back_ev _ (by omega)) (Ev.bind (same42_refl _ (by omega)) (Ev.pos rfl (Ev.bind (sameAccs_refl _ (by show (planP l m d gs).2.1.length ≤ _; omega)) (Ev.pos rfl (Ev.shift ?_)))))
  simp only [contangolaw42_PortPlans.j0]
  refine Ev.neg (by simp) ?_
  refine spoil_loop l _ (by simp only [List.length_map]; omega) ?_ _ 0 _ rfl (Nat.zero_le _) rfl
  exact Ev.bind (back_ev _ (by omega)) (Ev.bind (same42_refl _ (by omega)) (Ev.pos rfl (Ev.bind goes_ev (Ev.val _))))
end Go.Proofs.Ytdhmckgagffgkaa.Pure
