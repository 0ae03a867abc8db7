/- Of any members: what a further member, a further account and another status make of them is what the document says: the law, as a statement over numbers and lists. -/
import Derived.Test.YtipoicfglaanaaaArgMemberTurns
namespace Go.Proofs.Ytipoicfglaanaaa.Pure
set_option linter.unusedSimpArgs false
set_option linter.unusedVariables false
open Go.RowKit Go.Proofs.Ytipoicfglaanaaa.PMemberTurns Go.Proofs.Ytipoicfglaanaaa.Opens Go.Proofs.YtipoicfglaanaaaW.PrintWords Go.Proofs.YtipoicfglaanaaaW.PrintLast
/-- Comes to r, at all large numbers of rounds. -/
def Ev {α : Type} (g : Nat → Option α) (r : α) : Prop := ∃ K, ∀ k, K ≤ k → g k = some r
theorem Ev.shift {α : Type} {g : Nat → Option α} {r : α} (h : Ev (fun k => g (k + 1)) r) : Ev g r := by
  obtain ⟨K, h⟩ := h
  refine ⟨K + 1, fun k hk => ?_⟩
  obtain ⟨m, rfl⟩ : ∃ m, k = m + 1 := ⟨k - 1, by omega⟩
  exact h m (by omega)
theorem Ev.val {α : Type} (r : α) : Ev (fun _ => some r) r := ⟨0, fun _ _ => rfl⟩
theorem Ev.bind {α β : Type} {g : Nat → Option α} {f : Nat → α → Option β} {x : α} {r : β} (h : Ev g x) (h' : Ev (fun k => f k x) r) : Ev (fun k => (g k).bind (f k)) r := by
  obtain ⟨K, h⟩ := h
  obtain ⟨K', h'⟩ := h'
  exact ⟨max K K', fun k hk => by show (g k).bind (f k) = some r; rw [h k (by omega)]; exact h' k (by omega)⟩
theorem Ev.get {α : Type} {g : Nat → Option α} {r : α} (h : Ev g r) : ∃ k, g k = some r := by
  obtain ⟨K, h⟩ := h
  exact ⟨K, h K (Nat.le_refl _)⟩
theorem Ev.of {α : Type} {g : Nat → Option α} {r : α} {k0 : Nat} (h : g k0 = some r) (hm : ∀ k, LeO (g k) (g (k + 1))) : Ev g r := ⟨k0, fun _ hk => at_rounds hm hk h⟩
theorem Ev.pos {α : Type} {c : Prop} [Decidable c] {a b : Nat → Option α} {r : α} (hc : c) (h : Ev a r) : Ev (fun k => if c then a k else b k) r := by
  obtain ⟨K, h⟩ := h
  exact ⟨K, fun k hk => by show (if c then a k else b k) = some r; rw [if_pos hc]; exact h k hk⟩
theorem Ev.neg {α : Type} {c : Prop} [Decidable c] {a b : Nat → Option α} {r : α} (hc : ¬ c) (h : Ev b r) : Ev (fun k => if c then a k else b k) r := by
  obtain ⟨K, h⟩ := h
  exact ⟨K, fun k hk => by show (if c then a k else b k) = some r; rw [if_neg hc]; exact h k hk⟩
/-- Both ways, each where it is taken. -/
theorem Ev.ite {α : Type} {c : Prop} [Decidable c] {a b : Nat → Option α} {r : α} (h : c → Ev a r) (h' : ¬ c → Ev b r) : Ev (fun k => if c then a k else b k) r := by
  by_cases hc : c
  · exact Ev.pos hc (h hc)
  · exact Ev.neg hc (h' hc)
theorem wrap_small {n : Int} (h0 : -9223372036854775808 ≤ n) (h1 : n ≤ 9223372036854775807) : wrap64 n = n := by unfold wrap64; omega
/-- Both ways, each with its own end. -/
theorem Ev.both {α : Type} {c : Prop} [Decidable c] {a b : Nat → Option α} {r s : α} (h : c → Ev a r) (h' : ¬ c → Ev b s) : Ev (fun k => if c then a k else b k) (if c then r else s) := by
  by_cases hc : c
  · rw [if_pos hc]; exact Ev.pos hc (h hc)
  · rw [if_neg hc]; exact Ev.neg hc (h' hc)
theorem Ev.valOf {α : Type} {r s : α} (h : s = r) : Ev (fun _ => some r) s := by subst h; exact Ev.val _
theorem refName_loop (s : ByteArray) (hs : s.size ≤ 9223372036854775806) (d : Nat) : ∀ i : Nat, 1 ≤ i → s.size - i = d → i ≤ s.size → Ev (fun k => contangoref03_Name.l0 k s i) (restB s d i && decide (0 < s.size) && decide (s.size ≤ 12)) := by
  induction d with
  | zero =>
    intro i h1 hd hi
    refine Ev.shift ?_
    simp only [contangoref03_Name.l0]
    refine Ev.neg (by omega) (Ev.pos (by omega) ?_)
    have e1 : decide ((s.size : Int) ≤ 12) = decide (s.size ≤ 12) := decide_eq_decide.mpr (by omega)
    have e2 : decide (0 < s.size) = true := decide_eq_true (by omega)
    rw [e1, e2]
    exact Ev.val _
  | succ d ih =>
    intro i h1 hd hi
    refine Ev.shift ?_
    simp only [contangoref03_Name.l0]
    have hw : wrap64 ((i : Int) + 1) = ((i + 1 : Nat) : Int) := by unfold wrap64; omega
    have h := ih (i + 1) (by omega) (by omega) (by omega)
    rw [hw]
    refine Ev.pos (by omega) (Ev.pos (by omega) ?_)
    simp only [restB, letB, digB]
    by_cases c1 : 97 ≤ bt s i
    · by_cases c2 : bt s i ≤ 122
      · simpa [c1, c2] using h
      · have c3 : ¬ bt s i < 48 := by omega
        have c4 : 57 < bt s i := by omega
        have c5 : ¬ bt s i ≤ 57 := by omega
        have c6 : ¬ (i : Int) = 0 := by omega
        simp only [c1, c2, c3, c4, c5, c6, ge_iff_le, gt_iff_lt, if_true, if_false, decide_true, decide_false, Bool.and_false, Bool.or_false, Bool.false_and]
        exact Ev.val _
    · by_cases c3 : bt s i < 48
      · have c6 : ¬ (i : Int) = 0 := by omega
        have c7 : ¬ 48 ≤ bt s i := by omega
        simp only [c1, c3, c6, c7, ge_iff_le, gt_iff_lt, if_true, if_false, decide_false, Bool.false_and, Bool.or_false]
        exact Ev.val _
      · have c6 : ¬ (i : Int) = 0 := by omega
        have c7 : 48 ≤ bt s i := by omega
        by_cases c4 : 57 < bt s i
        · have c5 : ¬ bt s i ≤ 57 := by omega
          simp only [c1, c3, c4, c5, c6, c7, ge_iff_le, gt_iff_lt, if_true, if_false, decide_true, decide_false, Bool.and_false, Bool.false_and, Bool.or_false]
          exact Ev.val _
        · have c5 : bt s i ≤ 57 := by omega
          simp only [c1, c3, c4, c5, c6, c7, ge_iff_le, gt_iff_lt, if_true, if_false, decide_true, decide_false, Bool.and_true, Bool.false_and, Bool.true_and, Bool.false_or]
          exact h
/-- What the document says of a name is what the code says. -/
theorem refName (s : ByteArray) (hs : s.size ≤ 9223372036854775806) : Ev (fun k => contangoref03_Name.f k s) (nameB s) := by
  simp only [contangoref03_Name.f]
  refine Ev.shift ?_
  simp only [contangoref03_Name.l0]
  by_cases h0 : s.size = 0
  · refine Ev.neg (by omega) (Ev.neg (by omega) ?_)
    have : nameB s = false := by simp [nameB, h0]
    rw [this]
    exact Ev.val _
  · have hw : wrap64 ((0 : Int) + 1) = ((1 : Nat) : Int) := by unfold wrap64; omega
    have h := refName_loop s hs (s.size - 1) 1 (by omega) (by omega) (by omega)
    refine Ev.pos (by omega) (Ev.pos (by omega) ?_)
    rw [hw]
    have hd : decide (0 < s.size) = true := decide_eq_true (by omega)
    obtain ⟨d, hdd⟩ : ∃ d, s.size = d + 1 := ⟨s.size - 1, by omega⟩
    have hn : nameB s = (letB (bt s 0) && (restB s (s.size - 1) 1 && decide (0 < s.size) && decide (s.size ≤ 12))) := by
      rw [hd]
      simp only [nameB, hd]
      rw [show restB s s.size 0 = ((letB (bt s 0) || digB (bt s 0)) && restB s (s.size - 1) 1) from by rw [hdd]; rfl]
      cases letB (bt s 0) <;> cases decide (s.size ≤ 12) <;> cases restB s (s.size - 1) 1 <;> simp
    rw [hn]
    simp only [letB]
    by_cases c1 : 97 ≤ bt s 0
    · by_cases c2 : bt s 0 ≤ 122
      · simp only [c1, c2, ge_iff_le, if_true, decide_true, Bool.true_and]
        exact h
      · simp only [c1, c2, ge_iff_le, if_true, if_false, decide_true, decide_false, Bool.and_false, Bool.false_and]
        exact Ev.val _
    · simp only [c1, ge_iff_le, if_true, if_false, decide_false, Bool.false_and]
      exact Ev.val _
theorem refAccounts_loop (l : List S53) (hn : l.length ≤ 16) (hs : ∀ y ∈ l, y.f0.size ≤ 9223372036854775806) (d : Nat) : ∀ i : Nat, l.length - i = d → i ≤ l.length → Ev (fun k => contangoref11_accounts.l0 k l i) (firstErr (aErr l) d i) := by
  induction d with
  | zero =>
    intro i hd hi
    refine Ev.shift ?_
    simp only [contangoref11_accounts.l0]
    exact Ev.neg (by omega) (Ev.val _)
  | succ d ih =>
    intro i hd hi
    have hw : wrap64 ((i : Int) + 1) = ((i + 1 : Nat) : Int) := by unfold wrap64; omega
    have h := ih (i + 1) (by omega) (by omega)
    have hil : i < l.length := by omega
    have hsz : (rd_T53 l i).f0.size ≤ 9223372036854775806 := by
      have : rd_T53 l i = l[i] := by simp [rd_T53, hil]
      rw [this]
      exact hs _ (List.getElem_mem hil)
    refine Ev.shift ?_
    simp only [contangoref11_accounts.l0]
    refine Ev.pos (by omega) (Ev.pos (by omega) (Ev.bind (refName _ hsz) ?_))
    have hf : firstErr (aErr l) (d + 1) i = if aErr l i = 0 then firstErr (aErr l) d (i + 1) else aErr l i := rfl
    rw [hf]
    by_cases hnm : nameB (rd_T53 l i).f0 = true
    · refine Ev.pos hnm ?_
      have key : ∀ b : Bool, (b = true ↔ (0 < (i : Int) ∧ Op.bytesLess (rd_T53 l ((i : Int) - 1)).f0.toList (rd_T53 l i).f0.toList = false)) → Ev (fun k => contangoref11_accounts.j1 k l i b) (if aErr l i = 0 then firstErr (aErr l) d (i + 1) else aErr l i) := by
        intro b hb
        refine Ev.shift ?_
        simp only [contangoref11_accounts.j1, hw]
        refine Ev.ite (fun hbt => ?_) (fun hbt => ?_)
        · have : aErr l i = 12 := by
            have hst : stepErr (fun j => (rd_T53 l j).f0) i = 12 := by simp only [stepErr]; rw [if_pos hnm, if_pos (hb.mp hbt)]
            simp [aErr, hst]
          rw [this]
          exact Ev.val _
        · have hst : stepErr (fun j => (rd_T53 l j).f0) i = 0 := by simp only [stepErr]; rw [if_pos hnm, if_neg (fun hh => hbt (hb.mpr hh))]
          refine Ev.pos (by omega) (Ev.pos (by omega) (Ev.ite (fun c1 => ?_) (fun c1 => Ev.ite (fun c2 => ?_) (fun c2 => ?_))))
          · have : aErr l i = 21 := by simp only [aErr, hst, if_true]; rw [if_neg (by omega)]
            rw [this]
            exact Ev.val _
          · have : aErr l i = 21 := by simp only [aErr, hst, if_true]; rw [if_neg (by omega)]
            rw [this]
            exact Ev.val _
          · have : aErr l i = 0 := by simp only [aErr, hst, if_true]; rw [if_pos (by omega)]
            rw [if_pos this]
            exact h
      refine Ev.ite (fun c => ?_) (fun c => ?_)
      · have hw1 : wrap64 ((i : Int) - 1) = (i : Int) - 1 := by unfold wrap64; omega
        rw [hw1]
        refine Ev.pos (by omega) (Ev.pos (by omega) (key _ ?_))
        have c' : 0 < (i : Int) := c
        have c'' : 0 < i := by omega
        simp [c'']
      · exact key _ (by simp only [Bool.false_eq_true, false_iff]; intro hh; exact c hh.1)
    · refine Ev.neg hnm ?_
      have : aErr l i = 10 := by
        have hst : stepErr (fun j => (rd_T53 l j).f0) i = 10 := by simp only [stepErr]; rw [if_neg hnm]
        simp [aErr, hst]
      rw [this]
      exact Ev.val _
theorem refAccounts (l : List S53) (hs : ∀ y ∈ l, y.f0.size ≤ 9223372036854775806) : Ev (fun k => contangoref11_accounts.f k l) (if 16 < l.length then 8 else firstErr (aErr l) l.length 0) := by
  simp only [contangoref11_accounts.f]
  refine Ev.ite (fun c => ?_) (fun c => ?_)
  · rw [if_pos (by omega)]
    exact Ev.val _
  · rw [if_neg (by omega)]
    exact refAccounts_loop l (by omega) hs l.length 0 (by omega) (by omega)
theorem refCheck_loop (l : List S45) (hn : l.length ≤ 32) (hs : ∀ y ∈ l, y.f0.size ≤ 9223372036854775806 ∧ ∀ z ∈ y.f2, z.f0.size ≤ 9223372036854775806) (d : Nat) : ∀ i : Nat, l.length - i = d → i ≤ l.length → Ev (fun k => contangoref11_Check.l0 k l i) (firstErr (mErr l) d i) := by
  induction d with
  | zero =>
    intro i hd hi
    refine Ev.shift ?_
    simp only [contangoref11_Check.l0]
    exact Ev.neg (by omega) (Ev.val _)
  | succ d ih =>
    intro i hd hi
    have hw : wrap64 ((i : Int) + 1) = ((i + 1 : Nat) : Int) := by unfold wrap64; omega
    have h := ih (i + 1) (by omega) (by omega)
    have hil : i < l.length := by omega
    obtain ⟨hsz, hsa⟩ : (rd_T45 l i).f0.size ≤ 9223372036854775806 ∧ ∀ z ∈ (rd_T45 l i).f2, z.f0.size ≤ 9223372036854775806 := by
      have : rd_T45 l i = l[i] := by simp [rd_T45, hil]
      rw [this]
      exact hs _ (List.getElem_mem hil)
    refine Ev.shift ?_
    simp only [contangoref11_Check.l0]
    refine Ev.pos (by omega) (Ev.pos (by omega) (Ev.bind (refName _ hsz) ?_))
    have hf : firstErr (mErr l) (d + 1) i = if mErr l i = 0 then firstErr (mErr l) d (i + 1) else mErr l i := rfl
    rw [hf]
    by_cases hnm : nameB (rd_T45 l i).f0 = true
    · refine Ev.pos hnm ?_
      have key : ∀ b : Bool, (b = true ↔ (0 < (i : Int) ∧ Op.bytesLess (rd_T45 l ((i : Int) - 1)).f0.toList (rd_T45 l i).f0.toList = false)) → Ev (fun k => contangoref11_Check.j1 k l i b) (if mErr l i = 0 then firstErr (mErr l) d (i + 1) else mErr l i) := by
        intro b hb
        refine Ev.shift ?_
        simp only [contangoref11_Check.j1]
        refine Ev.ite (fun hbt => ?_) (fun hbt => ?_)
        · have : mErr l i = 12 := by
            have hst : stepErr (fun j => (rd_T45 l j).f0) i = 12 := by simp only [stepErr]; rw [if_pos hnm, if_pos (hb.mp hbt)]
            simp [mErr, hst]
          rw [this]
          exact Ev.val _
        · have hst : stepErr (fun j => (rd_T45 l j).f0) i = 0 := by simp only [stepErr]; rw [if_pos hnm, if_neg (fun hh => hbt (hb.mpr hh))]
          have key2 : ∀ b : Bool, (b = true ↔ ((rd_T45 l i).f1 < 1 ∨ 4 < (rd_T45 l i).f1)) → Ev (fun k => contangoref11_Check.j2 k l i b) (if mErr l i = 0 then firstErr (mErr l) d (i + 1) else mErr l i) := by
            intro b hb2
            refine Ev.shift ?_
            simp only [contangoref11_Check.j2, hw]
            refine Ev.ite (fun hbt2 => ?_) (fun hbt2 => ?_)
            · have : mErr l i = 13 := by simp only [mErr, hst, if_true]; rw [if_pos (hb2.mp hbt2)]
              rw [this]
              exact Ev.val _
            · have hm : mErr l i = (if 16 < (rd_T45 l i).f2.length then 8 else firstErr (aErr (rd_T45 l i).f2) (rd_T45 l i).f2.length 0) := by simp only [mErr, hst, if_true]; rw [if_neg (fun hh => hbt2 (hb2.mpr hh))]
              refine Ev.pos (by omega) (Ev.pos (by omega) (Ev.bind (refAccounts _ hsa) ?_))
              rw [← hm]
              refine Ev.ite (fun c => ?_) (fun c => ?_)
              · rw [if_pos c]
                exact h
              · rw [if_neg c]
                exact Ev.val _
          refine Ev.pos (by omega) (Ev.pos (by omega) (Ev.ite (fun c1 => ?_) (fun c1 => ?_)))
          · exact key2 _ (by simp [c1])
          · exact key2 _ (by simp; omega)
      refine Ev.ite (fun c => ?_) (fun c => ?_)
      · have hw1 : wrap64 ((i : Int) - 1) = (i : Int) - 1 := by unfold wrap64; omega
        rw [hw1]
        refine Ev.pos (by omega) (Ev.pos (by omega) (key _ ?_))
        have c' : 0 < (i : Int) := c
        have c'' : 0 < i := by omega
        simp [c'']
      · exact key _ (by simp only [Bool.false_eq_true, false_iff]; intro hh; exact c hh.1)
    · refine Ev.neg hnm ?_
      have : mErr l i = 10 := by
        have hst : stepErr (fun j => (rd_T45 l j).f0) i = 10 := by simp only [stepErr]; rw [if_neg hnm]
        simp [mErr, hst]
      rw [this]
      exact Ev.val _
/-- What the document says of members is what the code says. -/
theorem refCheck (l : List S45) (hs : ∀ y ∈ l, y.f0.size ≤ 9223372036854775806 ∧ ∀ z ∈ y.f2, z.f0.size ≤ 9223372036854775806) : Ev (fun k => contangoref11_Check.f k l) (if 32 < l.length then 8 else firstErr (mErr l) l.length 0) := by
  simp only [contangoref11_Check.f]
  refine Ev.ite (fun c => ?_) (fun c => ?_)
  · rw [if_pos (by omega)]
    exact Ev.val _
  · rw [if_neg (by omega)]
    exact refCheck_loop l (by omega) hs l.length 0 (by omega) (by omega)
theorem refPlace_loop (l : List S45) (hn : l.length ≤ 140737488351232) (name : ByteArray) (d : Nat) : ∀ i : Nat, l.length - i = d → i ≤ l.length → Ev (fun k => contangoref11_place.l0 k l name i) (member_at.go name (l.drop i) i) := by
  induction d with
  | zero =>
    intro i hd hi
    obtain rfl : i = l.length := by omega
    refine Ev.shift ?_
    simp only [contangoref11_place.l0, List.drop_length]
    exact Ev.neg (by omega) (Ev.val _)
  | succ d ih =>
    intro i hd hi
    have hw : wrap64 ((i : Int) + 1) = ((i + 1 : Nat) : Int) := by unfold wrap64; omega
    have h := ih (i + 1) (by omega) (by omega)
    rw [member_at.go_drop name l i (by omega)]
    refine Ev.shift ?_
    simp only [contangoref11_place.l0, hw]
    refine Ev.pos (by omega) (Ev.pos (by omega) ?_)
    by_cases c : (rd_T45 l i).f0.toList = name.toList
    · rw [if_pos c]
      exact Ev.pos c (Ev.val _)
    · rw [if_neg c]
      exact Ev.neg c h
theorem refPlace (l : List S45) (hn : l.length ≤ 140737488351232) (name : ByteArray) : Ev (fun k => contangoref11_place.f k l name) (member_at.go name l 0) := by
  simp only [contangoref11_place.f]
  have := refPlace_loop l hn name l.length 0 (by omega) (by omega)
  simpa using this
/-- The first member of a name. -/
def findP (l : List S45) (name : ByteArray) : ByteArray × Int × List S53 × Bool :=
  if member_at.go name l 0 < 0 then ((⟨#[]⟩ : ByteArray), 0, ([] : List S53), false) else ((rd_T45 l (member_at.go name l 0)).f0, (rd_T45 l (member_at.go name l 0)).f1, (rd_T45 l (member_at.go name l 0)).f2, true)
theorem rd45_mem (l : List S45) (i : Int) (h0 : 0 ≤ i) (h1 : i < l.length) : rd_T45 l i ∈ l := by
  have h : i.toNat < l.length := by omega
  have : rd_T45 l i = l[i.toNat] := by simp [rd_T45, h]
  rw [this]
  exact List.getElem_mem h
theorem at_bounds (l : List S45) (name : ByteArray) (h : ¬ member_at.go name l 0 < 0) : 0 ≤ member_at.go name l 0 ∧ member_at.go name l 0 < (l.length : Int) := by
  rcases member_at.go_lt name l 0 with c | c
  · exact absurd (by omega) h
  · exact ⟨c.1, by omega⟩
theorem findP_mem (l : List S45) (name : ByteArray) (Q : S53 → Prop) (h : ∀ y ∈ l, ∀ z ∈ y.f2, Q z) : ∀ z ∈ (findP l name).2.2.1, Q z := by
  unfold findP
  split
  · intro z hz
    cases hz
  · rename_i c
    have b := at_bounds l name c
    exact h _ (rd45_mem l _ b.1 b.2)
theorem findP_len (l : List S45) (name : ByteArray) (N : Nat) (h : ∀ y ∈ l, y.f2.length ≤ N) : (findP l name).2.2.1.length ≤ N := by
  unfold findP
  split
  · exact Nat.zero_le _
  · rename_i c
    have b := at_bounds l name c
    exact h _ (rd45_mem l _ b.1 b.2)
theorem find_some (l : List S45) (name : ByteArray) (hs : ∀ y ∈ l, y.f2.length * 24 ≤ 140737488351232) : member_Find.f l name = some (findP l name) := by
  simp only [member_Find.f, member_at.f, Option.bind_some, findP]
  by_cases c : member_at.go name l 0 < 0
  · rw [if_pos c, if_pos c]
  · have b := at_bounds l name c
    have hz := hs _ (rd45_mem l _ b.1 b.2)
    rw [if_neg c, if_neg c, if_pos b.1, if_pos b.2]
    simp only [api_Account.f]
    rw [if_pos (by omega)]
    rfl
theorem refFind (l : List S45) (hn : l.length ≤ 140737488351232) (name : ByteArray) : Ev (fun k => contangoref11_Find.f k l name) (findP l name) := by
  simp only [contangoref11_Find.f, findP]
  refine Ev.bind (refPlace l hn name) ?_
  exact Ev.both (fun c => Ev.val _) (fun c => Ev.pos (at_bounds l name c).1 (Ev.pos (at_bounds l name c).2 (Ev.val _)))
/-- The account at a place; none. -/
def accAt (l : List S53) (i : Int) : ByteArray × Int × Bool := if i < 0 then ((⟨#[]⟩ : ByteArray), 0, false) else ((rd_T53 l i).f0, (rd_T53 l i).f1, true)
/-- The first account of a name. -/
def accP (l : List S53) (name : ByteArray) : ByteArray × Int × Bool := accAt l (idxOf (fun x : S53 => x.f0.toList == name.toList) l 0)
theorem account_some (l : List S45) (a b : ByteArray) (hs : ∀ y ∈ l, y.f2.length * 24 ≤ 140737488351232) : member_Account.f l a b = some (accP (findP l a).2.2.1 b) := by
  simp only [member_Account.f, find_some l a hs, Option.bind_some, accP, accAt]
  split <;> rfl
theorem refAccount_loop (l : List S53) (hn : l.length ≤ 140737488351232) (a b c : ByteArray) (e : Int) (d : Nat) : ∀ i : Nat, l.length - i = d → i ≤ l.length →
    Ev (fun k => contangoref11_Account.l0 k i a b c e l) (accAt l (idxOf (fun x : S53 => x.f0.toList == b.toList) (l.drop i) i)) := by
  induction d with
  | zero =>
    intro i hd hi
    obtain rfl : i = l.length := by omega
    refine Ev.shift ?_
    simp only [contangoref11_Account.l0, List.drop_length, idxOf, accAt]
    exact Ev.neg (by omega) (Ev.val _)
  | succ d ih =>
    intro i hd hi
    have hw : wrap64 ((i : Int) + 1) = ((i + 1 : Nat) : Int) := by unfold wrap64; omega
    have h := ih (i + 1) (by omega) (by omega)
    have hdr := idxOf_drop (fun x : S53 => x.f0.toList == b.toList) l z53 i (by omega)
    rw [hdr]
    refine Ev.shift ?_
    simp only [contangoref11_Account.l0, hw]
    refine Ev.pos (by omega) (Ev.pos (by omega) ?_)
    have e1 : l.getD i z53 = rd_T53 l i := by simp [rd_T53]
    rw [e1]
    by_cases hc : (rd_T53 l i).f0.toList = b.toList
    · rw [if_pos (by simpa using hc)]
      refine Ev.pos hc ?_
      simp only [accAt]
      rw [if_neg (by omega)]
      exact Ev.val _
    · rw [if_neg (by simpa using hc)]
      exact Ev.neg hc h
theorem refAccount (l : List S45) (hn : l.length ≤ 140737488351232) (hs : ∀ y ∈ l, y.f2.length ≤ 140737488351232) (a b : ByteArray) : Ev (fun k => contangoref11_Account.f k l a b) (accP (findP l a).2.2.1 b) := by
  simp only [contangoref11_Account.f]
  refine Ev.bind (refFind l hn a) ?_
  have := refAccount_loop (findP l a).2.2.1 (findP_len l a _ hs) a b (findP l a).1 (findP l a).2.1 _ 0 rfl (Nat.zero_le _)
  simpa [accP] using this
theorem one_loop (l : List S53) (hn : l.length ≤ 140737488351232) (a c : ByteArray) (b e : Int) (d : Nat) : ∀ i : Nat, l.length - i = d → i ≤ l.length → Ev (fun k => contangoref11_One.l0 k i a b l c e l) true := by
  induction d with
  | zero =>
    intro i hd hi
    refine Ev.shift ?_
    simp only [contangoref11_One.l0]
    exact Ev.neg (by omega) (Ev.val _)
  | succ d ih =>
    intro i hd hi
    have hw : wrap64 ((i : Int) + 1) = ((i + 1 : Nat) : Int) := by unfold wrap64; omega
    have h := ih (i + 1) (by omega) (by omega)
    refine Ev.shift ?_
    simp only [contangoref11_One.l0, hw]
    exact Ev.pos (by omega) (Ev.pos (by omega) (Ev.pos (by omega) (Ev.neg (by simp) h)))
/-- A member is itself. -/
theorem one_refl (a : ByteArray) (b : Int) (l : List S53) (hn : l.length ≤ 140737488351232) : Ev (fun k => contangoref11_One.f k a b l a b l) true := by
  simp only [contangoref11_One.f]
  refine Ev.pos trivial (Ev.pos trivial (Ev.shift ?_))
  simp only [contangoref11_One.j0]
  exact Ev.neg (by simp) (one_loop l hn a a b b _ 0 rfl (Nat.zero_le _))
theorem drop45 (l : List S45) (i : Nat) (h : i < l.length) : l.drop i = rd_T45 l i :: l.drop (i + 1) := by
  rw [List.drop_eq_getElem_cons h]
  simp [rd_T45, h]
theorem drop53 (l : List S53) (i : Nat) (h : i < l.length) : l.drop i = rd_T53 l i :: l.drop (i + 1) := by
  rw [List.drop_eq_getElem_cons h]
  simp [rd_T53, h]
/-- What is wrong with members. -/
def chk (l : List S45) : Int := if 32 < l.length then 8 else firstErr (mErr l) l.length 0
theorem check_ev (l : List S45) : Ev (fun _ => member_Check.f l) (chk l) := Ev.val _
theorem chk_len {l : List S45} (h : chk l = 0) : l.length ≤ 32 := by
  unfold chk at h
  split at h
  · cases h
  · omega
theorem chk_few {l : List S45} (h : chk l = 0) : ∀ y ∈ l, y.f2.length ≤ 16 := by
  intro y hy
  obtain ⟨i, hi, rfl⟩ := List.getElem_of_mem hy
  have := member_Check.few (l := l) (congrArg some h) hi
  simpa [rd_T45, hi] using this
theorem own_ev {l : List S45} (h : chk l = 0) : Ev (fun _ => member_own.f l) l := by
  have h1 := chk_len h
  have h2 := chk_few h
  refine Ev.pos ⟨by omega, ?_⟩ (Ev.val _)
  rw [List.all_eq_true]
  intro y hy
  have := h2 y hy
  exact decide_eq_true (by omega)
theorem at_ev (l : List S45) (a : ByteArray) : Ev (fun _ => member_at.f l a) (member_at.go a l 0) := Ev.val _
/-- A list with one more, ahead of the first of which p holds. -/
def insL {α : Type} (p : α → Bool) (x : α) : List α → List α
  | [] => [x]
  | y :: r => if p y = true then x :: y :: r else y :: insL p x r
def nidx {α : Type} (p : α → Bool) : List α → Nat
  | [] => 0
  | y :: r => if p y = true then 0 else nidx p r + 1
theorem placeOf_nidx {α : Type} (p : α → Bool) : ∀ (l : List α) (i : Nat), placeOf (idxOf p l i) (i + l.length) = i + nidx p l := by
  intro l
  induction l with
  | nil => intro i; simp [idxOf, placeOf, nidx]
  | cons y r ih =>
    intro i
    simp only [idxOf, nidx]
    split
    · simp [placeOf]
    · have := ih (i + 1)
      rw [show ((i : Int) + 1) = ((i + 1 : Nat) : Int) from by omega, List.length_cons, show i + (r.length + 1) = i + 1 + r.length from by omega, this]
      omega
theorem insL_insAt {α : Type} (p : α → Bool) (x : α) (l : List α) : insL p x l = insAt l (placeOf (idxOf p l 0) l.length) x := by
  have h := placeOf_nidx p l 0
  simp only [Nat.zero_add, Int.natCast_zero] at h
  have h' : placeOf (idxOf p l 0) l.length = nidx p l := h
  rw [h']
  clear h h'
  induction l with
  | nil => rfl
  | cons y r ih =>
    simp only [insL, nidx]
    split
    · rfl
    · rw [ih]
      simp [insAt]
def addR (l : List S45) (a : ByteArray) : List S45 × Int :=
  if chk l = 0 then (if nameB a = true then (if 0 ≤ member_at.go a l 0 then ([], 12) else if 32 ≤ l.length then ([], 8) else (insL (fun m : S45 => Op.bytesLess a.toList m.f0.toList) ⟨a, 1, []⟩ l, 0)) else ([], 10)) else ([], chk l)
theorem add_ev (l : List S45) (a : ByteArray) : Ev (fun _ => member_Add.f l a) (addR l a) := by
  simp only [member_Add.f, addR]
  refine Ev.bind (check_ev l) (Ev.both (fun c => Ev.both (fun c2 => Ev.both (fun c3 => Ev.val _) (fun c3 => ?_)) (fun c2 => Ev.val _)) (fun c => Ev.val _))
  have hl := chk_len c
  by_cases c4 : l.length = 32
  · rw [if_pos (show 32 ≤ l.length by omega)]
    exact Ev.pos c4 (Ev.val _)
  · rw [if_neg (show ¬ 32 ≤ l.length by omega)]
    refine Ev.neg c4 (Ev.bind (own_ev c) (Ev.valOf ?_))
    rw [insL_insAt]
theorem refAdd_in (l : List S45) (hl : l.length ≤ 32) (a : ByteArray) (d : Nat) : ∀ (i : Nat) (out : List S45), l.length - i = d → i ≤ l.length → out.length + d ≤ 100 → Ev (fun k => contangoref11_Add.l0 k l a out true i) (out ++ l.drop i, 0) := by
  induction d with
  | zero =>
    intro i out hd hi hb
    obtain rfl : i = l.length := by omega
    refine Ev.shift ?_
    simp only [contangoref11_Add.l0, List.drop_length, List.append_nil]
    exact Ev.neg (by omega) (Ev.pos trivial (Ev.val _))
  | succ d ih =>
    intro i out hd hi hb
    have hw : wrap64 ((i : Int) + 1) = ((i + 1 : Nat) : Int) := by unfold wrap64; omega
    have h := ih (i + 1) (out ++ [rd_T45 l i]) (by omega) (by omega) (by simp; omega)
    rw [List.append_assoc, List.singleton_append, ← drop45 l i (by omega)] at h
    refine Ev.shift ?_
    simp only [contangoref11_Add.l0, hw]
    exact Ev.pos (by omega) (Ev.pos trivial (Ev.pos (by omega) (Ev.pos (by omega) h)))
theorem refAdd_loop (l : List S45) (hl : l.length ≤ 32) (a : ByteArray) (d : Nat) : ∀ (i : Nat) (out : List S45), l.length - i = d → i ≤ l.length → out.length + d ≤ 90 → Ev (fun k => contangoref11_Add.l0 k l a out false i) (out ++ insL (fun m : S45 => Op.bytesLess a.toList m.f0.toList) ⟨a, 1, []⟩ (l.drop i), 0) := by
  induction d with
  | zero =>
    intro i out hd hi hb
    obtain rfl : i = l.length := by omega
    refine Ev.shift ?_
    simp only [contangoref11_Add.l0, List.drop_length, insL]
    exact Ev.neg (by omega) (Ev.neg (by simp) (Ev.pos (by omega) (Ev.val _)))
  | succ d ih =>
    intro i out hd hi hb
    have hw : wrap64 ((i : Int) + 1) = ((i + 1 : Nat) : Int) := by unfold wrap64; omega
    have h := ih (i + 1) (out ++ [rd_T45 l i]) (by omega) (by omega) (by simp; omega)
    have h' := refAdd_in l hl a d (i + 1) (out ++ [⟨a, 1, []⟩] ++ [rd_T45 l i]) (by omega) (by omega) (by simp; omega)
    rw [List.append_assoc, List.singleton_append] at h
    rw [show out ++ [(⟨a, 1, []⟩ : S45)] ++ [rd_T45 l i] ++ l.drop (i + 1) = out ++ (⟨a, 1, []⟩ :: l.drop i) from by rw [drop45 l i (by omega)]; simp] at h'
    refine Ev.shift ?_
    simp only [contangoref11_Add.l0, hw]
    refine Ev.pos (by omega) (Ev.neg (by simp) (Ev.pos (by omega) ?_))
    rw [drop45 l i (by omega)] at h' ⊢
    by_cases c : Op.bytesLess a.toList (rd_T45 l i).f0.toList = true
    · refine Ev.pos c (Ev.pos (by omega) ?_)
      simp only [Option.bind_some, insL]
      rw [if_pos c]
      exact Ev.pos (by simp; omega) h'
    · refine Ev.neg c (Ev.pos (by omega) ?_)
      simp only [insL]
      rw [if_neg c]
      exact h
theorem refAdd_ev (l : List S45) (a : ByteArray) (hn : l.length ≤ 140737488351232) (ha : a.size ≤ 9223372036854775806) (hs : ∀ y ∈ l, y.f0.size ≤ 9223372036854775806 ∧ ∀ z ∈ y.f2, z.f0.size ≤ 9223372036854775806) : Ev (fun k => contangoref11_Add.f k l a) (addR l a) := by
  simp only [contangoref11_Add.f, addR]
  refine Ev.bind (refCheck l hs) (Ev.both (fun c => Ev.bind (refName a ha) (Ev.both (fun c2 => Ev.bind (refPlace l hn a) (Ev.both (fun c3 => Ev.val _) (fun c3 => ?_))) (fun c2 => Ev.val _))) (fun c => Ev.val _))
  by_cases c4 : 32 ≤ l.length
  · rw [if_pos c4]
    exact Ev.pos (by omega) (Ev.val _)
  · rw [if_neg c4]
    have := refAdd_loop l (by omega) a _ 0 [] rfl (Nat.zero_le _) (by simp; omega)
    exact Ev.neg (by omega) (by simpa using this)
theorem refWith_in (l : List S53) (hl : l.length ≤ 32) (a : ByteArray) (b : Int) (d : Nat) : ∀ (i : Nat) (out : List S53), l.length - i = d → i ≤ l.length → out.length + d ≤ 100 → Ev (fun k => contangoref11_with.l0 k l out true i a b) (out ++ l.drop i) := by
  induction d with
  | zero =>
    intro i out hd hi hb
    obtain rfl : i = l.length := by omega
    refine Ev.shift ?_
    simp only [contangoref11_with.l0, List.drop_length, List.append_nil]
    exact Ev.neg (by omega) (Ev.pos trivial (Ev.val _))
  | succ d ih =>
    intro i out hd hi hb
    have hw : wrap64 ((i : Int) + 1) = ((i + 1 : Nat) : Int) := by unfold wrap64; omega
    have h := ih (i + 1) (out ++ [rd_T53 l i]) (by omega) (by omega) (by simp; omega)
    rw [List.append_assoc, List.singleton_append, ← drop53 l i (by omega)] at h
    refine Ev.shift ?_
    simp only [contangoref11_with.l0, hw]
    exact Ev.pos (by omega) (Ev.pos trivial (Ev.pos (by omega) (Ev.pos (by omega) h)))
theorem refWith_loop (l : List S53) (hl : l.length ≤ 32) (a : ByteArray) (b : Int) (d : Nat) : ∀ (i : Nat) (out : List S53), l.length - i = d → i ≤ l.length → out.length + d ≤ 90 → Ev (fun k => contangoref11_with.l0 k l out false i a b) (out ++ insL (fun m : S53 => Op.bytesLess a.toList m.f0.toList) ⟨a, b⟩ (l.drop i)) := by
  induction d with
  | zero =>
    intro i out hd hi hb
    obtain rfl : i = l.length := by omega
    refine Ev.shift ?_
    simp only [contangoref11_with.l0, List.drop_length, insL]
    exact Ev.neg (by omega) (Ev.neg (by simp) (Ev.pos (by omega) (Ev.val _)))
  | succ d ih =>
    intro i out hd hi hb
    have hw : wrap64 ((i : Int) + 1) = ((i + 1 : Nat) : Int) := by unfold wrap64; omega
    have h := ih (i + 1) (out ++ [rd_T53 l i]) (by omega) (by omega) (by simp; omega)
    have h' := refWith_in l hl a b d (i + 1) (out ++ [⟨a, b⟩] ++ [rd_T53 l i]) (by omega) (by omega) (by simp; omega)
    rw [List.append_assoc, List.singleton_append] at h
    rw [show out ++ [(⟨a, b⟩ : S53)] ++ [rd_T53 l i] ++ l.drop (i + 1) = out ++ (⟨a, b⟩ :: l.drop i) from by rw [drop53 l i (by omega)]; simp] at h'
    refine Ev.shift ?_
    simp only [contangoref11_with.l0, hw]
    refine Ev.pos (by omega) (Ev.neg (by simp) (Ev.pos (by omega) ?_))
    rw [drop53 l i (by omega)] at h' ⊢
    by_cases c : Op.bytesLess a.toList (rd_T53 l i).f0.toList = true
    · refine Ev.pos c (Ev.pos (by omega) ?_)
      simp only [Option.bind_some, insL]
      rw [if_pos c]
      exact Ev.pos (by simp; omega) h'
    · refine Ev.neg c (Ev.pos (by omega) ?_)
      simp only [insL]
      rw [if_neg c]
      exact h
theorem turned_ev (l : List S45) (hl : l.length ≤ 32) (i : Int) (h0 : 0 ≤ i) (h1 : i < (l.length : Int)) (a : ByteArray) (b : Int) (c : List S53) : Ev (fun _ => contangoref11_turned.f l i a b c) (l.set i.toNat ⟨a, b, c⟩) := by
  simp only [contangoref11_turned.f]
  refine Ev.pos (by simp; omega) ?_
  simp only [Option.bind_some, List.nil_append]
  exact Ev.pos h0 (Ev.pos h1 (Ev.val _))
/-- The members with one turned. -/
def statR (l : List S45) (a : ByteArray) (st : Int) : List S45 × Int :=
  if chk l = 0 then (if member_at.go a l 0 < 0 then ([], 20) else
    if ((rd_T45 l (member_at.go a l 0)).f1 = 1 ∧ 2 ≤ st ∧ st ≤ 4) ∨ ((rd_T45 l (member_at.go a l 0)).f1 = 2 ∧ (st = 1 ∨ st = 3)) then
      (l.set (member_at.go a l 0).toNat ⟨(rd_T45 l (member_at.go a l 0)).f0, st, (rd_T45 l (member_at.go a l 0)).f2⟩, 0)
    else ([], 13)) else ([], chk l)
theorem stat_ev (l : List S45) (a : ByteArray) (st : Int) : Ev (fun _ => member_Status.f l a st) (statR l a st) := by
  simp only [member_Status.f, statR]
  refine Ev.bind (check_ev l) (Ev.both (fun c => Ev.bind (at_ev l a) (Ev.both (fun c2 => Ev.val _) (fun c2 => ?_))) (fun c => Ev.val _))
  have b := at_bounds l a c2
  refine Ev.pos b.1 (Ev.pos b.2 ?_)
  generalize hf : (rd_T45 l (member_at.go a l 0)).f1 = f
  have yes : ∀ h : (f = 1 ∧ 2 ≤ st ∧ st ≤ 4) ∨ (f = 2 ∧ (st = 1 ∨ st = 3)), Ev (fun _ => (member_own.f l).bind fun t => if member_at.go a l 0 < (t.length : Int) then some (t.set (member_at.go a l 0).toNat (⟨(rd_T45 t (member_at.go a l 0)).f0, st, (rd_T45 t (member_at.go a l 0)).f2⟩ : S45), (0 : Int)) else none) (if (f = 1 ∧ 2 ≤ st ∧ st ≤ 4) ∨ (f = 2 ∧ (st = 1 ∨ st = 3)) then (l.set (member_at.go a l 0).toNat ⟨(rd_T45 l (member_at.go a l 0)).f0, st, (rd_T45 l (member_at.go a l 0)).f2⟩, 0) else ([], 13)) := by
    intro h
    rw [if_pos h]
    exact Ev.bind (own_ev c) (Ev.pos b.2 (Ev.val _))
  have no : ∀ h : ¬ ((f = 1 ∧ 2 ≤ st ∧ st ≤ 4) ∨ (f = 2 ∧ (st = 1 ∨ st = 3))), Ev (fun _ => some (([], 13) : List S45 × Int)) (if (f = 1 ∧ 2 ≤ st ∧ st ≤ 4) ∨ (f = 2 ∧ (st = 1 ∨ st = 3)) then (l.set (member_at.go a l 0).toNat ⟨(rd_T45 l (member_at.go a l 0)).f0, st, (rd_T45 l (member_at.go a l 0)).f2⟩, 0) else ([], 13)) := by
    intro h
    rw [if_neg h]
    exact Ev.val _
  exact Ev.ite (fun s1 => Ev.ite (fun h2 => Ev.ite (fun h4 => yes (by omega)) (fun h4 => no (by omega))) (fun h2 => no (by omega))) (fun s1 => Ev.ite (fun s2 => Ev.ite (fun h1 => yes (by omega)) (fun h1 => Ev.ite (fun h3 => yes (by omega)) (fun h3 => no (by omega)))) (fun s2 => no (by omega)))
theorem refStat_ev (l : List S45) (a : ByteArray) (st : Int) (hn : l.length ≤ 140737488351232) (hs : ∀ y ∈ l, y.f0.size ≤ 9223372036854775806 ∧ ∀ z ∈ y.f2, z.f0.size ≤ 9223372036854775806) : Ev (fun k => contangoref11_Status.f k l a st) (statR l a st) := by
  simp only [contangoref11_Status.f, statR]
  refine Ev.bind (refCheck l hs) (Ev.both (fun c => Ev.bind (refPlace l hn a) (Ev.both (fun c2 => Ev.val _) (fun c2 => ?_))) (fun c => Ev.val _))
  have b := at_bounds l a c2
  have hl := chk_len c
  refine Ev.pos b.1 (Ev.pos b.2 ?_)
  have ht := turned_ev l hl _ b.1 b.2 (rd_T45 l (member_at.go a l 0)).f0 st (rd_T45 l (member_at.go a l 0)).f2
  generalize hf : (rd_T45 l (member_at.go a l 0)).f1 = f
  have yes : ∀ h : (f = 1 ∧ 2 ≤ st ∧ st ≤ 4) ∨ (f = 2 ∧ (st = 1 ∨ st = 3)), Ev (fun _ => (contangoref11_turned.f l (member_at.go a l 0) (rd_T45 l (member_at.go a l 0)).f0 st (rd_T45 l (member_at.go a l 0)).f2).bind fun t => some (t, (0 : Int))) (if (f = 1 ∧ 2 ≤ st ∧ st ≤ 4) ∨ (f = 2 ∧ (st = 1 ∨ st = 3)) then (l.set (member_at.go a l 0).toNat ⟨(rd_T45 l (member_at.go a l 0)).f0, st, (rd_T45 l (member_at.go a l 0)).f2⟩, 0) else ([], 13)) := by
    intro h
    rw [if_pos h]
    exact Ev.bind ht (Ev.val _)
  have no : ∀ h : ¬ ((f = 1 ∧ 2 ≤ st ∧ st ≤ 4) ∨ (f = 2 ∧ (st = 1 ∨ st = 3))), Ev (fun _ => some (([], 13) : List S45 × Int)) (if (f = 1 ∧ 2 ≤ st ∧ st ≤ 4) ∨ (f = 2 ∧ (st = 1 ∨ st = 3)) then (l.set (member_at.go a l 0).toNat ⟨(rd_T45 l (member_at.go a l 0)).f0, st, (rd_T45 l (member_at.go a l 0)).f2⟩, 0) else ([], 13)) := by
    intro h
    rw [if_neg h]
    exact Ev.val _
  have two : ¬ (f = 1 ∧ 2 ≤ st ∧ st ≤ 4) → Ev (fun _ => if f = 2 then if st = 1 then (contangoref11_turned.f l (member_at.go a l 0) (rd_T45 l (member_at.go a l 0)).f0 st (rd_T45 l (member_at.go a l 0)).f2).bind fun t => some (t, (0 : Int)) else if st = 3 then (contangoref11_turned.f l (member_at.go a l 0) (rd_T45 l (member_at.go a l 0)).f0 st (rd_T45 l (member_at.go a l 0)).f2).bind fun t => some (t, (0 : Int)) else some (([], 13) : List S45 × Int) else some (([], 13) : List S45 × Int)) (if (f = 1 ∧ 2 ≤ st ∧ st ≤ 4) ∨ (f = 2 ∧ (st = 1 ∨ st = 3)) then (l.set (member_at.go a l 0).toNat ⟨(rd_T45 l (member_at.go a l 0)).f0, st, (rd_T45 l (member_at.go a l 0)).f2⟩, 0) else ([], 13)) :=
    fun h => Ev.ite (fun s2 => Ev.ite (fun h1 => yes (by omega)) (fun h1 => Ev.ite (fun h3 => yes (by omega)) (fun h3 => no (by omega)))) (fun s2 => no (by omega))
  exact Ev.ite (fun s1 => Ev.ite (fun h2 => Ev.ite (fun h4 => yes (by omega)) (fun h4 => two (by omega))) (fun h2 => two (by omega))) (fun s1 => two (by omega))
def openR (l : List S45) (a b : ByteArray) (n : Int) : List S45 × Int :=
  if chk l = 0 then (if member_at.go a l 0 < 0 ∨ (rd_T45 l (member_at.go a l 0)).f1 ≠ 1 then ([], 20) else
    if nameB b = true then (if 1 ≤ n ∧ n ≤ 3 then (if (accP (findP l a).2.2.1 b).2.2 = true then ([], 12) else
      if (rd_T45 l (member_at.go a l 0)).f2.length = 16 then ([], 8) else
      (l.set (member_at.go a l 0).toNat ⟨(rd_T45 l (member_at.go a l 0)).f0, (rd_T45 l (member_at.go a l 0)).f1, insL (fun x : S53 => Op.bytesLess b.toList x.f0.toList) ⟨b, n⟩ (rd_T45 l (member_at.go a l 0)).f2⟩, 0))
    else ([], 21)) else ([], 10)) else ([], chk l)
theorem open_ev (l : List S45) (a b : ByteArray) (n : Int) (hs : ∀ y ∈ l, y.f2.length * 24 ≤ 140737488351232) : Ev (fun _ => member_Open.f l a b n) (openR l a b n) := by
  simp only [member_Open.f, openR]
  refine Ev.bind (check_ev l) (Ev.both (fun c => Ev.both (fun c2 => Ev.val _) (fun c2 => Ev.both (fun c3 => Ev.both (fun c4 => ?_) (fun c4 => Ev.val _)) (fun c3 => Ev.val _))) (fun c => Ev.val _))
  rw [account_some l a b hs, Option.bind_some]
  refine Ev.both (fun c5 => Ev.val _) (fun c5 => Ev.both (fun c6 => Ev.val _) (fun c6 => Ev.bind (own_ev c) (Ev.valOf ?_)))
  have b := at_bounds l a (fun h => c2 (Or.inl h))
  rw [insL_insAt, show (((member_at.go a l 0).toNat : Nat) : Int) = member_at.go a l 0 from by omega]
theorem refOpen_ev (l : List S45) (a b : ByteArray) (n : Int) (hn : l.length ≤ 140737488351232) (hb : b.size ≤ 9223372036854775806) (hs2 : ∀ y ∈ l, y.f2.length ≤ 140737488351232) (hs : ∀ y ∈ l, y.f0.size ≤ 9223372036854775806 ∧ ∀ z ∈ y.f2, z.f0.size ≤ 9223372036854775806) : Ev (fun k => contangoref11_Open.f k l a b n) (openR l a b n) := by
  simp only [contangoref11_Open.f, openR]
  refine Ev.bind (refCheck l hs) (Ev.both (fun c => Ev.bind (refPlace l hn a) ?_) (fun c => Ev.val _))
  have hl := chk_len c
  have hf := chk_few c
  have key : ∀ x : Bool, (x = true ↔ (member_at.go a l 0 < 0 ∨ (rd_T45 l (member_at.go a l 0)).f1 ≠ 1)) → Ev (fun k => contangoref11_Open.j0 k l n (member_at.go a l 0) x a b) (if member_at.go a l 0 < 0 ∨ (rd_T45 l (member_at.go a l 0)).f1 ≠ 1 then ([], 20) else
    if nameB b = true then (if 1 ≤ n ∧ n ≤ 3 then (if (accP (findP l a).2.2.1 b).2.2 = true then ([], 12) else
      if (rd_T45 l (member_at.go a l 0)).f2.length = 16 then ([], 8) else
      (l.set (member_at.go a l 0).toNat ⟨(rd_T45 l (member_at.go a l 0)).f0, (rd_T45 l (member_at.go a l 0)).f1, insL (fun x : S53 => Op.bytesLess b.toList x.f0.toList) ⟨b, n⟩ (rd_T45 l (member_at.go a l 0)).f2⟩, 0))
    else ([], 21)) else ([], 10)) := by
    intro x hx
    refine Ev.shift ?_
    simp only [contangoref11_Open.j0]
    by_cases c2 : member_at.go a l 0 < 0 ∨ (rd_T45 l (member_at.go a l 0)).f1 ≠ 1
    · rw [if_pos c2]
      exact Ev.pos (hx.mpr c2) (Ev.val _)
    rw [if_neg c2]
    have bd := at_bounds l a (fun h => c2 (Or.inl h))
    refine Ev.neg (fun h => c2 (hx.mp h)) (Ev.bind (refName b hb) (Ev.both (fun c3 => ?_) (fun c3 => Ev.val _)))
    have key2 : ∀ y : Bool, (y = true ↔ ¬ (1 ≤ n ∧ n ≤ 3)) → Ev (fun k => contangoref11_Open.j1 k l n (member_at.go a l 0) y a b) (if 1 ≤ n ∧ n ≤ 3 then (if (accP (findP l a).2.2.1 b).2.2 = true then ([], 12) else
      if (rd_T45 l (member_at.go a l 0)).f2.length = 16 then ([], 8) else
      (l.set (member_at.go a l 0).toNat ⟨(rd_T45 l (member_at.go a l 0)).f0, (rd_T45 l (member_at.go a l 0)).f1, insL (fun x : S53 => Op.bytesLess b.toList x.f0.toList) ⟨b, n⟩ (rd_T45 l (member_at.go a l 0)).f2⟩, 0))
      else ([], 21)) := by
      intro y hy
      refine Ev.shift ?_
      simp only [contangoref11_Open.j1]
      by_cases c4 : 1 ≤ n ∧ n ≤ 3
      · rw [if_pos c4]
        refine Ev.neg (fun h => hy.mp h c4) (Ev.bind (refAccount l hn hs2 a b) (Ev.both (fun c5 => Ev.val _) (fun c5 => Ev.pos bd.1 (Ev.pos bd.2 ?_))))
        have hm := hf _ (rd45_mem l _ bd.1 bd.2)
        by_cases c6 : (rd_T45 l (member_at.go a l 0)).f2.length = 16
        · rw [if_pos c6]
          exact Ev.pos (by omega) (Ev.val _)
        · rw [if_neg c6]
          have hw := refWith_loop (rd_T45 l (member_at.go a l 0)).f2 (by omega) b n _ 0 [] rfl (Nat.zero_le _) (by simp; omega)
          refine Ev.neg (by omega) (Ev.bind (x := insL (fun x : S53 => Op.bytesLess b.toList x.f0.toList) ⟨b, n⟩ (rd_T45 l (member_at.go a l 0)).f2) ?_ (Ev.bind (turned_ev l hl _ bd.1 bd.2 _ _ _) (Ev.val _)))
          simp only [contangoref11_with.f]
          simpa using hw
      · rw [if_neg c4]
        exact Ev.pos (hy.mpr c4) (Ev.val _)
    exact Ev.ite (fun h => key2 true (by simp; omega)) (fun h => key2 _ (by simp; omega))
  refine Ev.ite (fun h => key true (by simp [h])) (fun h => ?_)
  have bd := at_bounds l a h
  exact Ev.pos bd.1 (Ev.pos bd.2 (key _ (by simp [h])))
theorem same_loop (l : List S45) (hn : l.length ≤ 140737488351232) (hs : ∀ y ∈ l, y.f2.length ≤ 140737488351232) (d : Nat) : ∀ i : Nat, l.length - i = d → i ≤ l.length → Ev (fun k => contangoref11_Same.l0 k l l i) true := by
  induction d with
  | zero =>
    intro i hd hi
    refine Ev.shift ?_
    simp only [contangoref11_Same.l0]
    exact Ev.neg (by omega) (Ev.val _)
  | succ d ih =>
    intro i hd hi
    have hw : wrap64 ((i : Int) + 1) = ((i + 1 : Nat) : Int) := by unfold wrap64; omega
    have h := ih (i + 1) (by omega) (by omega)
    refine Ev.shift ?_
    simp only [contangoref11_Same.l0, hw]
    exact Ev.pos (by omega) (Ev.pos (by omega) (Ev.pos (by omega) (Ev.bind (one_refl _ _ _ (hs _ (rd45_mem l i (by omega) (by omega)))) (Ev.pos rfl h))))
theorem same_refl (l : List S45) (hn : l.length ≤ 140737488351232) (hs : ∀ y ∈ l, y.f2.length ≤ 140737488351232) : Ev (fun k => contangoref11_Same.f k l l) true := by
  simp only [contangoref11_Same.f]
  exact Ev.pos trivial (same_loop l hn hs _ 0 rfl (Nat.zero_le _))
theorem insL_length {α : Type} (p : α → Bool) (x : α) (l : List α) : (insL p x l).length = l.length + 1 := by
  induction l with
  | nil => rfl
  | cons y r ih =>
    simp only [insL]
    split
    · rfl
    · simp [ih]
theorem insL_mem {α : Type} (p : α → Bool) (x : α) (l : List α) (z : α) (h : z ∈ insL p x l) : z = x ∨ z ∈ l := by
  induction l with
  | nil => exact Or.inl (by simpa [insL] using h)
  | cons y r ih =>
    simp only [insL] at h
    split at h
    · simpa using h
    · rcases List.mem_cons.mp h with h | h
      · exact Or.inr (by simp [h])
      · rcases ih h with h | h
        · exact Or.inl h
        · exact Or.inr (by simp [h])
theorem addR_small (l : List S45) (a : ByteArray) : (addR l a).1.length ≤ 33 ∧ ∀ y ∈ (addR l a).1, y.f2.length ≤ 17 := by
  unfold addR
  split
  · rename_i c
    have hl := chk_len c
    have hf := chk_few c
    repeat' split
    all_goals first
      | (refine ⟨by simp, fun y hy => by cases hy⟩)
      | (refine ⟨by rw [insL_length]; omega, fun y hy => ?_⟩
         rcases insL_mem _ _ _ _ hy with rfl | h
         · simp
         · have := hf y h; omega)
  · exact ⟨by simp, fun y hy => by cases hy⟩
theorem set_small (l : List S45) (hl : l.length ≤ 32) (hf : ∀ y ∈ l, y.f2.length ≤ 16) (i : Nat) (x : S45) (hx : x.f2.length ≤ 17) : (l.set i x).length ≤ 33 ∧ ∀ y ∈ l.set i x, y.f2.length ≤ 17 := by
  refine ⟨by rw [List.length_set]; omega, fun y hy => ?_⟩
  rcases List.mem_or_eq_of_mem_set hy with h | rfl
  · have := hf y h; omega
  · exact hx
theorem statR_small (l : List S45) (a : ByteArray) (st : Int) : (statR l a st).1.length ≤ 33 ∧ ∀ y ∈ (statR l a st).1, y.f2.length ≤ 17 := by
  unfold statR
  split
  · rename_i c
    have hl := chk_len c
    have hf := chk_few c
    split
    · exact ⟨by simp, fun y hy => by cases hy⟩
    · rename_i c2
      have bd := at_bounds l a c2
      have hm := hf _ (rd45_mem l _ bd.1 bd.2)
      split
      · exact set_small l hl hf _ _ (by simp; omega)
      · exact ⟨by simp, fun y hy => by cases hy⟩
  · exact ⟨by simp, fun y hy => by cases hy⟩
theorem openR_small (l : List S45) (a b : ByteArray) (n : Int) : (openR l a b n).1.length ≤ 33 ∧ ∀ y ∈ (openR l a b n).1, y.f2.length ≤ 17 := by
  unfold openR
  split
  · rename_i c
    have hl := chk_len c
    have hf := chk_few c
    split
    · exact ⟨by simp, fun y hy => by cases hy⟩
    · rename_i c2
      have bd := at_bounds l a (fun h => c2 (Or.inl h))
      have hm := hf _ (rd45_mem l _ bd.1 bd.2)
      repeat' split
      all_goals first
        | (refine ⟨by simp, fun y hy => by cases hy⟩)
        | (refine set_small l hl hf _ _ ?_
           simp only [insL_length]
           omega)
  · exact ⟨by simp, fun y hy => by cases hy⟩
theorem goes_true : contangolaw11_goes.f 40 = some true := by decide +kernel
theorem goes_ev : Ev (fun k => contangolaw11_goes.f k) true := Ev.of goes_true (fun k => contangolaw11_goes.mono k)
theorem MemberTurns : contangolaw11_MemberTurns.Said := by
  intro l acc n hok _ _ hsz hsa _
  refine Ev.get ?_
  have hs : ∀ y ∈ l, y.f0.size ≤ 9223372036854775806 ∧ ∀ z ∈ y.f2, z.f0.size ≤ 9223372036854775806 := by
    intro y hy
    have h := hsz.2 y hy
    simp only [sz45, sz53] at h
    exact ⟨by omega, fun z hz => by have := (h.2.2.2 z hz).1; omega⟩
  have hs1 : ∀ y ∈ l, y.f2.length * 24 ≤ 140737488351232 := fun y hy => (hsz.2 y hy).2.2.1
  have hs2 : ∀ y ∈ l, y.f2.length ≤ 140737488351232 := fun y hy => by have := hs1 y hy; omega
  have hn : l.length ≤ 140737488351232 := by have := hsz.1; omega
  have ha : acc.f0.size ≤ 9223372036854775806 := by have := hsa.1; omega
  have hb : acc.f1.size ≤ 9223372036854775806 := by have := hsa.2; omega
  obtain ⟨a1, a2⟩ := addR_small l acc.f0
  obtain ⟨o1, o2⟩ := openR_small l acc.f0 acc.f1 n
  obtain ⟨s1, s2⟩ := statR_small l acc.f0 n
  simp only [contangolaw11_MemberTurns.f]
  refine Ev.bind (add_ev l acc.f0) (Ev.bind (refAdd_ev l acc.f0 hn ha hs) (Ev.bind (open_ev l acc.f0 acc.f1 n hs1) (Ev.bind (refOpen_ev l acc.f0 acc.f1 n hn hb hs2 hs) (Ev.bind (stat_ev l acc.f0 n) (Ev.bind (refStat_ev l acc.f0 n hn hs) ?_)))))
  refine Ev.bind (same_refl _ (by omega) (fun y hy => by have := a2 y hy; omega)) (Ev.pos rfl (Ev.pos rfl ?_))
  refine Ev.bind (same_refl _ (by omega) (fun y hy => by have := o2 y hy; omega)) (Ev.pos rfl (Ev.pos rfl ?_))
  refine Ev.bind (same_refl _ (by omega) (fun y hy => by have := s2 y hy; omega)) (Ev.pos rfl (Ev.pos rfl ?_))
  exact Ev.bind goes_ev (Ev.val _)
end Go.Proofs.Ytipoicfglaanaaa.Pure
