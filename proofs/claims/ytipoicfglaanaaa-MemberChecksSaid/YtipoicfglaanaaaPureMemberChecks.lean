/- Of any members: what the code says of them is what the document says: the law, as a statement over numbers and lists. -/
import Derived.Test.YtipoicfglaanaaaArgMemberChecks
namespace Go.Proofs.Ytipoicfglaanaaa.Pure
set_option linter.unusedSimpArgs false
set_option linter.unusedVariables false
open Go.RowKit Go.Proofs.Ytipoicfglaanaaa.PMemberChecks Go.Proofs.Ytipoicfglaanaaa.Opens Go.Proofs.YtipoicfglaanaaaW.PrintWords Go.Proofs.YtipoicfglaanaaaW.PrintLast
/-- Comes to r, at all large numbers of rounds. -/
def Ev {α : Type} (g : Nat → Option α) (r : α) : Prop := ∃ K, ∀ k, K ≤ k → g k = some r
theorem Ev.shift {α : Type} {g : Nat → Option α} {r : α} (h : Ev (fun k => g (k + 1)) r) : Ev g r := by
  obtain ⟨K, h⟩ := h
  refine ⟨K + 1, fun k hk => ?_⟩
  obtain ⟨m, rfl⟩ : ∃ m, k = m + 1 := ⟨k - 1, by omega⟩
  exact h m (by omega)
theorem Ev.val {α : Type} (r : α) : Ev (fun _ => some r) r := ⟨0, fun _ _ => rfl⟩
theorem Ev.bind {α β : Type} {g : Nat → Option α} {f : Nat → α → Option β} {x : α} {r : β} (h : Ev g x) (h' : Ev (fun k => f k x) r) : Ev (fun k => (g k).bind (f k)) r := by
  obtain ⟨K, h⟩ := h
  obtain ⟨K', h'⟩ := h'
  exact ⟨max K K', fun k hk => by show (g k).bind (f k) = some r; rw [h k (by omega)]; exact h' k (by omega)⟩
theorem Ev.get {α : Type} {g : Nat → Option α} {r : α} (h : Ev g r) : ∃ k, g k = some r := by
  obtain ⟨K, h⟩ := h
  exact ⟨K, h K (Nat.le_refl _)⟩
theorem Ev.of {α : Type} {g : Nat → Option α} {r : α} {k0 : Nat} (h : g k0 = some r) (hm : ∀ k, LeO (g k) (g (k + 1))) : Ev g r := ⟨k0, fun _ hk => at_rounds hm hk h⟩
theorem Ev.pos {α : Type} {c : Prop} [Decidable c] {a b : Nat → Option α} {r : α} (hc : c) (h : Ev a r) : Ev (fun k => if c then a k else b k) r := by
  obtain ⟨K, h⟩ := h
  exact ⟨K, fun k hk => by show (if c then a k else b k) = some r; rw [if_pos hc]; exact h k hk⟩
theorem Ev.neg {α : Type} {c : Prop} [Decidable c] {a b : Nat → Option α} {r : α} (hc : ¬ c) (h : Ev b r) : Ev (fun k => if c then a k else b k) r := by
  obtain ⟨K, h⟩ := h
  exact ⟨K, fun k hk => by show (if c then a k else b k) = some r; rw [if_neg hc]; exact h k hk⟩
/-- Both ways, each where it is taken. -/
theorem Ev.ite {α : Type} {c : Prop} [Decidable c] {a b : Nat → Option α} {r : α} (h : c → Ev a r) (h' : ¬ c → Ev b r) : Ev (fun k => if c then a k else b k) r := by
  by_cases hc : c
  · exact Ev.pos hc (h hc)
  · exact Ev.neg hc (h' hc)
theorem wrap_small {n : Int} (h0 : -9223372036854775808 ≤ n) (h1 : n ≤ 9223372036854775807) : wrap64 n = n := by unfold wrap64; omega
theorem refName_loop (s : ByteArray) (hs : s.size ≤ 9223372036854775806) (d : Nat) : ∀ i : Nat, 1 ≤ i → s.size - i = d → i ≤ s.size → Ev (fun k => contangoref03_Name.l0 k s i) (restB s d i && decide (0 < s.size) && decide (s.size ≤ 12)) := by
  induction d with
  | zero =>
    intro i h1 hd hi
    refine Ev.shift ?_
    simp only [contangoref03_Name.l0]
    refine Ev.neg (by omega) (Ev.pos (by omega) ?_)
    have e1 : decide ((s.size : Int) ≤ 12) = decide (s.size ≤ 12) := decide_eq_decide.mpr (by omega)
    have e2 : decide (0 < s.size) = true := decide_eq_true (by omega)
    rw [e1, e2]
    exact Ev.val _
  | succ d ih =>
    intro i h1 hd hi
    refine Ev.shift ?_
    simp only [contangoref03_Name.l0]
    have hw : wrap64 ((i : Int) + 1) = ((i + 1 : Nat) : Int) := by unfold wrap64; omega
    have h := ih (i + 1) (by omega) (by omega) (by omega)
    rw [hw]
    refine Ev.pos (by omega) (Ev.pos (by omega) ?_)
    simp only [restB, letB, digB]
    by_cases c1 : 97 ≤ bt s i
    · by_cases c2 : bt s i ≤ 122
      · simpa [c1, c2] using h
      · have c3 : ¬ bt s i < 48 := by omega
        have c4 : 57 < bt s i := by omega
        have c5 : ¬ bt s i ≤ 57 := by omega
        have c6 : ¬ (i : Int) = 0 := by omega
        simp only [c1, c2, c3, c4, c5, c6, ge_iff_le, gt_iff_lt, if_true, if_false, decide_true, decide_false, Bool.and_false, Bool.or_false, Bool.false_and]
        exact Ev.val _
    · by_cases c3 : bt s i < 48
      · have c6 : ¬ (i : Int) = 0 := by omega
        have c7 : ¬ 48 ≤ bt s i := by omega
        simp only [c1, c3, c6, c7, ge_iff_le, gt_iff_lt, if_true, if_false, decide_false, Bool.false_and, Bool.or_false]
        exact Ev.val _
      · have c6 : ¬ (i : Int) = 0 := by omega
        have c7 : 48 ≤ bt s i := by omega
        by_cases c4 : 57 < bt s i
        · have c5 : ¬ bt s i ≤ 57 := by omega
          simp only [c1, c3, c4, c5, c6, c7, ge_iff_le, gt_iff_lt, if_true, if_false, decide_true, decide_false, Bool.and_false, Bool.false_and, Bool.or_false]
          exact Ev.val _
        · have c5 : bt s i ≤ 57 := by omega
          simp only [c1, c3, c4, c5, c6, c7, ge_iff_le, gt_iff_lt, if_true, if_false, decide_true, decide_false, Bool.and_true, Bool.false_and, Bool.true_and, Bool.false_or]
          exact h
/-- What the document says of a name is what the code says. -/
theorem refName (s : ByteArray) (hs : s.size ≤ 9223372036854775806) : Ev (fun k => contangoref03_Name.f k s) (nameB s) := by
  simp only [contangoref03_Name.f]
  refine Ev.shift ?_
  simp only [contangoref03_Name.l0]
  by_cases h0 : s.size = 0
  · refine Ev.neg (by omega) (Ev.neg (by omega) ?_)
    have : nameB s = false := by simp [nameB, h0]
    rw [this]
    exact Ev.val _
  · have hw : wrap64 ((0 : Int) + 1) = ((1 : Nat) : Int) := by unfold wrap64; omega
    have h := refName_loop s hs (s.size - 1) 1 (by omega) (by omega) (by omega)
    refine Ev.pos (by omega) (Ev.pos (by omega) ?_)
    rw [hw]
    have hd : decide (0 < s.size) = true := decide_eq_true (by omega)
    obtain ⟨d, hdd⟩ : ∃ d, s.size = d + 1 := ⟨s.size - 1, by omega⟩
    have hn : nameB s = (letB (bt s 0) && (restB s (s.size - 1) 1 && decide (0 < s.size) && decide (s.size ≤ 12))) := by
      rw [hd]
      simp only [nameB, hd]
      rw [show restB s s.size 0 = ((letB (bt s 0) || digB (bt s 0)) && restB s (s.size - 1) 1) from by rw [hdd]; rfl]
      cases letB (bt s 0) <;> cases decide (s.size ≤ 12) <;> cases restB s (s.size - 1) 1 <;> simp
    rw [hn]
    simp only [letB]
    by_cases c1 : 97 ≤ bt s 0
    · by_cases c2 : bt s 0 ≤ 122
      · simp only [c1, c2, ge_iff_le, if_true, decide_true, Bool.true_and]
        exact h
      · simp only [c1, c2, ge_iff_le, if_true, if_false, decide_true, decide_false, Bool.and_false, Bool.false_and]
        exact Ev.val _
    · simp only [c1, ge_iff_le, if_true, if_false, decide_false, Bool.false_and]
      exact Ev.val _
theorem refAccounts_loop (l : List S53) (hn : l.length ≤ 16) (hs : ∀ y ∈ l, y.f0.size ≤ 9223372036854775806) (d : Nat) : ∀ i : Nat, l.length - i = d → i ≤ l.length → Ev (fun k => contangoref11_accounts.l0 k l i) (firstErr (aErr l) d i) := by
  induction d with
  | zero =>
    intro i hd hi
    refine Ev.shift ?_
    simp only [contangoref11_accounts.l0]
    exact Ev.neg (by omega) (Ev.val _)
  | succ d ih =>
    intro i hd hi
    have hw : wrap64 ((i : Int) + 1) = ((i + 1 : Nat) : Int) := by unfold wrap64; omega
    have h := ih (i + 1) (by omega) (by omega)
    have hil : i < l.length := by omega
    have hsz : (rd_T53 l i).f0.size ≤ 9223372036854775806 := by
      have : rd_T53 l i = l[i] := by simp [rd_T53, hil]
      rw [this]
      exact hs _ (List.getElem_mem hil)
    refine Ev.shift ?_
    simp only [contangoref11_accounts.l0]
    refine Ev.pos (by omega) (Ev.pos (by omega) (Ev.bind (refName _ hsz) ?_))
    have hf : firstErr (aErr l) (d + 1) i = if aErr l i = 0 then firstErr (aErr l) d (i + 1) else aErr l i := rfl
    rw [hf]
    by_cases hnm : nameB (rd_T53 l i).f0 = true
    · refine Ev.pos hnm ?_
      have key : ∀ b : Bool, (b = true ↔ (0 < (i : Int) ∧ Op.bytesLess (rd_T53 l ((i : Int) - 1)).f0.toList (rd_T53 l i).f0.toList = false)) → Ev (fun k => contangoref11_accounts.j1 k l i b) (if aErr l i = 0 then firstErr (aErr l) d (i + 1) else aErr l i) := by
        intro b hb
        refine Ev.shift ?_
        simp only [contangoref11_accounts.j1, hw]
        refine Ev.ite (fun hbt => ?_) (fun hbt => ?_)
        · have : aErr l i = 12 := by
            have hst : stepErr (fun j => (rd_T53 l j).f0) i = 12 := by simp only [stepErr]; rw [if_pos hnm, if_pos (hb.mp hbt)]
            simp [aErr, hst]
          rw [this]
          exact Ev.val _
        · have hst : stepErr (fun j => (rd_T53 l j).f0) i = 0 := by simp only [stepErr]; rw [if_pos hnm, if_neg (fun hh => hbt (hb.mpr hh))]
          refine Ev.pos (by omega) (Ev.pos (by omega) (Ev.ite (fun c1 => ?_) (fun c1 => Ev.ite (fun c2 => ?_) (fun c2 => ?_))))
          · have : aErr l i = 21 := by simp only [aErr, hst, if_true]; rw [if_neg (by omega)]
            rw [this]
            exact Ev.val _
          · have : aErr l i = 21 := by simp only [aErr, hst, if_true]; rw [if_neg (by omega)]
            rw [this]
            exact Ev.val _
          · have : aErr l i = 0 := by simp only [aErr, hst, if_true]; rw [if_pos (by omega)]
            rw [if_pos this]
            exact h
      refine Ev.ite (fun c => ?_) (fun c => ?_)
      · have hw1 : wrap64 ((i : Int) - 1) = (i : Int) - 1 := by unfold wrap64; omega
        rw [hw1]
        refine Ev.pos (by omega) (Ev.pos (by omega) (key _ ?_))
        have c' : 0 < (i : Int) := c
        have c'' : 0 < i := by omega
        simp [c'']
      · exact key _ (by simp only [Bool.false_eq_true, false_iff]; intro hh; exact c hh.1)
    · refine Ev.neg hnm ?_
      have : aErr l i = 10 := by
        have hst : stepErr (fun j => (rd_T53 l j).f0) i = 10 := by simp only [stepErr]; rw [if_neg hnm]
        simp [aErr, hst]
      rw [this]
      exact Ev.val _
theorem refAccounts (l : List S53) (hs : ∀ y ∈ l, y.f0.size ≤ 9223372036854775806) : Ev (fun k => contangoref11_accounts.f k l) (if 16 < l.length then 8 else firstErr (aErr l) l.length 0) := by
  simp only [contangoref11_accounts.f]
  refine Ev.ite (fun c => ?_) (fun c => ?_)
  · rw [if_pos (by omega)]
    exact Ev.val _
  · rw [if_neg (by omega)]
    exact refAccounts_loop l (by omega) hs l.length 0 (by omega) (by omega)
theorem refCheck_loop (l : List S45) (hn : l.length ≤ 32) (hs : ∀ y ∈ l, y.f0.size ≤ 9223372036854775806 ∧ ∀ z ∈ y.f2, z.f0.size ≤ 9223372036854775806) (d : Nat) : ∀ i : Nat, l.length - i = d → i ≤ l.length → Ev (fun k => contangoref11_Check.l0 k l i) (firstErr (mErr l) d i) := by
  induction d with
  | zero =>
    intro i hd hi
    refine Ev.shift ?_
    simp only [contangoref11_Check.l0]
    exact Ev.neg (by omega) (Ev.val _)
  | succ d ih =>
    intro i hd hi
    have hw : wrap64 ((i : Int) + 1) = ((i + 1 : Nat) : Int) := by unfold wrap64; omega
    have h := ih (i + 1) (by omega) (by omega)
    have hil : i < l.length := by omega
    obtain ⟨hsz, hsa⟩ : (rd_T45 l i).f0.size ≤ 9223372036854775806 ∧ ∀ z ∈ (rd_T45 l i).f2, z.f0.size ≤ 9223372036854775806 := by
      have : rd_T45 l i = l[i] := by simp [rd_T45, hil]
      rw [this]
      exact hs _ (List.getElem_mem hil)
    refine Ev.shift ?_
    simp only [contangoref11_Check.l0]
    refine Ev.pos (by omega) (Ev.pos (by omega) (Ev.bind (refName _ hsz) ?_))
    have hf : firstErr (mErr l) (d + 1) i = if mErr l i = 0 then firstErr (mErr l) d (i + 1) else mErr l i := rfl
    rw [hf]
    by_cases hnm : nameB (rd_T45 l i).f0 = true
    · refine Ev.pos hnm ?_
      have key : ∀ b : Bool, (b = true ↔ (0 < (i : Int) ∧ Op.bytesLess (rd_T45 l ((i : Int) - 1)).f0.toList (rd_T45 l i).f0.toList = false)) → Ev (fun k => contangoref11_Check.j1 k l i b) (if mErr l i = 0 then firstErr (mErr l) d (i + 1) else mErr l i) := by
        intro b hb
        refine Ev.shift ?_
        simp only [contangoref11_Check.j1]
        refine Ev.ite (fun hbt => ?_) (fun hbt => ?_)
        · have : mErr l i = 12 := by
            have hst : stepErr (fun j => (rd_T45 l j).f0) i = 12 := by simp only [stepErr]; rw [if_pos hnm, if_pos (hb.mp hbt)]
            simp [mErr, hst]
          rw [this]
          exact Ev.val _
        · have hst : stepErr (fun j => (rd_T45 l j).f0) i = 0 := by simp only [stepErr]; rw [if_pos hnm, if_neg (fun hh => hbt (hb.mpr hh))]
          have key2 : ∀ b : Bool, (b = true ↔ ((rd_T45 l i).f1 < 1 ∨ 4 < (rd_T45 l i).f1)) → Ev (fun k => contangoref11_Check.j2 k l i b) (if mErr l i = 0 then firstErr (mErr l) d (i + 1) else mErr l i) := by
            intro b hb2
            refine Ev.shift ?_
            simp only [contangoref11_Check.j2, hw]
            refine Ev.ite (fun hbt2 => ?_) (fun hbt2 => ?_)
            · have : mErr l i = 13 := by simp only [mErr, hst, if_true]; rw [if_pos (hb2.mp hbt2)]
              rw [this]
              exact Ev.val _
            · have hm : mErr l i = (if 16 < (rd_T45 l i).f2.length then 8 else firstErr (aErr (rd_T45 l i).f2) (rd_T45 l i).f2.length 0) := by simp only [mErr, hst, if_true]; rw [if_neg (fun hh => hbt2 (hb2.mpr hh))]
              refine Ev.pos (by omega) (Ev.pos (by omega) (Ev.bind (refAccounts _ hsa) ?_))
              rw [← hm]
              refine Ev.ite (fun c => ?_) (fun c => ?_)
              · rw [if_pos c]
                exact h
              · rw [if_neg c]
                exact Ev.val _
          refine Ev.pos (by omega) (Ev.pos (by omega) (Ev.ite (fun c1 => ?_) (fun c1 => ?_)))
          · exact key2 _ (by simp [c1])
          · exact key2 _ (by simp; omega)
      refine Ev.ite (fun c => ?_) (fun c => ?_)
      · have hw1 : wrap64 ((i : Int) - 1) = (i : Int) - 1 := by unfold wrap64; omega
        rw [hw1]
        refine Ev.pos (by omega) (Ev.pos (by omega) (key _ ?_))
        have c' : 0 < (i : Int) := c
        have c'' : 0 < i := by omega
        simp [c'']
      · exact key _ (by simp only [Bool.false_eq_true, false_iff]; intro hh; exact c hh.1)
    · refine Ev.neg hnm ?_
      have : mErr l i = 10 := by
        have hst : stepErr (fun j => (rd_T45 l j).f0) i = 10 := by simp only [stepErr]; rw [if_neg hnm]
        simp [mErr, hst]
      rw [this]
      exact Ev.val _
/-- What the document says of members is what the code says. -/
theorem refCheck (l : List S45) (hs : ∀ y ∈ l, y.f0.size ≤ 9223372036854775806 ∧ ∀ z ∈ y.f2, z.f0.size ≤ 9223372036854775806) : Ev (fun k => contangoref11_Check.f k l) (if 32 < l.length then 8 else firstErr (mErr l) l.length 0) := by
  simp only [contangoref11_Check.f]
  refine Ev.ite (fun c => ?_) (fun c => ?_)
  · rw [if_pos (by omega)]
    exact Ev.val _
  · rw [if_neg (by omega)]
    exact refCheck_loop l (by omega) hs l.length 0 (by omega) (by omega)
theorem goes_true : contangolaw11_goes.f 40 = some true := by decide +kernel
theorem goes_ev : Ev (fun k => contangolaw11_goes.f k) true := Ev.of goes_true (fun k => contangolaw11_goes.mono k)
theorem MemberChecks : contangolaw11_MemberChecks.Said := by
  intro l hok hsz
  refine Ev.get ?_
  simp only [contangolaw11_MemberChecks.f, member_Check.f, Option.bind_some]
  have hs : ∀ y ∈ l, y.f0.size ≤ 9223372036854775806 ∧ ∀ z ∈ y.f2, z.f0.size ≤ 9223372036854775806 := by
    intro y hy
    have h := hsz.2 y hy
    simp only [sz45, sz53] at h
    exact ⟨by omega, fun z hz => by have := (h.2.2.2 z hz).1; omega⟩
  refine Ev.bind (refCheck l hs) (Ev.pos rfl (Ev.bind goes_ev (Ev.val _)))
end Go.Proofs.Ytipoicfglaanaaa.Pure
