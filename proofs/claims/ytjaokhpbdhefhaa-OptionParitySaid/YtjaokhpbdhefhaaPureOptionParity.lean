/- A call less its put is worth, exercised, what the future is above the strike, and one of both at most ends so: the law, as a statement over numbers and lists. -/
import Derived.Test.YtjaokhpbdhefhaaArgOptionParity
namespace Go.Proofs.Ytjaokhpbdhefhaa.Pure
set_option linter.unusedSimpArgs false
set_option linter.unusedVariables false
open Go.RowKit Go.Proofs.Ytjaokhpbdhefhaa.POptionParity Go.Proofs.Ytjaokhpbdhefhaa.Opens Go.Proofs.YtjaokhpbdhefhaaW.PrintWords Go.Proofs.YtjaokhpbdhefhaaW.PrintLast
/-- Comes to r, at all large numbers of rounds. -/
def Ev {α : Type} (g : Nat → Option α) (r : α) : Prop := ∃ K, ∀ k, K ≤ k → g k = some r
theorem Ev.shift {α : Type} {g : Nat → Option α} {r : α} (h : Ev (fun k => g (k + 1)) r) : Ev g r := by
  obtain ⟨K, h⟩ := h
  refine ⟨K + 1, fun k hk => ?_⟩
  obtain ⟨m, rfl⟩ : ∃ m, k = m + 1 := ⟨k - 1, by omega⟩
  exact h m (by omega)
theorem Ev.val {α : Type} (r : α) : Ev (fun _ => some r) r := ⟨0, fun _ _ => rfl⟩
theorem Ev.bind {α β : Type} {g : Nat → Option α} {f : Nat → α → Option β} {x : α} {r : β} (h : Ev g x) (h' : Ev (fun k => f k x) r) : Ev (fun k => (g k).bind (f k)) r := by
  obtain ⟨K, h⟩ := h
  obtain ⟨K', h'⟩ := h'
  exact ⟨max K K', fun k hk => by show (g k).bind (f k) = some r; rw [h k (by omega)]; exact h' k (by omega)⟩
theorem Ev.get {α : Type} {g : Nat → Option α} {r : α} (h : Ev g r) : ∃ k, g k = some r := by
  obtain ⟨K, h⟩ := h
  exact ⟨K, h K (Nat.le_refl _)⟩
theorem Ev.of {α : Type} {g : Nat → Option α} {r : α} {k0 : Nat} (h : g k0 = some r) (hm : ∀ k, LeO (g k) (g (k + 1))) : Ev g r := ⟨k0, fun _ hk => at_rounds hm hk h⟩
theorem Ev.pos {α : Type} {c : Prop} [Decidable c] {a b : Nat → Option α} {r : α} (hc : c) (h : Ev a r) : Ev (fun k => if c then a k else b k) r := by
  obtain ⟨K, h⟩ := h
  exact ⟨K, fun k hk => by show (if c then a k else b k) = some r; rw [if_pos hc]; exact h k hk⟩
theorem Ev.neg {α : Type} {c : Prop} [Decidable c] {a b : Nat → Option α} {r : α} (hc : ¬ c) (h : Ev b r) : Ev (fun k => if c then a k else b k) r := by
  obtain ⟨K, h⟩ := h
  exact ⟨K, fun k hk => by show (if c then a k else b k) = some r; rw [if_neg hc]; exact h k hk⟩
/-- Both ways, each where it is taken. -/
theorem Ev.ite {α : Type} {c : Prop} [Decidable c] {a b : Nat → Option α} {r : α} (h : c → Ev a r) (h' : ¬ c → Ev b r) : Ev (fun k => if c then a k else b k) r := by
  by_cases hc : c
  · exact Ev.pos hc (h hc)
  · exact Ev.neg hc (h' hc)
theorem wrap_small {n : Int} (h0 : -9223372036854775808 ≤ n) (h1 : n ≤ 9223372036854775807) : wrap64 n = n := by unfold wrap64; omega
/-- Both ways, each with its own end. -/
theorem Ev.both {α : Type} {c : Prop} [Decidable c] {a b : Nat → Option α} {r s : α} (h : c → Ev a r) (h' : ¬ c → Ev b s) : Ev (fun k => if c then a k else b k) (if c then r else s) := by
  by_cases hc : c
  · rw [if_pos hc]; exact Ev.pos hc (h hc)
  · rw [if_neg hc]; exact Ev.neg hc (h' hc)
theorem Ev.valOf {α : Type} {r s : α} (h : s = r) : Ev (fun _ => some r) s := by subst h; exact Ev.val _
def cl (a : Int) : Int := if a < -33554432 then -33554432 else if a > 33554432 then 33554432 else a
theorem cl_le (a : Int) : -33554432 ≤ cl a ∧ cl a ≤ 33554432 := by unfold cl; (repeat' split) <;> omega
theorem clamp_ev (a : Int) : Ev (fun k => cents_Clamp.f k a (-33554432) 33554432) (cl a) := by
  refine Ev.shift ?_
  simp only [cents_Clamp.f, cents_Clamp.j0]
  refine Ev.neg (by omega) ?_
  unfold cl
  simp only [decide_eq_true_eq]
  exact Ev.both (fun _ => Ev.val _) (fun _ => Ev.both (fun _ => Ev.val _) (fun _ => Ev.val _))
/-- What exercising is worth. -/
def iv (kd st un : Int) : Int := if kd = 3 then mx (cl st - cl un) 0 else if kd = 2 then mx (cl un - cl st) 0 else 0
theorem intr_ev (a : ByteArray) (b c d u : Int) : Ev (fun k => option_Intrinsic.f k a b c d u) (iv b d u) := by
  have h1 := cl_le u
  have h2 := cl_le d
  simp only [option_Intrinsic.f]
  refine Ev.bind (clamp_ev u) (Ev.bind (clamp_ev d) ?_)
  have e1 : wrap64 (cl u - cl d) = cl u - cl d := wrap_small (by omega) (by omega)
  have e2 : wrap64 (-(cl u - cl d)) = cl d - cl u := by rw [wrap_small (by omega) (by omega)]; omega
  rw [e1, e2]
  unfold iv
  exact Ev.both (fun _ => Ev.val _) (fun _ => Ev.both (fun _ => Ev.val _) (fun _ => Ev.val _))
theorem ends_ev (a : ByteArray) (b c d u : Int) : Ev (fun k => option_Ends.f k a b c d u) (decide (iv b d u > 0)) := by
  simp only [option_Ends.f]
  exact Ev.bind (intr_ev a b c d u) (Ev.val _)
theorem eqD23_self (a : ByteArray) (b c d : Int) : eqD23 a a b b c c d d = true := by simp [eqD23]
theorem goes_true : contangolaw21_goes.f 60 = some true := by decide +kernel
theorem goes_ev : Ev (fun k => contangolaw21_goes.f k) true := Ev.of goes_true (fun k => contangolaw21_goes.mono k)
theorem par_loop (a b c d : Int) (l : List Int) (hl : l.length ≤ 1000) (n : Nat) : ∀ i : Nat, l.length - i = n → i ≤ l.length →
    Ev (fun k => option_Parity.l0 k a b c d l (l.length : Int) (i : Int)) (if (l.drop i).all (fun x => decide (-16777216 ≤ x ∧ x ≤ 16777216)) = true then (wrap64 ((wrap64 (a - b)) - (wrap64 (d - c))), 0) else (0, 17)) := by
  induction n with
  | zero =>
    intro i hi hle
    refine Ev.shift ?_
    simp only [option_Parity.l0]
    rw [List.drop_eq_nil_of_le (by omega)]
    exact Ev.neg (by omega) (Ev.val _)
  | succ n ih =>
    intro i hi hle
    have hlt : i < l.length := by omega
    have hw : wrap64 ((i : Int) + 1) = ((i + 1 : Nat) : Int) := by unfold wrap64; omega
    refine Ev.shift ?_
    simp only [option_Parity.l0, hw]
    have hr : rd l (i : Int) = l[i] := by simp [rd, List.getD_eq_getElem?_getD, hlt]
    rw [hr, List.drop_eq_getElem_cons hlt, List.all_cons]
    refine Ev.pos (by omega) (Ev.pos (by omega) (Ev.pos (by omega) ?_))
    by_cases h1 : l[i] < -16777216
    · rw [if_neg (by simp; omega)]
      exact Ev.pos h1 (Ev.val _)
    · refine Ev.neg h1 ?_
      by_cases h2 : l[i] > 16777216
      · rw [if_neg (by simp; omega)]
        exact Ev.pos h2 (Ev.val _)
      · refine Ev.neg h2 ?_
        have hd : decide (-16777216 ≤ l[i] ∧ l[i] ≤ 16777216) = true := decide_eq_true (by omega)
        rw [hd, Bool.true_and]
        exact ih (i + 1) (by omega) (by omega)
/-- What parity comes to. -/
def pv (a b c d : Int) : Int × Int := if ([a, b, c, d].all (fun x => decide (-16777216 ≤ x ∧ x ≤ 16777216))) = true then (wrap64 ((wrap64 (a - b)) - (wrap64 (d - c))), 0) else (0, 17)
theorem par_ev (a b c d : Int) : Ev (fun k => option_Parity.f k a b c d) (pv a b c d) := by
  simp only [option_Parity.f]
  exact Ev.bind (Ev.val _) (par_loop a b c d [a, b, c, d] (by simp) 4 0 rfl (by simp))
theorem mx_def (a b : Int) : mx a b = if a < b then b else a := rfl
theorem pv_zero (st un : Int) (h : (pv (iv 2 st un) (iv 3 st un) st un).2 = 0) : (pv (iv 2 st un) (iv 3 st un) st un).1 = 0 := by
  unfold pv at h ⊢
  by_cases c : ([iv 2 st un, iv 3 st un, st, un].all (fun x => decide (-16777216 ≤ x ∧ x ≤ 16777216))) = true
  · rw [if_pos c]
    simp only [List.all_cons, List.all_nil, Bool.and_eq_true, decide_eq_true_eq, Bool.and_true] at c
    obtain ⟨_, _, c3, c4⟩ := c
    have e1 : cl st = st := by unfold cl; rw [if_neg (by omega), if_neg (by omega)]
    have e2 : cl un = un := by unfold cl; rw [if_neg (by omega), if_neg (by omega)]
    have e3 : iv 2 st un = if un - st < 0 then 0 else un - st := by simp [iv, e1, e2, mx_def]
    have e4 : iv 3 st un = if st - un < 0 then 0 else st - un := by simp [iv, e1, e2, mx_def]
    rw [e3, e4]
    simp only
    have h5 : (if un - st < 0 then 0 else un - st) - (if st - un < 0 then 0 else st - un) = un - st := by
      split <;> split <;> omega
    rw [h5]
    simp [wrap64]
  · rw [if_neg c] at h
    cases h
theorem not_both (st un : Int) (h1 : iv 2 st un > 0) (h2 : iv 3 st un > 0) : False := by
  have e3 : iv 2 st un = if cl un - cl st < 0 then 0 else cl un - cl st := by simp [iv, mx_def]
  have e4 : iv 3 st un = if cl st - cl un < 0 then 0 else cl st - cl un := by simp [iv, mx_def]
  rw [e3] at h1
  rw [e4] at h2
  split at h1 <;> split at h2 <;> omega
theorem under2 (a : ByteArray) (c d : Int) : option_Under.f a 2 c d = some (a, 1, c, 0) := rfl
theorem under3 (a : ByteArray) (c d : Int) : option_Under.f a 3 c d = some (a, 1, c, 0) := rfl
theorem under1 (a : ByteArray) (c d : Int) : option_Under.f a 1 c d = some (a, 1, c, d) := rfl
theorem OptionParity : contangolaw21_OptionParity.Said := by
  intro x u _ _ _ _
  refine Ev.get ?_
  simp only [contangolaw21_OptionParity.f]
  refine Ev.bind (intr_ev _ _ _ _ _) (Ev.bind (intr_ev _ _ _ _ _) (Ev.bind (par_ev _ _ _ _) (Ev.bind (ends_ev _ _ _ _ _) ?_)))
  simp only [under2, under3, under1, Option.bind_some, eqD23_self]
  refine Ev.ite (fun h1 => Ev.bind (ends_ev _ _ _ _ _) (Ev.neg (fun h2 => ?_) ?_)) (fun _ => ?_)
  · simp only [decide_eq_true_eq] at h1 h2
    exact not_both _ _ h1 h2
  · exact Ev.pos trivial (Ev.pos trivial (Ev.ite (fun h => Ev.pos (pv_zero _ _ h) (Ev.bind goes_ev (Ev.val _))) (fun _ => Ev.bind goes_ev (Ev.val _))))
  · exact Ev.pos trivial (Ev.pos trivial (Ev.ite (fun h => Ev.pos (pv_zero _ _ h) (Ev.bind goes_ev (Ev.val _))) (fun _ => Ev.bind goes_ev (Ev.val _))))
end Go.Proofs.Ytjaokhpbdhefhaa.Pure
