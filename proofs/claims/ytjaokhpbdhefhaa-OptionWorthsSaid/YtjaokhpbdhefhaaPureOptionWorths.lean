/- What exercising any series is worth, whether it ends so, and what is under it, is what the document says: the law, as a statement over numbers and lists. -/
import Derived.Test.YtjaokhpbdhefhaaArgOptionWorths
namespace Go.Proofs.Ytjaokhpbdhefhaa.Pure
set_option linter.unusedSimpArgs false
set_option linter.unusedVariables false
open Go.RowKit Go.Proofs.Ytjaokhpbdhefhaa.POptionWorths Go.Proofs.Ytjaokhpbdhefhaa.Opens Go.Proofs.YtjaokhpbdhefhaaW.PrintWords Go.Proofs.YtjaokhpbdhefhaaW.PrintLast
/-- Comes to r, at all large numbers of rounds. -/
def Ev {α : Type} (g : Nat → Option α) (r : α) : Prop := ∃ K, ∀ k, K ≤ k → g k = some r
theorem Ev.shift {α : Type} {g : Nat → Option α} {r : α} (h : Ev (fun k => g (k + 1)) r) : Ev g r := by
  obtain ⟨K, h⟩ := h
  refine ⟨K + 1, fun k hk => ?_⟩
  obtain ⟨m, rfl⟩ : ∃ m, k = m + 1 := ⟨k - 1, by omega⟩
  exact h m (by omega)
theorem Ev.val {α : Type} (r : α) : Ev (fun _ => some r) r := ⟨0, fun _ _ => rfl⟩
theorem Ev.bind {α β : Type} {g : Nat → Option α} {f : Nat → α → Option β} {x : α} {r : β} (h : Ev g x) (h' : Ev (fun k => f k x) r) : Ev (fun k => (g k).bind (f k)) r := by
  obtain ⟨K, h⟩ := h
  obtain ⟨K', h'⟩ := h'
  exact ⟨max K K', fun k hk => by show (g k).bind (f k) = some r; rw [h k (by omega)]; exact h' k (by omega)⟩
theorem Ev.get {α : Type} {g : Nat → Option α} {r : α} (h : Ev g r) : ∃ k, g k = some r := by
  obtain ⟨K, h⟩ := h
  exact ⟨K, h K (Nat.le_refl _)⟩
theorem Ev.of {α : Type} {g : Nat → Option α} {r : α} {k0 : Nat} (h : g k0 = some r) (hm : ∀ k, LeO (g k) (g (k + 1))) : Ev g r := ⟨k0, fun _ hk => at_rounds hm hk h⟩
theorem Ev.pos {α : Type} {c : Prop} [Decidable c] {a b : Nat → Option α} {r : α} (hc : c) (h : Ev a r) : Ev (fun k => if c then a k else b k) r := by
  obtain ⟨K, h⟩ := h
  exact ⟨K, fun k hk => by show (if c then a k else b k) = some r; rw [if_pos hc]; exact h k hk⟩
theorem Ev.neg {α : Type} {c : Prop} [Decidable c] {a b : Nat → Option α} {r : α} (hc : ¬ c) (h : Ev b r) : Ev (fun k => if c then a k else b k) r := by
  obtain ⟨K, h⟩ := h
  exact ⟨K, fun k hk => by show (if c then a k else b k) = some r; rw [if_neg hc]; exact h k hk⟩
/-- Both ways, each where it is taken. -/
theorem Ev.ite {α : Type} {c : Prop} [Decidable c] {a b : Nat → Option α} {r : α} (h : c → Ev a r) (h' : ¬ c → Ev b r) : Ev (fun k => if c then a k else b k) r := by
  by_cases hc : c
  · exact Ev.pos hc (h hc)
  · exact Ev.neg hc (h' hc)
theorem wrap_small {n : Int} (h0 : -9223372036854775808 ≤ n) (h1 : n ≤ 9223372036854775807) : wrap64 n = n := by unfold wrap64; omega
/-- Both ways, each with its own end. -/
theorem Ev.both {α : Type} {c : Prop} [Decidable c] {a b : Nat → Option α} {r s : α} (h : c → Ev a r) (h' : ¬ c → Ev b s) : Ev (fun k => if c then a k else b k) (if c then r else s) := by
  by_cases hc : c
  · rw [if_pos hc]; exact Ev.pos hc (h hc)
  · rw [if_neg hc]; exact Ev.neg hc (h' hc)
theorem Ev.valOf {α : Type} {r s : α} (h : s = r) : Ev (fun _ => some r) s := by subst h; exact Ev.val _
def cl (a : Int) : Int := if a < -33554432 then -33554432 else if a > 33554432 then 33554432 else a
theorem cl_le (a : Int) : -33554432 ≤ cl a ∧ cl a ≤ 33554432 := by unfold cl; (repeat' split) <;> omega
theorem clamp_ev (a : Int) : Ev (fun k => cents_Clamp.f k a (-33554432) 33554432) (cl a) := by
  refine Ev.shift ?_
  simp only [cents_Clamp.f, cents_Clamp.j0]
  refine Ev.neg (by omega) ?_
  unfold cl
  simp only [decide_eq_true_eq]
  exact Ev.both (fun _ => Ev.val _) (fun _ => Ev.both (fun _ => Ev.val _) (fun _ => Ev.val _))
/-- What exercising is worth. -/
def iv (kd st un : Int) : Int := if kd = 3 then mx (cl st - cl un) 0 else if kd = 2 then mx (cl un - cl st) 0 else 0
theorem intr_ev (a : ByteArray) (b c d u : Int) : Ev (fun k => option_Intrinsic.f k a b c d u) (iv b d u) := by
  have h1 := cl_le u
  have h2 := cl_le d
  simp only [option_Intrinsic.f]
  refine Ev.bind (clamp_ev u) (Ev.bind (clamp_ev d) ?_)
  have e1 : wrap64 (cl u - cl d) = cl u - cl d := wrap_small (by omega) (by omega)
  have e2 : wrap64 (-(cl u - cl d)) = cl d - cl u := by rw [wrap_small (by omega) (by omega)]; omega
  rw [e1, e2]
  unfold iv
  exact Ev.both (fun _ => Ev.val _) (fun _ => Ev.both (fun _ => Ev.val _) (fun _ => Ev.val _))
theorem ends_ev (a : ByteArray) (b c d u : Int) : Ev (fun k => option_Ends.f k a b c d u) (decide (iv b d u > 0)) := by
  simp only [option_Ends.f]
  exact Ev.bind (intr_ev a b c d u) (Ev.val _)
theorem eqD23_self (a : ByteArray) (b c d : Int) : eqD23 a a b b c c d d = true := by simp [eqD23]
theorem clampr_ev (a : Int) : Ev (fun k => contangoref01_Clamp.f k a (-33554432) 33554432) (cl a) := by
  refine Ev.shift ?_
  simp only [contangoref01_Clamp.f, contangoref01_Clamp.j0]
  refine Ev.neg (by omega) ?_
  unfold cl
  simp only [decide_eq_true_eq]
  exact Ev.both (fun _ => Ev.val _) (fun _ => Ev.both (fun _ => Ev.val _) (fun _ => Ev.val _))
theorem held_ev (a : Int) : Ev (fun k => contangoref21_held.f k a) (cl a) := by
  simp only [contangoref21_held.f]
  exact Ev.bind (clampr_ev a) (Ev.val _)
theorem intrr_ev (a : ByteArray) (b c d u : Int) : Ev (fun k => contangoref21_Intrinsic.f k a b c d u) (iv b d u) := by
  have h1 := cl_le u
  have h2 := cl_le d
  have e1 : wrap64 (cl u - cl d) = cl u - cl d := wrap_small (by omega) (by omega)
  have e2 : wrap64 (cl d - cl u) = cl d - cl u := wrap_small (by omega) (by omega)
  simp only [contangoref21_Intrinsic.f]
  unfold iv
  refine Ev.ite (fun hb => ?_) (fun hb => ?_)
  · refine Ev.bind (held_ev u) (Ev.bind (held_ev d) (Ev.shift ?_))
    simp only [contangoref21_Intrinsic.j0]
    rw [e1, if_neg (by omega), if_pos hb]
    exact Ev.neg (by omega) (Ev.val _)
  · refine Ev.shift ?_
    simp only [contangoref21_Intrinsic.j0]
    refine Ev.both (fun _ => Ev.bind (held_ev d) (Ev.bind (held_ev u) ?_)) (fun _ => ?_)
    · rw [e2]; exact Ev.val _
    · rw [if_neg hb]; exact Ev.val _
theorem endsr_ev (a : ByteArray) (b c d u : Int) : Ev (fun k => contangoref21_Ends.f k a b c d u) (decide (iv b d u > 0)) := by
  simp only [contangoref21_Ends.f]
  exact Ev.bind (intrr_ev a b c d u) (Ev.val _)
theorem goes_true : contangolaw21_goes.f 60 = some true := by decide +kernel
theorem goes_ev : Ev (fun k => contangolaw21_goes.f k) true := Ev.of goes_true (fun k => contangolaw21_goes.mono k)
theorem OptionWorths : contangolaw21_OptionWorths.Said := by
  intro x u _ _ _ _
  refine Ev.get ?_
  simp only [contangolaw21_OptionWorths.f]
  refine Ev.bind (intr_ev _ _ _ _ _) (Ev.bind (intrr_ev _ _ _ _ _) (Ev.pos rfl (Ev.bind (ends_ev _ _ _ _ _) (Ev.bind (endsr_ev _ _ _ _ _) (Ev.pos (by simp) ?_)))))
  have e : contangoref21_Under.f = option_Under.f := rfl
  rw [e]
  cases h : option_Under.f x.f0 x.f1 x.f2 x.f3 with
  | none => unfold option_Under.f at h; split at h <;> cases h
  | some r => exact Ev.pos (eqD23_self _ _ _ _) (Ev.bind goes_ev (Ev.val _))
end Go.Proofs.Ytjaokhpbdhefhaa.Pure
