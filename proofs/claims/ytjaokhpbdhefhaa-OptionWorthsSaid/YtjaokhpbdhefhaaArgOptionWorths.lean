-- Written by a program of this session's (wip/tools/gen_law.py).
import Derived.Test.YtjaokhpbdhefhaaVOptionWorths
import Derived.Test.YtjaokhpbdhefhaaPOptionWorthsx0
import Derived.Test.YtjaokhpbdhefhaaPOptionWorthsx12
import Derived.KernelRfl
namespace Go.Proofs.Ytjaokhpbdhefhaa.POptionWorths
open Go.RowKit Go.Proofs.YtjaokhpbdhefhaaW.PrintWords Go.Proofs.Ytjaokhpbdhefhaa.Opens
set_option linter.unusedVariables false
def ok23 (x : S23) : Prop := x.f0.size ≤ 9223372036854775807 ∧ ((Lit.int .i64 x.f1).wf = true ∧ ((Lit.int .i64 x.f2).wf = true ∧ ((Lit.int .i64 x.f3).wf = true)))
def sz23 (x : S23) : Prop := x.f0.size ≤ 140737488351232 ∧ (True ∧ (True ∧ (True)))
def bulk23 (x : S23) : Nat := (x.f0.size + 1) + (1 + (1 + (1))) + 1
theorem opens23 : Opens Try.prog 23 k23 ok23 sz23 bulk23 := by
  have h := opens_struct (P := Try.prog) (t := 23) (fun x : S23 => (x.f0, x.f1, x.f2, x.f3)) (fun a : ByteArray × Int × Int × Int => (⟨a.1, a.2.1, a.2.2.1, a.2.2.2⟩ : S23)) (fun _ => rfl) Try.underlying23 (by kernel_rfl)
      (opensF_cons rfl (by kernel_rfl) (opens_string Try.underlying9)
      (opensF_cons rfl (by kernel_rfl) (opens_int Try.underlying3)
      (opensF_cons rfl (by kernel_rfl) (opens_int Try.underlying3)
      (opensF_one rfl (by kernel_rfl) (opens_int Try.underlying3)))))
  exact h
theorem opensArg0 : Opens Try.prog 23 k23 ok23 sz23 bulk23 := opens23
theorem opensArg1 : Opens Try.prog 3 (Kd.int .i64) (fun x : Int => (Lit.int .i64 x).wf = true) (fun x : Int => True) (fun x : Int => 1) := by
  have h := (opens_int Try.underlying3)
  exact h
def contangolaw21_OptionWorths.Said : Prop := ∀ (x0 : S23) (x1 : Int), ok23 x0 → (Lit.int .i64 x1).wf = true → sz23 x0 → True → ∃ k, contangolaw21_OptionWorths.f k x0.f0 x0.f1 x0.f2 x0.f3 x1 = some true
end Go.Proofs.Ytjaokhpbdhefhaa.POptionWorths
