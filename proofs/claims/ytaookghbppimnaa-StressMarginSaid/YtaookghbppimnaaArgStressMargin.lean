-- Written by a program of this session's (wip/tools/gen_law.py).
import Derived.Test.YtaookghbppimnaaVStressMargin
import Derived.Test.YtaookghbppimnaaPStressMarginx0
import Derived.Test.YtaookghbppimnaaPStressMarginx7
import Derived.KernelRfl
namespace Go.Proofs.Ytaookghbppimnaa.PStressMargin
open Go.RowKit Go.Proofs.YtaookghbppimnaaW.PrintWords Go.Proofs.Ytaookghbppimnaa.Opens
set_option linter.unusedVariables false
def ok49 (x : S49) : Prop := x.f0.size ≤ 9223372036854775807 ∧ (x.f1.size ≤ 9223372036854775807 ∧ ((x.f2.length ≤ 9223372036854775807 ∧ ∀ y ∈ x.f2, (Lit.int .i64 y).wf = true) ∧ ((Lit.int .i64 x.f3).wf = true)))
def sz49 (x : S49) : Prop := x.f0.size ≤ 140737488351232 ∧ (x.f1.size ≤ 140737488351232 ∧ ((x.f2.length * 8 ≤ 140737488351232 ∧ ∀ y ∈ x.f2, True) ∧ (True)))
def bulk49 (x : S49) : Nat := (x.f0.size + 1) + ((x.f1.size + 1) + (bulkOf (fun y : Int => 1) x.f2 + (1))) + 1
theorem opens49 : Opens Try.prog 49 k49 ok49 sz49 bulk49 := by
  have h := opens_struct (P := Try.prog) (t := 49) (fun x : S49 => (x.f0, x.f1, x.f2, x.f3)) (fun a : ByteArray × ByteArray × (List Int) × Int => (⟨a.1, a.2.1, a.2.2.1, a.2.2.2⟩ : S49)) (fun _ => rfl) Try.underlying49 (by kernel_rfl)
      (opensF_cons rfl (by kernel_rfl) (opens_string Try.underlying9)
      (opensF_cons rfl (by kernel_rfl) (opens_string Try.underlying9)
      (opensF_cons rfl (by kernel_rfl) (opens_slice Try.underlying27 (by kernel_rfl) (by kernel_rfl : Try.prog.bytesOf 3 = 8) (opens_int Try.underlying3))
      (opensF_one rfl (by kernel_rfl) (opens_int Try.underlying3)))))
  exact h
theorem opensArg0 : Opens Try.prog 22 (Kd.slice 49 k49) (fun x : (List S49) => (x.length ≤ 9223372036854775807 ∧ ∀ y ∈ x, ok49 y)) (fun x : (List S49) => (x.length * 64 ≤ 140737488351232 ∧ ∀ y ∈ x, sz49 y)) (fun x : (List S49) => bulkOf (fun y : S49 => bulk49 y) x) := by
  have h := (opens_slice Try.underlying22 (by kernel_rfl) (by kernel_rfl : Try.prog.bytesOf 49 = 64) opens49)
  exact h
theorem opensArg1 : Opens Try.prog 3 (Kd.int .i64) (fun x : Int => (Lit.int .i64 x).wf = true) (fun x : Int => True) (fun x : Int => 1) := by
  have h := (opens_int Try.underlying3)
  exact h
theorem opensArg2 : Opens Try.prog 3 (Kd.int .i64) (fun x : Int => (Lit.int .i64 x).wf = true) (fun x : Int => True) (fun x : Int => 1) := by
  have h := (opens_int Try.underlying3)
  exact h
def contangolaw39_StressMargin.Said : Prop := ∀ (x0 : (List S49)) (x1 : Int) (x2 : Int), (x0.length ≤ 9223372036854775807 ∧ ∀ y ∈ x0, ok49 y) → (Lit.int .i64 x1).wf = true → (Lit.int .i64 x2).wf = true → (x0.length * 64 ≤ 140737488351232 ∧ ∀ y ∈ x0, sz49 y) → True → True → ∃ k, contangolaw39_StressMargin.f k x0 x1 x2 = some true
end Go.Proofs.Ytaookghbppimnaa.PStressMargin
