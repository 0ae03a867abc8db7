-- Written by a program of this session's (wip/tools/gen_law.py).
import Derived.Test.YtoejllkjhaeeeaaVExpiryFlows
import Derived.Test.YtoejllkjhaeeeaaPExpiryFlowsx0
import Derived.Test.YtoejllkjhaeeeaaPExpiryFlowsx24
import Derived.KernelRfl
namespace Go.Proofs.Ytoejllkjhaeeeaa.PExpiryFlows
open Go.RowKit Go.Proofs.YtoejllkjhaeeeaaW.PrintWords Go.Proofs.Ytoejllkjhaeeeaa.Opens
set_option linter.unusedVariables false
def ok23 (x : S23) : Prop := x.f0.size ≤ 9223372036854775807 ∧ ((Lit.int .i64 x.f1).wf = true ∧ ((Lit.int .i64 x.f2).wf = true ∧ ((Lit.int .i64 x.f3).wf = true ∧ ((Lit.int .i64 x.f4).wf = true ∧ ((Lit.int .i64 x.f5).wf = true ∧ (True))))))
def sz23 (x : S23) : Prop := x.f0.size ≤ 140737488351232 ∧ (True ∧ (True ∧ (True ∧ (True ∧ (True ∧ (True))))))
def bulk23 (x : S23) : Nat := (x.f0.size + 1) + (1 + (1 + (1 + (1 + (1 + (1)))))) + 1
theorem opens23 : Opens Try.prog 23 k23 ok23 sz23 bulk23 := by
  have h := opens_struct (P := Try.prog) (t := 23) (fun x : S23 => (x.f0, x.f1, x.f2, x.f3, x.f4, x.f5, x.f6)) (fun a : ByteArray × Int × Int × Int × Int × Int × Bool => (⟨a.1, a.2.1, a.2.2.1, a.2.2.2.1, a.2.2.2.2.1, a.2.2.2.2.2.1, a.2.2.2.2.2.2⟩ : S23)) (fun _ => rfl) Try.underlying23 (by kernel_rfl)
      (opensF_cons rfl (by kernel_rfl) (opens_string Try.underlying9)
      (opensF_cons rfl (by kernel_rfl) (opens_int Try.underlying3)
      (opensF_cons rfl (by kernel_rfl) (opens_int Try.underlying3)
      (opensF_cons rfl (by kernel_rfl) (opens_int Try.underlying3)
      (opensF_cons rfl (by kernel_rfl) (opens_int Try.underlying3)
      (opensF_cons rfl (by kernel_rfl) (opens_int Try.underlying3)
      (opensF_one rfl (by kernel_rfl) (opens_bool Try.underlying4))))))))
  exact h
def ok44 (x : S44) : Prop := x.f0.size ≤ 9223372036854775807 ∧ (x.f1.size ≤ 9223372036854775807)
def sz44 (x : S44) : Prop := x.f0.size ≤ 140737488351232 ∧ (x.f1.size ≤ 140737488351232)
def bulk44 (x : S44) : Nat := (x.f0.size + 1) + ((x.f1.size + 1)) + 1
theorem opens44 : Opens Try.prog 44 k44 ok44 sz44 bulk44 := by
  have h := opens_struct (P := Try.prog) (t := 44) (fun x : S44 => (x.f0, x.f1)) (fun a : ByteArray × ByteArray => (⟨a.1, a.2⟩ : S44)) (fun _ => rfl) Try.underlying44 (by kernel_rfl)
      (opensF_cons rfl (by kernel_rfl) (opens_string Try.underlying9)
      (opensF_one rfl (by kernel_rfl) (opens_string Try.underlying9)))
  exact h
def ok25 (x : S25) : Prop := x.f0.size ≤ 9223372036854775807 ∧ ((Lit.int .i64 x.f1).wf = true ∧ ((Lit.int .i64 x.f2).wf = true ∧ ((Lit.int .i64 x.f3).wf = true)))
def sz25 (x : S25) : Prop := x.f0.size ≤ 140737488351232 ∧ (True ∧ (True ∧ (True)))
def bulk25 (x : S25) : Nat := (x.f0.size + 1) + (1 + (1 + (1))) + 1
theorem opens25 : Opens Try.prog 25 k25 ok25 sz25 bulk25 := by
  have h := opens_struct (P := Try.prog) (t := 25) (fun x : S25 => (x.f0, x.f1, x.f2, x.f3)) (fun a : ByteArray × Int × Int × Int => (⟨a.1, a.2.1, a.2.2.1, a.2.2.2⟩ : S25)) (fun _ => rfl) Try.underlying25 (by kernel_rfl)
      (opensF_cons rfl (by kernel_rfl) (opens_string Try.underlying9)
      (opensF_cons rfl (by kernel_rfl) (opens_int Try.underlying3)
      (opensF_cons rfl (by kernel_rfl) (opens_int Try.underlying3)
      (opensF_one rfl (by kernel_rfl) (opens_int Try.underlying3)))))
  exact h
def ok27 (x : S27) : Prop := ok25 x.f0 ∧ ((Lit.int .i64 x.f1).wf = true ∧ ((Lit.int .i64 x.f2).wf = true))
def sz27 (x : S27) : Prop := sz25 x.f0 ∧ (True ∧ (True))
def bulk27 (x : S27) : Nat := bulk25 x.f0 + (1 + (1)) + 1
theorem opens27 : Opens Try.prog 27 k27 ok27 sz27 bulk27 := by
  have h := opens_struct (P := Try.prog) (t := 27) (fun x : S27 => (x.f0, x.f1, x.f2)) (fun a : S25 × Int × Int => (⟨a.1, a.2.1, a.2.2⟩ : S27)) (fun _ => rfl) Try.underlying27 (by kernel_rfl)
      (opensF_cons rfl (by kernel_rfl) opens25
      (opensF_cons rfl (by kernel_rfl) (opens_int Try.underlying3)
      (opensF_one rfl (by kernel_rfl) (opens_int Try.underlying3))))
  exact h
def ok47 (x : S47) : Prop := ok44 x.f0 ∧ ((x.f1.length ≤ 9223372036854775807 ∧ ∀ y ∈ x.f1, ok27 y))
def sz47 (x : S47) : Prop := sz44 x.f0 ∧ ((x.f1.length * 56 ≤ 140737488351232 ∧ ∀ y ∈ x.f1, sz27 y))
def bulk47 (x : S47) : Nat := bulk44 x.f0 + (bulkOf (fun y : S27 => bulk27 y) x.f1) + 1
theorem opens47 : Opens Try.prog 47 k47 ok47 sz47 bulk47 := by
  have h := opens_struct (P := Try.prog) (t := 47) (fun x : S47 => (x.f0, x.f1)) (fun a : S44 × (List S27) => (⟨a.1, a.2⟩ : S47)) (fun _ => rfl) Try.underlying47 (by kernel_rfl)
      (opensF_cons rfl (by kernel_rfl) opens44
      (opensF_one rfl (by kernel_rfl) (opens_slice Try.underlying45 (by kernel_rfl) (by kernel_rfl : Try.prog.bytesOf 27 = 56) opens27)))
  exact h
def ok29 (x : S29) : Prop := ok25 x.f0 ∧ ((Lit.int .i64 x.f1).wf = true ∧ ((Lit.int .i64 x.f2).wf = true))
def sz29 (x : S29) : Prop := sz25 x.f0 ∧ (True ∧ (True))
def bulk29 (x : S29) : Nat := bulk25 x.f0 + (1 + (1)) + 1
theorem opens29 : Opens Try.prog 29 k29 ok29 sz29 bulk29 := by
  have h := opens_struct (P := Try.prog) (t := 29) (fun x : S29 => (x.f0, x.f1, x.f2)) (fun a : S25 × Int × Int => (⟨a.1, a.2.1, a.2.2⟩ : S29)) (fun _ => rfl) Try.underlying29 (by kernel_rfl)
      (opensF_cons rfl (by kernel_rfl) opens25
      (opensF_cons rfl (by kernel_rfl) (opens_int Try.underlying3)
      (opensF_one rfl (by kernel_rfl) (opens_int Try.underlying3))))
  exact h
theorem opensArg0 : Opens Try.prog 23 k23 ok23 sz23 bulk23 := opens23
theorem opensArg1 : Opens Try.prog 37 (Kd.slice 47 k47) (fun x : (List S47) => (x.length ≤ 9223372036854775807 ∧ ∀ y ∈ x, ok47 y)) (fun x : (List S47) => (x.length * 56 ≤ 140737488351232 ∧ ∀ y ∈ x, sz47 y)) (fun x : (List S47) => bulkOf (fun y : S47 => bulk47 y) x) := by
  have h := (opens_slice Try.underlying37 (by kernel_rfl) (by kernel_rfl : Try.prog.bytesOf 47 = 56) opens47)
  exact h
theorem opensArg2 : Opens Try.prog 29 k29 ok29 sz29 bulk29 := opens29
def contangolaw51_ExpiryFlows.Said : Prop := ∀ (x0 : S23) (x1 : (List S47)) (x2 : S29), ok23 x0 → (x1.length ≤ 9223372036854775807 ∧ ∀ y ∈ x1, ok47 y) → ok29 x2 → sz23 x0 → (x1.length * 56 ≤ 140737488351232 ∧ ∀ y ∈ x1, sz47 y) → sz29 x2 → ∃ k, contangolaw51_ExpiryFlows.f k x0.f0 x0.f1 x0.f2 x0.f3 x0.f4 x0.f5 x0.f6 x1 x2.f0.f0 x2.f0.f1 x2.f0.f2 x2.f0.f3 x2.f1 x2.f2 = some true
end Go.Proofs.Ytoejllkjhaeeeaa.PExpiryFlows
