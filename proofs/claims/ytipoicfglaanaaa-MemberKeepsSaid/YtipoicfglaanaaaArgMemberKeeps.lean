-- Written by a program of this session's (wip/tools/gen_law.py).
import Derived.Test.YtipoicfglaanaaaVMemberKeeps
import Derived.Test.YtipoicfglaanaaaPMemberKeepsx0
import Derived.Test.YtipoicfglaanaaaPMemberKeepsx8
import Derived.KernelRfl
namespace Go.Proofs.Ytipoicfglaanaaa.PMemberKeeps
open Go.RowKit Go.Proofs.YtipoicfglaanaaaW.PrintWords Go.Proofs.Ytipoicfglaanaaa.Opens
set_option linter.unusedVariables false
def ok29 (x : S29) : Prop := x.f0.size ≤ 9223372036854775807 ∧ (x.f1.size ≤ 9223372036854775807)
def sz29 (x : S29) : Prop := x.f0.size ≤ 140737488351232 ∧ (x.f1.size ≤ 140737488351232)
def bulk29 (x : S29) : Nat := (x.f0.size + 1) + ((x.f1.size + 1)) + 1
theorem opens29 : Opens Try.prog 29 k29 ok29 sz29 bulk29 := by
  have h := opens_struct (P := Try.prog) (t := 29) (fun x : S29 => (x.f0, x.f1)) (fun a : ByteArray × ByteArray => (⟨a.1, a.2⟩ : S29)) (fun _ => rfl) Try.underlying29 (by kernel_rfl)
      (opensF_cons rfl (by kernel_rfl) (opens_string Try.underlying9)
      (opensF_one rfl (by kernel_rfl) (opens_string Try.underlying9)))
  exact h
def ok42 (x : S42) : Prop := (Lit.int .i64 x.f0).wf = true ∧ (ok29 x.f1 ∧ ((Lit.int .i64 x.f2).wf = true))
def sz42 (x : S42) : Prop := True ∧ (sz29 x.f1 ∧ (True))
def bulk42 (x : S42) : Nat := 1 + (bulk29 x.f1 + (1)) + 1
theorem opens42 : Opens Try.prog 42 k42 ok42 sz42 bulk42 := by
  have h := opens_struct (P := Try.prog) (t := 42) (fun x : S42 => (x.f0, x.f1, x.f2)) (fun a : Int × S29 × Int => (⟨a.1, a.2.1, a.2.2⟩ : S42)) (fun _ => rfl) Try.underlying42 (by kernel_rfl)
      (opensF_cons rfl (by kernel_rfl) (opens_int Try.underlying3)
      (opensF_cons rfl (by kernel_rfl) opens29
      (opensF_one rfl (by kernel_rfl) (opens_int Try.underlying3))))
  exact h
theorem opensArg0 : Opens Try.prog 40 (Kd.slice 42 k42) (fun x : (List S42) => (x.length ≤ 9223372036854775807 ∧ ∀ y ∈ x, ok42 y)) (fun x : (List S42) => (x.length * 48 ≤ 140737488351232 ∧ ∀ y ∈ x, sz42 y)) (fun x : (List S42) => bulkOf (fun y : S42 => bulk42 y) x) := by
  have h := (opens_slice Try.underlying40 (by kernel_rfl) (by kernel_rfl : Try.prog.bytesOf 42 = 48) opens42)
  exact h
def contangolaw11_MemberKeeps.Said : Prop := ∀ (x0 : (List S42)), (x0.length ≤ 9223372036854775807 ∧ ∀ y ∈ x0, ok42 y) → (x0.length * 48 ≤ 140737488351232 ∧ ∀ y ∈ x0, sz42 y) → ∃ k, contangolaw11_MemberKeeps.f k x0 = some true
end Go.Proofs.Ytipoicfglaanaaa.PMemberKeeps
