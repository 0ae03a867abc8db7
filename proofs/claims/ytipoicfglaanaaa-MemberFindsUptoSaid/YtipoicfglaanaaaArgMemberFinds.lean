-- Written by a program of this session's (wip/tools/gen_law.py).
import Derived.Test.YtipoicfglaanaaaVMemberFinds
import Derived.Test.YtipoicfglaanaaaPMemberFindsx0
import Derived.Test.YtipoicfglaanaaaPMemberFindsx11
import Derived.KernelRfl
namespace Go.Proofs.Ytipoicfglaanaaa.PMemberFinds
open Go.RowKit Go.Proofs.YtipoicfglaanaaaW.PrintWords Go.Proofs.Ytipoicfglaanaaa.Opens
set_option linter.unusedVariables false
def ok53 (x : S53) : Prop := x.f0.size ≤ 9223372036854775807 ∧ ((Lit.int .i64 x.f1).wf = true)
def sz53 (x : S53) : Prop := x.f0.size ≤ 140737488351232 ∧ (True)
def bulk53 (x : S53) : Nat := (x.f0.size + 1) + (1) + 1
theorem opens53 : Opens Try.prog 53 k53 ok53 sz53 bulk53 := by
  have h := opens_struct (P := Try.prog) (t := 53) (fun x : S53 => (x.f0, x.f1)) (fun a : ByteArray × Int => (⟨a.1, a.2⟩ : S53)) (fun _ => rfl) Try.underlying53 (by kernel_rfl)
      (opensF_cons rfl (by kernel_rfl) (opens_string Try.underlying9)
      (opensF_one rfl (by kernel_rfl) (opens_int Try.underlying3)))
  exact h
def ok45 (x : S45) : Prop := x.f0.size ≤ 9223372036854775807 ∧ ((Lit.int .i64 x.f1).wf = true ∧ ((x.f2.length ≤ 9223372036854775807 ∧ ∀ y ∈ x.f2, ok53 y)))
def sz45 (x : S45) : Prop := x.f0.size ≤ 140737488351232 ∧ (True ∧ ((x.f2.length * 24 ≤ 140737488351232 ∧ ∀ y ∈ x.f2, sz53 y)))
def bulk45 (x : S45) : Nat := (x.f0.size + 1) + (1 + (bulkOf (fun y : S53 => bulk53 y) x.f2)) + 1
theorem opens45 : Opens Try.prog 45 k45 ok45 sz45 bulk45 := by
  have h := opens_struct (P := Try.prog) (t := 45) (fun x : S45 => (x.f0, x.f1, x.f2)) (fun a : ByteArray × Int × (List S53) => (⟨a.1, a.2.1, a.2.2⟩ : S45)) (fun _ => rfl) Try.underlying45 (by kernel_rfl)
      (opensF_cons rfl (by kernel_rfl) (opens_string Try.underlying9)
      (opensF_cons rfl (by kernel_rfl) (opens_int Try.underlying3)
      (opensF_one rfl (by kernel_rfl) (opens_slice Try.underlying43 (by kernel_rfl) (by kernel_rfl : Try.prog.bytesOf 53 = 24) opens53))))
  exact h
def ok29 (x : S29) : Prop := x.f0.size ≤ 9223372036854775807 ∧ (x.f1.size ≤ 9223372036854775807)
def sz29 (x : S29) : Prop := x.f0.size ≤ 140737488351232 ∧ (x.f1.size ≤ 140737488351232)
def bulk29 (x : S29) : Nat := (x.f0.size + 1) + ((x.f1.size + 1)) + 1
theorem opens29 : Opens Try.prog 29 k29 ok29 sz29 bulk29 := by
  have h := opens_struct (P := Try.prog) (t := 29) (fun x : S29 => (x.f0, x.f1)) (fun a : ByteArray × ByteArray => (⟨a.1, a.2⟩ : S29)) (fun _ => rfl) Try.underlying29 (by kernel_rfl)
      (opensF_cons rfl (by kernel_rfl) (opens_string Try.underlying9)
      (opensF_one rfl (by kernel_rfl) (opens_string Try.underlying9)))
  exact h
theorem opensArg0 : Opens Try.prog 22 (Kd.slice 45 k45) (fun x : (List S45) => (x.length ≤ 9223372036854775807 ∧ ∀ y ∈ x, ok45 y)) (fun x : (List S45) => (x.length * 48 ≤ 140737488351232 ∧ ∀ y ∈ x, sz45 y)) (fun x : (List S45) => bulkOf (fun y : S45 => bulk45 y) x) := by
  have h := (opens_slice Try.underlying22 (by kernel_rfl) (by kernel_rfl : Try.prog.bytesOf 45 = 48) opens45)
  exact h
theorem opensArg1 : Opens Try.prog 29 k29 ok29 sz29 bulk29 := opens29
theorem opensArg2 : Opens Try.prog 3 (Kd.int .i64) (fun x : Int => (Lit.int .i64 x).wf = true) (fun x : Int => True) (fun x : Int => 1) := by
  have h := (opens_int Try.underlying3)
  exact h
def contangolaw11_MemberFinds.Said : Prop := ∀ (x0 : (List S45)) (x1 : S29) (x2 : Int), (x0.length ≤ 9223372036854775807 ∧ ∀ y ∈ x0, ok45 y) → ok29 x1 → (Lit.int .i64 x2).wf = true → bulkOf (fun y : S45 => bulk45 y) x0 + bulk29 x1 + 1 ≤ 1048576 → ∃ k, contangolaw11_MemberFinds.f k x0 x1.f0 x1.f1 x2 = some true
end Go.Proofs.Ytipoicfglaanaaa.PMemberFinds
