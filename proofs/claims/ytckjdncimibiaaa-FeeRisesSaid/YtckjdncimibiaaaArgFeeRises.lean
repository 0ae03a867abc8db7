-- Written by a program of this session's (wip/tools/gen_law.py).
import Derived.Test.YtckjdncimibiaaaVFeeRises
import Derived.Test.YtckjdncimibiaaaPFeeRisesx0
import Derived.Test.YtckjdncimibiaaaPFeeRisesx8
import Derived.KernelRfl
namespace Go.Proofs.Ytckjdncimibiaaa.PFeeRises
open Go.RowKit Go.Proofs.YtckjdncimibiaaaW.PrintWords Go.Proofs.Ytckjdncimibiaaa.Opens
set_option linter.unusedVariables false
def ok54 (x : S54) : Prop := (Lit.int .i64 x.f0).wf = true ∧ ((Lit.int .i64 x.f1).wf = true)
def sz54 (x : S54) : Prop := True ∧ (True)
def bulk54 (x : S54) : Nat := 1 + (1) + 1
theorem opens54 : Opens Try.prog 54 k54 ok54 sz54 bulk54 := by
  have h := opens_array (P := Try.prog) (t := 54) (fun x : S54 => (x.f0, x.f1)) (fun a : Int × Int => (⟨a.1, a.2⟩ : S54)) (fun _ => rfl) Try.underlying54 (s := 1) (by kernel_rfl) (by kernel_rfl) [{ name := "", type := 3, offset := 0, embedded := false, tag := "", pkgPath := "", byteOffset := 0 }, { name := "", type := 3, offset := 1, embedded := false, tag := "", pkgPath := "", byteOffset := 0 }] rfl
      (fun i f h => by rcases i with _ | _ | i <;> simp at h <;> subst h <;> exact ⟨rfl, rfl⟩)
      (opensF_cons rfl (by kernel_rfl) (opens_int Try.underlying3)
      (opensF_one rfl (by kernel_rfl) (opens_int Try.underlying3)))
  exact h
def ok73 (x : S73) : Prop := (Lit.int .i64 x.f0).wf = true ∧ ((Lit.int .i64 x.f1).wf = true)
def sz73 (x : S73) : Prop := True ∧ (True)
def bulk73 (x : S73) : Nat := 1 + (1) + 1
theorem opens73 : Opens Try.prog 73 k73 ok73 sz73 bulk73 := by
  have h := opens_struct (P := Try.prog) (t := 73) (fun x : S73 => (x.f0, x.f1)) (fun a : Int × Int => (⟨a.1, a.2⟩ : S73)) (fun _ => rfl) Try.underlying73 (by kernel_rfl)
      (opensF_cons rfl (by kernel_rfl) (opens_int Try.underlying3)
      (opensF_one rfl (by kernel_rfl) (opens_int Try.underlying3)))
  exact h
theorem opensArg0 : Opens Try.prog 3 (Kd.int .i64) (fun x : Int => (Lit.int .i64 x).wf = true) (fun x : Int => True) (fun x : Int => 1) := by
  have h := (opens_int Try.underlying3)
  exact h
theorem opensArg1 : Opens Try.prog 54 k54 ok54 sz54 bulk54 := opens54
theorem opensArg2 : Opens Try.prog 22 (Kd.slice 73 k73) (fun x : (List S73) => (x.length ≤ 9223372036854775807 ∧ ∀ y ∈ x, ok73 y)) (fun x : (List S73) => (x.length * 16 ≤ 140737488351232 ∧ ∀ y ∈ x, sz73 y)) (fun x : (List S73) => bulkOf (fun y : S73 => bulk73 y) x) := by
  have h := (opens_slice Try.underlying22 (by kernel_rfl) (by kernel_rfl : Try.prog.bytesOf 73 = 16) opens73)
  exact h
def contangolaw38_FeeRises.Said : Prop := ∀ (x0 : Int) (x1 : S54) (x2 : (List S73)), (Lit.int .i64 x0).wf = true → ok54 x1 → (x2.length ≤ 9223372036854775807 ∧ ∀ y ∈ x2, ok73 y) → True → sz54 x1 → (x2.length * 16 ≤ 140737488351232 ∧ ∀ y ∈ x2, sz73 y) → ∃ k, contangolaw38_FeeRises.f k x0 x1.f0 x1.f1 x2 = some true
end Go.Proofs.Ytckjdncimibiaaa.PFeeRises
