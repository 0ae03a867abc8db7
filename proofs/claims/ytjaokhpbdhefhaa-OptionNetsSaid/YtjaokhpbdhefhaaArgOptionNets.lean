-- Written by a program of this session's (wip/tools/gen_law.py).
import Derived.Test.YtjaokhpbdhefhaaVOptionNets
import Derived.Test.YtjaokhpbdhefhaaPOptionNetsx0
import Derived.Test.YtjaokhpbdhefhaaPOptionNetsx19
import Derived.KernelRfl
namespace Go.Proofs.Ytjaokhpbdhefhaa.POptionNets
open Go.RowKit Go.Proofs.YtjaokhpbdhefhaaW.PrintWords Go.Proofs.Ytjaokhpbdhefhaa.Opens
set_option linter.unusedVariables false
def ok29 (x : S29) : Prop := x.f0.size ≤ 9223372036854775807 ∧ ((Lit.int .i64 x.f1).wf = true ∧ ((Lit.int .i64 x.f2).wf = true ∧ ((Lit.int .i64 x.f3).wf = true ∧ ((Lit.int .i64 x.f4).wf = true ∧ ((Lit.int .i64 x.f5).wf = true ∧ (True))))))
def sz29 (x : S29) : Prop := x.f0.size ≤ 140737488351232 ∧ (True ∧ (True ∧ (True ∧ (True ∧ (True ∧ (True))))))
def bulk29 (x : S29) : Nat := (x.f0.size + 1) + (1 + (1 + (1 + (1 + (1 + (1)))))) + 1
theorem opens29 : Opens Try.prog 29 k29 ok29 sz29 bulk29 := by
  have h := opens_struct (P := Try.prog) (t := 29) (fun x : S29 => (x.f0, x.f1, x.f2, x.f3, x.f4, x.f5, x.f6)) (fun a : ByteArray × Int × Int × Int × Int × Int × Bool => (⟨a.1, a.2.1, a.2.2.1, a.2.2.2.1, a.2.2.2.2.1, a.2.2.2.2.2.1, a.2.2.2.2.2.2⟩ : S29)) (fun _ => rfl) Try.underlying29 (by kernel_rfl)
      (opensF_cons rfl (by kernel_rfl) (opens_string Try.underlying9)
      (opensF_cons rfl (by kernel_rfl) (opens_int Try.underlying3)
      (opensF_cons rfl (by kernel_rfl) (opens_int Try.underlying3)
      (opensF_cons rfl (by kernel_rfl) (opens_int Try.underlying3)
      (opensF_cons rfl (by kernel_rfl) (opens_int Try.underlying3)
      (opensF_cons rfl (by kernel_rfl) (opens_int Try.underlying3)
      (opensF_one rfl (by kernel_rfl) (opens_bool Try.underlying4))))))))
  exact h
def ok23 (x : S23) : Prop := x.f0.size ≤ 9223372036854775807 ∧ ((Lit.int .i64 x.f1).wf = true ∧ ((Lit.int .i64 x.f2).wf = true ∧ ((Lit.int .i64 x.f3).wf = true)))
def sz23 (x : S23) : Prop := x.f0.size ≤ 140737488351232 ∧ (True ∧ (True ∧ (True)))
def bulk23 (x : S23) : Nat := (x.f0.size + 1) + (1 + (1 + (1))) + 1
theorem opens23 : Opens Try.prog 23 k23 ok23 sz23 bulk23 := by
  have h := opens_struct (P := Try.prog) (t := 23) (fun x : S23 => (x.f0, x.f1, x.f2, x.f3)) (fun a : ByteArray × Int × Int × Int => (⟨a.1, a.2.1, a.2.2.1, a.2.2.2⟩ : S23)) (fun _ => rfl) Try.underlying23 (by kernel_rfl)
      (opensF_cons rfl (by kernel_rfl) (opens_string Try.underlying9)
      (opensF_cons rfl (by kernel_rfl) (opens_int Try.underlying3)
      (opensF_cons rfl (by kernel_rfl) (opens_int Try.underlying3)
      (opensF_one rfl (by kernel_rfl) (opens_int Try.underlying3)))))
  exact h
def ok57 (x : S57) : Prop := ok23 x.f0 ∧ ((Lit.int .i64 x.f1).wf = true ∧ ((Lit.int .i64 x.f2).wf = true))
def sz57 (x : S57) : Prop := sz23 x.f0 ∧ (True ∧ (True))
def bulk57 (x : S57) : Nat := bulk23 x.f0 + (1 + (1)) + 1
theorem opens57 : Opens Try.prog 57 k57 ok57 sz57 bulk57 := by
  have h := opens_struct (P := Try.prog) (t := 57) (fun x : S57 => (x.f0, x.f1, x.f2)) (fun a : S23 × Int × Int => (⟨a.1, a.2.1, a.2.2⟩ : S57)) (fun _ => rfl) Try.underlying57 (by kernel_rfl)
      (opensF_cons rfl (by kernel_rfl) opens23
      (opensF_cons rfl (by kernel_rfl) (opens_int Try.underlying3)
      (opensF_one rfl (by kernel_rfl) (opens_int Try.underlying3))))
  exact h
def ok63 (x : S63) : Prop := ok23 x.f0 ∧ ((Lit.int .i64 x.f1).wf = true)
def sz63 (x : S63) : Prop := sz23 x.f0 ∧ (True)
def bulk63 (x : S63) : Nat := bulk23 x.f0 + (1) + 1
theorem opens63 : Opens Try.prog 63 k63 ok63 sz63 bulk63 := by
  have h := opens_struct (P := Try.prog) (t := 63) (fun x : S63 => (x.f0, x.f1)) (fun a : S23 × Int => (⟨a.1, a.2⟩ : S63)) (fun _ => rfl) Try.underlying63 (by kernel_rfl)
      (opensF_cons rfl (by kernel_rfl) opens23
      (opensF_one rfl (by kernel_rfl) (opens_int Try.underlying3)))
  exact h
theorem opensArg0 : Opens Try.prog 43 (Kd.slice 29 k29) (fun x : (List S29) => (x.length ≤ 9223372036854775807 ∧ ∀ y ∈ x, ok29 y)) (fun x : (List S29) => (x.length * 64 ≤ 140737488351232 ∧ ∀ y ∈ x, sz29 y)) (fun x : (List S29) => bulkOf (fun y : S29 => bulk29 y) x) := by
  have h := (opens_slice Try.underlying43 (by kernel_rfl) (by kernel_rfl : Try.prog.bytesOf 29 = 64) opens29)
  exact h
theorem opensArg1 : Opens Try.prog 44 (Kd.slice 57 k57) (fun x : (List S57) => (x.length ≤ 9223372036854775807 ∧ ∀ y ∈ x, ok57 y)) (fun x : (List S57) => (x.length * 56 ≤ 140737488351232 ∧ ∀ y ∈ x, sz57 y)) (fun x : (List S57) => bulkOf (fun y : S57 => bulk57 y) x) := by
  have h := (opens_slice Try.underlying44 (by kernel_rfl) (by kernel_rfl : Try.prog.bytesOf 57 = 56) opens57)
  exact h
theorem opensArg2 : Opens Try.prog 45 (Kd.slice 63 k63) (fun x : (List S63) => (x.length ≤ 9223372036854775807 ∧ ∀ y ∈ x, ok63 y)) (fun x : (List S63) => (x.length * 48 ≤ 140737488351232 ∧ ∀ y ∈ x, sz63 y)) (fun x : (List S63) => bulkOf (fun y : S63 => bulk63 y) x) := by
  have h := (opens_slice Try.underlying45 (by kernel_rfl) (by kernel_rfl : Try.prog.bytesOf 63 = 48) opens63)
  exact h
def contangolaw21_OptionNets.Said : Prop := ∀ (x0 : (List S29)) (x1 : (List S57)) (x2 : (List S63)), (x0.length ≤ 9223372036854775807 ∧ ∀ y ∈ x0, ok29 y) → (x1.length ≤ 9223372036854775807 ∧ ∀ y ∈ x1, ok57 y) → (x2.length ≤ 9223372036854775807 ∧ ∀ y ∈ x2, ok63 y) → (x0.length * 64 ≤ 140737488351232 ∧ ∀ y ∈ x0, sz29 y) → (x1.length * 56 ≤ 140737488351232 ∧ ∀ y ∈ x1, sz57 y) → (x2.length * 48 ≤ 140737488351232 ∧ ∀ y ∈ x2, sz63 y) → ∃ k, contangolaw21_OptionNets.f k x0 x1 x2 = some true
end Go.Proofs.Ytjaokhpbdhefhaa.POptionNets
