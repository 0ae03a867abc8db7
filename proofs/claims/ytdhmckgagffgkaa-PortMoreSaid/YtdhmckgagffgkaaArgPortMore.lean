-- Written by a program of this session's (wip/tools/gen_law.py).
import Derived.Test.YtdhmckgagffgkaaVPortMore
import Derived.Test.YtdhmckgagffgkaaPPortMorex0
import Derived.Test.YtdhmckgagffgkaaPPortMorex9
import Derived.KernelRfl
namespace Go.Proofs.Ytdhmckgagffgkaa.PPortMore
open Go.RowKit Go.Proofs.YtdhmckgagffgkaaW.PrintWords Go.Proofs.Ytdhmckgagffgkaa.Opens
set_option linter.unusedVariables false
def ok45 (x : S45) : Prop := x.f0.size ≤ 9223372036854775807 ∧ (x.f1.size ≤ 9223372036854775807)
def sz45 (x : S45) : Prop := x.f0.size ≤ 140737488351232 ∧ (x.f1.size ≤ 140737488351232)
def bulk45 (x : S45) : Nat := (x.f0.size + 1) + ((x.f1.size + 1)) + 1
theorem opens45 : Opens Try.prog 45 k45 ok45 sz45 bulk45 := by
  have h := opens_struct (P := Try.prog) (t := 45) (fun x : S45 => (x.f0, x.f1)) (fun a : ByteArray × ByteArray => (⟨a.1, a.2⟩ : S45)) (fun _ => rfl) Try.underlying45 (by kernel_rfl)
      (opensF_cons rfl (by kernel_rfl) (opens_string Try.underlying9)
      (opensF_one rfl (by kernel_rfl) (opens_string Try.underlying9)))
  exact h
def ok50 (x : S50) : Prop := ok45 x.f0 ∧ (ok45 x.f1 ∧ ((Lit.int .i64 x.f2).wf = true))
def sz50 (x : S50) : Prop := sz45 x.f0 ∧ (sz45 x.f1 ∧ (True))
def bulk50 (x : S50) : Nat := bulk45 x.f0 + (bulk45 x.f1 + (1)) + 1
theorem opens50 : Opens Try.prog 50 k50 ok50 sz50 bulk50 := by
  have h := opens_struct (P := Try.prog) (t := 50) (fun x : S50 => (x.f0, x.f1, x.f2)) (fun a : S45 × S45 × Int => (⟨a.1, a.2.1, a.2.2⟩ : S50)) (fun _ => rfl) Try.underlying50 (by kernel_rfl)
      (opensF_cons rfl (by kernel_rfl) opens45
      (opensF_cons rfl (by kernel_rfl) opens45
      (opensF_one rfl (by kernel_rfl) (opens_int Try.underlying3))))
  exact h
def ok61 (x : S61) : Prop := x.f0.size ≤ 9223372036854775807 ∧ ((Lit.int .i64 x.f1).wf = true)
def sz61 (x : S61) : Prop := x.f0.size ≤ 140737488351232 ∧ (True)
def bulk61 (x : S61) : Nat := (x.f0.size + 1) + (1) + 1
theorem opens61 : Opens Try.prog 61 k61 ok61 sz61 bulk61 := by
  have h := opens_struct (P := Try.prog) (t := 61) (fun x : S61 => (x.f0, x.f1)) (fun a : ByteArray × Int => (⟨a.1, a.2⟩ : S61)) (fun _ => rfl) Try.underlying61 (by kernel_rfl)
      (opensF_cons rfl (by kernel_rfl) (opens_string Try.underlying9)
      (opensF_one rfl (by kernel_rfl) (opens_int Try.underlying3)))
  exact h
def ok55 (x : S55) : Prop := x.f0.size ≤ 9223372036854775807 ∧ ((Lit.int .i64 x.f1).wf = true ∧ ((x.f2.length ≤ 9223372036854775807 ∧ ∀ y ∈ x.f2, ok61 y)))
def sz55 (x : S55) : Prop := x.f0.size ≤ 140737488351232 ∧ (True ∧ ((x.f2.length * 24 ≤ 140737488351232 ∧ ∀ y ∈ x.f2, sz61 y)))
def bulk55 (x : S55) : Nat := (x.f0.size + 1) + (1 + (bulkOf (fun y : S61 => bulk61 y) x.f2)) + 1
theorem opens55 : Opens Try.prog 55 k55 ok55 sz55 bulk55 := by
  have h := opens_struct (P := Try.prog) (t := 55) (fun x : S55 => (x.f0, x.f1, x.f2)) (fun a : ByteArray × Int × (List S61) => (⟨a.1, a.2.1, a.2.2⟩ : S55)) (fun _ => rfl) Try.underlying55 (by kernel_rfl)
      (opensF_cons rfl (by kernel_rfl) (opens_string Try.underlying9)
      (opensF_cons rfl (by kernel_rfl) (opens_int Try.underlying3)
      (opensF_one rfl (by kernel_rfl) (opens_slice Try.underlying53 (by kernel_rfl) (by kernel_rfl : Try.prog.bytesOf 61 = 24) opens61))))
  exact h
def ok25 (x : S25) : Prop := (x.f0.length ≤ 9223372036854775807 ∧ ∀ y ∈ x.f0, ok55 y) ∧ (x.f1.size ≤ 9223372036854775807)
def sz25 (x : S25) : Prop := (x.f0.length * 48 ≤ 140737488351232 ∧ ∀ y ∈ x.f0, sz55 y) ∧ (x.f1.size ≤ 140737488351232)
def bulk25 (x : S25) : Nat := bulkOf (fun y : S55 => bulk55 y) x.f0 + ((x.f1.size + 1)) + 1
theorem opens25 : Opens Try.prog 25 k25 ok25 sz25 bulk25 := by
  have h := opens_struct (P := Try.prog) (t := 25) (fun x : S25 => (x.f0, x.f1)) (fun a : (List S55) × ByteArray => (⟨a.1, a.2⟩ : S25)) (fun _ => rfl) Try.underlying25 (by kernel_rfl)
      (opensF_cons rfl (by kernel_rfl) (opens_slice Try.underlying23 (by kernel_rfl) (by kernel_rfl : Try.prog.bytesOf 55 = 48) opens55)
      (opensF_one rfl (by kernel_rfl) (opens_string Try.underlying9)))
  exact h
def ok52 (x : S52) : Prop := ok45 x.f0 ∧ ((Lit.int .i64 x.f1).wf = true ∧ ((Lit.int .i64 x.f2).wf = true ∧ ((Lit.int .i64 x.f3).wf = true)))
def sz52 (x : S52) : Prop := sz45 x.f0 ∧ (True ∧ (True ∧ (True)))
def bulk52 (x : S52) : Nat := bulk45 x.f0 + (1 + (1 + (1))) + 1
theorem opens52 : Opens Try.prog 52 k52 ok52 sz52 bulk52 := by
  have h := opens_struct (P := Try.prog) (t := 52) (fun x : S52 => (x.f0, x.f1, x.f2, x.f3)) (fun a : S45 × Int × Int × Int => (⟨a.1, a.2.1, a.2.2.1, a.2.2.2⟩ : S52)) (fun _ => rfl) Try.underlying52 (by kernel_rfl)
      (opensF_cons rfl (by kernel_rfl) opens45
      (opensF_cons rfl (by kernel_rfl) (opens_int Try.underlying3)
      (opensF_cons rfl (by kernel_rfl) (opens_int Try.underlying3)
      (opensF_one rfl (by kernel_rfl) (opens_int Try.underlying3)))))
  exact h
theorem opensArg0 : Opens Try.prog 22 (Kd.slice 50 k50) (fun x : (List S50) => (x.length ≤ 9223372036854775807 ∧ ∀ y ∈ x, ok50 y)) (fun x : (List S50) => (x.length * 72 ≤ 140737488351232 ∧ ∀ y ∈ x, sz50 y)) (fun x : (List S50) => bulkOf (fun y : S50 => bulk50 y) x) := by
  have h := (opens_slice Try.underlying22 (by kernel_rfl) (by kernel_rfl : Try.prog.bytesOf 50 = 72) opens50)
  exact h
theorem opensArg1 : Opens Try.prog 22 (Kd.slice 50 k50) (fun x : (List S50) => (x.length ≤ 9223372036854775807 ∧ ∀ y ∈ x, ok50 y)) (fun x : (List S50) => (x.length * 72 ≤ 140737488351232 ∧ ∀ y ∈ x, sz50 y)) (fun x : (List S50) => bulkOf (fun y : S50 => bulk50 y) x) := by
  have h := (opens_slice Try.underlying22 (by kernel_rfl) (by kernel_rfl : Try.prog.bytesOf 50 = 72) opens50)
  exact h
theorem opensArg2 : Opens Try.prog 25 k25 ok25 sz25 bulk25 := opens25
theorem opensArg3 : Opens Try.prog 26 (Kd.slice 52 k52) (fun x : (List S52) => (x.length ≤ 9223372036854775807 ∧ ∀ y ∈ x, ok52 y)) (fun x : (List S52) => (x.length * 56 ≤ 140737488351232 ∧ ∀ y ∈ x, sz52 y)) (fun x : (List S52) => bulkOf (fun y : S52 => bulk52 y) x) := by
  have h := (opens_slice Try.underlying26 (by kernel_rfl) (by kernel_rfl : Try.prog.bytesOf 52 = 56) opens52)
  exact h
def contangolaw42_PortMore.Said : Prop := ∀ (x0 : (List S50)) (x1 : (List S50)) (x2 : S25) (x3 : (List S52)), (x0.length ≤ 9223372036854775807 ∧ ∀ y ∈ x0, ok50 y) → (x1.length ≤ 9223372036854775807 ∧ ∀ y ∈ x1, ok50 y) → ok25 x2 → (x3.length ≤ 9223372036854775807 ∧ ∀ y ∈ x3, ok52 y) → (x0.length * 72 ≤ 140737488351232 ∧ ∀ y ∈ x0, sz50 y) → (x1.length * 72 ≤ 140737488351232 ∧ ∀ y ∈ x1, sz50 y) → sz25 x2 → (x3.length * 56 ≤ 140737488351232 ∧ ∀ y ∈ x3, sz52 y) → ∃ k, contangolaw42_PortMore.f k x0 x1 x2.f0 x2.f1 x3 = some true
end Go.Proofs.Ytdhmckgagffgkaa.PPortMore
