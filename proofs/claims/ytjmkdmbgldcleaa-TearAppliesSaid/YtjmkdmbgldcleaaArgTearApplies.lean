-- Written by a program of this session's (wip/tools/gen_law.py).
import Derived.Test.YtjmkdmbgldcleaaVTearApplies
import Derived.Test.YtjmkdmbgldcleaaPTearAppliesx0
import Derived.Test.YtjmkdmbgldcleaaPTearAppliesx18
import Derived.KernelRfl
namespace Go.Proofs.Ytjmkdmbgldcleaa.PTearApplies
open Go.RowKit Go.Proofs.YtjmkdmbgldcleaaW.PrintWords Go.Proofs.Ytjmkdmbgldcleaa.Opens
set_option linter.unusedVariables false
def ok55 (x : S55) : Prop := x.f0.size ≤ 9223372036854775807 ∧ (x.f1.size ≤ 9223372036854775807)
def sz55 (x : S55) : Prop := x.f0.size ≤ 140737488351232 ∧ (x.f1.size ≤ 140737488351232)
def bulk55 (x : S55) : Nat := (x.f0.size + 1) + ((x.f1.size + 1)) + 1
theorem opens55 : Opens Try.prog 55 k55 ok55 sz55 bulk55 := by
  have h := opens_struct (P := Try.prog) (t := 55) (fun x : S55 => (x.f0, x.f1)) (fun a : ByteArray × ByteArray => (⟨a.1, a.2⟩ : S55)) (fun _ => rfl) Try.underlying55 (by kernel_rfl)
      (opensF_cons rfl (by kernel_rfl) (opens_string Try.underlying9)
      (opensF_one rfl (by kernel_rfl) (opens_string Try.underlying9)))
  exact h
def ok24 (x : S24) : Prop := x.f0.size ≤ 9223372036854775807 ∧ ((Lit.int .i64 x.f1).wf = true ∧ ((Lit.int .i64 x.f2).wf = true ∧ ((Lit.int .i64 x.f3).wf = true)))
def sz24 (x : S24) : Prop := x.f0.size ≤ 140737488351232 ∧ (True ∧ (True ∧ (True)))
def bulk24 (x : S24) : Nat := (x.f0.size + 1) + (1 + (1 + (1))) + 1
theorem opens24 : Opens Try.prog 24 k24 ok24 sz24 bulk24 := by
  have h := opens_struct (P := Try.prog) (t := 24) (fun x : S24 => (x.f0, x.f1, x.f2, x.f3)) (fun a : ByteArray × Int × Int × Int => (⟨a.1, a.2.1, a.2.2.1, a.2.2.2⟩ : S24)) (fun _ => rfl) Try.underlying24 (by kernel_rfl)
      (opensF_cons rfl (by kernel_rfl) (opens_string Try.underlying9)
      (opensF_cons rfl (by kernel_rfl) (opens_int Try.underlying3)
      (opensF_cons rfl (by kernel_rfl) (opens_int Try.underlying3)
      (opensF_one rfl (by kernel_rfl) (opens_int Try.underlying3)))))
  exact h
def ok52 (x : S52) : Prop := ok24 x.f0 ∧ ((Lit.int .i64 x.f1).wf = true ∧ ((Lit.int .i64 x.f2).wf = true))
def sz52 (x : S52) : Prop := sz24 x.f0 ∧ (True ∧ (True))
def bulk52 (x : S52) : Nat := bulk24 x.f0 + (1 + (1)) + 1
theorem opens52 : Opens Try.prog 52 k52 ok52 sz52 bulk52 := by
  have h := opens_struct (P := Try.prog) (t := 52) (fun x : S52 => (x.f0, x.f1, x.f2)) (fun a : S24 × Int × Int => (⟨a.1, a.2.1, a.2.2⟩ : S52)) (fun _ => rfl) Try.underlying52 (by kernel_rfl)
      (opensF_cons rfl (by kernel_rfl) opens24
      (opensF_cons rfl (by kernel_rfl) (opens_int Try.underlying3)
      (opensF_one rfl (by kernel_rfl) (opens_int Try.underlying3))))
  exact h
def ok58 (x : S58) : Prop := ok55 x.f0 ∧ ((x.f1.length ≤ 9223372036854775807 ∧ ∀ y ∈ x.f1, ok52 y))
def sz58 (x : S58) : Prop := sz55 x.f0 ∧ ((x.f1.length * 56 ≤ 140737488351232 ∧ ∀ y ∈ x.f1, sz52 y))
def bulk58 (x : S58) : Nat := bulk55 x.f0 + (bulkOf (fun y : S52 => bulk52 y) x.f1) + 1
theorem opens58 : Opens Try.prog 58 k58 ok58 sz58 bulk58 := by
  have h := opens_struct (P := Try.prog) (t := 58) (fun x : S58 => (x.f0, x.f1)) (fun a : S55 × (List S52) => (⟨a.1, a.2⟩ : S58)) (fun _ => rfl) Try.underlying58 (by kernel_rfl)
      (opensF_cons rfl (by kernel_rfl) opens55
      (opensF_one rfl (by kernel_rfl) (opens_slice Try.underlying56 (by kernel_rfl) (by kernel_rfl : Try.prog.bytesOf 52 = 56) opens52)))
  exact h
def ok26 (x : S26) : Prop := ok24 x.f0 ∧ (True ∧ ((Lit.int .i64 x.f2).wf = true))
def sz26 (x : S26) : Prop := sz24 x.f0 ∧ (True ∧ (True))
def bulk26 (x : S26) : Nat := bulk24 x.f0 + (1 + (1)) + 1
theorem opens26 : Opens Try.prog 26 k26 ok26 sz26 bulk26 := by
  have h := opens_struct (P := Try.prog) (t := 26) (fun x : S26 => (x.f0, x.f1, x.f2)) (fun a : S24 × Bool × Int => (⟨a.1, a.2.1, a.2.2⟩ : S26)) (fun _ => rfl) Try.underlying26 (by kernel_rfl)
      (opensF_cons rfl (by kernel_rfl) opens24
      (opensF_cons rfl (by kernel_rfl) (opens_bool Try.underlying4)
      (opensF_one rfl (by kernel_rfl) (opens_int Try.underlying3))))
  exact h
def ok62 (x : S62) : Prop := ok55 x.f0 ∧ ((Lit.int .i64 x.f1).wf = true)
def sz62 (x : S62) : Prop := sz55 x.f0 ∧ (True)
def bulk62 (x : S62) : Nat := bulk55 x.f0 + (1) + 1
theorem opens62 : Opens Try.prog 62 k62 ok62 sz62 bulk62 := by
  have h := opens_struct (P := Try.prog) (t := 62) (fun x : S62 => (x.f0, x.f1)) (fun a : S55 × Int => (⟨a.1, a.2⟩ : S62)) (fun _ => rfl) Try.underlying62 (by kernel_rfl)
      (opensF_cons rfl (by kernel_rfl) opens55
      (opensF_one rfl (by kernel_rfl) (opens_int Try.underlying3)))
  exact h
theorem opensArg0 : Opens Try.prog 22 (Kd.slice 58 k58) (fun x : (List S58) => (x.length ≤ 9223372036854775807 ∧ ∀ y ∈ x, ok58 y)) (fun x : (List S58) => (x.length * 56 ≤ 140737488351232 ∧ ∀ y ∈ x, sz58 y)) (fun x : (List S58) => bulkOf (fun y : S58 => bulk58 y) x) := by
  have h := (opens_slice Try.underlying22 (by kernel_rfl) (by kernel_rfl : Try.prog.bytesOf 58 = 56) opens58)
  exact h
theorem opensArg1 : Opens Try.prog 26 k26 ok26 sz26 bulk26 := opens26
theorem opensArg2 : Opens Try.prog 29 (Kd.slice 62 k62) (fun x : (List S62) => (x.length ≤ 9223372036854775807 ∧ ∀ y ∈ x, ok62 y)) (fun x : (List S62) => (x.length * 40 ≤ 140737488351232 ∧ ∀ y ∈ x, sz62 y)) (fun x : (List S62) => bulkOf (fun y : S62 => bulk62 y) x) := by
  have h := (opens_slice Try.underlying29 (by kernel_rfl) (by kernel_rfl : Try.prog.bytesOf 62 = 40) opens62)
  exact h
def contangolaw50_TearApplies.Said : Prop := ∀ (x0 : (List S58)) (x1 : S26) (x2 : (List S62)), (x0.length ≤ 9223372036854775807 ∧ ∀ y ∈ x0, ok58 y) → ok26 x1 → (x2.length ≤ 9223372036854775807 ∧ ∀ y ∈ x2, ok62 y) → (x0.length * 56 ≤ 140737488351232 ∧ ∀ y ∈ x0, sz58 y) → sz26 x1 → (x2.length * 40 ≤ 140737488351232 ∧ ∀ y ∈ x2, sz62 y) → ∃ k, contangolaw50_TearApplies.f k x0 x1.f0.f0 x1.f0.f1 x1.f0.f2 x1.f0.f3 x1.f1 x1.f2 x2 = some true
end Go.Proofs.Ytjmkdmbgldcleaa.PTearApplies
