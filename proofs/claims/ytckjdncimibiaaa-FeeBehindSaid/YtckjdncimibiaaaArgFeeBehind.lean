-- Written by a program of this session's (wip/tools/gen_law.py).
import Derived.Test.YtckjdncimibiaaaVFeeBehind
import Derived.Test.YtckjdncimibiaaaPFeeBehindx0
import Derived.Test.YtckjdncimibiaaaPFeeBehindx10
import Derived.KernelRfl
namespace Go.Proofs.Ytckjdncimibiaaa.PFeeBehind
open Go.RowKit Go.Proofs.YtckjdncimibiaaaW.PrintWords Go.Proofs.Ytckjdncimibiaaa.Opens
set_option linter.unusedVariables false
def ok57 (x : S57) : Prop := x.f0.size ≤ 9223372036854775807 ∧ ((Lit.int .i64 x.f1).wf = true ∧ ((Lit.int .i64 x.f2).wf = true ∧ ((Lit.int .i64 x.f3).wf = true)))
def sz57 (x : S57) : Prop := x.f0.size ≤ 140737488351232 ∧ (True ∧ (True ∧ (True)))
def bulk57 (x : S57) : Nat := (x.f0.size + 1) + (1 + (1 + (1))) + 1
theorem opens57 : Opens Try.prog 57 k57 ok57 sz57 bulk57 := by
  have h := opens_struct (P := Try.prog) (t := 57) (fun x : S57 => (x.f0, x.f1, x.f2, x.f3)) (fun a : ByteArray × Int × Int × Int => (⟨a.1, a.2.1, a.2.2.1, a.2.2.2⟩ : S57)) (fun _ => rfl) Try.underlying57 (by kernel_rfl)
      (opensF_cons rfl (by kernel_rfl) (opens_string Try.underlying9)
      (opensF_cons rfl (by kernel_rfl) (opens_int Try.underlying3)
      (opensF_cons rfl (by kernel_rfl) (opens_int Try.underlying3)
      (opensF_one rfl (by kernel_rfl) (opens_int Try.underlying3)))))
  exact h
def ok59 (x : S59) : Prop := x.f0.size ≤ 9223372036854775807 ∧ (x.f1.size ≤ 9223372036854775807)
def sz59 (x : S59) : Prop := x.f0.size ≤ 140737488351232 ∧ (x.f1.size ≤ 140737488351232)
def bulk59 (x : S59) : Nat := (x.f0.size + 1) + ((x.f1.size + 1)) + 1
theorem opens59 : Opens Try.prog 59 k59 ok59 sz59 bulk59 := by
  have h := opens_struct (P := Try.prog) (t := 59) (fun x : S59 => (x.f0, x.f1)) (fun a : ByteArray × ByteArray => (⟨a.1, a.2⟩ : S59)) (fun _ => rfl) Try.underlying59 (by kernel_rfl)
      (opensF_cons rfl (by kernel_rfl) (opens_string Try.underlying9)
      (opensF_one rfl (by kernel_rfl) (opens_string Try.underlying9)))
  exact h
def ok61 (x : S61) : Prop := (Lit.int .i64 x.f0).wf = true ∧ ((Lit.int .i64 x.f1).wf = true ∧ ((Lit.int .i64 x.f2).wf = true ∧ (ok57 x.f3 ∧ ((Lit.int .i64 x.f4).wf = true ∧ ((Lit.int .i64 x.f5).wf = true ∧ (ok59 x.f6 ∧ (ok59 x.f7)))))))
def sz61 (x : S61) : Prop := True ∧ (True ∧ (True ∧ (sz57 x.f3 ∧ (True ∧ (True ∧ (sz59 x.f6 ∧ (sz59 x.f7)))))))
def bulk61 (x : S61) : Nat := 1 + (1 + (1 + (bulk57 x.f3 + (1 + (1 + (bulk59 x.f6 + (bulk59 x.f7))))))) + 1
theorem opens61 : Opens Try.prog 61 k61 ok61 sz61 bulk61 := by
  have h := opens_struct (P := Try.prog) (t := 61) (fun x : S61 => (x.f0, x.f1, x.f2, x.f3, x.f4, x.f5, x.f6, x.f7)) (fun a : Int × Int × Int × S57 × Int × Int × S59 × S59 => (⟨a.1, a.2.1, a.2.2.1, a.2.2.2.1, a.2.2.2.2.1, a.2.2.2.2.2.1, a.2.2.2.2.2.2.1, a.2.2.2.2.2.2.2⟩ : S61)) (fun _ => rfl) Try.underlying61 (by kernel_rfl)
      (opensF_cons rfl (by kernel_rfl) (opens_int Try.underlying3)
      (opensF_cons rfl (by kernel_rfl) (opens_int Try.underlying3)
      (opensF_cons rfl (by kernel_rfl) (opens_int Try.underlying3)
      (opensF_cons rfl (by kernel_rfl) opens57
      (opensF_cons rfl (by kernel_rfl) (opens_int Try.underlying3)
      (opensF_cons rfl (by kernel_rfl) (opens_int Try.underlying3)
      (opensF_cons rfl (by kernel_rfl) opens59
      (opensF_one rfl (by kernel_rfl) opens59))))))))
  exact h
def ok52 (x : S52) : Prop := x.f0.size ≤ 9223372036854775807 ∧ ((Lit.int .i64 x.f1).wf = true)
def sz52 (x : S52) : Prop := x.f0.size ≤ 140737488351232 ∧ (True)
def bulk52 (x : S52) : Nat := (x.f0.size + 1) + (1) + 1
theorem opens52 : Opens Try.prog 52 k52 ok52 sz52 bulk52 := by
  have h := opens_struct (P := Try.prog) (t := 52) (fun x : S52 => (x.f0, x.f1)) (fun a : ByteArray × Int => (⟨a.1, a.2⟩ : S52)) (fun _ => rfl) Try.underlying52 (by kernel_rfl)
      (opensF_cons rfl (by kernel_rfl) (opens_string Try.underlying9)
      (opensF_one rfl (by kernel_rfl) (opens_int Try.underlying3)))
  exact h
def ok73 (x : S73) : Prop := (Lit.int .i64 x.f0).wf = true ∧ ((Lit.int .i64 x.f1).wf = true)
def sz73 (x : S73) : Prop := True ∧ (True)
def bulk73 (x : S73) : Nat := 1 + (1) + 1
theorem opens73 : Opens Try.prog 73 k73 ok73 sz73 bulk73 := by
  have h := opens_struct (P := Try.prog) (t := 73) (fun x : S73 => (x.f0, x.f1)) (fun a : Int × Int => (⟨a.1, a.2⟩ : S73)) (fun _ => rfl) Try.underlying73 (by kernel_rfl)
      (opensF_cons rfl (by kernel_rfl) (opens_int Try.underlying3)
      (opensF_one rfl (by kernel_rfl) (opens_int Try.underlying3)))
  exact h
def ok37 (x : S37) : Prop := (x.f0.length ≤ 9223372036854775807 ∧ ∀ y ∈ x.f0, ok52 y) ∧ ((x.f1.length ≤ 9223372036854775807 ∧ ∀ y ∈ x.f1, ok73 y) ∧ ((Lit.int .i64 x.f2).wf = true))
def sz37 (x : S37) : Prop := (x.f0.length * 24 ≤ 140737488351232 ∧ ∀ y ∈ x.f0, sz52 y) ∧ ((x.f1.length * 16 ≤ 140737488351232 ∧ ∀ y ∈ x.f1, sz73 y) ∧ (True))
def bulk37 (x : S37) : Nat := bulkOf (fun y : S52 => bulk52 y) x.f0 + (bulkOf (fun y : S73 => bulk73 y) x.f1 + (1)) + 1
theorem opens37 : Opens Try.prog 37 k37 ok37 sz37 bulk37 := by
  have h := opens_struct (P := Try.prog) (t := 37) (fun x : S37 => (x.f0, x.f1, x.f2)) (fun a : (List S52) × (List S73) × Int => (⟨a.1, a.2.1, a.2.2⟩ : S37)) (fun _ => rfl) Try.underlying37 (by kernel_rfl)
      (opensF_cons rfl (by kernel_rfl) (opens_slice Try.underlying35 (by kernel_rfl) (by kernel_rfl : Try.prog.bytesOf 52 = 24) opens52)
      (opensF_cons rfl (by kernel_rfl) (opens_slice Try.underlying22 (by kernel_rfl) (by kernel_rfl : Try.prog.bytesOf 73 = 16) opens73)
      (opensF_one rfl (by kernel_rfl) (opens_int Try.underlying3))))
  exact h
theorem opensArg0 : Opens Try.prog 34 (Kd.slice 61 k61) (fun x : (List S61) => (x.length ≤ 9223372036854775807 ∧ ∀ y ∈ x, ok61 y)) (fun x : (List S61) => (x.length * 144 ≤ 140737488351232 ∧ ∀ y ∈ x, sz61 y)) (fun x : (List S61) => bulkOf (fun y : S61 => bulk61 y) x) := by
  have h := (opens_slice Try.underlying34 (by kernel_rfl) (by kernel_rfl : Try.prog.bytesOf 61 = 144) opens61)
  exact h
theorem opensArg1 : Opens Try.prog 34 (Kd.slice 61 k61) (fun x : (List S61) => (x.length ≤ 9223372036854775807 ∧ ∀ y ∈ x, ok61 y)) (fun x : (List S61) => (x.length * 144 ≤ 140737488351232 ∧ ∀ y ∈ x, sz61 y)) (fun x : (List S61) => bulkOf (fun y : S61 => bulk61 y) x) := by
  have h := (opens_slice Try.underlying34 (by kernel_rfl) (by kernel_rfl : Try.prog.bytesOf 61 = 144) opens61)
  exact h
theorem opensArg2 : Opens Try.prog 37 k37 ok37 sz37 bulk37 := opens37
def contangolaw38_FeeBehind.Said : Prop := ∀ (x0 : (List S61)) (x1 : (List S61)) (x2 : S37), (x0.length ≤ 9223372036854775807 ∧ ∀ y ∈ x0, ok61 y) → (x1.length ≤ 9223372036854775807 ∧ ∀ y ∈ x1, ok61 y) → ok37 x2 → (x0.length * 144 ≤ 140737488351232 ∧ ∀ y ∈ x0, sz61 y) → (x1.length * 144 ≤ 140737488351232 ∧ ∀ y ∈ x1, sz61 y) → sz37 x2 → ∃ k, contangolaw38_FeeBehind.f k x0 x1 x2.f0 x2.f1 x2.f2 = some true
end Go.Proofs.Ytckjdncimibiaaa.PFeeBehind
