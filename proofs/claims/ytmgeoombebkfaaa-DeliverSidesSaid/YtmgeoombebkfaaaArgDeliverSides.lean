-- Written by a program of this session's (wip/tools/gen_law.py).
import Derived.Test.YtmgeoombebkfaaaVDeliverSides
import Derived.Test.YtmgeoombebkfaaaPDeliverSidesx0
import Derived.Test.YtmgeoombebkfaaaPDeliverSidesx19
import Derived.KernelRfl
namespace Go.Proofs.Ytmgeoombebkfaaa.PDeliverSides
open Go.RowKit Go.Proofs.YtmgeoombebkfaaaW.PrintWords Go.Proofs.Ytmgeoombebkfaaa.Opens
set_option linter.unusedVariables false
def ok54 (x : S54) : Prop := x.f0.size ≤ 9223372036854775807 ∧ (x.f1.size ≤ 9223372036854775807)
def sz54 (x : S54) : Prop := x.f0.size ≤ 140737488351232 ∧ (x.f1.size ≤ 140737488351232)
def bulk54 (x : S54) : Nat := (x.f0.size + 1) + ((x.f1.size + 1)) + 1
theorem opens54 : Opens Try.prog 54 k54 ok54 sz54 bulk54 := by
  have h := opens_struct (P := Try.prog) (t := 54) (fun x : S54 => (x.f0, x.f1)) (fun a : ByteArray × ByteArray => (⟨a.1, a.2⟩ : S54)) (fun _ => rfl) Try.underlying54 (by kernel_rfl)
      (opensF_cons rfl (by kernel_rfl) (opens_string Try.underlying9)
      (opensF_one rfl (by kernel_rfl) (opens_string Try.underlying9)))
  exact h
def ok67 (x : S67) : Prop := x.f0.size ≤ 9223372036854775807 ∧ ((Lit.int .i64 x.f1).wf = true ∧ ((Lit.int .i64 x.f2).wf = true ∧ ((Lit.int .i64 x.f3).wf = true)))
def sz67 (x : S67) : Prop := x.f0.size ≤ 140737488351232 ∧ (True ∧ (True ∧ (True)))
def bulk67 (x : S67) : Nat := (x.f0.size + 1) + (1 + (1 + (1))) + 1
theorem opens67 : Opens Try.prog 67 k67 ok67 sz67 bulk67 := by
  have h := opens_struct (P := Try.prog) (t := 67) (fun x : S67 => (x.f0, x.f1, x.f2, x.f3)) (fun a : ByteArray × Int × Int × Int => (⟨a.1, a.2.1, a.2.2.1, a.2.2.2⟩ : S67)) (fun _ => rfl) Try.underlying67 (by kernel_rfl)
      (opensF_cons rfl (by kernel_rfl) (opens_string Try.underlying9)
      (opensF_cons rfl (by kernel_rfl) (opens_int Try.underlying3)
      (opensF_cons rfl (by kernel_rfl) (opens_int Try.underlying3)
      (opensF_one rfl (by kernel_rfl) (opens_int Try.underlying3)))))
  exact h
def ok97 (x : S97) : Prop := ok67 x.f0 ∧ ((Lit.int .i64 x.f1).wf = true ∧ ((Lit.int .i64 x.f2).wf = true))
def sz97 (x : S97) : Prop := sz67 x.f0 ∧ (True ∧ (True))
def bulk97 (x : S97) : Nat := bulk67 x.f0 + (1 + (1)) + 1
theorem opens97 : Opens Try.prog 97 k97 ok97 sz97 bulk97 := by
  have h := opens_struct (P := Try.prog) (t := 97) (fun x : S97 => (x.f0, x.f1, x.f2)) (fun a : S67 × Int × Int => (⟨a.1, a.2.1, a.2.2⟩ : S97)) (fun _ => rfl) Try.underlying97 (by kernel_rfl)
      (opensF_cons rfl (by kernel_rfl) opens67
      (opensF_cons rfl (by kernel_rfl) (opens_int Try.underlying3)
      (opensF_one rfl (by kernel_rfl) (opens_int Try.underlying3))))
  exact h
def ok94 (x : S94) : Prop := ok54 x.f0 ∧ ((x.f1.length ≤ 9223372036854775807 ∧ ∀ y ∈ x.f1, ok97 y))
def sz94 (x : S94) : Prop := sz54 x.f0 ∧ ((x.f1.length * 56 ≤ 140737488351232 ∧ ∀ y ∈ x.f1, sz97 y))
def bulk94 (x : S94) : Nat := bulk54 x.f0 + (bulkOf (fun y : S97 => bulk97 y) x.f1) + 1
theorem opens94 : Opens Try.prog 94 k94 ok94 sz94 bulk94 := by
  have h := opens_struct (P := Try.prog) (t := 94) (fun x : S94 => (x.f0, x.f1)) (fun a : S54 × (List S97) => (⟨a.1, a.2⟩ : S94)) (fun _ => rfl) Try.underlying94 (by kernel_rfl)
      (opensF_cons rfl (by kernel_rfl) opens54
      (opensF_one rfl (by kernel_rfl) (opens_slice Try.underlying92 (by kernel_rfl) (by kernel_rfl : Try.prog.bytesOf 97 = 56) opens97)))
  exact h
theorem opensArg0 : Opens Try.prog 65 (Kd.slice 94 k94) (fun x : (List S94) => (x.length ≤ 9223372036854775807 ∧ ∀ y ∈ x, ok94 y)) (fun x : (List S94) => (x.length * 56 ≤ 140737488351232 ∧ ∀ y ∈ x, sz94 y)) (fun x : (List S94) => bulkOf (fun y : S94 => bulk94 y) x) := by
  have h := (opens_slice Try.underlying65 (by kernel_rfl) (by kernel_rfl : Try.prog.bytesOf 94 = 56) opens94)
  exact h
theorem opensArg1 : Opens Try.prog 67 k67 ok67 sz67 bulk67 := opens67
def contangolaw52_DeliverSides.Said : Prop := ∀ (x0 : (List S94)) (x1 : S67), (x0.length ≤ 9223372036854775807 ∧ ∀ y ∈ x0, ok94 y) → ok67 x1 → (x0.length * 56 ≤ 140737488351232 ∧ ∀ y ∈ x0, sz94 y) → sz67 x1 → ∃ k, contangolaw52_DeliverSides.f k x0 x1.f0 x1.f1 x1.f2 x1.f3 = some true
end Go.Proofs.Ytmgeoombebkfaaa.PDeliverSides
