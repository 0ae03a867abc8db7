-- Written by a program of this session's (wip/tools/gen_law.py).
import Derived.Test.YtmgeoombebkfaaaVDeliverAll
import Derived.Test.YtmgeoombebkfaaaPDeliverAllx0
import Derived.Test.YtmgeoombebkfaaaPDeliverAllx13
import Derived.KernelRfl
namespace Go.Proofs.Ytmgeoombebkfaaa.PDeliverAll
open Go.RowKit Go.Proofs.YtmgeoombebkfaaaW.PrintWords Go.Proofs.Ytmgeoombebkfaaa.Opens
set_option linter.unusedVariables false
def ok54 (x : S54) : Prop := x.f0.size ≤ 9223372036854775807 ∧ (x.f1.size ≤ 9223372036854775807)
def sz54 (x : S54) : Prop := x.f0.size ≤ 140737488351232 ∧ (x.f1.size ≤ 140737488351232)
def bulk54 (x : S54) : Nat := (x.f0.size + 1) + ((x.f1.size + 1)) + 1
theorem opens54 : Opens Try.prog 54 k54 ok54 sz54 bulk54 := by
  have h := opens_struct (P := Try.prog) (t := 54) (fun x : S54 => (x.f0, x.f1)) (fun a : ByteArray × ByteArray => (⟨a.1, a.2⟩ : S54)) (fun _ => rfl) Try.underlying54 (by kernel_rfl)
      (opensF_cons rfl (by kernel_rfl) (opens_string Try.underlying9)
      (opensF_one rfl (by kernel_rfl) (opens_string Try.underlying9)))
  exact h
def ok60 (x : S60) : Prop := ok54 x.f0 ∧ ((Lit.int .i64 x.f1).wf = true)
def sz60 (x : S60) : Prop := sz54 x.f0 ∧ (True)
def bulk60 (x : S60) : Nat := bulk54 x.f0 + (1) + 1
theorem opens60 : Opens Try.prog 60 k60 ok60 sz60 bulk60 := by
  have h := opens_struct (P := Try.prog) (t := 60) (fun x : S60 => (x.f0, x.f1)) (fun a : S54 × Int => (⟨a.1, a.2⟩ : S60)) (fun _ => rfl) Try.underlying60 (by kernel_rfl)
      (opensF_cons rfl (by kernel_rfl) opens54
      (opensF_one rfl (by kernel_rfl) (opens_int Try.underlying3)))
  exact h
theorem opensArg0 : Opens Try.prog 22 (Kd.slice 60 k60) (fun x : (List S60) => (x.length ≤ 9223372036854775807 ∧ ∀ y ∈ x, ok60 y)) (fun x : (List S60) => (x.length * 40 ≤ 140737488351232 ∧ ∀ y ∈ x, sz60 y)) (fun x : (List S60) => bulkOf (fun y : S60 => bulk60 y) x) := by
  have h := (opens_slice Try.underlying22 (by kernel_rfl) (by kernel_rfl : Try.prog.bytesOf 60 = 40) opens60)
  exact h
theorem opensArg1 : Opens Try.prog 22 (Kd.slice 60 k60) (fun x : (List S60) => (x.length ≤ 9223372036854775807 ∧ ∀ y ∈ x, ok60 y)) (fun x : (List S60) => (x.length * 40 ≤ 140737488351232 ∧ ∀ y ∈ x, sz60 y)) (fun x : (List S60) => bulkOf (fun y : S60 => bulk60 y) x) := by
  have h := (opens_slice Try.underlying22 (by kernel_rfl) (by kernel_rfl : Try.prog.bytesOf 60 = 40) opens60)
  exact h
theorem opensArg2 : Opens Try.prog 3 (Kd.int .i64) (fun x : Int => (Lit.int .i64 x).wf = true) (fun x : Int => True) (fun x : Int => 1) := by
  have h := (opens_int Try.underlying3)
  exact h
def contangolaw52_DeliverAll.Said : Prop := ∀ (x0 : (List S60)) (x1 : (List S60)) (x2 : Int), (x0.length ≤ 9223372036854775807 ∧ ∀ y ∈ x0, ok60 y) → (x1.length ≤ 9223372036854775807 ∧ ∀ y ∈ x1, ok60 y) → (Lit.int .i64 x2).wf = true → (x0.length * 40 ≤ 140737488351232 ∧ ∀ y ∈ x0, sz60 y) → (x1.length * 40 ≤ 140737488351232 ∧ ∀ y ∈ x1, sz60 y) → True → ∃ k, contangolaw52_DeliverAll.f k x0 x1 x2 = some true
end Go.Proofs.Ytmgeoombebkfaaa.PDeliverAll
