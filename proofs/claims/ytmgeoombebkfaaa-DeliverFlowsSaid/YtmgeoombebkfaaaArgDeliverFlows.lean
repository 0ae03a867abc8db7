-- Written by a program of this session's (wip/tools/gen_law.py).
import Derived.Test.YtmgeoombebkfaaaVDeliverFlows
import Derived.Test.YtmgeoombebkfaaaPDeliverFlowsx0
import Derived.Test.YtmgeoombebkfaaaPDeliverFlowsx15
import Derived.KernelRfl
namespace Go.Proofs.Ytmgeoombebkfaaa.PDeliverFlows
open Go.RowKit Go.Proofs.YtmgeoombebkfaaaW.PrintWords Go.Proofs.Ytmgeoombebkfaaa.Opens
set_option linter.unusedVariables false
def ok35 (x : S35) : Prop := x.f0.size ≤ 9223372036854775807 ∧ ((Lit.int .i64 x.f1).wf = true ∧ ((Lit.int .i64 x.f2).wf = true ∧ ((Lit.int .i64 x.f3).wf = true ∧ ((Lit.int .i64 x.f4).wf = true ∧ ((Lit.int .i64 x.f5).wf = true ∧ (True))))))
def sz35 (x : S35) : Prop := x.f0.size ≤ 140737488351232 ∧ (True ∧ (True ∧ (True ∧ (True ∧ (True ∧ (True))))))
def bulk35 (x : S35) : Nat := (x.f0.size + 1) + (1 + (1 + (1 + (1 + (1 + (1)))))) + 1
theorem opens35 : Opens Try.prog 35 k35 ok35 sz35 bulk35 := by
  have h := opens_struct (P := Try.prog) (t := 35) (fun x : S35 => (x.f0, x.f1, x.f2, x.f3, x.f4, x.f5, x.f6)) (fun a : ByteArray × Int × Int × Int × Int × Int × Bool => (⟨a.1, a.2.1, a.2.2.1, a.2.2.2.1, a.2.2.2.2.1, a.2.2.2.2.2.1, a.2.2.2.2.2.2⟩ : S35)) (fun _ => rfl) Try.underlying35 (by kernel_rfl)
      (opensF_cons rfl (by kernel_rfl) (opens_string Try.underlying9)
      (opensF_cons rfl (by kernel_rfl) (opens_int Try.underlying3)
      (opensF_cons rfl (by kernel_rfl) (opens_int Try.underlying3)
      (opensF_cons rfl (by kernel_rfl) (opens_int Try.underlying3)
      (opensF_cons rfl (by kernel_rfl) (opens_int Try.underlying3)
      (opensF_cons rfl (by kernel_rfl) (opens_int Try.underlying3)
      (opensF_one rfl (by kernel_rfl) (opens_bool Try.underlying4))))))))
  exact h
def ok54 (x : S54) : Prop := x.f0.size ≤ 9223372036854775807 ∧ (x.f1.size ≤ 9223372036854775807)
def sz54 (x : S54) : Prop := x.f0.size ≤ 140737488351232 ∧ (x.f1.size ≤ 140737488351232)
def bulk54 (x : S54) : Nat := (x.f0.size + 1) + ((x.f1.size + 1)) + 1
theorem opens54 : Opens Try.prog 54 k54 ok54 sz54 bulk54 := by
  have h := opens_struct (P := Try.prog) (t := 54) (fun x : S54 => (x.f0, x.f1)) (fun a : ByteArray × ByteArray => (⟨a.1, a.2⟩ : S54)) (fun _ => rfl) Try.underlying54 (by kernel_rfl)
      (opensF_cons rfl (by kernel_rfl) (opens_string Try.underlying9)
      (opensF_one rfl (by kernel_rfl) (opens_string Try.underlying9)))
  exact h
def ok80 (x : S80) : Prop := ok54 x.f0 ∧ (ok54 x.f1 ∧ ((Lit.int .i64 x.f2).wf = true))
def sz80 (x : S80) : Prop := sz54 x.f0 ∧ (sz54 x.f1 ∧ (True))
def bulk80 (x : S80) : Nat := bulk54 x.f0 + (bulk54 x.f1 + (1)) + 1
theorem opens80 : Opens Try.prog 80 k80 ok80 sz80 bulk80 := by
  have h := opens_struct (P := Try.prog) (t := 80) (fun x : S80 => (x.f0, x.f1, x.f2)) (fun a : S54 × S54 × Int => (⟨a.1, a.2.1, a.2.2⟩ : S80)) (fun _ => rfl) Try.underlying80 (by kernel_rfl)
      (opensF_cons rfl (by kernel_rfl) opens54
      (opensF_cons rfl (by kernel_rfl) opens54
      (opensF_one rfl (by kernel_rfl) (opens_int Try.underlying3))))
  exact h
theorem opensArg0 : Opens Try.prog 35 k35 ok35 sz35 bulk35 := opens35
theorem opensArg1 : Opens Try.prog 3 (Kd.int .i64) (fun x : Int => (Lit.int .i64 x).wf = true) (fun x : Int => True) (fun x : Int => 1) := by
  have h := (opens_int Try.underlying3)
  exact h
theorem opensArg2 : Opens Try.prog 28 (Kd.slice 80 k80) (fun x : (List S80) => (x.length ≤ 9223372036854775807 ∧ ∀ y ∈ x, ok80 y)) (fun x : (List S80) => (x.length * 72 ≤ 140737488351232 ∧ ∀ y ∈ x, sz80 y)) (fun x : (List S80) => bulkOf (fun y : S80 => bulk80 y) x) := by
  have h := (opens_slice Try.underlying28 (by kernel_rfl) (by kernel_rfl : Try.prog.bytesOf 80 = 72) opens80)
  exact h
def contangolaw52_DeliverFlows.Said : Prop := ∀ (x0 : S35) (x1 : Int) (x2 : (List S80)), ok35 x0 → (Lit.int .i64 x1).wf = true → (x2.length ≤ 9223372036854775807 ∧ ∀ y ∈ x2, ok80 y) → sz35 x0 → True → (x2.length * 72 ≤ 140737488351232 ∧ ∀ y ∈ x2, sz80 y) → ∃ k, contangolaw52_DeliverFlows.f k x0.f0 x0.f1 x0.f2 x0.f3 x0.f4 x0.f5 x0.f6 x1 x2 = some true
end Go.Proofs.Ytmgeoombebkfaaa.PDeliverFlows
