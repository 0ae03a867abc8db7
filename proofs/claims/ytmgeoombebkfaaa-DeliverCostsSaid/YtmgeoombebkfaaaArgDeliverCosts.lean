-- Written by a program of this session's (wip/tools/gen_law.py).
import Derived.Test.YtmgeoombebkfaaaVDeliverCosts
import Derived.Test.YtmgeoombebkfaaaPDeliverCostsx0
import Derived.Test.YtmgeoombebkfaaaPDeliverCostsx12
import Derived.KernelRfl
namespace Go.Proofs.Ytmgeoombebkfaaa.PDeliverCosts
open Go.RowKit Go.Proofs.YtmgeoombebkfaaaW.PrintWords Go.Proofs.Ytmgeoombebkfaaa.Opens
set_option linter.unusedVariables false
def ok35 (x : S35) : Prop := x.f0.size ≤ 9223372036854775807 ∧ ((Lit.int .i64 x.f1).wf = true ∧ ((Lit.int .i64 x.f2).wf = true ∧ ((Lit.int .i64 x.f3).wf = true ∧ ((Lit.int .i64 x.f4).wf = true ∧ ((Lit.int .i64 x.f5).wf = true ∧ (True))))))
def sz35 (x : S35) : Prop := x.f0.size ≤ 140737488351232 ∧ (True ∧ (True ∧ (True ∧ (True ∧ (True ∧ (True))))))
def bulk35 (x : S35) : Nat := (x.f0.size + 1) + (1 + (1 + (1 + (1 + (1 + (1)))))) + 1
theorem opens35 : Opens Try.prog 35 k35 ok35 sz35 bulk35 := by
  have h := opens_struct (P := Try.prog) (t := 35) (fun x : S35 => (x.f0, x.f1, x.f2, x.f3, x.f4, x.f5, x.f6)) (fun a : ByteArray × Int × Int × Int × Int × Int × Bool => (⟨a.1, a.2.1, a.2.2.1, a.2.2.2.1, a.2.2.2.2.1, a.2.2.2.2.2.1, a.2.2.2.2.2.2⟩ : S35)) (fun _ => rfl) Try.underlying35 (by kernel_rfl)
      (opensF_cons rfl (by kernel_rfl) (opens_string Try.underlying9)
      (opensF_cons rfl (by kernel_rfl) (opens_int Try.underlying3)
      (opensF_cons rfl (by kernel_rfl) (opens_int Try.underlying3)
      (opensF_cons rfl (by kernel_rfl) (opens_int Try.underlying3)
      (opensF_cons rfl (by kernel_rfl) (opens_int Try.underlying3)
      (opensF_cons rfl (by kernel_rfl) (opens_int Try.underlying3)
      (opensF_one rfl (by kernel_rfl) (opens_bool Try.underlying4))))))))
  exact h
def ok37 (x : S37) : Prop := (Lit.int .i64 x.f0).wf = true ∧ ((Lit.int .i64 x.f1).wf = true ∧ ((Lit.int .i64 x.f2).wf = true))
def sz37 (x : S37) : Prop := True ∧ (True ∧ (True))
def bulk37 (x : S37) : Nat := 1 + (1 + (1)) + 1
theorem opens37 : Opens Try.prog 37 k37 ok37 sz37 bulk37 := by
  have h := opens_struct (P := Try.prog) (t := 37) (fun x : S37 => (x.f0, x.f1, x.f2)) (fun a : Int × Int × Int => (⟨a.1, a.2.1, a.2.2⟩ : S37)) (fun _ => rfl) Try.underlying37 (by kernel_rfl)
      (opensF_cons rfl (by kernel_rfl) (opens_int Try.underlying3)
      (opensF_cons rfl (by kernel_rfl) (opens_int Try.underlying3)
      (opensF_one rfl (by kernel_rfl) (opens_int Try.underlying3))))
  exact h
theorem opensArg0 : Opens Try.prog 35 k35 ok35 sz35 bulk35 := opens35
theorem opensArg1 : Opens Try.prog 37 k37 ok37 sz37 bulk37 := opens37
def contangolaw52_DeliverCosts.Said : Prop := ∀ (x0 : S35) (x1 : S37), ok35 x0 → ok37 x1 → sz35 x0 → sz37 x1 → ∃ k, contangolaw52_DeliverCosts.f k x0.f0 x0.f1 x0.f2 x0.f3 x0.f4 x0.f5 x0.f6 x1.f0 x1.f1 x1.f2 = some true
end Go.Proofs.Ytmgeoombebkfaaa.PDeliverCosts
