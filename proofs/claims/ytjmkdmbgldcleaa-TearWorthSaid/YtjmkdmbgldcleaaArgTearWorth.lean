-- Written by a program of this session's (wip/tools/gen_law.py).
import Derived.Test.YtjmkdmbgldcleaaVTearWorth
import Derived.Test.YtjmkdmbgldcleaaPTearWorthx0
import Derived.Test.YtjmkdmbgldcleaaPTearWorthx12
import Derived.KernelRfl
namespace Go.Proofs.Ytjmkdmbgldcleaa.PTearWorth
open Go.RowKit Go.Proofs.YtjmkdmbgldcleaaW.PrintWords Go.Proofs.Ytjmkdmbgldcleaa.Opens
set_option linter.unusedVariables false
def ok44 (x : S44) : Prop := x.f0.size ≤ 9223372036854775807 ∧ ((Lit.int .i64 x.f1).wf = true ∧ ((Lit.int .i64 x.f2).wf = true ∧ ((Lit.int .i64 x.f3).wf = true ∧ ((Lit.int .i64 x.f4).wf = true ∧ ((Lit.int .i64 x.f5).wf = true ∧ (True))))))
def sz44 (x : S44) : Prop := x.f0.size ≤ 140737488351232 ∧ (True ∧ (True ∧ (True ∧ (True ∧ (True ∧ (True))))))
def bulk44 (x : S44) : Nat := (x.f0.size + 1) + (1 + (1 + (1 + (1 + (1 + (1)))))) + 1
theorem opens44 : Opens Try.prog 44 k44 ok44 sz44 bulk44 := by
  have h := opens_struct (P := Try.prog) (t := 44) (fun x : S44 => (x.f0, x.f1, x.f2, x.f3, x.f4, x.f5, x.f6)) (fun a : ByteArray × Int × Int × Int × Int × Int × Bool => (⟨a.1, a.2.1, a.2.2.1, a.2.2.2.1, a.2.2.2.2.1, a.2.2.2.2.2.1, a.2.2.2.2.2.2⟩ : S44)) (fun _ => rfl) Try.underlying44 (by kernel_rfl)
      (opensF_cons rfl (by kernel_rfl) (opens_string Try.underlying9)
      (opensF_cons rfl (by kernel_rfl) (opens_int Try.underlying3)
      (opensF_cons rfl (by kernel_rfl) (opens_int Try.underlying3)
      (opensF_cons rfl (by kernel_rfl) (opens_int Try.underlying3)
      (opensF_cons rfl (by kernel_rfl) (opens_int Try.underlying3)
      (opensF_cons rfl (by kernel_rfl) (opens_int Try.underlying3)
      (opensF_one rfl (by kernel_rfl) (opens_bool Try.underlying4))))))))
  exact h
def ok45 (x : S45) : Prop := (Lit.int .i64 x.f0).wf = true ∧ ((Lit.int .i64 x.f1).wf = true ∧ ((Lit.int .i64 x.f2).wf = true))
def sz45 (x : S45) : Prop := True ∧ (True ∧ (True))
def bulk45 (x : S45) : Nat := 1 + (1 + (1)) + 1
theorem opens45 : Opens Try.prog 45 k45 ok45 sz45 bulk45 := by
  have h := opens_array (P := Try.prog) (t := 45) (fun x : S45 => (x.f0, x.f1, x.f2)) (fun a : Int × Int × Int => (⟨a.1, a.2.1, a.2.2⟩ : S45)) (fun _ => rfl) Try.underlying45 (s := 1) (by kernel_rfl) (by kernel_rfl) [{ name := "", type := 3, offset := 0, embedded := false, tag := "", pkgPath := "", byteOffset := 0 }, { name := "", type := 3, offset := 1, embedded := false, tag := "", pkgPath := "", byteOffset := 0 }, { name := "", type := 3, offset := 2, embedded := false, tag := "", pkgPath := "", byteOffset := 0 }] rfl
      (fun i f h => by rcases i with _ | _ | _ | i <;> simp at h <;> subst h <;> exact ⟨rfl, rfl⟩)
      (opensF_cons rfl (by kernel_rfl) (opens_int Try.underlying3)
      (opensF_cons rfl (by kernel_rfl) (opens_int Try.underlying3)
      (opensF_one rfl (by kernel_rfl) (opens_int Try.underlying3))))
  exact h
theorem opensArg0 : Opens Try.prog 44 k44 ok44 sz44 bulk44 := opens44
theorem opensArg1 : Opens Try.prog 45 k45 ok45 sz45 bulk45 := opens45
theorem opensArg2 : Opens Try.prog 4 Kd.bool (fun x : Bool => True) (fun x : Bool => True) (fun x : Bool => 1) := by
  have h := (opens_bool Try.underlying4)
  exact h
def contangolaw50_TearWorth.Said : Prop := ∀ (x0 : S44) (x1 : S45) (x2 : Bool), ok44 x0 → ok45 x1 → True → sz44 x0 → sz45 x1 → True → ∃ k, contangolaw50_TearWorth.f k x0.f0 x0.f1 x0.f2 x0.f3 x0.f4 x0.f5 x0.f6 x1.f0 x1.f1 x1.f2 x2 = some true
end Go.Proofs.Ytjmkdmbgldcleaa.PTearWorth
