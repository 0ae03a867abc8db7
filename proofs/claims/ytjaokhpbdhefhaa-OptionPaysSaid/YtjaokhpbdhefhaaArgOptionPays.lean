-- Written by a program of this session's (wip/tools/gen_law.py).
import Derived.Test.YtjaokhpbdhefhaaVOptionPays
import Derived.Test.YtjaokhpbdhefhaaPOptionPaysx0
import Derived.Test.YtjaokhpbdhefhaaPOptionPaysx12
import Derived.KernelRfl
namespace Go.Proofs.Ytjaokhpbdhefhaa.POptionPays
open Go.RowKit Go.Proofs.YtjaokhpbdhefhaaW.PrintWords Go.Proofs.Ytjaokhpbdhefhaa.Opens
set_option linter.unusedVariables false
def ok29 (x : S29) : Prop := x.f0.size ≤ 9223372036854775807 ∧ ((Lit.int .i64 x.f1).wf = true ∧ ((Lit.int .i64 x.f2).wf = true ∧ ((Lit.int .i64 x.f3).wf = true ∧ ((Lit.int .i64 x.f4).wf = true ∧ ((Lit.int .i64 x.f5).wf = true ∧ (True))))))
def sz29 (x : S29) : Prop := x.f0.size ≤ 140737488351232 ∧ (True ∧ (True ∧ (True ∧ (True ∧ (True ∧ (True))))))
def bulk29 (x : S29) : Nat := (x.f0.size + 1) + (1 + (1 + (1 + (1 + (1 + (1)))))) + 1
theorem opens29 : Opens Try.prog 29 k29 ok29 sz29 bulk29 := by
  have h := opens_struct (P := Try.prog) (t := 29) (fun x : S29 => (x.f0, x.f1, x.f2, x.f3, x.f4, x.f5, x.f6)) (fun a : ByteArray × Int × Int × Int × Int × Int × Bool => (⟨a.1, a.2.1, a.2.2.1, a.2.2.2.1, a.2.2.2.2.1, a.2.2.2.2.2.1, a.2.2.2.2.2.2⟩ : S29)) (fun _ => rfl) Try.underlying29 (by kernel_rfl)
      (opensF_cons rfl (by kernel_rfl) (opens_string Try.underlying9)
      (opensF_cons rfl (by kernel_rfl) (opens_int Try.underlying3)
      (opensF_cons rfl (by kernel_rfl) (opens_int Try.underlying3)
      (opensF_cons rfl (by kernel_rfl) (opens_int Try.underlying3)
      (opensF_cons rfl (by kernel_rfl) (opens_int Try.underlying3)
      (opensF_cons rfl (by kernel_rfl) (opens_int Try.underlying3)
      (opensF_one rfl (by kernel_rfl) (opens_bool Try.underlying4))))))))
  exact h
def ok31 (x : S31) : Prop := x.f0.size ≤ 9223372036854775807 ∧ (x.f1.size ≤ 9223372036854775807)
def sz31 (x : S31) : Prop := x.f0.size ≤ 140737488351232 ∧ (x.f1.size ≤ 140737488351232)
def bulk31 (x : S31) : Nat := (x.f0.size + 1) + ((x.f1.size + 1)) + 1
theorem opens31 : Opens Try.prog 31 k31 ok31 sz31 bulk31 := by
  have h := opens_struct (P := Try.prog) (t := 31) (fun x : S31 => (x.f0, x.f1)) (fun a : ByteArray × ByteArray => (⟨a.1, a.2⟩ : S31)) (fun _ => rfl) Try.underlying31 (by kernel_rfl)
      (opensF_cons rfl (by kernel_rfl) (opens_string Try.underlying9)
      (opensF_one rfl (by kernel_rfl) (opens_string Try.underlying9)))
  exact h
def ok23 (x : S23) : Prop := x.f0.size ≤ 9223372036854775807 ∧ ((Lit.int .i64 x.f1).wf = true ∧ ((Lit.int .i64 x.f2).wf = true ∧ ((Lit.int .i64 x.f3).wf = true)))
def sz23 (x : S23) : Prop := x.f0.size ≤ 140737488351232 ∧ (True ∧ (True ∧ (True)))
def bulk23 (x : S23) : Nat := (x.f0.size + 1) + (1 + (1 + (1))) + 1
theorem opens23 : Opens Try.prog 23 k23 ok23 sz23 bulk23 := by
  have h := opens_struct (P := Try.prog) (t := 23) (fun x : S23 => (x.f0, x.f1, x.f2, x.f3)) (fun a : ByteArray × Int × Int × Int => (⟨a.1, a.2.1, a.2.2.1, a.2.2.2⟩ : S23)) (fun _ => rfl) Try.underlying23 (by kernel_rfl)
      (opensF_cons rfl (by kernel_rfl) (opens_string Try.underlying9)
      (opensF_cons rfl (by kernel_rfl) (opens_int Try.underlying3)
      (opensF_cons rfl (by kernel_rfl) (opens_int Try.underlying3)
      (opensF_one rfl (by kernel_rfl) (opens_int Try.underlying3)))))
  exact h
def ok33 (x : S33) : Prop := ok31 x.f0 ∧ (ok23 x.f1 ∧ ((Lit.int .i64 x.f2).wf = true ∧ ((Lit.int .i64 x.f3).wf = true ∧ ((Lit.int .i64 x.f4).wf = true))))
def sz33 (x : S33) : Prop := sz31 x.f0 ∧ (sz23 x.f1 ∧ (True ∧ (True ∧ (True))))
def bulk33 (x : S33) : Nat := bulk31 x.f0 + (bulk23 x.f1 + (1 + (1 + (1)))) + 1
theorem opens33 : Opens Try.prog 33 k33 ok33 sz33 bulk33 := by
  have h := opens_struct (P := Try.prog) (t := 33) (fun x : S33 => (x.f0, x.f1, x.f2, x.f3, x.f4)) (fun a : S31 × S23 × Int × Int × Int => (⟨a.1, a.2.1, a.2.2.1, a.2.2.2.1, a.2.2.2.2⟩ : S33)) (fun _ => rfl) Try.underlying33 (by kernel_rfl)
      (opensF_cons rfl (by kernel_rfl) opens31
      (opensF_cons rfl (by kernel_rfl) opens23
      (opensF_cons rfl (by kernel_rfl) (opens_int Try.underlying3)
      (opensF_cons rfl (by kernel_rfl) (opens_int Try.underlying3)
      (opensF_one rfl (by kernel_rfl) (opens_int Try.underlying3))))))
  exact h
def ok34 (x : S34) : Prop := (Lit.int .i64 x.f0).wf = true ∧ ((Lit.int .i64 x.f1).wf = true ∧ ((Lit.int .i64 x.f2).wf = true ∧ ((Lit.int .i64 x.f3).wf = true)))
def sz34 (x : S34) : Prop := True ∧ (True ∧ (True ∧ (True)))
def bulk34 (x : S34) : Nat := 1 + (1 + (1 + (1))) + 1
theorem opens34 : Opens Try.prog 34 k34 ok34 sz34 bulk34 := by
  have h := opens_array (P := Try.prog) (t := 34) (fun x : S34 => (x.f0, x.f1, x.f2, x.f3)) (fun a : Int × Int × Int × Int => (⟨a.1, a.2.1, a.2.2.1, a.2.2.2⟩ : S34)) (fun _ => rfl) Try.underlying34 (s := 1) (by kernel_rfl) (by kernel_rfl) [{ name := "", type := 3, offset := 0, embedded := false, tag := "", pkgPath := "", byteOffset := 0 }, { name := "", type := 3, offset := 1, embedded := false, tag := "", pkgPath := "", byteOffset := 0 }, { name := "", type := 3, offset := 2, embedded := false, tag := "", pkgPath := "", byteOffset := 0 }, { name := "", type := 3, offset := 3, embedded := false, tag := "", pkgPath := "", byteOffset := 0 }] rfl
      (fun i f h => by rcases i with _ | _ | _ | _ | i <;> simp at h <;> subst h <;> exact ⟨rfl, rfl⟩)
      (opensF_cons rfl (by kernel_rfl) (opens_int Try.underlying3)
      (opensF_cons rfl (by kernel_rfl) (opens_int Try.underlying3)
      (opensF_cons rfl (by kernel_rfl) (opens_int Try.underlying3)
      (opensF_one rfl (by kernel_rfl) (opens_int Try.underlying3)))))
  exact h
theorem opensArg0 : Opens Try.prog 29 k29 ok29 sz29 bulk29 := opens29
theorem opensArg1 : Opens Try.prog 33 k33 ok33 sz33 bulk33 := opens33
theorem opensArg2 : Opens Try.prog 34 k34 ok34 sz34 bulk34 := opens34
def contangolaw21_OptionPays.Said : Prop := ∀ (x0 : S29) (x1 : S33) (x2 : S34), ok29 x0 → ok33 x1 → ok34 x2 → sz29 x0 → sz33 x1 → sz34 x2 → ∃ k, contangolaw21_OptionPays.f k x0.f0 x0.f1 x0.f2 x0.f3 x0.f4 x0.f5 x0.f6 x1.f0.f0 x1.f0.f1 x1.f1.f0 x1.f1.f1 x1.f1.f2 x1.f1.f3 x1.f2 x1.f3 x1.f4 x2.f0 x2.f1 x2.f2 x2.f3 = some true
end Go.Proofs.Ytjaokhpbdhefhaa.POptionPays
