-- Written by a program of this session's (wip/tools/gen_law.py).
import Derived.Test.YtdhmckgagffgkaaVPortClients
import Derived.Test.YtdhmckgagffgkaaPPortClientsx0
import Derived.Test.YtdhmckgagffgkaaPPortClientsx8
import Derived.KernelRfl
namespace Go.Proofs.Ytdhmckgagffgkaa.PPortClients
open Go.RowKit Go.Proofs.YtdhmckgagffgkaaW.PrintWords Go.Proofs.Ytdhmckgagffgkaa.Opens
set_option linter.unusedVariables false
def ok61 (x : S61) : Prop := x.f0.size ≤ 9223372036854775807 ∧ ((Lit.int .i64 x.f1).wf = true)
def sz61 (x : S61) : Prop := x.f0.size ≤ 140737488351232 ∧ (True)
def bulk61 (x : S61) : Nat := (x.f0.size + 1) + (1) + 1
theorem opens61 : Opens Try.prog 61 k61 ok61 sz61 bulk61 := by
  have h := opens_struct (P := Try.prog) (t := 61) (fun x : S61 => (x.f0, x.f1)) (fun a : ByteArray × Int => (⟨a.1, a.2⟩ : S61)) (fun _ => rfl) Try.underlying61 (by kernel_rfl)
      (opensF_cons rfl (by kernel_rfl) (opens_string Try.underlying9)
      (opensF_one rfl (by kernel_rfl) (opens_int Try.underlying3)))
  exact h
def ok55 (x : S55) : Prop := x.f0.size ≤ 9223372036854775807 ∧ ((Lit.int .i64 x.f1).wf = true ∧ ((x.f2.length ≤ 9223372036854775807 ∧ ∀ y ∈ x.f2, ok61 y)))
def sz55 (x : S55) : Prop := x.f0.size ≤ 140737488351232 ∧ (True ∧ ((x.f2.length * 24 ≤ 140737488351232 ∧ ∀ y ∈ x.f2, sz61 y)))
def bulk55 (x : S55) : Nat := (x.f0.size + 1) + (1 + (bulkOf (fun y : S61 => bulk61 y) x.f2)) + 1
theorem opens55 : Opens Try.prog 55 k55 ok55 sz55 bulk55 := by
  have h := opens_struct (P := Try.prog) (t := 55) (fun x : S55 => (x.f0, x.f1, x.f2)) (fun a : ByteArray × Int × (List S61) => (⟨a.1, a.2.1, a.2.2⟩ : S55)) (fun _ => rfl) Try.underlying55 (by kernel_rfl)
      (opensF_cons rfl (by kernel_rfl) (opens_string Try.underlying9)
      (opensF_cons rfl (by kernel_rfl) (opens_int Try.underlying3)
      (opensF_one rfl (by kernel_rfl) (opens_slice Try.underlying53 (by kernel_rfl) (by kernel_rfl : Try.prog.bytesOf 61 = 24) opens61))))
  exact h
theorem opensArg0 : Opens Try.prog 23 (Kd.slice 55 k55) (fun x : (List S55) => (x.length ≤ 9223372036854775807 ∧ ∀ y ∈ x, ok55 y)) (fun x : (List S55) => (x.length * 48 ≤ 140737488351232 ∧ ∀ y ∈ x, sz55 y)) (fun x : (List S55) => bulkOf (fun y : S55 => bulk55 y) x) := by
  have h := (opens_slice Try.underlying23 (by kernel_rfl) (by kernel_rfl : Try.prog.bytesOf 55 = 48) opens55)
  exact h
theorem opensArg1 : Opens Try.prog 9 Kd.string (fun x : ByteArray => x.size ≤ 9223372036854775807) (fun x : ByteArray => x.size ≤ 140737488351232) (fun x : ByteArray => (x.size + 1)) := by
  have h := (opens_string Try.underlying9)
  exact h
def contangolaw42_PortClients.Said : Prop := ∀ (x0 : (List S55)) (x1 : ByteArray), (x0.length ≤ 9223372036854775807 ∧ ∀ y ∈ x0, ok55 y) → x1.size ≤ 9223372036854775807 → bulkOf (fun y : S55 => bulk55 y) x0 + (x1.size + 1) ≤ 1048576 → ∃ k, contangolaw42_PortClients.f k x0 x1 = some true
end Go.Proofs.Ytdhmckgagffgkaa.PPortClients
