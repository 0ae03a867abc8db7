/- Of a member of any name: who is in default may no more than who is suspended, and that one no more than who is active; who left may nothing: the law, as a statement over numbers and lists. No condition. -/
import Derived.Test.YtipoicfglaanaaaPMemberMayx6
namespace Go.Proofs.Ytipoicfglaanaaa.Pure
set_option linter.unusedSimpArgs false
open Go.RowKit Go.Proofs.Ytipoicfglaanaaa.PMemberMay Go.Proofs.YtipoicfglaanaaaW.PrintWords Go.Proofs.YtipoicfglaanaaaW.PrintLast

theorem goes_true : contangolaw11_goes.f 40 = some true := by decide +kernel

def house : ByteArray := ⟨#[104, 111, 117, 115, 101]⟩

theorem contains_some (a : Int) : slices_Contains_int_int.f 10 [4, 5, 6, 7, 8] a = some (decide (4 ≤ a ∧ a ≤ 8)) := by
  have w1 : wrap64 (0 + 1) = 1 := by unfold wrap64; omega
  have w2 : wrap64 (1 + 1) = 2 := by unfold wrap64; omega
  have w3 : wrap64 (2 + 1) = 3 := by unfold wrap64; omega
  have w4 : wrap64 (3 + 1) = 4 := by unfold wrap64; omega
  have w5 : wrap64 (4 + 1) = 5 := by unfold wrap64; omega
  simp only [slices_Contains_int_int.f, slices_Index_int_int.f, slices_Index_int_int.l0, w1, w2, w3, w4, w5]
  simp only [List.length_cons, List.length_nil, rd, List.getD]
  by_cases h4 : a = 4
  · subst h4; decide +kernel
  by_cases h5 : a = 5
  · subst h5; decide +kernel
  by_cases h6 : a = 6
  · subst h6; decide +kernel
  by_cases h7 : a = 7
  · subst h7; decide +kernel
  by_cases h8 : a = 8
  · subst h8; decide +kernel
  have hd : ¬ (4 ≤ a ∧ a ≤ 8) := by omega
  simp [h4, h5, h6, h7, h8, hd]

theorem find_some (name : ByteArray) (st : Int) : member_Find.f [⟨name, st, [⟨house, 1⟩]⟩] name = some (name, st, [⟨house, 1⟩], true) := by
  simp [member_Find.f, member_at.f, member_at.go, api_Account.f, rd_T45]

theorem account_some (name : ByteArray) (st : Int) : member_Account.f [⟨name, st, [⟨house, 1⟩]⟩] name house = some (house, 1, true) := by
  simp [member_Account.f, find_some, idxOf, rd_T53]

/-- May a member of a status take part in an act? -/
def may (st act : Int) : Bool := st == 1 || (st == 2 && act != 1 && act != 3) || (st == 3 && decide (4 ≤ act ∧ act ≤ 8))

theorem may_some (name : ByteArray) (st act : Int) : contangolaw11_may.f 10 name st act = some (may st act) := by
  have h1 := find_some name st
  have h2 := account_some name st
  unfold house at h1 h2
  simp only [contangolaw11_may.f, member_May.f]
  rw [h1, Option.bind_some, h2]
  simp only [Option.bind_some, contains_some, may, if_true]
  by_cases s1 : st = 1
  · simp [s1]
  · by_cases s2 : st = 2
    · by_cases a1 : act = 1
      · simp [s1, s2, a1]
      · by_cases a3 : act = 3
        · simp [s1, s2, a1, a3]
        · simp [s1, s2, a1, a3]
    · by_cases s3 : st = 3
      · by_cases ha : 4 ≤ act ∧ act ≤ 8
        · simp [s1, s2, s3, ha]
        · simp [s1, s2, s3, ha]
      · simp [s1, s2, s3]

theorem may_at (k : Nat) (hk : 10 ≤ k) (name : ByteArray) (st act : Int) : contangolaw11_may.f k name st act = some (may st act) :=
  at_rounds (fun k => contangolaw11_may.mono name st act k) hk (may_some name st act)
theorem goes_at (k : Nat) (hk : 40 ≤ k) : contangolaw11_goes.f k = some true := at_rounds (fun k => contangolaw11_goes.mono k) hk goes_true

theorem MemberMay : contangolaw11_MemberMay.Pure := by
  intro act name _ _
  refine ⟨100, ?_⟩
  simp only [contangolaw11_MemberMay.f, contangolaw11_MemberMay.j0, may_at 100 (by decide), may_at 99 (by decide), goes_at 99 (by decide), Option.bind_some]
  by_cases ha : 4 ≤ act ∧ act ≤ 8
  · have h1 : act ≠ 1 := by omega
    have h3 : act ≠ 3 := by omega
    simp [may, ha, h1, h3]
  · simp [may, ha]
end Go.Proofs.Ytipoicfglaanaaa.Pure
