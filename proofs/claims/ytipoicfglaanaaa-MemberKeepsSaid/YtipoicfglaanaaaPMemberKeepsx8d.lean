-- Written by a program of this session's (a turned copy of the kit's print, with functions proved by hand).
import Derived.Test.YtipoicfglaanaaaPMemberKeepsx0
import Derived.Test.YtipoicfglaanaaaPMemberKeepsx2
import Derived.Test.YtipoicfglaanaaaPMemberKeepsx4
import Derived.Test.YtipoicfglaanaaaPMemberKeepsx5
import Derived.Test.YtipoicfglaanaaaPMemberKeepsx6
import Derived.Test.YtipoicfglaanaaaPMemberKeepsx7
namespace Go.Proofs.Ytipoicfglaanaaa.PMemberKeeps
open Go.RowKit Go.Proofs.YtipoicfglaanaaaW.PrintWords Go.Proofs.YtipoicfglaanaaaW.PrintLast Go.Proofs.YtipoicfglaanaaaW.PrintMore
attribute [local go_sem] max2_int min2_int max_two min_two max_three min_three max_four min_four Go.Proofs.YtipoicfglaanaaaHand.run_leq_str Go.Proofs.YtipoicfglaanaaaHand.run_gtr_str Go.Proofs.YtipoicfglaanaaaHand.run_geq_str   -- for this text's walks alone
set_option linter.unusedVariables false
set_option linter.unusedSimpArgs false

/-! ### contangolaw11_MemberKeeps: function 5 -/
abbrev yy : Bool := true
abbrev nn : Bool := false
mutual
def contangolaw11_MemberKeeps.l0 : Nat → List (S42) → List (S45) → Int → Option (Bool)
  | 0, _, _, _ => none
  | k + 1, x0, x3, x4 => if x4 < (x0.length : Int) then (if 0 ≤ x4 then ((member_Add.f x3 ((rd_T42 x0 x4).f1.f0)).bind fun bt174 => (if ((rd_T42 x0 x4).f0) = 2 then ((member_Open.f x3 ((rd_T42 x0 x4).f1.f0) ((rd_T42 x0 x4).f1.f1) ((rd_T42 x0 x4).f2)).bind fun bt178 => (contangolaw11_MemberKeeps.j1 k x0 x3 x4 bt178.1 bt178.2 ((rd_T42 x0 x4).f0) ((rd_T42 x0 x4).f1.f0) ((rd_T42 x0 x4).f1.f1) ((rd_T42 x0 x4).f2))) else (if ((rd_T42 x0 x4).f0) = 1 then (contangolaw11_MemberKeeps.j1 k x0 x3 x4 bt174.1 bt174.2 ((rd_T42 x0 x4).f0) ((rd_T42 x0 x4).f1.f0) ((rd_T42 x0 x4).f1.f1) ((rd_T42 x0 x4).f2)) else ((member_Status.f x3 ((rd_T42 x0 x4).f1.f0) ((rd_T42 x0 x4).f2)).bind fun bt182 => (contangolaw11_MemberKeeps.j1 k x0 x3 x4 bt182.1 bt182.2 ((rd_T42 x0 x4).f0) ((rd_T42 x0 x4).f1.f0) ((rd_T42 x0 x4).f1.f1) ((rd_T42 x0 x4).f2)))))) else (none)) else ((contangolaw11_goes.f k).bind fun t171 => (some t171))
def contangolaw11_MemberKeeps.j1 : Nat → List (S42) → List (S45) → Int → List (S45) → Int → Int → ByteArray → ByteArray → Int → Option (Bool)
  | 0, _, _, _, _, _, _, _, _, _ => none
  | k + 1, x0, x3, x4, x6, x7, x174000, x174001, x174002, x174003 => if x7 = 0 then ((member_Check.f x6).bind fun t186 => (if t186 = 0 then (contangolaw11_MemberKeeps.l1 k x0 x3 x4 x6 0 x174000 x174001 x174002 x174003) else (some false))) else (if (x6.length : Int) > 0 then (some false) else (contangolaw11_MemberKeeps.l0 k x0 x3 (wrap64 (x4 + 1))))
def contangolaw11_MemberKeeps.l1 : Nat → List (S42) → List (S45) → Int → List (S45) → Int → Int → ByteArray → ByteArray → Int → Option (Bool)
  | 0, _, _, _, _, _, _, _, _, _ => none
  | k + 1, x0, x3, x4, x6, x8, x174000, x174001, x174002, x174003 => if x8 < (x3.length : Int) then (if 0 ≤ x8 then ((member_Find.f x6 ((rd_T45 x3 x8).f0)).bind fun bt188 => (if bt188.2.2.2 = true then (if ((rd_T45 x3 x8).f0).toList = x174001.toList then (if ((rd_T45 x3 x8).f1) ≥ 3 then (if bt188.2.1 = ((rd_T45 x3 x8).f1) then (if (bt188.2.2.1.length : Int) < (((rd_T45 x3 x8).f2).length : Int) then (some false) else (contangolaw11_MemberKeeps.l1 k x0 x3 x4 x6 (wrap64 (x8 + 1)) x174000 x174001 x174002 x174003)) else (some false)) else (if (bt188.2.2.1.length : Int) < (((rd_T45 x3 x8).f2).length : Int) then (some false) else (contangolaw11_MemberKeeps.l1 k x0 x3 x4 x6 (wrap64 (x8 + 1)) x174000 x174001 x174002 x174003))) else ((contangoref11_One.f k bt188.1 bt188.2.1 bt188.2.2.1 ((rd_T45 x3 x8).f0) ((rd_T45 x3 x8).f1) ((rd_T45 x3 x8).f2)).bind fun t201 => (if t201 = true then (if ((rd_T45 x3 x8).f1) ≥ 3 then (if bt188.2.1 = ((rd_T45 x3 x8).f1) then (if (bt188.2.2.1.length : Int) < (((rd_T45 x3 x8).f2).length : Int) then (some false) else (contangolaw11_MemberKeeps.l1 k x0 x3 x4 x6 (wrap64 (x8 + 1)) x174000 x174001 x174002 x174003)) else (some false)) else (if (bt188.2.2.1.length : Int) < (((rd_T45 x3 x8).f2).length : Int) then (some false) else (contangolaw11_MemberKeeps.l1 k x0 x3 x4 x6 (wrap64 (x8 + 1)) x174000 x174001 x174002 x174003))) else (some false)))) else (some false))) else (none)) else (contangolaw11_MemberKeeps.l0 k x0 x6 (wrap64 (x4 + 1)))
end
def contangolaw11_MemberKeeps.f (k : Nat) (l0 : List (S42)) : Option (Bool) := if (l0.length : Int) > 60 then ((contangolaw11_goes.f k).bind fun t170 => (some t170)) else (contangolaw11_MemberKeeps.l0 k l0 ([] : List (S45)) 0)
theorem contangolaw11_MemberKeeps.mono_l : ∀ k, (∀ y0 y1 y2, LeO (contangolaw11_MemberKeeps.l0 k y0 y1 y2) (contangolaw11_MemberKeeps.l0 (k + 1) y0 y1 y2)) ∧ (∀ y0 y1 y2 y3 y4 y5 y6 y7 y8, LeO (contangolaw11_MemberKeeps.j1 k y0 y1 y2 y3 y4 y5 y6 y7 y8) (contangolaw11_MemberKeeps.j1 (k + 1) y0 y1 y2 y3 y4 y5 y6 y7 y8)) ∧ (∀ y0 y1 y2 y3 y4 y5 y6 y7 y8, LeO (contangolaw11_MemberKeeps.l1 k y0 y1 y2 y3 y4 y5 y6 y7 y8) (contangolaw11_MemberKeeps.l1 (k + 1) y0 y1 y2 y3 y4 y5 y6 y7 y8))
  | 0 => ⟨fun _ _ _ r h => by simp [contangolaw11_MemberKeeps.l0] at h, fun _ _ _ _ _ _ _ _ _ r h => by simp [contangolaw11_MemberKeeps.j1] at h, fun _ _ _ _ _ _ _ _ _ r h => by simp [contangolaw11_MemberKeeps.l1] at h⟩
  | k + 1 => by
    obtain ⟨ih0, ih1, ih2⟩ := contangolaw11_MemberKeeps.mono_l k
    refine ⟨?_, ?_, ?_⟩
    · intro y0 y1 y2
      unfold contangolaw11_MemberKeeps.l0
      repeat' first
      | (with_reducible exact ih0 _ _ _)
      | (with_reducible exact ih1 _ _ _ _ _ _ _ _ _)
      | (with_reducible exact ih2 _ _ _ _ _ _ _ _ _)
      | (with_reducible exact contangolaw11_goes.mono _)
      | (with_reducible exact contangoref11_One.mono _ _ _ _ _ _ _)
      | (with_reducible exact LeO.refl _)
      | (with_reducible exact LeO.none _)
      | (with_reducible refine LeO.ite ?_ ?_)
      | (with_reducible refine LeO.bind ?_ (fun _ => ?_))
      | exact ih0 _ _ _
      | exact ih1 _ _ _ _ _ _ _ _ _
      | exact ih2 _ _ _ _ _ _ _ _ _
      | exact contangolaw11_goes.mono _
      | exact contangoref11_One.mono _ _ _ _ _ _ _
      | exact LeO.none _
      | refine LeO.ite ?_ ?_
      | refine LeO.bind ?_ (fun _ => ?_)
    · intro y0 y1 y2 y3 y4 y5 y6 y7 y8
      unfold contangolaw11_MemberKeeps.j1
      repeat' first
      | (with_reducible exact ih0 _ _ _)
      | (with_reducible exact ih1 _ _ _ _ _ _ _ _ _)
      | (with_reducible exact ih2 _ _ _ _ _ _ _ _ _)
      | (with_reducible exact contangolaw11_goes.mono _)
      | (with_reducible exact contangoref11_One.mono _ _ _ _ _ _ _)
      | (with_reducible exact LeO.refl _)
      | (with_reducible exact LeO.none _)
      | (with_reducible refine LeO.ite ?_ ?_)
      | (with_reducible refine LeO.bind ?_ (fun _ => ?_))
      | exact ih0 _ _ _
      | exact ih1 _ _ _ _ _ _ _ _ _
      | exact ih2 _ _ _ _ _ _ _ _ _
      | exact contangolaw11_goes.mono _
      | exact contangoref11_One.mono _ _ _ _ _ _ _
      | exact LeO.none _
      | refine LeO.ite ?_ ?_
      | refine LeO.bind ?_ (fun _ => ?_)
    · intro y0 y1 y2 y3 y4 y5 y6 y7 y8
      unfold contangolaw11_MemberKeeps.l1
      repeat' first
      | (with_reducible exact ih0 _ _ _)
      | (with_reducible exact ih1 _ _ _ _ _ _ _ _ _)
      | (with_reducible exact ih2 _ _ _ _ _ _ _ _ _)
      | (with_reducible exact contangolaw11_goes.mono _)
      | (with_reducible exact contangoref11_One.mono _ _ _ _ _ _ _)
      | (with_reducible exact LeO.refl _)
      | (with_reducible exact LeO.none _)
      | (with_reducible refine LeO.ite ?_ ?_)
      | (with_reducible refine LeO.bind ?_ (fun _ => ?_))
      | exact ih0 _ _ _
      | exact ih1 _ _ _ _ _ _ _ _ _
      | exact ih2 _ _ _ _ _ _ _ _ _
      | exact contangolaw11_goes.mono _
      | exact contangoref11_One.mono _ _ _ _ _ _ _
      | exact LeO.none _
      | refine LeO.ite ?_ ?_
      | refine LeO.bind ?_ (fun _ => ?_)
theorem contangolaw11_MemberKeeps.mono : ∀ a0 k, LeO (contangolaw11_MemberKeeps.f k a0) (contangolaw11_MemberKeeps.f (k + 1) a0) := by
  intro a0 k
  obtain ⟨ih0, ih1, ih2⟩ := contangolaw11_MemberKeeps.mono_l k
  unfold contangolaw11_MemberKeeps.f
  repeat' first
      | (with_reducible exact ih0 _ _ _)
      | (with_reducible exact ih1 _ _ _ _ _ _ _ _ _)
      | (with_reducible exact ih2 _ _ _ _ _ _ _ _ _)
      | (with_reducible exact contangolaw11_goes.mono _)
      | (with_reducible exact contangoref11_One.mono _ _ _ _ _ _ _)
      | (with_reducible exact LeO.refl _)
      | (with_reducible exact LeO.none _)
      | (with_reducible refine LeO.ite ?_ ?_)
      | (with_reducible refine LeO.bind ?_ (fun _ => ?_))
      | exact ih0 _ _ _
      | exact ih1 _ _ _ _ _ _ _ _ _
      | exact ih2 _ _ _ _ _ _ _ _ _
      | exact contangolaw11_goes.mono _
      | exact contangoref11_One.mono _ _ _ _ _ _ _
      | exact LeO.none _
      | refine LeO.ite ?_ ?_
      | refine LeO.bind ?_ (fun _ => ?_)
def contangolaw11_MemberKeeps.T22 : Bool × List (List Nat × List Nat) := (true, [([], []), ([0], [0]), ([1], [1]), ([2], [2]), ([2], [2]), ([3, 4, 2], [2, 3, 4]), ([5, 2], [2, 5]), ([6, 2], [2, 6]), ([2], [2]), ([8, 2], [2, 8]), ([9, 2], [2, 9]), ([7, 10, 2], [2, 7, 10]), ([11, 2, 2], [2, 11]), ([12], [12]), ([12], [12]), ([12], [12]), ([14, 15, 12], [12, 14, 15]), ([16, 12], [12, 16]), ([13, 17, 12, 12], [12, 13, 17]), ([18, 12], [12, 18]), ([12, 19, 2], [2, 12, 19]), ([2, 20], [2, 20]), ([21, 18], [21]), ([22], [22]), ([22], [22]), ([23, 24, 22], [22, 23, 24]), ([25, 22], [22, 25]), ([26, 22], [22, 26]), ([27, 22], [22, 27]), ([28, 22, 22], [22, 28]), ([29], [29]), ([30, 29], [29, 30]), ([29], [29]), ([29], [29]), ([32, 33, 29], [29, 32, 33]), ([34, 29], [29, 34]), ([35, 29], [29, 35]), ([31, 36, 29], [29, 31, 36]), ([29, 37, 22], [22, 29, 37]), ([22, 38], [22, 38]), ([39, 29], [39]), ([40], [40]), ([41, 40], [40, 41]), ([42, 40], [40, 42]), ([40], [40]), ([40], [40]), ([44, 45, 40], [40, 44, 45]), ([46, 40], [40, 46]), ([47, 40], [40, 47]), ([48, 40], [40, 48]), ([43, 49, 40], [40, 43, 49]), ([40, 50], [40, 50])])
def contangolaw11_MemberKeeps.B22 : List Nat := [0, 1, 3, 7, 7, 31, 63, 127, 7, 263, 775, 2047, 4095, 8191, 8191, 8191, 57343, 122879, 262143, 524287, 1048575, 2097151, 4194303, 8388607, 8388607, 33554431, 67108863, 134217727, 268435455, 536870911, 1073741823, 2147483647, 1073741823, 1073741823, 13958643711, 31138512895, 65498251263, 137438953471, 274877906943, 549755813887, 1099511627775, 2199023255551, 4398046511103, 8796093022207, 2199023255551, 2199023255551, 54975581388799, 125344325566463, 266081813921791, 547556790632447, 1125899906842623, 2251799813685247]
theorem contangolaw11_MemberKeeps.tab22 : rtab .any (opsOf Try.f5 22) = contangolaw11_MemberKeeps.T22 := by kernel_rfl
theorem contangolaw11_MemberKeeps.bits22 : waitsOk contangolaw11_MemberKeeps.T22.2 contangolaw11_MemberKeeps.B22 = true := by kernel_rfl
end Go.Proofs.Ytipoicfglaanaaa.PMemberKeeps
