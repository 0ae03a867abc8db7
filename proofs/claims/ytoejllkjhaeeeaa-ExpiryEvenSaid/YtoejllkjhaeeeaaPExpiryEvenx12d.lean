-- Written by a program of this session's (a turned copy of the kit's print, with functions proved by hand).
import Derived.Test.YtoejllkjhaeeeaaPExpiryEvenx0
import Derived.Test.YtoejllkjhaeeeaaPExpiryEvenx3
import Derived.Test.YtoejllkjhaeeeaaPExpiryEvenx10
import Derived.Test.YtoejllkjhaeeeaaPExpiryEvenx11
namespace Go.Proofs.Ytoejllkjhaeeeaa.PExpiryEven
open Go.RowKit Go.Proofs.YtoejllkjhaeeeaaW.PrintWords Go.Proofs.YtoejllkjhaeeeaaW.PrintLast Go.Proofs.YtoejllkjhaeeeaaW.PrintMore
attribute [local go_sem] max2_int min2_int max_two min_two max_three min_three max_four min_four Go.Proofs.YtoejllkjhaeeeaaHand.run_leq_str Go.Proofs.YtoejllkjhaeeeaaHand.run_gtr_str Go.Proofs.YtoejllkjhaeeeaaHand.run_geq_str   -- for this text's walks alone
set_option linter.unusedVariables false
set_option linter.unusedSimpArgs false

attribute [local go_sem high] eqA44
abbrev yy : Bool := true
abbrev nn : Bool := false
theorem fld_4_27_2 (x0 x1 x2 x3 x4 x5 : Value) (w : World) : (Instr.field 27 (.agg #[x0, x1, x2, x3, x4, x5]) 2).run Try.prog w = .ok x5 w := by kernel_rfl
attribute [local go_sem high] fld_4_27_2
/-! ### contangolaw51_ExpiryEven: function 4 -/
mutual
def contangolaw51_ExpiryEven.l0 : Nat → List (S47) → List (S49) → Int → Int → Int → Int → ByteArray → Int → Int → Int → Int → Int → Option (Bool)
  | 0, _, _, _, _, _, _, _, _, _, _, _, _ => none
  | k + 1, x0, x5, x7, x8, x9, x10, x161000, x161001, x161002, x161003, x161004, x161005 => if x10 < (x0.length : Int) then (if 0 ≤ x10 then ((contangoref15_Find.f k ((rd_T47 x0 x10).f1) x161000 x161001 x161002 x161003).bind fun bt170 => (contangolaw51_ExpiryEven.l0 k x0 x5 (wrap64 (x7 + bt170.2.2.2.2.2)) x8 x9 (wrap64 (x10 + 1)) x161000 x161001 x161002 x161003 x161004 x161005)) else (none)) else (contangolaw51_ExpiryEven.l1 k x0 x5 x7 x8 x9 0 x161000 x161001 x161002 x161003 x161004 x161005)
def contangolaw51_ExpiryEven.l1 : Nat → List (S47) → List (S49) → Int → Int → Int → Int → ByteArray → Int → Int → Int → Int → Int → Option (Bool)
  | 0, _, _, _, _, _, _, _, _, _, _, _, _ => none
  | k + 1, x0, x5, x7, x8, x9, x11, x161000, x161001, x161002, x161003, x161004, x161005 => if x11 < (x0.length : Int) then (if 0 ≤ x11 then ((contangoref15_Find.f k ((rd_T47 x0 x11).f1) x161000 x161001 x161002 x161003).bind fun bt178 => (if x9 < (x5.length : Int) then (if 0 ≤ x9 then (if (eqD44 ((rd_T49 x5 x9).f0.f0) ((rd_T47 x0 x11).f0.f0) ((rd_T49 x5 x9).f0.f1) ((rd_T47 x0 x11).f0.f1)) = true then (if bt178.2.2.2.2.2 > 0 then (if x7 > 0 then (if x7 = 0 then (none) else (if ((rd_T49 x5 x9).f1) ≥ (wrap64 (Int.tdiv (wrap64 (x161005 * bt178.2.2.2.2.2)) x7)) then (contangolaw51_ExpiryEven.j2 k x0 x5 x7 x8 x9 x11 bt178.2.2.2.2.2 0 (decide (((rd_T49 x5 x9).f1) ≤ (wrap64 ((wrap64 (Int.tdiv (wrap64 (x161005 * bt178.2.2.2.2.2)) x7)) + 1)))) x161000 x161001 x161002 x161003 x161004 x161005) else (contangolaw51_ExpiryEven.j2 k x0 x5 x7 x8 x9 x11 bt178.2.2.2.2.2 0 false x161000 x161001 x161002 x161003 x161004 x161005))) else (contangolaw51_ExpiryEven.j2 k x0 x5 x7 x8 x9 x11 bt178.2.2.2.2.2 0 false x161000 x161001 x161002 x161003 x161004 x161005)) else (contangolaw51_ExpiryEven.j2 k x0 x5 x7 x8 x9 x11 bt178.2.2.2.2.2 0 false x161000 x161001 x161002 x161003 x161004 x161005)) else (contangolaw51_ExpiryEven.j2 k x0 x5 x7 x8 x9 x11 bt178.2.2.2.2.2 0 false x161000 x161001 x161002 x161003 x161004 x161005)) else (none)) else (contangolaw51_ExpiryEven.j2 k x0 x5 x7 x8 x9 x11 bt178.2.2.2.2.2 0 false x161000 x161001 x161002 x161003 x161004 x161005))) else (none)) else (if x9 = (x5.length : Int) then (if x8 = x161005 then ((contangolaw51_goes.f k).bind fun t176 => (some t176)) else (some false)) else (some false))
def contangolaw51_ExpiryEven.j2 : Nat → List (S47) → List (S49) → Int → Int → Int → Int → Int → Int → Bool → ByteArray → Int → Int → Int → Int → Int → Option (Bool)
  | 0, _, _, _, _, _, _, _, _, _, _, _, _, _, _, _ => none
  | k + 1, x0, x5, x7, x8, x9, x11, x12, x13, x123, x161000, x161001, x161002, x161003, x161004, x161005 => if x123 = true then (if 0 ≤ x9 then (if x9 < (x5.length : Int) then (if ((rd_T49 x5 x9).f1) > x12 then (some false) else (if x7 > 0 then (if x7 = 0 then (none) else (if ((rd_T49 x5 x9).f1) < (wrap64 (Int.tdiv (wrap64 (x161005 * x12)) x7)) then (some false) else (contangolaw51_ExpiryEven.l1 k x0 x5 x7 (wrap64 (x8 + ((rd_T49 x5 x9).f1))) (wrap64 (x9 + 1)) (wrap64 (x11 + 1)) x161000 x161001 x161002 x161003 x161004 x161005))) else (contangolaw51_ExpiryEven.l1 k x0 x5 x7 (wrap64 (x8 + ((rd_T49 x5 x9).f1))) (wrap64 (x9 + 1)) (wrap64 (x11 + 1)) x161000 x161001 x161002 x161003 x161004 x161005))) else (none)) else (none)) else (if x13 > x12 then (some false) else (if x7 > 0 then (if x7 = 0 then (none) else (if x13 < (wrap64 (Int.tdiv (wrap64 (x161005 * x12)) x7)) then (some false) else (contangolaw51_ExpiryEven.l1 k x0 x5 x7 (wrap64 (x8 + x13)) x9 (wrap64 (x11 + 1)) x161000 x161001 x161002 x161003 x161004 x161005))) else (contangolaw51_ExpiryEven.l1 k x0 x5 x7 (wrap64 (x8 + x13)) x9 (wrap64 (x11 + 1)) x161000 x161001 x161002 x161003 x161004 x161005)))
end
def contangolaw51_ExpiryEven.f (k : Nat) (l0 : List (S47)) (a1_0 : ByteArray) (a1_1 : Int) (a1_2 : Int) (a1_3 : Int) (a1_4 : Int) (a1_5 : Int) : Option (Bool) := if (l0.length : Int) > 40 then ((contangolaw51_goes.f k).bind fun t161 => (some t161)) else ((expiry_Assign.f k l0 a1_0 a1_1 a1_2 a1_3 a1_5).bind fun bt162 => (if bt162.2 = 0 then ((contangolaw51_twice.f k l0).bind fun t167 => (if t167 = true then ((contangolaw51_goes.f k).bind fun t168 => (some t168)) else (contangolaw51_ExpiryEven.l0 k l0 bt162.1 0 0 0 0 a1_0 a1_1 a1_2 a1_3 a1_4 a1_5))) else (if (bt162.1.length : Int) = 0 then ((contangolaw51_goes.f k).bind fun t166 => (some t166)) else (some false))))
theorem contangolaw51_ExpiryEven.mono_l : ∀ k, (∀ y0 y1 y2 y3 y4 y5 y6 y7 y8 y9 y10 y11, LeO (contangolaw51_ExpiryEven.l0 k y0 y1 y2 y3 y4 y5 y6 y7 y8 y9 y10 y11) (contangolaw51_ExpiryEven.l0 (k + 1) y0 y1 y2 y3 y4 y5 y6 y7 y8 y9 y10 y11)) ∧ (∀ y0 y1 y2 y3 y4 y5 y6 y7 y8 y9 y10 y11, LeO (contangolaw51_ExpiryEven.l1 k y0 y1 y2 y3 y4 y5 y6 y7 y8 y9 y10 y11) (contangolaw51_ExpiryEven.l1 (k + 1) y0 y1 y2 y3 y4 y5 y6 y7 y8 y9 y10 y11)) ∧ (∀ y0 y1 y2 y3 y4 y5 y6 y7 y8 y9 y10 y11 y12 y13 y14, LeO (contangolaw51_ExpiryEven.j2 k y0 y1 y2 y3 y4 y5 y6 y7 y8 y9 y10 y11 y12 y13 y14) (contangolaw51_ExpiryEven.j2 (k + 1) y0 y1 y2 y3 y4 y5 y6 y7 y8 y9 y10 y11 y12 y13 y14))
  | 0 => ⟨fun _ _ _ _ _ _ _ _ _ _ _ _ r h => by simp [contangolaw51_ExpiryEven.l0] at h, fun _ _ _ _ _ _ _ _ _ _ _ _ r h => by simp [contangolaw51_ExpiryEven.l1] at h, fun _ _ _ _ _ _ _ _ _ _ _ _ _ _ _ r h => by simp [contangolaw51_ExpiryEven.j2] at h⟩
  | k + 1 => by
    obtain ⟨ih0, ih1, ih2⟩ := contangolaw51_ExpiryEven.mono_l k
    refine ⟨?_, ?_, ?_⟩
    · intro y0 y1 y2 y3 y4 y5 y6 y7 y8 y9 y10 y11
      unfold contangolaw51_ExpiryEven.l0
      repeat' first
      | (with_reducible exact ih0 _ _ _ _ _ _ _ _ _ _ _ _)
      | (with_reducible exact ih1 _ _ _ _ _ _ _ _ _ _ _ _)
      | (with_reducible exact ih2 _ _ _ _ _ _ _ _ _ _ _ _ _ _ _)
      | (with_reducible exact contangolaw51_goes.mono _)
      | (with_reducible exact contangolaw51_twice.mono _ _)
      | (with_reducible exact contangoref15_Find.mono _ _ _ _ _ _)
      | (with_reducible exact expiry_Assign.mono _ _ _ _ _ _ _)
      | (with_reducible exact LeO.refl _)
      | (with_reducible exact LeO.none _)
      | (with_reducible refine LeO.ite ?_ ?_)
      | (with_reducible refine LeO.bind ?_ (fun _ => ?_))
      | exact ih0 _ _ _ _ _ _ _ _ _ _ _ _
      | exact ih1 _ _ _ _ _ _ _ _ _ _ _ _
      | exact ih2 _ _ _ _ _ _ _ _ _ _ _ _ _ _ _
      | exact contangolaw51_goes.mono _
      | exact contangolaw51_twice.mono _ _
      | exact contangoref15_Find.mono _ _ _ _ _ _
      | exact expiry_Assign.mono _ _ _ _ _ _ _
      | exact LeO.none _
      | refine LeO.ite ?_ ?_
      | refine LeO.bind ?_ (fun _ => ?_)
    · intro y0 y1 y2 y3 y4 y5 y6 y7 y8 y9 y10 y11
      unfold contangolaw51_ExpiryEven.l1
      repeat' first
      | (with_reducible exact ih0 _ _ _ _ _ _ _ _ _ _ _ _)
      | (with_reducible exact ih1 _ _ _ _ _ _ _ _ _ _ _ _)
      | (with_reducible exact ih2 _ _ _ _ _ _ _ _ _ _ _ _ _ _ _)
      | (with_reducible exact contangolaw51_goes.mono _)
      | (with_reducible exact contangolaw51_twice.mono _ _)
      | (with_reducible exact contangoref15_Find.mono _ _ _ _ _ _)
      | (with_reducible exact expiry_Assign.mono _ _ _ _ _ _ _)
      | (with_reducible exact LeO.refl _)
      | (with_reducible exact LeO.none _)
      | (with_reducible refine LeO.ite ?_ ?_)
      | (with_reducible refine LeO.bind ?_ (fun _ => ?_))
      | exact ih0 _ _ _ _ _ _ _ _ _ _ _ _
      | exact ih1 _ _ _ _ _ _ _ _ _ _ _ _
      | exact ih2 _ _ _ _ _ _ _ _ _ _ _ _ _ _ _
      | exact contangolaw51_goes.mono _
      | exact contangolaw51_twice.mono _ _
      | exact contangoref15_Find.mono _ _ _ _ _ _
      | exact expiry_Assign.mono _ _ _ _ _ _ _
      | exact LeO.none _
      | refine LeO.ite ?_ ?_
      | refine LeO.bind ?_ (fun _ => ?_)
    · intro y0 y1 y2 y3 y4 y5 y6 y7 y8 y9 y10 y11 y12 y13 y14
      unfold contangolaw51_ExpiryEven.j2
      repeat' first
      | (with_reducible exact ih0 _ _ _ _ _ _ _ _ _ _ _ _)
      | (with_reducible exact ih1 _ _ _ _ _ _ _ _ _ _ _ _)
      | (with_reducible exact ih2 _ _ _ _ _ _ _ _ _ _ _ _ _ _ _)
      | (with_reducible exact contangolaw51_goes.mono _)
      | (with_reducible exact contangolaw51_twice.mono _ _)
      | (with_reducible exact contangoref15_Find.mono _ _ _ _ _ _)
      | (with_reducible exact expiry_Assign.mono _ _ _ _ _ _ _)
      | (with_reducible exact LeO.refl _)
      | (with_reducible exact LeO.none _)
      | (with_reducible refine LeO.ite ?_ ?_)
      | (with_reducible refine LeO.bind ?_ (fun _ => ?_))
      | exact ih0 _ _ _ _ _ _ _ _ _ _ _ _
      | exact ih1 _ _ _ _ _ _ _ _ _ _ _ _
      | exact ih2 _ _ _ _ _ _ _ _ _ _ _ _ _ _ _
      | exact contangolaw51_goes.mono _
      | exact contangolaw51_twice.mono _ _
      | exact contangoref15_Find.mono _ _ _ _ _ _
      | exact expiry_Assign.mono _ _ _ _ _ _ _
      | exact LeO.none _
      | refine LeO.ite ?_ ?_
      | refine LeO.bind ?_ (fun _ => ?_)
theorem contangolaw51_ExpiryEven.mono : ∀ a0 a1 a2 a3 a4 a5 a6 k, LeO (contangolaw51_ExpiryEven.f k a0 a1 a2 a3 a4 a5 a6) (contangolaw51_ExpiryEven.f (k + 1) a0 a1 a2 a3 a4 a5 a6) := by
  intro a0 a1 a2 a3 a4 a5 a6 k
  obtain ⟨ih0, ih1, ih2⟩ := contangolaw51_ExpiryEven.mono_l k
  unfold contangolaw51_ExpiryEven.f
  repeat' first
      | (with_reducible exact ih0 _ _ _ _ _ _ _ _ _ _ _ _)
      | (with_reducible exact ih1 _ _ _ _ _ _ _ _ _ _ _ _)
      | (with_reducible exact ih2 _ _ _ _ _ _ _ _ _ _ _ _ _ _ _)
      | (with_reducible exact contangolaw51_goes.mono _)
      | (with_reducible exact contangolaw51_twice.mono _ _)
      | (with_reducible exact contangoref15_Find.mono _ _ _ _ _ _)
      | (with_reducible exact expiry_Assign.mono _ _ _ _ _ _ _)
      | (with_reducible exact LeO.refl _)
      | (with_reducible exact LeO.none _)
      | (with_reducible refine LeO.ite ?_ ?_)
      | (with_reducible refine LeO.bind ?_ (fun _ => ?_))
      | exact ih0 _ _ _ _ _ _ _ _ _ _ _ _
      | exact ih1 _ _ _ _ _ _ _ _ _ _ _ _
      | exact ih2 _ _ _ _ _ _ _ _ _ _ _ _ _ _ _
      | exact contangolaw51_goes.mono _
      | exact contangolaw51_twice.mono _ _
      | exact contangoref15_Find.mono _ _ _ _ _ _
      | exact expiry_Assign.mono _ _ _ _ _ _ _
      | exact LeO.none _
      | refine LeO.ite ?_ ?_
      | refine LeO.bind ?_ (fun _ => ?_)
def contangolaw51_ExpiryEven.T12 : Bool × List (List Nat × List Nat) := (true, [([], []), ([], []), ([], []), ([1, 2], [1, 2]), ([3], [3]), ([4], [4]), ([], []), ([6], [6]), ([5, 7], [5, 7]), ([8], [8]), ([0, 9], [0, 9]), ([10, 8, 0, 1, 2, 3, 4, 5, 6, 7, 8, 9, 10], [0, 10])])
def contangolaw51_ExpiryEven.B12 : List Nat := [0, 0, 0, 6, 14, 30, 0, 64, 254, 510, 1023, 2047]
theorem contangolaw51_ExpiryEven.tab12 : rtab .any (opsOf Try.f4 12) = contangolaw51_ExpiryEven.T12 := by kernel_rfl
theorem contangolaw51_ExpiryEven.bits12 : waitsOk contangolaw51_ExpiryEven.T12.2 contangolaw51_ExpiryEven.B12 = true := by kernel_rfl
def contangolaw51_ExpiryEven.T16 : Bool × List (List Nat × List Nat) := (true, [([], []), ([], []), ([0, 1], [0, 1]), ([2], [2]), ([3], [3]), ([], []), ([5], [5]), ([4, 6], [4, 6]), ([7], [7]), ([8, 7, 0, 1, 2, 3, 4, 5, 6, 7, 8], [8]), ([9, 0, 1, 2, 3, 4, 5, 6, 7, 8, 9], [])])
def contangolaw51_ExpiryEven.B16 : List Nat := [0, 0, 3, 7, 15, 0, 32, 127, 255, 511, 1023]
theorem contangolaw51_ExpiryEven.tab16 : rtab .any (opsOf Try.f4 16) = contangolaw51_ExpiryEven.T16 := by kernel_rfl
theorem contangolaw51_ExpiryEven.bits16 : waitsOk contangolaw51_ExpiryEven.T16.2 contangolaw51_ExpiryEven.B16 = true := by kernel_rfl
def contangolaw51_ExpiryEven.T17 : Bool × List (List Nat × List Nat) := (true, [([], []), ([], []), ([1], [1]), ([0, 2], [0, 2]), ([3], [3]), ([4], [4]), ([4], [4]), ([5, 6, 4], [4, 5, 6]), ([7, 4], [4, 7]), ([8, 4], [4, 8]), ([4], [4]), ([4], [4]), ([10, 11, 4], [4, 10, 11]), ([12, 4], [4, 12]), ([13, 4], [4, 13]), ([9, 14, 4], [4, 9, 14]), ([4, 15], [4, 15]), ([16, 4], [16]), ([17], [17]), ([18, 17], [17, 18]), ([17, 19], [17, 19]), ([20, 17], [20]), ([21], [21]), ([22, 21], [21, 22]), ([21, 23], [21, 23]), ([24, 21], [24]), ([25], [25]), ([25], [25]), ([26, 27, 25], [25, 26, 27]), ([28, 25], [25, 28]), ([29, 25], [25, 29]), ([25], [25]), ([31, 25], [25, 31]), ([25], [25]), ([32, 33, 25], [25, 32, 33]), ([25], [25]), ([34, 35, 25], [25, 34, 35]), ([30, 36, 25], [25, 30, 36]), ([25, 37], [25, 37]), ([38, 25], [38]), ([39], [39]), ([39], [39]), ([40, 41, 39], [39, 40, 41]), ([42, 39], [39, 42]), ([43, 39], [39, 43]), ([39], [39]), ([45, 39], [39, 45]), ([39], [39]), ([46, 47, 39], [39, 46, 47]), ([39], [39]), ([48, 49, 39], [39, 48, 49]), ([50, 39], [39, 50]), ([44, 51, 39], [39, 44, 51]), ([39, 52], [39, 52])])
def contangolaw51_ExpiryEven.B17 : List Nat := [0, 0, 2, 7, 15, 31, 31, 127, 255, 511, 31, 31, 3103, 7199, 15391, 32767, 65535, 131071, 262143, 524287, 1048575, 2097151, 4194303, 8388607, 16777215, 33554431, 67108863, 67108863, 268435455, 536870911, 1073741823, 67108863, 2214592511, 67108863, 15099494399, 67108863, 66639101951, 137438953471, 274877906943, 549755813887, 1099511627775, 1099511627775, 4398046511103, 8796093022207, 17592186044415, 1099511627775, 36283883716607, 1099511627775, 247390116249599, 1099511627775, 1091815046381567, 2217714953224191, 4503599627370495, 9007199254740991]
theorem contangolaw51_ExpiryEven.tab17 : rtab .any (opsOf Try.f4 17) = contangolaw51_ExpiryEven.T17 := by kernel_rfl
theorem contangolaw51_ExpiryEven.bits17 : waitsOk contangolaw51_ExpiryEven.T17.2 contangolaw51_ExpiryEven.B17 = true := by kernel_rfl
end Go.Proofs.Ytoejllkjhaeeeaa.PExpiryEven
