-- Written by a program of this session's (a turned copy of the kit's print, with functions proved by hand).
import Derived.Test.YtdhmckgagffgkaaPPortMorex0
import Derived.Test.YtdhmckgagffgkaaPPortMorex1
import Derived.Test.YtdhmckgagffgkaaPPortMorex2
import Derived.Test.YtdhmckgagffgkaaPPortMorex5
import Derived.Test.YtdhmckgagffgkaaPPortMorex6
namespace Go.Proofs.Ytdhmckgagffgkaa.PPortMore
open Go.RowKit Go.Proofs.YtdhmckgagffgkaaW.PrintWords Go.Proofs.YtdhmckgagffgkaaW.PrintLast Go.Proofs.YtdhmckgagffgkaaW.PrintMore
attribute [local go_sem] max2_int min2_int max_two min_two max_three min_three max_four min_four Go.Proofs.YtdhmckgagffgkaaHand.run_leq_str Go.Proofs.YtdhmckgagffgkaaHand.run_gtr_str Go.Proofs.YtdhmckgagffgkaaHand.run_geq_str   -- for this text's walks alone
set_option linter.unusedVariables false
set_option linter.unusedSimpArgs false

attribute [local go_sem high] eqA45 eqA47
/-! ### contangolaw42_goes: function 8 -/
def contangolaw42_goes.f (k : Nat)  : Option (Bool) := (some (([(⟨(⟨#[97]⟩ : ByteArray), 1, (([(⟨(⟨#[120]⟩ : ByteArray), 2⟩ : S61)] : List (S61)))⟩ : S55), (⟨(⟨#[98]⟩ : ByteArray), 1, (([(⟨(⟨#[120]⟩ : ByteArray), 2⟩ : S61)] : List (S61)))⟩ : S55), (⟨(⟨#[100]⟩ : ByteArray), 3, (([(⟨(⟨#[104]⟩ : ByteArray), 1⟩ : S61), (⟨(⟨#[112]⟩ : ByteArray), 2⟩ : S61), (⟨(⟨#[113]⟩ : ByteArray), 2⟩ : S61)] : List (S61)))⟩ : S55)] : List (S55)) : List (S55))).bind fun y168 => ((some (([(⟨(⟨(⟨#[100]⟩ : ByteArray), (⟨#[112]⟩ : ByteArray)⟩ : S45), (⟨(⟨#[97]⟩ : ByteArray), (⟨#[120]⟩ : ByteArray)⟩ : S45), 40⟩ : S47), (⟨(⟨(⟨#[100]⟩ : ByteArray), (⟨#[112]⟩ : ByteArray)⟩ : S45), (⟨(⟨#[98]⟩ : ByteArray), (⟨#[120]⟩ : ByteArray)⟩ : S45), 60⟩ : S47), (⟨(⟨(⟨#[100]⟩ : ByteArray), (⟨#[113]⟩ : ByteArray)⟩ : S45), (⟨(⟨#[97]⟩ : ByteArray), (⟨#[120]⟩ : ByteArray)⟩ : S45), 60⟩ : S47)] : List (S47)) : List (S47))).bind fun y175 => ((port_Plan.f k y175 y168 (⟨#[100]⟩ : ByteArray) (([(⟨(⟨(⟨#[100]⟩ : ByteArray), (⟨#[113]⟩ : ByteArray)⟩ : S45), 0, 0, 70⟩ : S62), (⟨(⟨(⟨#[100]⟩ : ByteArray), (⟨#[112]⟩ : ByteArray)⟩ : S45), 0, 0, 50⟩ : S62)] : List (S62)))).bind fun bt181 => (if (bt181.1.length : Int) = 1 then (if 0 < (bt181.1.length : Int) then (if 1 < (y175.length : Int) then (if (((((rd_T47 bt181.1 0).f0.f0).toList) == (((rd_T47 y175 1).f0.f0).toList) && ((((rd_T47 bt181.1 0).f0.f1).toList) == (((rd_T47 y175 1).f0.f1).toList))) && (((((rd_T47 bt181.1 0).f1.f0).toList) == (((rd_T47 y175 1).f1.f0).toList) && ((((rd_T47 bt181.1 0).f1.f1).toList) == (((rd_T47 y175 1).f1.f1).toList))) && (((rd_T47 bt181.1 0).f2) == ((rd_T47 y175 1).f2)))) = true then (if (bt181.2.1.length : Int) = 1 then (if 0 < (bt181.2.1.length : Int) then (if ((((rd_T45 bt181.2.1 0).f0).toList) == ([100] : List UInt8) && ((((rd_T45 bt181.2.1 0).f1).toList) == ([113] : List UInt8))) = true then (if bt181.2.2 = 0 then ((port_Clients.f k y168 (⟨#[100]⟩ : ByteArray)).bind fun t191 => ((contangoref11_SameAccs.f k t191 (([(⟨(⟨#[100]⟩ : ByteArray), (⟨#[112]⟩ : ByteArray)⟩ : S45), (⟨(⟨#[100]⟩ : ByteArray), (⟨#[113]⟩ : ByteArray)⟩ : S45)] : List (S45)))).bind fun t197 => (some t197))) else (some false)) else (some false)) else (none)) else (some false)) else (some false)) else (none)) else (none)) else (some false))))
theorem contangolaw42_goes.mono : ∀ k, LeO (contangolaw42_goes.f k ) (contangolaw42_goes.f (k + 1) ) := by
  intro  k
  unfold contangolaw42_goes.f
  repeat' first
      | (with_reducible exact contangoref11_SameAccs.mono _ _ _)
      | (with_reducible exact port_Clients.mono _ _ _)
      | (with_reducible exact port_Plan.mono _ _ _ _ _)
      | (with_reducible exact LeO.refl _)
      | (with_reducible exact LeO.none _)
      | (with_reducible refine LeO.ite ?_ ?_)
      | (with_reducible refine LeO.bind ?_ (fun _ => ?_))
      | exact contangoref11_SameAccs.mono _ _ _
      | exact port_Clients.mono _ _ _
      | exact port_Plan.mono _ _ _ _ _
      | exact LeO.none _
      | refine LeO.ite ?_ ?_
      | refine LeO.bind ?_ (fun _ => ?_)
theorem contangolaw42_goes.only (k : Nat) (r : Bool) (h : contangolaw42_goes.f k  = some r) : r = true := by
  exact Option.some.inj ((at_rounds (fun k => contangolaw42_goes.mono k) (Nat.le_max_left k 100) h).symm.trans (at_rounds (fun k => contangolaw42_goes.mono k) (Nat.le_max_right k 100) (by decide +kernel : contangolaw42_goes.f 100 = some true)))
def contangolaw42_goes.T6 : Bool × List (List Nat × List Nat) := (true, [([], []), ([0], [0]), ([1], [1]), ([2], [2]), ([3], [3]), ([4, 3], [3, 4]), ([5, 3], [3, 5]), ([3], [3]), ([7, 3], [3, 7]), ([8, 3], [3, 8]), ([6, 9, 3], [3, 6, 9]), ([3, 10], [3, 10]), ([11, 3], [11]), ([12], [12]), ([13, 12], [12, 13]), ([14, 12], [12, 14]), ([12, 15], [12, 15]), ([16, 12], [16]), ([17], [17]), ([18, 17], [17, 18]), ([19, 17], [17, 19]), ([17], [17]), ([20, 21, 17], [17, 20, 21]), ([17, 22], [17, 22]), ([23, 17], [23]), ([24], [24]), ([25, 24], [24, 25]), ([24, 26], [24, 26]), ([27, 24], [27]), ([28], [28]), ([29, 28, 28], [28, 29]), ([28], [28]), ([28], [28]), ([31, 32, 28], [28, 31, 32]), ([30, 33, 30, 28], [28, 30, 33]), ([28, 34], [28, 34]), ([35, 34, 0, 1, 2, 3, 4, 5, 6, 7, 8, 9, 10, 11, 12, 13, 14, 15, 16, 17, 18, 19, 20, 21, 22, 23, 24, 25, 26, 27, 28, 29, 30, 31, 32, 33, 34, 35], [35])])
def contangolaw42_goes.B6 : List Nat := [0, 1, 3, 7, 15, 31, 63, 15, 143, 399, 1023, 2047, 4095, 8191, 16383, 32767, 65535, 131071, 262143, 524287, 1048575, 262143, 4194303, 8388607, 16777215, 33554431, 67108863, 134217727, 268435455, 536870911, 1073741823, 536870911, 536870911, 6979321855, 17179869183, 34359738367, 68719476735]
theorem contangolaw42_goes.tab6 : rtab .any (opsOf Try.f8 6) = contangolaw42_goes.T6 := by kernel_rfl
theorem contangolaw42_goes.bits6 : waitsOk contangolaw42_goes.T6.2 contangolaw42_goes.B6 = true := by kernel_rfl
set_option maxHeartbeats 8000000 in
set_option maxRecDepth 100000 in
theorem contangolaw42_goes.calls (k : Nat)  (r : Bool) (w : World) (h : contangolaw42_goes.f k  = some r) :
    Calls Try.prog 8 #[] w fun e w' => e = .returned (.bool r) ∧ Below w.heap.size w w' := by
  have hu61 := Try.underlying61
  have hu55 := Try.underlying55
  have hu45 := Try.underlying45
  have hu47 := Try.underlying47
  have hu62 := Try.underlying62
  have HB := Aside0.mk (Below.refl w.heap.size w)
  have HRT := Aside0.mk (contangolaw42_goes.only k r h)
  have H : ((some (([(⟨(⟨#[97]⟩ : ByteArray), 1, (([(⟨(⟨#[120]⟩ : ByteArray), 2⟩ : S61)] : List (S61)))⟩ : S55), (⟨(⟨#[98]⟩ : ByteArray), 1, (([(⟨(⟨#[120]⟩ : ByteArray), 2⟩ : S61)] : List (S61)))⟩ : S55), (⟨(⟨#[100]⟩ : ByteArray), 3, (([(⟨(⟨#[104]⟩ : ByteArray), 1⟩ : S61), (⟨(⟨#[112]⟩ : ByteArray), 2⟩ : S61), (⟨(⟨#[113]⟩ : ByteArray), 2⟩ : S61)] : List (S61)))⟩ : S55)] : List (S55)) : List (S55))).bind fun y168 => ((some (([(⟨(⟨(⟨#[100]⟩ : ByteArray), (⟨#[112]⟩ : ByteArray)⟩ : S45), (⟨(⟨#[97]⟩ : ByteArray), (⟨#[120]⟩ : ByteArray)⟩ : S45), 40⟩ : S47), (⟨(⟨(⟨#[100]⟩ : ByteArray), (⟨#[112]⟩ : ByteArray)⟩ : S45), (⟨(⟨#[98]⟩ : ByteArray), (⟨#[120]⟩ : ByteArray)⟩ : S45), 60⟩ : S47), (⟨(⟨(⟨#[100]⟩ : ByteArray), (⟨#[113]⟩ : ByteArray)⟩ : S45), (⟨(⟨#[97]⟩ : ByteArray), (⟨#[120]⟩ : ByteArray)⟩ : S45), 60⟩ : S47)] : List (S47)) : List (S47))).bind fun y175 => ((port_Plan.f k y175 y168 (⟨#[100]⟩ : ByteArray) (([(⟨(⟨(⟨#[100]⟩ : ByteArray), (⟨#[113]⟩ : ByteArray)⟩ : S45), 0, 0, 70⟩ : S62), (⟨(⟨(⟨#[100]⟩ : ByteArray), (⟨#[112]⟩ : ByteArray)⟩ : S45), 0, 0, 50⟩ : S62)] : List (S62)))).bind fun bt181 => (if (bt181.1.length : Int) = 1 then (if 0 < (bt181.1.length : Int) then (if 1 < (y175.length : Int) then (if (((((rd_T47 bt181.1 0).f0.f0).toList) == (((rd_T47 y175 1).f0.f0).toList) && ((((rd_T47 bt181.1 0).f0.f1).toList) == (((rd_T47 y175 1).f0.f1).toList))) && (((((rd_T47 bt181.1 0).f1.f0).toList) == (((rd_T47 y175 1).f1.f0).toList) && ((((rd_T47 bt181.1 0).f1.f1).toList) == (((rd_T47 y175 1).f1.f1).toList))) && (((rd_T47 bt181.1 0).f2) == ((rd_T47 y175 1).f2)))) = true then (if (bt181.2.1.length : Int) = 1 then (if 0 < (bt181.2.1.length : Int) then (if ((((rd_T45 bt181.2.1 0).f0).toList) == ([100] : List UInt8) && ((((rd_T45 bt181.2.1 0).f1).toList) == ([113] : List UInt8))) = true then (if bt181.2.2 = 0 then ((port_Clients.f k y168 (⟨#[100]⟩ : ByteArray)).bind fun t191 => ((contangoref11_SameAccs.f k t191 (([(⟨(⟨#[100]⟩ : ByteArray), (⟨#[112]⟩ : ByteArray)⟩ : S45), (⟨(⟨#[100]⟩ : ByteArray), (⟨#[113]⟩ : ByteArray)⟩ : S45)] : List (S45)))).bind fun t197 => (some t197))) else (some false)) else (some false)) else (none)) else (some false)) else (some false)) else (none)) else (none)) else (some false))))) = some r := h
  clear h
  obtain ⟨y159, hy159⟩ : ∃ y_ : List (S61), y_ = (([(⟨(⟨#[120]⟩ : ByteArray), 2⟩ : S61)] : List (S61))) := ⟨_, rfl⟩
  replace H : ((some (([(⟨(⟨#[97]⟩ : ByteArray), 1, y159⟩ : S55), (⟨(⟨#[98]⟩ : ByteArray), 1, (([(⟨(⟨#[120]⟩ : ByteArray), 2⟩ : S61)] : List (S61)))⟩ : S55), (⟨(⟨#[100]⟩ : ByteArray), 3, (([(⟨(⟨#[104]⟩ : ByteArray), 1⟩ : S61), (⟨(⟨#[112]⟩ : ByteArray), 2⟩ : S61), (⟨(⟨#[113]⟩ : ByteArray), 2⟩ : S61)] : List (S61)))⟩ : S55)] : List (S55)) : List (S55))).bind fun y168 => ((some (([(⟨(⟨(⟨#[100]⟩ : ByteArray), (⟨#[112]⟩ : ByteArray)⟩ : S45), (⟨(⟨#[97]⟩ : ByteArray), (⟨#[120]⟩ : ByteArray)⟩ : S45), 40⟩ : S47), (⟨(⟨(⟨#[100]⟩ : ByteArray), (⟨#[112]⟩ : ByteArray)⟩ : S45), (⟨(⟨#[98]⟩ : ByteArray), (⟨#[120]⟩ : ByteArray)⟩ : S45), 60⟩ : S47), (⟨(⟨(⟨#[100]⟩ : ByteArray), (⟨#[113]⟩ : ByteArray)⟩ : S45), (⟨(⟨#[97]⟩ : ByteArray), (⟨#[120]⟩ : ByteArray)⟩ : S45), 60⟩ : S47)] : List (S47)) : List (S47))).bind fun y175 => ((port_Plan.f k y175 y168 (⟨#[100]⟩ : ByteArray) (([(⟨(⟨(⟨#[100]⟩ : ByteArray), (⟨#[113]⟩ : ByteArray)⟩ : S45), 0, 0, 70⟩ : S62), (⟨(⟨(⟨#[100]⟩ : ByteArray), (⟨#[112]⟩ : ByteArray)⟩ : S45), 0, 0, 50⟩ : S62)] : List (S62)))).bind fun bt181 => (if (bt181.1.length : Int) = 1 then (if 0 < (bt181.1.length : Int) then (if 1 < (y175.length : Int) then (if (((((rd_T47 bt181.1 0).f0.f0).toList) == (((rd_T47 y175 1).f0.f0).toList) && ((((rd_T47 bt181.1 0).f0.f1).toList) == (((rd_T47 y175 1).f0.f1).toList))) && (((((rd_T47 bt181.1 0).f1.f0).toList) == (((rd_T47 y175 1).f1.f0).toList) && ((((rd_T47 bt181.1 0).f1.f1).toList) == (((rd_T47 y175 1).f1.f1).toList))) && (((rd_T47 bt181.1 0).f2) == ((rd_T47 y175 1).f2)))) = true then (if (bt181.2.1.length : Int) = 1 then (if 0 < (bt181.2.1.length : Int) then (if ((((rd_T45 bt181.2.1 0).f0).toList) == ([100] : List UInt8) && ((((rd_T45 bt181.2.1 0).f1).toList) == ([113] : List UInt8))) = true then (if bt181.2.2 = 0 then ((port_Clients.f k y168 (⟨#[100]⟩ : ByteArray)).bind fun t191 => ((contangoref11_SameAccs.f k t191 (([(⟨(⟨#[100]⟩ : ByteArray), (⟨#[112]⟩ : ByteArray)⟩ : S45), (⟨(⟨#[100]⟩ : ByteArray), (⟨#[113]⟩ : ByteArray)⟩ : S45)] : List (S45)))).bind fun t197 => (some t197))) else (some false)) else (some false)) else (none)) else (some false)) else (some false)) else (none)) else (none)) else (some false))))) = some r := by first | (rw [hy159]; with_reducible exact H) | (have H2_ := (Option.bind_some _ _).symm.trans H; rw [hy159]; with_reducible exact H2_) | (have H2_ := (Option.bind_some _ _).symm.trans H; with_reducible exact H2_) | with_reducible exact H | (rw [hy159]; exact H) | exact H
  have Ny159 := Aside0.mk hy159
  clear hy159
  obtain ⟨y162, hy162⟩ : ∃ y_ : List (S61), y_ = (([(⟨(⟨#[120]⟩ : ByteArray), 2⟩ : S61)] : List (S61))) := ⟨_, rfl⟩
  replace H : ((some (([(⟨(⟨#[97]⟩ : ByteArray), 1, y159⟩ : S55), (⟨(⟨#[98]⟩ : ByteArray), 1, y162⟩ : S55), (⟨(⟨#[100]⟩ : ByteArray), 3, (([(⟨(⟨#[104]⟩ : ByteArray), 1⟩ : S61), (⟨(⟨#[112]⟩ : ByteArray), 2⟩ : S61), (⟨(⟨#[113]⟩ : ByteArray), 2⟩ : S61)] : List (S61)))⟩ : S55)] : List (S55)) : List (S55))).bind fun y168 => ((some (([(⟨(⟨(⟨#[100]⟩ : ByteArray), (⟨#[112]⟩ : ByteArray)⟩ : S45), (⟨(⟨#[97]⟩ : ByteArray), (⟨#[120]⟩ : ByteArray)⟩ : S45), 40⟩ : S47), (⟨(⟨(⟨#[100]⟩ : ByteArray), (⟨#[112]⟩ : ByteArray)⟩ : S45), (⟨(⟨#[98]⟩ : ByteArray), (⟨#[120]⟩ : ByteArray)⟩ : S45), 60⟩ : S47), (⟨(⟨(⟨#[100]⟩ : ByteArray), (⟨#[113]⟩ : ByteArray)⟩ : S45), (⟨(⟨#[97]⟩ : ByteArray), (⟨#[120]⟩ : ByteArray)⟩ : S45), 60⟩ : S47)] : List (S47)) : List (S47))).bind fun y175 => ((port_Plan.f k y175 y168 (⟨#[100]⟩ : ByteArray) (([(⟨(⟨(⟨#[100]⟩ : ByteArray), (⟨#[113]⟩ : ByteArray)⟩ : S45), 0, 0, 70⟩ : S62), (⟨(⟨(⟨#[100]⟩ : ByteArray), (⟨#[112]⟩ : ByteArray)⟩ : S45), 0, 0, 50⟩ : S62)] : List (S62)))).bind fun bt181 => (if (bt181.1.length : Int) = 1 then (if 0 < (bt181.1.length : Int) then (if 1 < (y175.length : Int) then (if (((((rd_T47 bt181.1 0).f0.f0).toList) == (((rd_T47 y175 1).f0.f0).toList) && ((((rd_T47 bt181.1 0).f0.f1).toList) == (((rd_T47 y175 1).f0.f1).toList))) && (((((rd_T47 bt181.1 0).f1.f0).toList) == (((rd_T47 y175 1).f1.f0).toList) && ((((rd_T47 bt181.1 0).f1.f1).toList) == (((rd_T47 y175 1).f1.f1).toList))) && (((rd_T47 bt181.1 0).f2) == ((rd_T47 y175 1).f2)))) = true then (if (bt181.2.1.length : Int) = 1 then (if 0 < (bt181.2.1.length : Int) then (if ((((rd_T45 bt181.2.1 0).f0).toList) == ([100] : List UInt8) && ((((rd_T45 bt181.2.1 0).f1).toList) == ([113] : List UInt8))) = true then (if bt181.2.2 = 0 then ((port_Clients.f k y168 (⟨#[100]⟩ : ByteArray)).bind fun t191 => ((contangoref11_SameAccs.f k t191 (([(⟨(⟨#[100]⟩ : ByteArray), (⟨#[112]⟩ : ByteArray)⟩ : S45), (⟨(⟨#[100]⟩ : ByteArray), (⟨#[113]⟩ : ByteArray)⟩ : S45)] : List (S45)))).bind fun t197 => (some t197))) else (some false)) else (some false)) else (none)) else (some false)) else (some false)) else (none)) else (none)) else (some false))))) = some r := by first | (rw [hy162]; with_reducible exact H) | (have H2_ := (Option.bind_some _ _).symm.trans H; rw [hy162]; with_reducible exact H2_) | (have H2_ := (Option.bind_some _ _).symm.trans H; with_reducible exact H2_) | with_reducible exact H | (rw [hy162]; exact H) | exact H
  have Ny162 := Aside0.mk hy162
  clear hy162
  obtain ⟨y165, hy165⟩ : ∃ y_ : List (S61), y_ = (([(⟨(⟨#[104]⟩ : ByteArray), 1⟩ : S61), (⟨(⟨#[112]⟩ : ByteArray), 2⟩ : S61), (⟨(⟨#[113]⟩ : ByteArray), 2⟩ : S61)] : List (S61))) := ⟨_, rfl⟩
  replace H : ((some (([(⟨(⟨#[97]⟩ : ByteArray), 1, y159⟩ : S55), (⟨(⟨#[98]⟩ : ByteArray), 1, y162⟩ : S55), (⟨(⟨#[100]⟩ : ByteArray), 3, y165⟩ : S55)] : List (S55)) : List (S55))).bind fun y168 => ((some (([(⟨(⟨(⟨#[100]⟩ : ByteArray), (⟨#[112]⟩ : ByteArray)⟩ : S45), (⟨(⟨#[97]⟩ : ByteArray), (⟨#[120]⟩ : ByteArray)⟩ : S45), 40⟩ : S47), (⟨(⟨(⟨#[100]⟩ : ByteArray), (⟨#[112]⟩ : ByteArray)⟩ : S45), (⟨(⟨#[98]⟩ : ByteArray), (⟨#[120]⟩ : ByteArray)⟩ : S45), 60⟩ : S47), (⟨(⟨(⟨#[100]⟩ : ByteArray), (⟨#[113]⟩ : ByteArray)⟩ : S45), (⟨(⟨#[97]⟩ : ByteArray), (⟨#[120]⟩ : ByteArray)⟩ : S45), 60⟩ : S47)] : List (S47)) : List (S47))).bind fun y175 => ((port_Plan.f k y175 y168 (⟨#[100]⟩ : ByteArray) (([(⟨(⟨(⟨#[100]⟩ : ByteArray), (⟨#[113]⟩ : ByteArray)⟩ : S45), 0, 0, 70⟩ : S62), (⟨(⟨(⟨#[100]⟩ : ByteArray), (⟨#[112]⟩ : ByteArray)⟩ : S45), 0, 0, 50⟩ : S62)] : List (S62)))).bind fun bt181 => (if (bt181.1.length : Int) = 1 then (if 0 < (bt181.1.length : Int) then (if 1 < (y175.length : Int) then (if (((((rd_T47 bt181.1 0).f0.f0).toList) == (((rd_T47 y175 1).f0.f0).toList) && ((((rd_T47 bt181.1 0).f0.f1).toList) == (((rd_T47 y175 1).f0.f1).toList))) && (((((rd_T47 bt181.1 0).f1.f0).toList) == (((rd_T47 y175 1).f1.f0).toList) && ((((rd_T47 bt181.1 0).f1.f1).toList) == (((rd_T47 y175 1).f1.f1).toList))) && (((rd_T47 bt181.1 0).f2) == ((rd_T47 y175 1).f2)))) = true then (if (bt181.2.1.length : Int) = 1 then (if 0 < (bt181.2.1.length : Int) then (if ((((rd_T45 bt181.2.1 0).f0).toList) == ([100] : List UInt8) && ((((rd_T45 bt181.2.1 0).f1).toList) == ([113] : List UInt8))) = true then (if bt181.2.2 = 0 then ((port_Clients.f k y168 (⟨#[100]⟩ : ByteArray)).bind fun t191 => ((contangoref11_SameAccs.f k t191 (([(⟨(⟨#[100]⟩ : ByteArray), (⟨#[112]⟩ : ByteArray)⟩ : S45), (⟨(⟨#[100]⟩ : ByteArray), (⟨#[113]⟩ : ByteArray)⟩ : S45)] : List (S45)))).bind fun t197 => (some t197))) else (some false)) else (some false)) else (none)) else (some false)) else (some false)) else (none)) else (none)) else (some false))))) = some r := by first | (rw [hy165]; with_reducible exact H) | (have H2_ := (Option.bind_some _ _).symm.trans H; rw [hy165]; with_reducible exact H2_) | (have H2_ := (Option.bind_some _ _).symm.trans H; with_reducible exact H2_) | with_reducible exact H | (rw [hy165]; exact H) | exact H
  have Ny165 := Aside0.mk hy165
  clear hy165
  obtain ⟨y168, hy168⟩ : ∃ y_ : List (S55), y_ = (([(⟨(⟨#[97]⟩ : ByteArray), 1, y159⟩ : S55), (⟨(⟨#[98]⟩ : ByteArray), 1, y162⟩ : S55), (⟨(⟨#[100]⟩ : ByteArray), 3, y165⟩ : S55)] : List (S55))) := ⟨_, rfl⟩
  replace H : ((some (([(⟨(⟨(⟨#[100]⟩ : ByteArray), (⟨#[112]⟩ : ByteArray)⟩ : S45), (⟨(⟨#[97]⟩ : ByteArray), (⟨#[120]⟩ : ByteArray)⟩ : S45), 40⟩ : S47), (⟨(⟨(⟨#[100]⟩ : ByteArray), (⟨#[112]⟩ : ByteArray)⟩ : S45), (⟨(⟨#[98]⟩ : ByteArray), (⟨#[120]⟩ : ByteArray)⟩ : S45), 60⟩ : S47), (⟨(⟨(⟨#[100]⟩ : ByteArray), (⟨#[113]⟩ : ByteArray)⟩ : S45), (⟨(⟨#[97]⟩ : ByteArray), (⟨#[120]⟩ : ByteArray)⟩ : S45), 60⟩ : S47)] : List (S47)) : List (S47))).bind fun y175 => ((port_Plan.f k y175 y168 (⟨#[100]⟩ : ByteArray) (([(⟨(⟨(⟨#[100]⟩ : ByteArray), (⟨#[113]⟩ : ByteArray)⟩ : S45), 0, 0, 70⟩ : S62), (⟨(⟨(⟨#[100]⟩ : ByteArray), (⟨#[112]⟩ : ByteArray)⟩ : S45), 0, 0, 50⟩ : S62)] : List (S62)))).bind fun bt181 => (if (bt181.1.length : Int) = 1 then (if 0 < (bt181.1.length : Int) then (if 1 < (y175.length : Int) then (if (((((rd_T47 bt181.1 0).f0.f0).toList) == (((rd_T47 y175 1).f0.f0).toList) && ((((rd_T47 bt181.1 0).f0.f1).toList) == (((rd_T47 y175 1).f0.f1).toList))) && (((((rd_T47 bt181.1 0).f1.f0).toList) == (((rd_T47 y175 1).f1.f0).toList) && ((((rd_T47 bt181.1 0).f1.f1).toList) == (((rd_T47 y175 1).f1.f1).toList))) && (((rd_T47 bt181.1 0).f2) == ((rd_T47 y175 1).f2)))) = true then (if (bt181.2.1.length : Int) = 1 then (if 0 < (bt181.2.1.length : Int) then (if ((((rd_T45 bt181.2.1 0).f0).toList) == ([100] : List UInt8) && ((((rd_T45 bt181.2.1 0).f1).toList) == ([113] : List UInt8))) = true then (if bt181.2.2 = 0 then ((port_Clients.f k y168 (⟨#[100]⟩ : ByteArray)).bind fun t191 => ((contangoref11_SameAccs.f k t191 (([(⟨(⟨#[100]⟩ : ByteArray), (⟨#[112]⟩ : ByteArray)⟩ : S45), (⟨(⟨#[100]⟩ : ByteArray), (⟨#[113]⟩ : ByteArray)⟩ : S45)] : List (S45)))).bind fun t197 => (some t197))) else (some false)) else (some false)) else (none)) else (some false)) else (some false)) else (none)) else (none)) else (some false)))) = some r := by first | (rw [hy168]; with_reducible exact H) | (have H2_ := (Option.bind_some _ _).symm.trans H; rw [hy168]; with_reducible exact H2_) | (have H2_ := (Option.bind_some _ _).symm.trans H; with_reducible exact H2_) | with_reducible exact H | (rw [hy168]; exact H) | exact H
  have Ny168 := Aside0.mk hy168
  clear hy168
  obtain ⟨y175, hy175⟩ : ∃ y_ : List (S47), y_ = (([(⟨(⟨(⟨#[100]⟩ : ByteArray), (⟨#[112]⟩ : ByteArray)⟩ : S45), (⟨(⟨#[97]⟩ : ByteArray), (⟨#[120]⟩ : ByteArray)⟩ : S45), 40⟩ : S47), (⟨(⟨(⟨#[100]⟩ : ByteArray), (⟨#[112]⟩ : ByteArray)⟩ : S45), (⟨(⟨#[98]⟩ : ByteArray), (⟨#[120]⟩ : ByteArray)⟩ : S45), 60⟩ : S47), (⟨(⟨(⟨#[100]⟩ : ByteArray), (⟨#[113]⟩ : ByteArray)⟩ : S45), (⟨(⟨#[97]⟩ : ByteArray), (⟨#[120]⟩ : ByteArray)⟩ : S45), 60⟩ : S47)] : List (S47))) := ⟨_, rfl⟩
  replace H : ((port_Plan.f k y175 y168 (⟨#[100]⟩ : ByteArray) (([(⟨(⟨(⟨#[100]⟩ : ByteArray), (⟨#[113]⟩ : ByteArray)⟩ : S45), 0, 0, 70⟩ : S62), (⟨(⟨(⟨#[100]⟩ : ByteArray), (⟨#[112]⟩ : ByteArray)⟩ : S45), 0, 0, 50⟩ : S62)] : List (S62)))).bind fun bt181 => (if (bt181.1.length : Int) = 1 then (if 0 < (bt181.1.length : Int) then (if 1 < (y175.length : Int) then (if (((((rd_T47 bt181.1 0).f0.f0).toList) == (((rd_T47 y175 1).f0.f0).toList) && ((((rd_T47 bt181.1 0).f0.f1).toList) == (((rd_T47 y175 1).f0.f1).toList))) && (((((rd_T47 bt181.1 0).f1.f0).toList) == (((rd_T47 y175 1).f1.f0).toList) && ((((rd_T47 bt181.1 0).f1.f1).toList) == (((rd_T47 y175 1).f1.f1).toList))) && (((rd_T47 bt181.1 0).f2) == ((rd_T47 y175 1).f2)))) = true then (if (bt181.2.1.length : Int) = 1 then (if 0 < (bt181.2.1.length : Int) then (if ((((rd_T45 bt181.2.1 0).f0).toList) == ([100] : List UInt8) && ((((rd_T45 bt181.2.1 0).f1).toList) == ([113] : List UInt8))) = true then (if bt181.2.2 = 0 then ((port_Clients.f k y168 (⟨#[100]⟩ : ByteArray)).bind fun t191 => ((contangoref11_SameAccs.f k t191 (([(⟨(⟨#[100]⟩ : ByteArray), (⟨#[112]⟩ : ByteArray)⟩ : S45), (⟨(⟨#[100]⟩ : ByteArray), (⟨#[113]⟩ : ByteArray)⟩ : S45)] : List (S45)))).bind fun t197 => (some t197))) else (some false)) else (some false)) else (none)) else (some false)) else (some false)) else (none)) else (none)) else (some false))) = some r := by first | (rw [hy175]; with_reducible exact H) | (have H2_ := (Option.bind_some _ _).symm.trans H; rw [hy175]; with_reducible exact H2_) | (have H2_ := (Option.bind_some _ _).symm.trans H; with_reducible exact H2_) | with_reducible exact H | (rw [hy175]; exact H) | exact H
  have Ny175 := Aside0.mk hy175
  clear hy175
  obtain ⟨y178, hy178⟩ : ∃ y_ : List (S62), y_ = (([(⟨(⟨(⟨#[100]⟩ : ByteArray), (⟨#[113]⟩ : ByteArray)⟩ : S45), 0, 0, 70⟩ : S62), (⟨(⟨(⟨#[100]⟩ : ByteArray), (⟨#[112]⟩ : ByteArray)⟩ : S45), 0, 0, 50⟩ : S62)] : List (S62))) := ⟨_, rfl⟩
  replace H : ((port_Plan.f k y175 y168 (⟨#[100]⟩ : ByteArray) y178).bind fun bt181 => (if (bt181.1.length : Int) = 1 then (if 0 < (bt181.1.length : Int) then (if 1 < (y175.length : Int) then (if (((((rd_T47 bt181.1 0).f0.f0).toList) == (((rd_T47 y175 1).f0.f0).toList) && ((((rd_T47 bt181.1 0).f0.f1).toList) == (((rd_T47 y175 1).f0.f1).toList))) && (((((rd_T47 bt181.1 0).f1.f0).toList) == (((rd_T47 y175 1).f1.f0).toList) && ((((rd_T47 bt181.1 0).f1.f1).toList) == (((rd_T47 y175 1).f1.f1).toList))) && (((rd_T47 bt181.1 0).f2) == ((rd_T47 y175 1).f2)))) = true then (if (bt181.2.1.length : Int) = 1 then (if 0 < (bt181.2.1.length : Int) then (if ((((rd_T45 bt181.2.1 0).f0).toList) == ([100] : List UInt8) && ((((rd_T45 bt181.2.1 0).f1).toList) == ([113] : List UInt8))) = true then (if bt181.2.2 = 0 then ((port_Clients.f k y168 (⟨#[100]⟩ : ByteArray)).bind fun t191 => ((contangoref11_SameAccs.f k t191 (([(⟨(⟨#[100]⟩ : ByteArray), (⟨#[112]⟩ : ByteArray)⟩ : S45), (⟨(⟨#[100]⟩ : ByteArray), (⟨#[113]⟩ : ByteArray)⟩ : S45)] : List (S45)))).bind fun t197 => (some t197))) else (some false)) else (some false)) else (none)) else (some false)) else (some false)) else (none)) else (none)) else (some false))) = some r := by first | (rw [hy178]; with_reducible exact H) | (have H2_ := (Option.bind_some _ _).symm.trans H; rw [hy178]; with_reducible exact H2_) | (have H2_ := (Option.bind_some _ _).symm.trans H; with_reducible exact H2_) | with_reducible exact H | (rw [hy178]; exact H) | exact H
  have Ny178 := Aside0.mk hy178
  clear hy178
  replace H := Option.bind_eq_some_iff.mp H
  obtain ⟨⟨t181, t182, t183⟩, A10, H⟩ := H
  replace H : (if (t181.length : Int) = 1 then (if 0 < (t181.length : Int) then (if 1 < (y175.length : Int) then (if (((((rd_T47 t181 0).f0.f0).toList) == (((rd_T47 y175 1).f0.f0).toList) && ((((rd_T47 t181 0).f0.f1).toList) == (((rd_T47 y175 1).f0.f1).toList))) && (((((rd_T47 t181 0).f1.f0).toList) == (((rd_T47 y175 1).f1.f0).toList) && ((((rd_T47 t181 0).f1.f1).toList) == (((rd_T47 y175 1).f1.f1).toList))) && (((rd_T47 t181 0).f2) == ((rd_T47 y175 1).f2)))) = true then (if (t182.length : Int) = 1 then (if 0 < (t182.length : Int) then (if ((((rd_T45 t182 0).f0).toList) == ([100] : List UInt8) && ((((rd_T45 t182 0).f1).toList) == ([113] : List UInt8))) = true then (if t183 = 0 then ((port_Clients.f k y168 (⟨#[100]⟩ : ByteArray)).bind fun t191 => ((contangoref11_SameAccs.f k t191 (([(⟨(⟨#[100]⟩ : ByteArray), (⟨#[112]⟩ : ByteArray)⟩ : S45), (⟨(⟨#[100]⟩ : ByteArray), (⟨#[113]⟩ : ByteArray)⟩ : S45)] : List (S45)))).bind fun t197 => (some t197))) else (some false)) else (some false)) else (none)) else (some false)) else (some false)) else (none)) else (none)) else (some false)) = some r := H
  have A1 := Aside0.mk A10
  clear A10
  by_cases c2 : (t181.length : Int) = 1
  · rw [if_pos c2] at H
    have c2b0 : ((t181.length : Int) == 1) = true := beq_iff_eq.mpr c2
    have c2b1 : ((t181.length : Int) != 1) = false := bne_eq_false_iff_eq.mpr c2
    clear c2
    by_cases c3 : 0 < (t181.length : Int)
    · rw [if_pos c3] at H
      have c3b0 : decide (0 < (t181.length : Int)) = true := decide_eq_true c3
      have c3b1 : decide (0 < t181.length) = true := decide_eq_true (by omega)
      clear c3
      by_cases c4 : 1 < (y175.length : Int)
      · rw [if_pos c4] at H
        have c4b0 : decide (1 < (y175.length : Int)) = true := decide_eq_true c4
        have c4b1 : decide (1 < y175.length) = true := decide_eq_true (by omega)
        clear c4
        by_cases c5 : (((((rd_T47 t181 0).f0.f0).toList) == (((rd_T47 y175 1).f0.f0).toList) && ((((rd_T47 t181 0).f0.f1).toList) == (((rd_T47 y175 1).f0.f1).toList))) && (((((rd_T47 t181 0).f1.f0).toList) == (((rd_T47 y175 1).f1.f0).toList) && ((((rd_T47 t181 0).f1.f1).toList) == (((rd_T47 y175 1).f1.f1).toList))) && (((rd_T47 t181 0).f2) == ((rd_T47 y175 1).f2)))) = true
        · rw [if_pos c5] at H
          have c5b0 : (((((rd_T47 t181 0).f0.f0).toList) == (((rd_T47 y175 1).f0.f0).toList) && ((((rd_T47 t181 0).f0.f1).toList) == (((rd_T47 y175 1).f0.f1).toList))) && (((((rd_T47 t181 0).f1.f0).toList) == (((rd_T47 y175 1).f1.f0).toList) && ((((rd_T47 t181 0).f1.f1).toList) == (((rd_T47 y175 1).f1.f1).toList))) && (((rd_T47 t181 0).f2) == ((rd_T47 y175 1).f2)))) = true := c5
          clear c5
          by_cases c6 : (t182.length : Int) = 1
          · rw [if_pos c6] at H
            have c6b0 : ((t182.length : Int) == 1) = true := beq_iff_eq.mpr c6
            have c6b1 : ((t182.length : Int) != 1) = false := bne_eq_false_iff_eq.mpr c6
            clear c6
            by_cases c7 : 0 < (t182.length : Int)
            · rw [if_pos c7] at H
              have c7b0 : decide (0 < (t182.length : Int)) = true := decide_eq_true c7
              have c7b1 : decide (0 < t182.length) = true := decide_eq_true (by omega)
              clear c7
              by_cases c8 : ((((rd_T45 t182 0).f0).toList) == ([100] : List UInt8) && ((((rd_T45 t182 0).f1).toList) == ([113] : List UInt8))) = true
              · rw [if_pos c8] at H
                have c8b0 : ((((rd_T45 t182 0).f0).toList) == ([100] : List UInt8) && ((((rd_T45 t182 0).f1).toList) == ([113] : List UInt8))) = true := c8
                (try (have c8b1 : decide ((((rd_T45 t182 0).f0).toList) = ([100] : List UInt8) && ((((rd_T45 t182 0).f1).toList) == ([113] : List UInt8))) = true := by simpa using c8))
                (try (have c8b2 : ((((rd_T45 t182 0).f0).toList) == ([100] : List UInt8) && ((((rd_T45 t182 0).f1).toList) == ([113] : List UInt8))) = true := by simpa using c8))
                clear c8
                by_cases c9 : t183 = 0
                · rw [if_pos c9] at H
                  have c9b0 : (t183 == 0) = true := beq_iff_eq.mpr c9
                  have c9b1 : (t183 != 0) = false := bne_eq_false_iff_eq.mpr c9
                  clear c9
                  replace H := Option.bind_eq_some_iff.mp H
                  obtain ⟨t191, A100, H⟩ := H
                  replace H : ((contangoref11_SameAccs.f k t191 (([(⟨(⟨#[100]⟩ : ByteArray), (⟨#[112]⟩ : ByteArray)⟩ : S45), (⟨(⟨#[100]⟩ : ByteArray), (⟨#[113]⟩ : ByteArray)⟩ : S45)] : List (S45)))).bind fun t197 => (some t197)) = some r := H
                  have A10 := Aside0.mk A100
                  clear A100
                  obtain ⟨y194, hy194⟩ : ∃ y_ : List (S45), y_ = (([(⟨(⟨#[100]⟩ : ByteArray), (⟨#[112]⟩ : ByteArray)⟩ : S45), (⟨(⟨#[100]⟩ : ByteArray), (⟨#[113]⟩ : ByteArray)⟩ : S45)] : List (S45))) := ⟨_, rfl⟩
                  replace H : ((contangoref11_SameAccs.f k t191 y194).bind fun t197 => (some t197)) = some r := by first | (rw [hy194]; with_reducible exact H) | (have H2_ := (Option.bind_some _ _).symm.trans H; rw [hy194]; with_reducible exact H2_) | (have H2_ := (Option.bind_some _ _).symm.trans H; with_reducible exact H2_) | with_reducible exact H | (rw [hy194]; exact H) | exact H
                  have Ny194 := Aside0.mk hy194
                  clear hy194
                  replace H := Option.bind_eq_some_iff.mp H
                  obtain ⟨t197, A110, H⟩ := H
                  replace H : (some t197) = some r := H
                  have A11 := Aside0.mk A110
                  clear A110
                  obtain rfl := Option.some.inj H
                  go_enter Try.func8, Try.ntmps8
                  try go_wp2_with (first | ((with_reducible refine gate_dst (N := 11) rfl ?_); (try (refine gate_guard (by rfl) ?_; dsimp only)); refine Kd.R_lit k61 _ 61 ?hg (N := 11) ?hd (xs := ([(⟨(⟨#[120]⟩ : ByteArray), 2⟩ : S61)] : List (S61))) (inner := [.string (⟨#[120]⟩ : ByteArray), .int .i64 2]) (ok := fun _ => True) (okp := fun _ => True) ?hr ?hp (fun _ hk => hk) trivial (Below.refl _ _) (Nat.le_refl _) (by simp) ?_; (case hd => rfl); (case hg => rfl); (case hr => first | (go_simp; done) | (go_simp; rfl)); (case hp => exact (Reps.c2 (show Kd.M k61 _ _ _ (⟨(⟨#[120]⟩ : ByteArray), 2⟩ : S61) [.string (⟨#[120]⟩ : ByteArray), .int .i64 2] from (k61_mkM _ _ _ (⟨(⟨#[120]⟩ : ByteArray), 2⟩ : S61) )) (Reps.none _ _))); intro v160 w12 ho13 hb hg_ hnew_; clear hg_ hnew_; (first | rw [← Ny159.out] at ho13 | (simp only [Int.reduceToNat] at ho13; rw [← Ny159.out] at ho13)); have n0_ := Aside0.mk (Kd.R_lower ho13 (below_size (by repeat (first | (with_reducible first | exact HB.out | apply below_alloc | apply pw_below_drewN | apply below_drew1) | exact HB.out)))); have n1_ := Aside0.mk (below_step (by repeat (first | (with_reducible first | exact HB.out | apply below_alloc | apply pw_below_drewN | apply below_drew1) | exact HB.out)) hb); clear HB; have HO161 := n0_; have HB := n1_; clear n0_ n1_; clear hb ho13; obtain ⟨Ao14, co14, eo14⟩ := Kd.R_slice HO161.out; subst eo14) | ((with_reducible refine gate_dst (N := 14) rfl ?_); (try (refine gate_guard (by rfl) ?_; dsimp only)); refine Kd.R_lit k61 _ 61 ?hg (N := 14) ?hd (xs := ([(⟨(⟨#[120]⟩ : ByteArray), 2⟩ : S61)] : List (S61))) (inner := [.string (⟨#[120]⟩ : ByteArray), .int .i64 2]) (ok := fun _ => True) (okp := fun _ => True) ?hr ?hp (fun _ hk => hk) trivial (Below.refl _ _) (Nat.le_refl _) (by simp) ?_; (case hd => rfl); (case hg => rfl); (case hr => first | (go_simp; done) | (go_simp; rfl)); (case hp => exact (Reps.c2 (show Kd.M k61 _ _ _ (⟨(⟨#[120]⟩ : ByteArray), 2⟩ : S61) [.string (⟨#[120]⟩ : ByteArray), .int .i64 2] from (k61_mkM _ _ _ (⟨(⟨#[120]⟩ : ByteArray), 2⟩ : S61) )) (Reps.none _ _))); intro v163 w15 ho16 hb hg_ hnew_; clear hg_ hnew_; (first | rw [← Ny162.out] at ho16 | (simp only [Int.reduceToNat] at ho16; rw [← Ny162.out] at ho16)); have n0_ := Aside0.mk (Kd.R_elder' (by (with_reducible repeat (first | apply Kd.R_alloc | apply Kd.R_drewN | apply Kd.R_drew)); exact HO161.out) (Kd.R_base ho16) hb); have n1_ := Aside0.mk (Kd.R_lower (Kd.R_new' ho16 (Kd.R_lt (by (with_reducible repeat (first | apply Kd.R_alloc | apply Kd.R_drewN | apply Kd.R_drew)); exact HO161.out))) (below_size (by repeat (first | (with_reducible first | exact HB.out | apply below_alloc | apply pw_below_drewN | apply below_drew1) | exact HB.out)))); have n2_ := Aside0.mk (below_step (by repeat (first | (with_reducible first | exact HB.out | apply below_alloc | apply pw_below_drewN | apply below_drew1) | exact HB.out)) hb); clear HO161; clear HB; have HO161 := n0_; have HO164 := n1_; have HB := n2_; clear n0_ n1_ n2_; clear hb ho16; obtain ⟨Ao17, co17, eo17⟩ := Kd.R_slice HO164.out; subst eo17) | ((with_reducible refine gate_dst (N := 19) rfl ?_); (try (refine gate_guard (by rfl) ?_; dsimp only)); refine Kd.R_lit k61 _ 61 ?hg (N := 19) ?hd (xs := ([(⟨(⟨#[104]⟩ : ByteArray), 1⟩ : S61), (⟨(⟨#[112]⟩ : ByteArray), 2⟩ : S61), (⟨(⟨#[113]⟩ : ByteArray), 2⟩ : S61)] : List (S61))) (inner := [.string (⟨#[104]⟩ : ByteArray), .int .i64 1, .string (⟨#[112]⟩ : ByteArray), .int .i64 2, .string (⟨#[113]⟩ : ByteArray), .int .i64 2]) (ok := fun _ => True) (okp := fun _ => True) ?hr ?hp (fun _ hk => hk) trivial (Below.refl _ _) (Nat.le_refl _) (by simp) ?_; (case hd => rfl); (case hg => rfl); (case hr => first | (go_simp; done) | (go_simp; rfl)); (case hp => exact (Reps.c2 (show Kd.M k61 _ _ _ (⟨(⟨#[104]⟩ : ByteArray), 1⟩ : S61) [.string (⟨#[104]⟩ : ByteArray), .int .i64 1] from (k61_mkM _ _ _ (⟨(⟨#[104]⟩ : ByteArray), 1⟩ : S61) )) (Reps.c2 (show Kd.M k61 _ _ _ (⟨(⟨#[112]⟩ : ByteArray), 2⟩ : S61) [.string (⟨#[112]⟩ : ByteArray), .int .i64 2] from (k61_mkM _ _ _ (⟨(⟨#[112]⟩ : ByteArray), 2⟩ : S61) )) (Reps.c2 (show Kd.M k61 _ _ _ (⟨(⟨#[113]⟩ : ByteArray), 2⟩ : S61) [.string (⟨#[113]⟩ : ByteArray), .int .i64 2] from (k61_mkM _ _ _ (⟨(⟨#[113]⟩ : ByteArray), 2⟩ : S61) )) (Reps.none _ _))))); intro v166 w18 ho19 hb hg_ hnew_; clear hg_ hnew_; (first | rw [← Ny165.out] at ho19 | (simp only [Int.reduceToNat] at ho19; rw [← Ny165.out] at ho19)); have n0_ := Aside0.mk (Kd.R_elder' (by (with_reducible repeat (first | apply Kd.R_alloc | apply Kd.R_drewN | apply Kd.R_drew)); exact HO161.out) (Kd.R_base ho19) hb); have n1_ := Aside0.mk (Kd.R_elder' (by (with_reducible repeat (first | apply Kd.R_alloc | apply Kd.R_drewN | apply Kd.R_drew)); exact HO164.out) (Kd.R_base ho19) hb); have n2_ := Aside0.mk (Kd.R_lower (Kd.R_new' (Kd.R_new' ho19 (Kd.R_lt (by (with_reducible repeat (first | apply Kd.R_alloc | apply Kd.R_drewN | apply Kd.R_drew)); exact HO161.out))) (Kd.R_lt (by (with_reducible repeat (first | apply Kd.R_alloc | apply Kd.R_drewN | apply Kd.R_drew)); exact HO164.out))) (below_size (by repeat (first | (with_reducible first | exact HB.out | apply below_alloc | apply pw_below_drewN | apply below_drew1) | exact HB.out)))); have n3_ := Aside0.mk (below_step (by repeat (first | (with_reducible first | exact HB.out | apply below_alloc | apply pw_below_drewN | apply below_drew1) | exact HB.out)) hb); clear HO161; clear HO164; clear HB; have HO161 := n0_; have HO164 := n1_; have HO167 := n2_; have HB := n3_; clear n0_ n1_ n2_ n3_; clear hb ho19; obtain ⟨Ao20, co20, eo20⟩ := Kd.R_slice HO167.out; subst eo20) | ((with_reducible refine gate_dst (N := 21) rfl ?_); (try (refine gate_guard (by rfl) ?_; dsimp only)); refine Kd.N_lit k55 _ 55 ?hg (N' := 21) ?hd (xs := ([(⟨(⟨#[97]⟩ : ByteArray), 1, y159⟩ : S55), (⟨(⟨#[98]⟩ : ByteArray), 1, y162⟩ : S55), (⟨(⟨#[100]⟩ : ByteArray), 3, y165⟩ : S55)] : List (S55))) (inner := [.string (⟨#[97]⟩ : ByteArray), .int .i64 1, .slice Ao14 y159.length co14, .string (⟨#[98]⟩ : ByteArray), .int .i64 1, .slice Ao17 y162.length co17, .string (⟨#[100]⟩ : ByteArray), .int .i64 3, .slice Ao20 y165.length co20]) (ok := (fun _ => True)) (okp := (fun _ => True)) ?hr ?hp (fun _ hk => hk) ((show ∀ k_, w18.heap.size ≤ k_ → (fun _ => True) k_ from fun k_ hk => trivial) _ (Nat.le_refl _)) (Below.refl _ _) (Nat.le_refl _) (by simp) ?_; (case hd => rfl); (case hg => rfl); (case hr => first | (go_simp; done) | (go_simp; rfl)); (case hp => exact (Reps.c3 (show Kd.FK k55 _ _ (⟨(⟨#[97]⟩ : ByteArray), 1, y159⟩ : S55) [.string (⟨#[97]⟩ : ByteArray), .int .i64 1, .slice Ao14 y159.length co14] from (k55_mkF _ _ (⟨(⟨#[97]⟩ : ByteArray), 1, y159⟩ : S55) (Kd.R_reads' (Kd.R_mono (ok' := (fun _ => True)) (HO161.out) (fun k_ hk => trivial))).2.1 (Kd.R_F (Kd.R_mono (ok' := (fun _ => True)) (HO161.out) (fun k_ hk => trivial))))) (Reps.c3 (show Kd.FK k55 _ _ (⟨(⟨#[98]⟩ : ByteArray), 1, y162⟩ : S55) [.string (⟨#[98]⟩ : ByteArray), .int .i64 1, .slice Ao17 y162.length co17] from (k55_mkF _ _ (⟨(⟨#[98]⟩ : ByteArray), 1, y162⟩ : S55) (Kd.R_reads' (Kd.R_mono (ok' := (fun _ => True)) (HO164.out) (fun k_ hk => trivial))).2.1 (Kd.R_F (Kd.R_mono (ok' := (fun _ => True)) (HO164.out) (fun k_ hk => trivial))))) (Reps.c3 (show Kd.FK k55 _ _ (⟨(⟨#[100]⟩ : ByteArray), 3, y165⟩ : S55) [.string (⟨#[100]⟩ : ByteArray), .int .i64 3, .slice Ao20 y165.length co20] from (k55_mkF _ _ (⟨(⟨#[100]⟩ : ByteArray), 3, y165⟩ : S55) (Kd.R_reads' (Kd.R_mono (ok' := (fun _ => True)) (HO167.out) (fun k_ hk => trivial))).2.1 (Kd.R_F (Kd.R_mono (ok' := (fun _ => True)) (HO167.out) (fun k_ hk => trivial))))) (Reps.none _ _))))); intro v169 w21 ho22 hb hg_ hnew_; clear hg_ hnew_; (first | rw [← Ny168.out] at ho22 | (simp only [Int.reduceToNat] at ho22; rw [← Ny168.out] at ho22)); have n0_ := Aside0.mk (Kd.N_lower ho22 (below_size (by repeat (first | (with_reducible first | exact HB.out | apply below_alloc | apply pw_below_drewN | apply below_drew1) | exact HB.out)))); have n1_ := Aside0.mk (below_step (by repeat (first | (with_reducible first | exact HB.out | apply below_alloc | apply pw_below_drewN | apply below_drew1) | exact HB.out)) hb); clear HB; clear HO161; clear HO164; clear HO167; have HO170 := n0_; have HB := n1_; clear n0_ n1_; clear hb ho22) | ((with_reducible refine gate_dst (N := 2) rfl ?_); (try (refine gate_guard (by rfl) ?_; dsimp only)); refine box_event ?hg (N := 2) ?hd (cs := #[.string (⟨#[]⟩ : ByteArray), .string (⟨#[]⟩ : ByteArray)]) (t := 45) ?hr ?_; (case hd => rfl); (case hg => rfl); (case hr => first | (go_simp; done) | (go_simp; rfl)); intro gb171 hg w23 hbox hb; have n0_ := Aside0.mk (Kd.N_below (Kd.N_elderB (by (with_reducible repeat (first | apply Kd.N_alloc | apply Kd.N_drewN | apply Kd.N_drew)); exact HO170.out) gb171 (Nat.le_of_eq hg.symm)) hb); have n1_ := Aside0.mk (below_step (by repeat (first | (with_reducible first | exact HB.out | apply below_alloc | apply pw_below_drewN | apply below_drew1) | exact HB.out)) hb); have n2_ := Aside0.mk (hbox); have n3_ := Aside0.mk ((by rw [hg]; exact (below_size (by repeat (first | (with_reducible first | exact HB.out | apply below_alloc | apply pw_below_drewN | apply below_drew1) | exact HB.out))) : w.heap.size ≤ gb171)); have n4_ := Aside0.mk ((by rw [hg]; exact (below_size (by repeat (first | (with_reducible first | exact HB.out | apply below_alloc | apply pw_below_drewN | apply below_drew1) | exact HB.out))) : w.heap.size ≤ gb171)); clear HO170; clear HB; have HO170 := n0_; have HB := n1_; have BK171 := n2_; have GW171 := n3_; have GE171 := n4_; clear n0_ n1_ n2_ n3_ n4_; clear hb hbox hg) | ((with_reducible refine gate_dst (N := 3) rfl ?_); (try (refine gate_guard (by rfl) ?_; dsimp only)); refine box_event ?hg (N := 3) ?hd (cs := #[.string (⟨#[]⟩ : ByteArray), .string (⟨#[]⟩ : ByteArray)]) (t := 45) ?hr ?_; (case hd => rfl); (case hg => rfl); (case hr => first | (go_simp; done) | (go_simp; rfl)); intro gb172 hg w24 hbox hb; have n0_ := Aside0.mk (Kd.N_below (Kd.N_elderB (by (with_reducible repeat (first | apply Kd.N_alloc | apply Kd.N_drewN | apply Kd.N_drew)); exact HO170.out) gb172 (Nat.le_of_eq hg.symm)) hb); have n1_ := Aside0.mk (blk_below (g := gb171) (o := .cells #[.string (⟨#[]⟩ : ByteArray), .string (⟨#[]⟩ : ByteArray)] 45 (0, 0)) (by (with_reducible repeat (first | refine blk_drewN ?_ _ | refine blk_drew ?_ | refine blk_alloc ?_ _)); exact BK171.out) hb); have n2_ := Aside0.mk (below_step (by repeat (first | (with_reducible first | exact HB.out | apply below_alloc | apply pw_below_drewN | apply below_drew1 | refine below_set ?_ GE171.out) | exact HB.out)) hb); have n3_ := Aside0.mk (hbox); have n4_ := Aside0.mk ((by rw [hg]; exact (below_size (by repeat (first | (with_reducible first | exact HB.out | apply below_alloc | apply pw_below_drewN | apply below_drew1 | refine below_set ?_ GE171.out) | exact HB.out))) : w.heap.size ≤ gb172)); have n5_ := Aside0.mk ((by rw [hg]; exact (below_size (by repeat (first | (with_reducible first | exact HB.out | apply below_alloc | apply pw_below_drewN | apply below_drew1 | refine below_set ?_ GE171.out) | exact HB.out))) : w.heap.size ≤ gb172)); have n6_ := Aside0.mk ((by rw [hg]; exact Nat.ne_of_lt (blk_lt (g := gb171) (o := .cells #[.string (⟨#[]⟩ : ByteArray), .string (⟨#[]⟩ : ByteArray)] 45 (0, 0)) (by (with_reducible repeat (first | refine blk_drewN ?_ _ | refine blk_drew ?_ | refine blk_alloc ?_ _)); exact BK171.out)) : gb171 ≠ gb172)); have n7_ := Aside0.mk ((by rw [hg]; exact Nat.ne_of_gt (blk_lt (g := gb171) (o := .cells #[.string (⟨#[]⟩ : ByteArray), .string (⟨#[]⟩ : ByteArray)] 45 (0, 0)) (by (with_reducible repeat (first | refine blk_drewN ?_ _ | refine blk_drew ?_ | refine blk_alloc ?_ _)); exact BK171.out)) : gb172 ≠ gb171)); clear HO170; clear BK171; clear HB; have HO170 := n0_; have BK171 := n1_; have HB := n2_; have BK172 := n3_; have GW172 := n4_; have GE172 := n5_; have NB171_172 := n6_; have NB172_171 := n7_; clear n0_ n1_ n2_ n3_ n4_ n5_ n6_ n7_; clear hb hbox hg; have hnb25 := NB171_172.out; have hnc25 := NB172_171.out; have hcz26_0 : w24.cell? ⟨gb171, 0, none⟩ = some (.string (⟨#[]⟩ : ByteArray)) := (blk_cell BK171.out 0).trans rfl; have hcz26_1 : w24.cell? ⟨gb171, 1, none⟩ = some (.string (⟨#[]⟩ : ByteArray)) := (blk_cell BK171.out 1).trans rfl; have hfz26_0 := blk_frozen BK171.out 0; have hfz26_1 := blk_frozen BK171.out 1; have hcz27_0 : w24.cell? ⟨gb172, 0, none⟩ = some (.string (⟨#[]⟩ : ByteArray)) := (blk_cell BK172.out 0).trans rfl; have hcz27_1 : w24.cell? ⟨gb172, 1, none⟩ = some (.string (⟨#[]⟩ : ByteArray)) := (blk_cell BK172.out 1).trans rfl; have hfz27_0 := blk_frozen BK172.out 0; have hfz27_1 := blk_frozen BK172.out 1) | ((with_reducible refine gate_dst (N := 4) rfl ?_); (try (refine gate_guard (by rfl) ?_; dsimp only)); refine box_event ?hg (N := 4) ?hd (cs := #[.string (⟨#[]⟩ : ByteArray), .string (⟨#[]⟩ : ByteArray)]) (t := 45) ?hr ?_; (case hd => rfl); (case hg => rfl); (case hr => first | (go_simp; done) | (go_simp; rfl)); intro gb173 hg w28 hbox hb; have n0_ := Aside0.mk (Kd.N_below (Kd.N_elderB (by (with_reducible repeat (first | apply Kd.N_alloc | apply Kd.N_drewN | apply Kd.N_drew)); exact (Kd.N_mono (Kd.N_mono (Kd.N_far (p := ⟨gb172, 1, none⟩) (Kd.N_far (p := ⟨gb172, 0, none⟩) (Kd.N_far (p := ⟨gb171, 1, none⟩) (Kd.N_far (p := ⟨gb171, 0, none⟩) (Kd.N_mono (Kd.N_mono HO170.out (fun k_ hk => (⟨hk, hk.1.2⟩ : _ ∧ k_ ≠ gb171))) (fun k_ hk => (⟨hk, hk.1.2⟩ : _ ∧ k_ ≠ gb172))) (fun _ hk => hk.1.2) (.string (⟨#[97]⟩ : ByteArray))) (fun _ hk => hk.1.2) (.string (⟨#[120]⟩ : ByteArray))) (fun _ hk => hk.2) (.string (⟨#[98]⟩ : ByteArray))) (fun _ hk => hk.2) (.string (⟨#[120]⟩ : ByteArray))) (fun _ h_ => h_.1)) (fun _ h_ => h_.1))) gb173 (Nat.le_of_eq hg.symm)) hb); have n1_ := Aside0.mk (blk_below (g := gb171) (o := .cells #[.string (⟨#[97]⟩ : ByteArray), .string (⟨#[120]⟩ : ByteArray)] 45 (0, 0)) (by (with_reducible repeat (first | refine blk_drewN ?_ _ | refine blk_drew ?_ | refine blk_alloc ?_ _)); refine blk_far ?_ NB171_172.out _; (with_reducible repeat (first | refine blk_drewN ?_ _ | refine blk_drew ?_ | refine blk_alloc ?_ _)); refine blk_far ?_ NB171_172.out _; (with_reducible repeat (first | refine blk_drewN ?_ _ | refine blk_drew ?_ | refine blk_alloc ?_ _)); refine blk_put (cs := #[.string (⟨#[97]⟩ : ByteArray), .string (⟨#[]⟩ : ByteArray)]) ?_ 1 _ rfl; (with_reducible repeat (first | refine blk_drewN ?_ _ | refine blk_drew ?_ | refine blk_alloc ?_ _)); refine blk_put (cs := #[.string (⟨#[]⟩ : ByteArray), .string (⟨#[]⟩ : ByteArray)]) ?_ 0 _ rfl; (with_reducible repeat (first | refine blk_drewN ?_ _ | refine blk_drew ?_ | refine blk_alloc ?_ _)); exact BK171.out) hb); have n2_ := Aside0.mk (blk_below (g := gb172) (o := .cells #[.string (⟨#[98]⟩ : ByteArray), .string (⟨#[120]⟩ : ByteArray)] 45 (0, 0)) (by (with_reducible repeat (first | refine blk_drewN ?_ _ | refine blk_drew ?_ | refine blk_alloc ?_ _)); refine blk_put (cs := #[.string (⟨#[98]⟩ : ByteArray), .string (⟨#[]⟩ : ByteArray)]) ?_ 1 _ rfl; (with_reducible repeat (first | refine blk_drewN ?_ _ | refine blk_drew ?_ | refine blk_alloc ?_ _)); refine blk_put (cs := #[.string (⟨#[]⟩ : ByteArray), .string (⟨#[]⟩ : ByteArray)]) ?_ 0 _ rfl; (with_reducible repeat (first | refine blk_drewN ?_ _ | refine blk_drew ?_ | refine blk_alloc ?_ _)); refine blk_far ?_ NB172_171.out _; (with_reducible repeat (first | refine blk_drewN ?_ _ | refine blk_drew ?_ | refine blk_alloc ?_ _)); refine blk_far ?_ NB172_171.out _; (with_reducible repeat (first | refine blk_drewN ?_ _ | refine blk_drew ?_ | refine blk_alloc ?_ _)); exact BK172.out) hb); have n3_ := Aside0.mk (below_step (by repeat (first | (with_reducible first | exact HB.out | apply below_alloc | apply pw_below_drewN | apply below_drew1 | refine below_set ?_ GE171.out | refine below_set ?_ GE172.out) | exact HB.out)) hb); have n4_ := Aside0.mk (hbox); have n5_ := Aside0.mk ((by rw [hg]; exact (below_size (by repeat (first | (with_reducible first | exact HB.out | apply below_alloc | apply pw_below_drewN | apply below_drew1 | refine below_set ?_ GE171.out | refine below_set ?_ GE172.out) | exact HB.out))) : w.heap.size ≤ gb173)); have n6_ := Aside0.mk ((by rw [hg]; exact (below_size (by repeat (first | (with_reducible first | exact HB.out | apply below_alloc | apply pw_below_drewN | apply below_drew1 | refine below_set ?_ GE171.out | refine below_set ?_ GE172.out) | exact HB.out))) : w.heap.size ≤ gb173)); have n7_ := Aside0.mk ((by rw [hg]; exact Nat.ne_of_lt (blk_lt (g := gb171) (o := .cells #[.string (⟨#[97]⟩ : ByteArray), .string (⟨#[120]⟩ : ByteArray)] 45 (0, 0)) (by (with_reducible repeat (first | refine blk_drewN ?_ _ | refine blk_drew ?_ | refine blk_alloc ?_ _)); refine blk_far ?_ NB171_172.out _; (with_reducible repeat (first | refine blk_drewN ?_ _ | refine blk_drew ?_ | refine blk_alloc ?_ _)); refine blk_far ?_ NB171_172.out _; (with_reducible repeat (first | refine blk_drewN ?_ _ | refine blk_drew ?_ | refine blk_alloc ?_ _)); refine blk_put (cs := #[.string (⟨#[97]⟩ : ByteArray), .string (⟨#[]⟩ : ByteArray)]) ?_ 1 _ rfl; (with_reducible repeat (first | refine blk_drewN ?_ _ | refine blk_drew ?_ | refine blk_alloc ?_ _)); refine blk_put (cs := #[.string (⟨#[]⟩ : ByteArray), .string (⟨#[]⟩ : ByteArray)]) ?_ 0 _ rfl; (with_reducible repeat (first | refine blk_drewN ?_ _ | refine blk_drew ?_ | refine blk_alloc ?_ _)); exact BK171.out)) : gb171 ≠ gb173)); have n8_ := Aside0.mk ((by rw [hg]; exact Nat.ne_of_gt (blk_lt (g := gb171) (o := .cells #[.string (⟨#[97]⟩ : ByteArray), .string (⟨#[120]⟩ : ByteArray)] 45 (0, 0)) (by (with_reducible repeat (first | refine blk_drewN ?_ _ | refine blk_drew ?_ | refine blk_alloc ?_ _)); refine blk_far ?_ NB171_172.out _; (with_reducible repeat (first | refine blk_drewN ?_ _ | refine blk_drew ?_ | refine blk_alloc ?_ _)); refine blk_far ?_ NB171_172.out _; (with_reducible repeat (first | refine blk_drewN ?_ _ | refine blk_drew ?_ | refine blk_alloc ?_ _)); refine blk_put (cs := #[.string (⟨#[97]⟩ : ByteArray), .string (⟨#[]⟩ : ByteArray)]) ?_ 1 _ rfl; (with_reducible repeat (first | refine blk_drewN ?_ _ | refine blk_drew ?_ | refine blk_alloc ?_ _)); refine blk_put (cs := #[.string (⟨#[]⟩ : ByteArray), .string (⟨#[]⟩ : ByteArray)]) ?_ 0 _ rfl; (with_reducible repeat (first | refine blk_drewN ?_ _ | refine blk_drew ?_ | refine blk_alloc ?_ _)); exact BK171.out)) : gb173 ≠ gb171)); have n9_ := Aside0.mk ((by rw [hg]; exact Nat.ne_of_lt (blk_lt (g := gb172) (o := .cells #[.string (⟨#[98]⟩ : ByteArray), .string (⟨#[120]⟩ : ByteArray)] 45 (0, 0)) (by (with_reducible repeat (first | refine blk_drewN ?_ _ | refine blk_drew ?_ | refine blk_alloc ?_ _)); refine blk_put (cs := #[.string (⟨#[98]⟩ : ByteArray), .string (⟨#[]⟩ : ByteArray)]) ?_ 1 _ rfl; (with_reducible repeat (first | refine blk_drewN ?_ _ | refine blk_drew ?_ | refine blk_alloc ?_ _)); refine blk_put (cs := #[.string (⟨#[]⟩ : ByteArray), .string (⟨#[]⟩ : ByteArray)]) ?_ 0 _ rfl; (with_reducible repeat (first | refine blk_drewN ?_ _ | refine blk_drew ?_ | refine blk_alloc ?_ _)); refine blk_far ?_ NB172_171.out _; (with_reducible repeat (first | refine blk_drewN ?_ _ | refine blk_drew ?_ | refine blk_alloc ?_ _)); refine blk_far ?_ NB172_171.out _; (with_reducible repeat (first | refine blk_drewN ?_ _ | refine blk_drew ?_ | refine blk_alloc ?_ _)); exact BK172.out)) : gb172 ≠ gb173)); have n10_ := Aside0.mk ((by rw [hg]; exact Nat.ne_of_gt (blk_lt (g := gb172) (o := .cells #[.string (⟨#[98]⟩ : ByteArray), .string (⟨#[120]⟩ : ByteArray)] 45 (0, 0)) (by (with_reducible repeat (first | refine blk_drewN ?_ _ | refine blk_drew ?_ | refine blk_alloc ?_ _)); refine blk_put (cs := #[.string (⟨#[98]⟩ : ByteArray), .string (⟨#[]⟩ : ByteArray)]) ?_ 1 _ rfl; (with_reducible repeat (first | refine blk_drewN ?_ _ | refine blk_drew ?_ | refine blk_alloc ?_ _)); refine blk_put (cs := #[.string (⟨#[]⟩ : ByteArray), .string (⟨#[]⟩ : ByteArray)]) ?_ 0 _ rfl; (with_reducible repeat (first | refine blk_drewN ?_ _ | refine blk_drew ?_ | refine blk_alloc ?_ _)); refine blk_far ?_ NB172_171.out _; (with_reducible repeat (first | refine blk_drewN ?_ _ | refine blk_drew ?_ | refine blk_alloc ?_ _)); refine blk_far ?_ NB172_171.out _; (with_reducible repeat (first | refine blk_drewN ?_ _ | refine blk_drew ?_ | refine blk_alloc ?_ _)); exact BK172.out)) : gb173 ≠ gb172)); clear HO170; clear BK171; clear BK172; clear HB; have HO170 := n0_; have BK171 := n1_; have BK172 := n2_; have HB := n3_; have BK173 := n4_; have GW173 := n5_; have GE173 := n6_; have NB171_173 := n7_; have NB173_171 := n8_; have NB172_173 := n9_; have NB173_172 := n10_; clear n0_ n1_ n2_ n3_ n4_ n5_ n6_ n7_ n8_ n9_ n10_; clear hb hbox hg) | ((with_reducible refine gate_dst (N := 5) rfl ?_); (try (refine gate_guard (by rfl) ?_; dsimp only)); refine box_event ?hg (N := 5) ?hd (cs := #[.string (⟨#[]⟩ : ByteArray), .string (⟨#[]⟩ : ByteArray)]) (t := 45) ?hr ?_; (case hd => rfl); (case hg => rfl); (case hr => first | (go_simp; done) | (go_simp; rfl)); intro gb174 hg w29 hbox hb; have n0_ := Aside0.mk (Kd.N_below (Kd.N_elderB (by (with_reducible repeat (first | apply Kd.N_alloc | apply Kd.N_drewN | apply Kd.N_drew)); exact HO170.out) gb174 (Nat.le_of_eq hg.symm)) hb); have n1_ := Aside0.mk (blk_below (g := gb171) (o := .cells #[.string (⟨#[97]⟩ : ByteArray), .string (⟨#[120]⟩ : ByteArray)] 45 (0, 0)) (by (with_reducible repeat (first | refine blk_drewN ?_ _ | refine blk_drew ?_ | refine blk_alloc ?_ _)); exact BK171.out) hb); have n2_ := Aside0.mk (blk_below (g := gb172) (o := .cells #[.string (⟨#[98]⟩ : ByteArray), .string (⟨#[120]⟩ : ByteArray)] 45 (0, 0)) (by (with_reducible repeat (first | refine blk_drewN ?_ _ | refine blk_drew ?_ | refine blk_alloc ?_ _)); exact BK172.out) hb); have n3_ := Aside0.mk (blk_below (g := gb173) (o := .cells #[.string (⟨#[]⟩ : ByteArray), .string (⟨#[]⟩ : ByteArray)] 45 (0, 0)) (by (with_reducible repeat (first | refine blk_drewN ?_ _ | refine blk_drew ?_ | refine blk_alloc ?_ _)); exact BK173.out) hb); have n4_ := Aside0.mk (below_step (by repeat (first | (with_reducible first | exact HB.out | apply below_alloc | apply pw_below_drewN | apply below_drew1 | refine below_set ?_ GE171.out | refine below_set ?_ GE172.out | refine below_set ?_ GE173.out) | exact HB.out)) hb); have n5_ := Aside0.mk (hbox); have n6_ := Aside0.mk ((by rw [hg]; exact (below_size (by repeat (first | (with_reducible first | exact HB.out | apply below_alloc | apply pw_below_drewN | apply below_drew1 | refine below_set ?_ GE171.out | refine below_set ?_ GE172.out | refine below_set ?_ GE173.out) | exact HB.out))) : w.heap.size ≤ gb174)); have n7_ := Aside0.mk ((by rw [hg]; exact (below_size (by repeat (first | (with_reducible first | exact HB.out | apply below_alloc | apply pw_below_drewN | apply below_drew1 | refine below_set ?_ GE171.out | refine below_set ?_ GE172.out | refine below_set ?_ GE173.out) | exact HB.out))) : w.heap.size ≤ gb174)); have n8_ := Aside0.mk ((by rw [hg]; exact Nat.ne_of_lt (blk_lt (g := gb171) (o := .cells #[.string (⟨#[97]⟩ : ByteArray), .string (⟨#[120]⟩ : ByteArray)] 45 (0, 0)) (by (with_reducible repeat (first | refine blk_drewN ?_ _ | refine blk_drew ?_ | refine blk_alloc ?_ _)); exact BK171.out)) : gb171 ≠ gb174)); have n9_ := Aside0.mk ((by rw [hg]; exact Nat.ne_of_gt (blk_lt (g := gb171) (o := .cells #[.string (⟨#[97]⟩ : ByteArray), .string (⟨#[120]⟩ : ByteArray)] 45 (0, 0)) (by (with_reducible repeat (first | refine blk_drewN ?_ _ | refine blk_drew ?_ | refine blk_alloc ?_ _)); exact BK171.out)) : gb174 ≠ gb171)); have n10_ := Aside0.mk ((by rw [hg]; exact Nat.ne_of_lt (blk_lt (g := gb172) (o := .cells #[.string (⟨#[98]⟩ : ByteArray), .string (⟨#[120]⟩ : ByteArray)] 45 (0, 0)) (by (with_reducible repeat (first | refine blk_drewN ?_ _ | refine blk_drew ?_ | refine blk_alloc ?_ _)); exact BK172.out)) : gb172 ≠ gb174)); have n11_ := Aside0.mk ((by rw [hg]; exact Nat.ne_of_gt (blk_lt (g := gb172) (o := .cells #[.string (⟨#[98]⟩ : ByteArray), .string (⟨#[120]⟩ : ByteArray)] 45 (0, 0)) (by (with_reducible repeat (first | refine blk_drewN ?_ _ | refine blk_drew ?_ | refine blk_alloc ?_ _)); exact BK172.out)) : gb174 ≠ gb172)); have n12_ := Aside0.mk ((by rw [hg]; exact Nat.ne_of_lt (blk_lt (g := gb173) (o := .cells #[.string (⟨#[]⟩ : ByteArray), .string (⟨#[]⟩ : ByteArray)] 45 (0, 0)) (by (with_reducible repeat (first | refine blk_drewN ?_ _ | refine blk_drew ?_ | refine blk_alloc ?_ _)); exact BK173.out)) : gb173 ≠ gb174)); have n13_ := Aside0.mk ((by rw [hg]; exact Nat.ne_of_gt (blk_lt (g := gb173) (o := .cells #[.string (⟨#[]⟩ : ByteArray), .string (⟨#[]⟩ : ByteArray)] 45 (0, 0)) (by (with_reducible repeat (first | refine blk_drewN ?_ _ | refine blk_drew ?_ | refine blk_alloc ?_ _)); exact BK173.out)) : gb174 ≠ gb173)); clear HO170; clear BK171; clear BK172; clear BK173; clear HB; have HO170 := n0_; have BK171 := n1_; have BK172 := n2_; have BK173 := n3_; have HB := n4_; have BK174 := n5_; have GW174 := n6_; have GE174 := n7_; have NB171_174 := n8_; have NB174_171 := n9_; have NB172_174 := n10_; have NB174_172 := n11_; have NB173_174 := n12_; have NB174_173 := n13_; clear n0_ n1_ n2_ n3_ n4_ n5_ n6_ n7_ n8_ n9_ n10_ n11_ n12_ n13_; clear hb hbox hg; have hnb30 := NB173_171.out; have hnc30 := NB171_173.out; have hnb31 := NB173_172.out; have hnc31 := NB172_173.out; have hnb32 := NB173_174.out; have hnc32 := NB174_173.out; have hcz33_0 : w29.cell? ⟨gb173, 0, none⟩ = some (.string (⟨#[]⟩ : ByteArray)) := (blk_cell BK173.out 0).trans rfl; have hcz33_1 : w29.cell? ⟨gb173, 1, none⟩ = some (.string (⟨#[]⟩ : ByteArray)) := (blk_cell BK173.out 1).trans rfl; have hfz33_0 := blk_frozen BK173.out 0; have hfz33_1 := blk_frozen BK173.out 1; have hnb34 := NB174_171.out; have hnc34 := NB171_174.out; have hnb35 := NB174_172.out; have hnc35 := NB172_174.out; have hcz36_0 : w29.cell? ⟨gb174, 0, none⟩ = some (.string (⟨#[]⟩ : ByteArray)) := (blk_cell BK174.out 0).trans rfl; have hcz36_1 : w29.cell? ⟨gb174, 1, none⟩ = some (.string (⟨#[]⟩ : ByteArray)) := (blk_cell BK174.out 1).trans rfl; have hfz36_0 := blk_frozen BK174.out 0; have hfz36_1 := blk_frozen BK174.out 1; have hcz37_0 : w29.cell? ⟨gb171, 0, none⟩ = some (.string (⟨#[97]⟩ : ByteArray)) := (blk_cell BK171.out 0).trans rfl; have hcz37_1 : w29.cell? ⟨gb171, 1, none⟩ = some (.string (⟨#[120]⟩ : ByteArray)) := (blk_cell BK171.out 1).trans rfl; have hfz37_0 := blk_frozen BK171.out 0; have hfz37_1 := blk_frozen BK171.out 1; have hcz38_0 : w29.cell? ⟨gb172, 0, none⟩ = some (.string (⟨#[98]⟩ : ByteArray)) := (blk_cell BK172.out 0).trans rfl; have hcz38_1 : w29.cell? ⟨gb172, 1, none⟩ = some (.string (⟨#[120]⟩ : ByteArray)) := (blk_cell BK172.out 1).trans rfl; have hfz38_0 := blk_frozen BK172.out 0; have hfz38_1 := blk_frozen BK172.out 1) | ((with_reducible refine gate_dst (N := 35) rfl ?_); (try (refine gate_guard (by rfl) ?_; dsimp only)); refine Kd.R_lit k47 _ 47 ?hg (N := 35) ?hd (xs := ([(⟨(⟨(⟨#[100]⟩ : ByteArray), (⟨#[112]⟩ : ByteArray)⟩ : S45), (⟨(⟨#[97]⟩ : ByteArray), (⟨#[120]⟩ : ByteArray)⟩ : S45), 40⟩ : S47), (⟨(⟨(⟨#[100]⟩ : ByteArray), (⟨#[112]⟩ : ByteArray)⟩ : S45), (⟨(⟨#[98]⟩ : ByteArray), (⟨#[120]⟩ : ByteArray)⟩ : S45), 60⟩ : S47), (⟨(⟨(⟨#[100]⟩ : ByteArray), (⟨#[113]⟩ : ByteArray)⟩ : S45), (⟨(⟨#[97]⟩ : ByteArray), (⟨#[120]⟩ : ByteArray)⟩ : S45), 60⟩ : S47)] : List (S47))) (inner := [.string (⟨#[100]⟩ : ByteArray), .string (⟨#[112]⟩ : ByteArray), .string (⟨#[97]⟩ : ByteArray), .string (⟨#[120]⟩ : ByteArray), .int .i64 40, .string (⟨#[100]⟩ : ByteArray), .string (⟨#[112]⟩ : ByteArray), .string (⟨#[98]⟩ : ByteArray), .string (⟨#[120]⟩ : ByteArray), .int .i64 60, .string (⟨#[100]⟩ : ByteArray), .string (⟨#[113]⟩ : ByteArray), .string (⟨#[97]⟩ : ByteArray), .string (⟨#[120]⟩ : ByteArray), .int .i64 60]) (ok := fun _ => True) (okp := fun _ => True) ?hr ?hp (fun _ hk => hk) trivial (Below.refl _ _) (Nat.le_refl _) (by simp) ?_; (case hd => rfl); (case hg => rfl); (case hr => first | (go_simp; done) | (go_simp; rfl)); (case hp => exact (Reps.c5 (show Kd.M k47 _ _ _ (⟨(⟨(⟨#[100]⟩ : ByteArray), (⟨#[112]⟩ : ByteArray)⟩ : S45), (⟨(⟨#[97]⟩ : ByteArray), (⟨#[120]⟩ : ByteArray)⟩ : S45), 40⟩ : S47) [.string (⟨#[100]⟩ : ByteArray), .string (⟨#[112]⟩ : ByteArray), .string (⟨#[97]⟩ : ByteArray), .string (⟨#[120]⟩ : ByteArray), .int .i64 40] from (k47_mkM _ _ _ (⟨(⟨(⟨#[100]⟩ : ByteArray), (⟨#[112]⟩ : ByteArray)⟩ : S45), (⟨(⟨#[97]⟩ : ByteArray), (⟨#[120]⟩ : ByteArray)⟩ : S45), 40⟩ : S47) )) (Reps.c5 (show Kd.M k47 _ _ _ (⟨(⟨(⟨#[100]⟩ : ByteArray), (⟨#[112]⟩ : ByteArray)⟩ : S45), (⟨(⟨#[98]⟩ : ByteArray), (⟨#[120]⟩ : ByteArray)⟩ : S45), 60⟩ : S47) [.string (⟨#[100]⟩ : ByteArray), .string (⟨#[112]⟩ : ByteArray), .string (⟨#[98]⟩ : ByteArray), .string (⟨#[120]⟩ : ByteArray), .int .i64 60] from (k47_mkM _ _ _ (⟨(⟨(⟨#[100]⟩ : ByteArray), (⟨#[112]⟩ : ByteArray)⟩ : S45), (⟨(⟨#[98]⟩ : ByteArray), (⟨#[120]⟩ : ByteArray)⟩ : S45), 60⟩ : S47) )) (Reps.c5 (show Kd.M k47 _ _ _ (⟨(⟨(⟨#[100]⟩ : ByteArray), (⟨#[113]⟩ : ByteArray)⟩ : S45), (⟨(⟨#[97]⟩ : ByteArray), (⟨#[120]⟩ : ByteArray)⟩ : S45), 60⟩ : S47) [.string (⟨#[100]⟩ : ByteArray), .string (⟨#[113]⟩ : ByteArray), .string (⟨#[97]⟩ : ByteArray), .string (⟨#[120]⟩ : ByteArray), .int .i64 60] from (k47_mkM _ _ _ (⟨(⟨(⟨#[100]⟩ : ByteArray), (⟨#[113]⟩ : ByteArray)⟩ : S45), (⟨(⟨#[97]⟩ : ByteArray), (⟨#[120]⟩ : ByteArray)⟩ : S45), 60⟩ : S47) )) (Reps.none _ _))))); intro v176 w39 ho40 hb hg_ hnew_; clear hg_ hnew_; (first | rw [← Ny175.out] at ho40 | (simp only [Int.reduceToNat] at ho40; rw [← Ny175.out] at ho40)); have n0_ := Aside0.mk (Kd.N_elder' (by (with_reducible repeat (first | apply Kd.N_alloc | apply Kd.N_drewN | apply Kd.N_drew)); exact (Kd.N_mono (Kd.N_mono (Kd.N_far (p := ⟨gb174, 1, none⟩) (Kd.N_far (p := ⟨gb174, 0, none⟩) (Kd.N_far (p := ⟨gb173, 1, none⟩) (Kd.N_far (p := ⟨gb173, 0, none⟩) (Kd.N_mono (Kd.N_mono HO170.out (fun k_ hk => (⟨hk, hk.1.2⟩ : _ ∧ k_ ≠ gb173))) (fun k_ hk => (⟨hk, hk.1.2⟩ : _ ∧ k_ ≠ gb174))) (fun _ hk => hk.1.2) (.string (⟨#[100]⟩ : ByteArray))) (fun _ hk => hk.1.2) (.string (⟨#[112]⟩ : ByteArray))) (fun _ hk => hk.2) (.string (⟨#[100]⟩ : ByteArray))) (fun _ hk => hk.2) (.string (⟨#[113]⟩ : ByteArray))) (fun _ h_ => h_.1)) (fun _ h_ => h_.1))) (Kd.R_base ho40) hb); have n1_ := Aside0.mk (Kd.R_lower ho40 (below_size (by repeat (first | (with_reducible first | exact HB.out | apply below_alloc | apply pw_below_drewN | apply below_drew1 | refine below_set ?_ GE171.out | refine below_set ?_ GE172.out | refine below_set ?_ GE173.out | refine below_set ?_ GE174.out) | exact HB.out)))); have n2_ := Aside0.mk (blk_below (g := gb171) (o := .cells #[.string (⟨#[97]⟩ : ByteArray), .string (⟨#[120]⟩ : ByteArray)] 45 (0, 0)) (by (with_reducible repeat (first | refine blk_drewN ?_ _ | refine blk_drew ?_ | refine blk_alloc ?_ _)); refine blk_far ?_ NB171_174.out _; (with_reducible repeat (first | refine blk_drewN ?_ _ | refine blk_drew ?_ | refine blk_alloc ?_ _)); refine blk_far ?_ NB171_174.out _; (with_reducible repeat (first | refine blk_drewN ?_ _ | refine blk_drew ?_ | refine blk_alloc ?_ _)); refine blk_far ?_ NB171_173.out _; (with_reducible repeat (first | refine blk_drewN ?_ _ | refine blk_drew ?_ | refine blk_alloc ?_ _)); refine blk_far ?_ NB171_173.out _; (with_reducible repeat (first | refine blk_drewN ?_ _ | refine blk_drew ?_ | refine blk_alloc ?_ _)); exact BK171.out) hb); have n3_ := Aside0.mk (blk_below (g := gb172) (o := .cells #[.string (⟨#[98]⟩ : ByteArray), .string (⟨#[120]⟩ : ByteArray)] 45 (0, 0)) (by (with_reducible repeat (first | refine blk_drewN ?_ _ | refine blk_drew ?_ | refine blk_alloc ?_ _)); refine blk_far ?_ NB172_174.out _; (with_reducible repeat (first | refine blk_drewN ?_ _ | refine blk_drew ?_ | refine blk_alloc ?_ _)); refine blk_far ?_ NB172_174.out _; (with_reducible repeat (first | refine blk_drewN ?_ _ | refine blk_drew ?_ | refine blk_alloc ?_ _)); refine blk_far ?_ NB172_173.out _; (with_reducible repeat (first | refine blk_drewN ?_ _ | refine blk_drew ?_ | refine blk_alloc ?_ _)); refine blk_far ?_ NB172_173.out _; (with_reducible repeat (first | refine blk_drewN ?_ _ | refine blk_drew ?_ | refine blk_alloc ?_ _)); exact BK172.out) hb); have n4_ := Aside0.mk (blk_below (g := gb173) (o := .cells #[.string (⟨#[100]⟩ : ByteArray), .string (⟨#[112]⟩ : ByteArray)] 45 (0, 0)) (by (with_reducible repeat (first | refine blk_drewN ?_ _ | refine blk_drew ?_ | refine blk_alloc ?_ _)); refine blk_far ?_ NB173_174.out _; (with_reducible repeat (first | refine blk_drewN ?_ _ | refine blk_drew ?_ | refine blk_alloc ?_ _)); refine blk_far ?_ NB173_174.out _; (with_reducible repeat (first | refine blk_drewN ?_ _ | refine blk_drew ?_ | refine blk_alloc ?_ _)); refine blk_put (cs := #[.string (⟨#[100]⟩ : ByteArray), .string (⟨#[]⟩ : ByteArray)]) ?_ 1 _ rfl; (with_reducible repeat (first | refine blk_drewN ?_ _ | refine blk_drew ?_ | refine blk_alloc ?_ _)); refine blk_put (cs := #[.string (⟨#[]⟩ : ByteArray), .string (⟨#[]⟩ : ByteArray)]) ?_ 0 _ rfl; (with_reducible repeat (first | refine blk_drewN ?_ _ | refine blk_drew ?_ | refine blk_alloc ?_ _)); exact BK173.out) hb); have n5_ := Aside0.mk (blk_below (g := gb174) (o := .cells #[.string (⟨#[100]⟩ : ByteArray), .string (⟨#[113]⟩ : ByteArray)] 45 (0, 0)) (by (with_reducible repeat (first | refine blk_drewN ?_ _ | refine blk_drew ?_ | refine blk_alloc ?_ _)); refine blk_put (cs := #[.string (⟨#[100]⟩ : ByteArray), .string (⟨#[]⟩ : ByteArray)]) ?_ 1 _ rfl; (with_reducible repeat (first | refine blk_drewN ?_ _ | refine blk_drew ?_ | refine blk_alloc ?_ _)); refine blk_put (cs := #[.string (⟨#[]⟩ : ByteArray), .string (⟨#[]⟩ : ByteArray)]) ?_ 0 _ rfl; (with_reducible repeat (first | refine blk_drewN ?_ _ | refine blk_drew ?_ | refine blk_alloc ?_ _)); refine blk_far ?_ NB174_173.out _; (with_reducible repeat (first | refine blk_drewN ?_ _ | refine blk_drew ?_ | refine blk_alloc ?_ _)); refine blk_far ?_ NB174_173.out _; (with_reducible repeat (first | refine blk_drewN ?_ _ | refine blk_drew ?_ | refine blk_alloc ?_ _)); exact BK174.out) hb); have n6_ := Aside0.mk (below_step (by repeat (first | (with_reducible first | exact HB.out | apply below_alloc | apply pw_below_drewN | apply below_drew1 | refine below_set ?_ GE171.out | refine below_set ?_ GE172.out | refine below_set ?_ GE173.out | refine below_set ?_ GE174.out) | exact HB.out)) hb); clear HO170; clear BK171; clear BK172; clear BK173; clear BK174; clear HB; have HO170 := n0_; have HO177 := n1_; have BK171 := n2_; have BK172 := n3_; have BK173 := n4_; have BK174 := n5_; have HB := n6_; clear n0_ n1_ n2_ n3_ n4_ n5_ n6_; clear hb ho40; have hcz41_0 : w39.cell? ⟨gb174, 0, none⟩ = some (.string (⟨#[100]⟩ : ByteArray)) := (blk_cell BK174.out 0).trans rfl; have hcz41_1 : w39.cell? ⟨gb174, 1, none⟩ = some (.string (⟨#[113]⟩ : ByteArray)) := (blk_cell BK174.out 1).trans rfl; have hfz41_0 := blk_frozen BK174.out 0; have hfz41_1 := blk_frozen BK174.out 1; have hcz42_0 : w39.cell? ⟨gb173, 0, none⟩ = some (.string (⟨#[100]⟩ : ByteArray)) := (blk_cell BK173.out 0).trans rfl; have hcz42_1 : w39.cell? ⟨gb173, 1, none⟩ = some (.string (⟨#[112]⟩ : ByteArray)) := (blk_cell BK173.out 1).trans rfl; have hfz42_0 := blk_frozen BK173.out 0; have hfz42_1 := blk_frozen BK173.out 1) | ((with_reducible refine gate_dst (N := 43) rfl ?_); (try (refine gate_guard (by rfl) ?_; dsimp only)); refine Kd.R_lit k62 _ 62 ?hg (N := 43) ?hd (xs := ([(⟨(⟨(⟨#[100]⟩ : ByteArray), (⟨#[113]⟩ : ByteArray)⟩ : S45), 0, 0, 70⟩ : S62), (⟨(⟨(⟨#[100]⟩ : ByteArray), (⟨#[112]⟩ : ByteArray)⟩ : S45), 0, 0, 50⟩ : S62)] : List (S62))) (inner := [.string (⟨#[100]⟩ : ByteArray), .string (⟨#[113]⟩ : ByteArray), .int .i64 0, .int .i64 0, .int .i64 70, .string (⟨#[100]⟩ : ByteArray), .string (⟨#[112]⟩ : ByteArray), .int .i64 0, .int .i64 0, .int .i64 50]) (ok := fun _ => True) (okp := fun _ => True) ?hr ?hp (fun _ hk => hk) trivial (Below.refl _ _) (Nat.le_refl _) (by simp) ?_; (case hd => rfl); (case hg => rfl); (case hr => first | (go_simp; done) | (go_simp; rfl)); (case hp => exact (Reps.c5 (show Kd.M k62 _ _ _ (⟨(⟨(⟨#[100]⟩ : ByteArray), (⟨#[113]⟩ : ByteArray)⟩ : S45), 0, 0, 70⟩ : S62) [.string (⟨#[100]⟩ : ByteArray), .string (⟨#[113]⟩ : ByteArray), .int .i64 0, .int .i64 0, .int .i64 70] from (k62_mkM _ _ _ (⟨(⟨(⟨#[100]⟩ : ByteArray), (⟨#[113]⟩ : ByteArray)⟩ : S45), 0, 0, 70⟩ : S62) )) (Reps.c5 (show Kd.M k62 _ _ _ (⟨(⟨(⟨#[100]⟩ : ByteArray), (⟨#[112]⟩ : ByteArray)⟩ : S45), 0, 0, 50⟩ : S62) [.string (⟨#[100]⟩ : ByteArray), .string (⟨#[112]⟩ : ByteArray), .int .i64 0, .int .i64 0, .int .i64 50] from (k62_mkM _ _ _ (⟨(⟨(⟨#[100]⟩ : ByteArray), (⟨#[112]⟩ : ByteArray)⟩ : S45), 0, 0, 50⟩ : S62) )) (Reps.none _ _)))); intro v179 w43 ho44 hb hg_ hnew_; clear hg_ hnew_; (first | rw [← Ny178.out] at ho44 | (simp only [Int.reduceToNat] at ho44; rw [← Ny178.out] at ho44)); have n0_ := Aside0.mk (Kd.N_elder' (by (with_reducible repeat (first | apply Kd.N_alloc | apply Kd.N_drewN | apply Kd.N_drew)); exact HO170.out) (Kd.R_base ho44) hb); have n1_ := Aside0.mk (Kd.R_below (by (with_reducible repeat (first | apply Kd.R_alloc | apply Kd.R_drewN | apply Kd.R_drew)); exact HO177.out) hb); have n2_ := Aside0.mk (Kd.R_lower ho44 (below_size (by repeat (first | (with_reducible first | exact HB.out | apply below_alloc | apply pw_below_drewN | apply below_drew1 | refine below_set ?_ GE171.out | refine below_set ?_ GE172.out | refine below_set ?_ GE173.out | refine below_set ?_ GE174.out) | exact HB.out)))); have n3_ := Aside0.mk (blk_below (g := gb171) (o := .cells #[.string (⟨#[97]⟩ : ByteArray), .string (⟨#[120]⟩ : ByteArray)] 45 (0, 0)) (by (with_reducible repeat (first | refine blk_drewN ?_ _ | refine blk_drew ?_ | refine blk_alloc ?_ _)); exact BK171.out) hb); have n4_ := Aside0.mk (blk_below (g := gb172) (o := .cells #[.string (⟨#[98]⟩ : ByteArray), .string (⟨#[120]⟩ : ByteArray)] 45 (0, 0)) (by (with_reducible repeat (first | refine blk_drewN ?_ _ | refine blk_drew ?_ | refine blk_alloc ?_ _)); exact BK172.out) hb); have n5_ := Aside0.mk (blk_below (g := gb173) (o := .cells #[.string (⟨#[100]⟩ : ByteArray), .string (⟨#[112]⟩ : ByteArray)] 45 (0, 0)) (by (with_reducible repeat (first | refine blk_drewN ?_ _ | refine blk_drew ?_ | refine blk_alloc ?_ _)); exact BK173.out) hb); have n6_ := Aside0.mk (blk_below (g := gb174) (o := .cells #[.string (⟨#[100]⟩ : ByteArray), .string (⟨#[113]⟩ : ByteArray)] 45 (0, 0)) (by (with_reducible repeat (first | refine blk_drewN ?_ _ | refine blk_drew ?_ | refine blk_alloc ?_ _)); exact BK174.out) hb); have n7_ := Aside0.mk (below_step (by repeat (first | (with_reducible first | exact HB.out | apply below_alloc | apply pw_below_drewN | apply below_drew1 | refine below_set ?_ GE171.out | refine below_set ?_ GE172.out | refine below_set ?_ GE173.out | refine below_set ?_ GE174.out) | exact HB.out)) hb); clear HO170; clear HO177; clear BK171; clear BK172; clear BK173; clear BK174; clear HB; have HO170 := n0_; have HO177 := n1_; have HO180 := n2_; have BK171 := n3_; have BK172 := n4_; have BK173 := n5_; have BK174 := n6_; have HB := n7_; clear n0_ n1_ n2_ n3_ n4_ n5_ n6_ n7_; clear hb ho44; obtain ⟨Ao45, co45, eo45⟩ := Kd.R_slice HO177.out; subst eo45; obtain ⟨Ao46, co46, eo46⟩ := Kd.N_slice HO170.out; subst eo46; obtain ⟨Ao47, co47, eo47⟩ := Kd.R_slice HO180.out; subst eo47) | ((with_reducible refine gate_callee (f := 11) rfl ?_); refine goesL_ (some 44) rfl rfl Try.func11 (by kernel_rfl) rfl #[.slice Ao45 y175.length co45, .slice Ao46 y168.length co46, .string (⟨#[100]⟩ : ByteArray), .slice Ao47 y178.length co47] rfl (by (try simp only [List.map_toArray, List.map_cons, List.map_nil]); first | done | rfl | (simp only [List.length_drop, List.length_take]; rfl)) ?_; (with_reducible refine (port_Plan.calls k _ _ y175 _ _ y168 (⟨#[100]⟩ : ByteArray) _ _ y178 t181 t182 t183 _ ?side1 ?side2 ?side3 ?side4 ?side5 ?side6 A1.out).mono ?_); (case side1 => repeat (first | exact (Kd.R_reads' HO177.out).2.2 | (with_reducible refine Kd.C_alloc ?_ _) | (with_reducible refine Kd.C_drewN ?_ _) | (with_reducible refine Kd.C_drew ?_))); (case side2 => exact (Kd.R_reads' HO177.out).2.1); (case side3 => repeat (first | exact (Kd.N_reads' HO170.out).2.2 | (with_reducible refine Kd.C_alloc ?_ _) | (with_reducible refine Kd.C_drewN ?_ _) | (with_reducible refine Kd.C_drew ?_))); (case side4 => exact (Kd.N_reads' HO170.out).2.1); (case side5 => repeat (first | exact (Kd.R_reads' HO180.out).2.2 | (with_reducible refine Kd.C_alloc ?_ _) | (with_reducible refine Kd.C_drewN ?_ _) | (with_reducible refine Kd.C_drew ?_))); (case side6 => exact (Kd.R_reads' HO180.out).2.1); rintro e w48 ⟨v184, v186, rfl, ho0, ho1, hb⟩; refine ⟨_, rfl, ?_⟩; have n0_ := Aside0.mk (Kd.N_mono (Kd.N_told (Kd.N_told (Kd.N_old (by (with_reducible repeat (first | apply Kd.N_alloc | apply Kd.N_drewN | apply Kd.N_drew)); exact HO170.out) hb) (Kd.R_base ho0)) (Kd.R_base ho1)) (fun _ h_ => h_.1)); have n1_ := Aside0.mk (Kd.R_elder' (by (with_reducible repeat (first | apply Kd.R_alloc | apply Kd.R_drewN | apply Kd.R_drew)); exact HO177.out) (Kd.R_base ho0) hb); have n2_ := Aside0.mk (Kd.R_below (by (with_reducible repeat (first | apply Kd.R_alloc | apply Kd.R_drewN | apply Kd.R_drew)); exact HO180.out) hb); have n3_ := Aside0.mk (Kd.R_lower (Kd.R_new' ho0 (Kd.R_lt (by (with_reducible repeat (first | apply Kd.R_alloc | apply Kd.R_drewN | apply Kd.R_drew)); exact HO177.out))) (below_size (by repeat (first | (with_reducible first | exact HB.out | apply below_alloc | apply pw_below_drewN | apply below_drew1 | refine below_set ?_ GE171.out | refine below_set ?_ GE172.out | refine below_set ?_ GE173.out | refine below_set ?_ GE174.out) | exact HB.out)))); have n4_ := Aside0.mk (Kd.R_lower (Kd.R_newB (Kd.R_newB (Kd.R_newB (Kd.R_newB ho1 (g := gb171) (o := .cells #[.string (⟨#[97]⟩ : ByteArray), .string (⟨#[120]⟩ : ByteArray)] 45 (0, 0)) (by (with_reducible repeat (first | refine blk_drewN ?_ _ | refine blk_drew ?_ | refine blk_alloc ?_ _)); exact BK171.out)) (g := gb172) (o := .cells #[.string (⟨#[98]⟩ : ByteArray), .string (⟨#[120]⟩ : ByteArray)] 45 (0, 0)) (by (with_reducible repeat (first | refine blk_drewN ?_ _ | refine blk_drew ?_ | refine blk_alloc ?_ _)); exact BK172.out)) (g := gb173) (o := .cells #[.string (⟨#[100]⟩ : ByteArray), .string (⟨#[112]⟩ : ByteArray)] 45 (0, 0)) (by (with_reducible repeat (first | refine blk_drewN ?_ _ | refine blk_drew ?_ | refine blk_alloc ?_ _)); exact BK173.out)) (g := gb174) (o := .cells #[.string (⟨#[100]⟩ : ByteArray), .string (⟨#[113]⟩ : ByteArray)] 45 (0, 0)) (by (with_reducible repeat (first | refine blk_drewN ?_ _ | refine blk_drew ?_ | refine blk_alloc ?_ _)); exact BK174.out)) (below_size (by repeat (first | (with_reducible first | exact HB.out | apply below_alloc | apply pw_below_drewN | apply below_drew1 | refine below_set ?_ GE171.out | refine below_set ?_ GE172.out | refine below_set ?_ GE173.out | refine below_set ?_ GE174.out) | exact HB.out)))); have n5_ := Aside0.mk (blk_below (g := gb171) (o := .cells #[.string (⟨#[97]⟩ : ByteArray), .string (⟨#[120]⟩ : ByteArray)] 45 (0, 0)) (by (with_reducible repeat (first | refine blk_drewN ?_ _ | refine blk_drew ?_ | refine blk_alloc ?_ _)); exact BK171.out) hb); have n6_ := Aside0.mk (blk_below (g := gb172) (o := .cells #[.string (⟨#[98]⟩ : ByteArray), .string (⟨#[120]⟩ : ByteArray)] 45 (0, 0)) (by (with_reducible repeat (first | refine blk_drewN ?_ _ | refine blk_drew ?_ | refine blk_alloc ?_ _)); exact BK172.out) hb); have n7_ := Aside0.mk (blk_below (g := gb173) (o := .cells #[.string (⟨#[100]⟩ : ByteArray), .string (⟨#[112]⟩ : ByteArray)] 45 (0, 0)) (by (with_reducible repeat (first | refine blk_drewN ?_ _ | refine blk_drew ?_ | refine blk_alloc ?_ _)); exact BK173.out) hb); have n8_ := Aside0.mk (blk_below (g := gb174) (o := .cells #[.string (⟨#[100]⟩ : ByteArray), .string (⟨#[113]⟩ : ByteArray)] 45 (0, 0)) (by (with_reducible repeat (first | refine blk_drewN ?_ _ | refine blk_drew ?_ | refine blk_alloc ?_ _)); exact BK174.out) hb); have n9_ := Aside0.mk (below_step (by repeat (first | (with_reducible first | exact HB.out | apply below_alloc | apply pw_below_drewN | apply below_drew1 | refine below_set ?_ GE171.out | refine below_set ?_ GE172.out | refine below_set ?_ GE173.out | refine below_set ?_ GE174.out) | exact HB.out)) hb); clear HO170; clear HO177; clear HO180; clear BK171; clear BK172; clear BK173; clear BK174; clear HB; have HO170 := n0_; have HO177 := n1_; have HO180 := n2_; have HO185 := n3_; have HO187 := n4_; have BK171 := n5_; have BK172 := n6_; have BK173 := n7_; have BK174 := n8_; have HB := n9_; clear n0_ n1_ n2_ n3_ n4_ n5_ n6_ n7_ n8_ n9_; (try clear hb); (try clear hb2); (try clear hk); (try clear hi); (try clear ho0); (try clear ho1)))
                  have n0_ := Aside0.mk (Kd.N_drew HO170.out)
                  have n1_ := Aside0.mk (Kd.R_drew HO177.out)
                  have n2_ := Aside0.mk (Kd.R_drew HO180.out)
                  have n3_ := Aside0.mk (Kd.R_drew HO185.out)
                  have n4_ := Aside0.mk (Kd.R_drew HO187.out)
                  have n5_ := Aside0.mk (blk_drew BK171.out)
                  have n6_ := Aside0.mk (blk_drew BK172.out)
                  have n7_ := Aside0.mk (blk_drew BK173.out)
                  have n8_ := Aside0.mk (blk_drew BK174.out)
                  have n9_ := Aside0.mk (below_drew1 HB.out)
                  clear HO170
                  clear HO177
                  clear HO180
                  clear HO185
                  clear HO187
                  clear BK171
                  clear BK172
                  clear BK173
                  clear BK174
                  clear HB
                  have HO170 := n0_
                  have HO177 := n1_
                  have HO180 := n2_
                  have HO185 := n3_
                  have HO187 := n4_
                  have BK171 := n5_
                  have BK172 := n6_
                  have BK173 := n7_
                  have BK174 := n8_
                  have HB := n9_
                  clear n0_ n1_ n2_ n3_ n4_ n5_ n6_ n7_ n8_ n9_
                  obtain ⟨Ao50, co50, eo50⟩ := Kd.R_slice HO185.out
                  (first | subst eo50 | (injection eo50 with f1_ f2_ f3_; have f4_ := f1_.symm; have f5_ := f3_.symm; clear f1_ f2_ f3_; subst f4_; subst f5_))
                  have p188 : 0 ≤ (0 : Int) := (by omega)
                  have q188 : 0 < (t181.length : Int) := of_decide_eq_true (by first | (with_reducible assumption) | assumption)
                  obtain ⟨ad188, e188, hx188_0, hx188_1, hx188_2, hx188_3, hx188_4⟩ := at_T47 (Kd.R_reads' HO185.out).2.2 0 p188 q188
                  cases e188
                  have qi188 : (0 < t181.length) = True := eq_true (by omega)
                  (try rw [show ((0 : Int)).toNat = 0 from rfl] at hx188_0)
                  (try rw [show 0 * 5 = 0 from rfl] at hx188_0)
                  (try rw [Addr.add_zero'] at hx188_0)
                  (try rw [show ((0 : Int)).toNat = 0 from rfl] at hx188_1)
                  (try rw [show 0 * 5 = 0 from rfl] at hx188_1)
                  (try rw [Addr.add_zero'] at hx188_1)
                  (try rw [show ((0 : Int)).toNat = 0 from rfl] at hx188_2)
                  (try rw [show 0 * 5 = 0 from rfl] at hx188_2)
                  (try rw [Addr.add_zero'] at hx188_2)
                  (try rw [show ((0 : Int)).toNat = 0 from rfl] at hx188_3)
                  (try rw [show 0 * 5 = 0 from rfl] at hx188_3)
                  (try rw [Addr.add_zero'] at hx188_3)
                  (try rw [show ((0 : Int)).toNat = 0 from rfl] at hx188_4)
                  (try rw [show 0 * 5 = 0 from rfl] at hx188_4)
                  (try rw [Addr.add_zero'] at hx188_4)
                  replace p188 := eq_true p188
                  replace q188 := eq_true q188
                  have p189 : 0 ≤ (1 : Int) := (by omega)
                  have q189 : 1 < (y175.length : Int) := of_decide_eq_true (by first | (with_reducible assumption) | assumption)
                  obtain ⟨ad189, e189, hx189_0, hx189_1, hx189_2, hx189_3, hx189_4⟩ := at_T47 (Kd.R_reads' HO177.out).2.2 1 p189 q189
                  cases e189
                  (try simp only [show (1 : Int).toNat = 1 from rfl, Nat.reduceMul, Nat.reduceEqDiff, Go.Addr.add, ↓reduceIte] at hx189_0)
                  (try simp only [show (1 : Int).toNat = 1 from rfl, Nat.reduceMul, Nat.reduceEqDiff, Go.Addr.add, ↓reduceIte] at hx189_1)
                  (try simp only [show (1 : Int).toNat = 1 from rfl, Nat.reduceMul, Nat.reduceEqDiff, Go.Addr.add, ↓reduceIte] at hx189_2)
                  (try simp only [show (1 : Int).toNat = 1 from rfl, Nat.reduceMul, Nat.reduceEqDiff, Go.Addr.add, ↓reduceIte] at hx189_3)
                  (try simp only [show (1 : Int).toNat = 1 from rfl, Nat.reduceMul, Nat.reduceEqDiff, Go.Addr.add, ↓reduceIte] at hx189_4)
                  have qi189 : (1 < y175.length) = True := eq_true (by omega)
                  (try rw [show ((1 : Int)).toNat = 1 from rfl] at hx189_0)
                  (try rw [show 1 * 5 = 5 from rfl] at hx189_0)
                  (try rw [show ((1 : Int)).toNat = 1 from rfl] at hx189_1)
                  (try rw [show 1 * 5 = 5 from rfl] at hx189_1)
                  (try rw [show ((1 : Int)).toNat = 1 from rfl] at hx189_2)
                  (try rw [show 1 * 5 = 5 from rfl] at hx189_2)
                  (try rw [show ((1 : Int)).toNat = 1 from rfl] at hx189_3)
                  (try rw [show 1 * 5 = 5 from rfl] at hx189_3)
                  (try rw [show ((1 : Int)).toNat = 1 from rfl] at hx189_4)
                  (try rw [show 1 * 5 = 5 from rfl] at hx189_4)
                  replace p189 := eq_true p189
                  replace q189 := eq_true q189
                  obtain ⟨Ao51, co51, eo51⟩ := Kd.R_slice HO187.out
                  (first | subst eo51 | (injection eo51 with f1_ f2_ f3_; have f4_ := f1_.symm; have f5_ := f3_.symm; clear f1_ f2_ f3_; subst f4_; subst f5_))
                  have p190 : 0 ≤ (0 : Int) := (by omega)
                  have q190 : 0 < (t182.length : Int) := of_decide_eq_true (by first | (with_reducible assumption) | assumption)
                  obtain ⟨ad190, e190, hx190_0, hx190_1⟩ := at_T45 (Kd.R_reads' HO187.out).2.2 0 p190 q190
                  cases e190
                  have qi190 : (0 < t182.length) = True := eq_true (by omega)
                  (try rw [show ((0 : Int)).toNat = 0 from rfl] at hx190_0)
                  (try rw [show 0 * 2 = 0 from rfl] at hx190_0)
                  (try rw [Addr.add_zero'] at hx190_0)
                  (try rw [show ((0 : Int)).toNat = 0 from rfl] at hx190_1)
                  (try rw [show 0 * 2 = 0 from rfl] at hx190_1)
                  (try rw [Addr.add_zero'] at hx190_1)
                  replace p190 := eq_true p190
                  replace q190 := eq_true q190
                  refine start_ (n := 37) (S := fun w' => w'.cell? ⟨gb174, 0, none⟩ = some (.string (⟨#[100]⟩ : ByteArray)) ∧ w'.cell? ⟨gb174, 1, none⟩ = some (.string (⟨#[113]⟩ : ByteArray)) ∧ w'.cell? ⟨gb173, 0, none⟩ = some (.string (⟨#[100]⟩ : ByteArray)) ∧ w'.cell? ⟨gb173, 1, none⟩ = some (.string (⟨#[112]⟩ : ByteArray)) ∧ w'.cell? ad188 = some (.string ((rd_T47 t181 0).f0.f0)) ∧ w'.cell? ⟨ad188.block, ad188.off + 1, none⟩ = some (.string ((rd_T47 t181 0).f0.f1)) ∧ w'.cell? ⟨ad188.block, ad188.off + 2, none⟩ = some (.string ((rd_T47 t181 0).f1.f0)) ∧ w'.cell? ⟨ad188.block, ad188.off + 3, none⟩ = some (.string ((rd_T47 t181 0).f1.f1)) ∧ w'.cell? ⟨ad188.block, ad188.off + 4, none⟩ = some (.int .i64 ((rd_T47 t181 0).f2)) ∧ w'.cell? ⟨ad189.block, ad189.off + 5, none⟩ = some (.string ((rd_T47 y175 1).f0.f0)) ∧ w'.cell? ⟨ad189.block, ad189.off + 5 + 1, none⟩ = some (.string ((rd_T47 y175 1).f0.f1)) ∧ w'.cell? ⟨ad189.block, ad189.off + 5 + 2, none⟩ = some (.string ((rd_T47 y175 1).f1.f0)) ∧ w'.cell? ⟨ad189.block, ad189.off + 5 + 3, none⟩ = some (.string ((rd_T47 y175 1).f1.f1)) ∧ w'.cell? ⟨ad189.block, ad189.off + 5 + 4, none⟩ = some (.int .i64 ((rd_T47 y175 1).f2)) ∧ w'.cell? ad190 = some (.string ((rd_T45 t182 0).f0)) ∧ w'.cell? ⟨ad190.block, ad190.off + 1, none⟩ = some (.string ((rd_T45 t182 0).f1))) (ds := []) #[false, false, false, false, false, false, false, false, false, false, false, false, false, false, false, false, false, false, false, false, false, false, false, false, false, false, false, false, false, false, false, false, false, false, false, false, false] (by kernel_rfl) rfl rfl ⟨(blk_cell BK174.out 0).trans rfl, (blk_cell BK174.out 1).trans rfl, (blk_cell BK173.out 0).trans rfl, (blk_cell BK173.out 1).trans rfl, hx188_0, hx188_1, hx188_2, hx188_3, hx188_4, hx189_0, hx189_1, hx189_2, hx189_3, hx189_4, hx190_0, hx190_1⟩ (fun hHeld => ?_); refine with_tabW contangolaw42_goes.tab6 contangolaw42_goes.bits6 (fun HT_ HW_ => ?_)
                  generalize w48.drew = w49 at HO170 HO177 HO180 HO185 HO187 BK171 BK172 BK173 BK174 HB hx188_0 hx188_1 hx188_2 hx188_3 hx188_4 hx189_0 hx189_1 hx189_2 hx189_3 hx189_4 hx190_0 hx190_1 hHeld ⊢
                  refine pure_ (i := 0) (N := some 48) (v := ?_) (a' := ?_) #[true, false, false, false, false, false, false, false, false, false, false, false, false, false, false, false, false, false, false, false, false, false, false, false, false, false, false, false, false, false, false, false, false, false, false, false, false] rfl rfl (any_of HT_.out (by kernel_rfl)) (fun _ _ _ h => h) (Or.inl ⟨by rfl, ?_⟩) ?_ ?_
                  rotate_left
                  · intro w'
                    go_simp
                    with_reducible rfl
                  rotate_left
                  · simp only [Act.put, List.setIfInBounds_toArray, List.set_cons_zero, List.set_cons_succ, i64_w, i32_w]
                    rfl
                  refine pure_ (i := 1) (N := some 49) (v := ?_) (a' := ?_) #[true, true, false, false, false, false, false, false, false, false, false, false, false, false, false, false, false, false, false, false, false, false, false, false, false, false, false, false, false, false, false, false, false, false, false, false, false] rfl rfl (any_of HT_.out (by kernel_rfl)) (fun _ _ _ h => h) (Or.inl ⟨by rfl, ?_⟩) ?_ ?_
                  rotate_left
                  · intro w'
                    go_simp
                    with_reducible rfl
                  rotate_left
                  · simp only [Act.put, List.setIfInBounds_toArray, List.set_cons_zero, List.set_cons_succ, i64_w, i32_w]
                    rfl
                  refine pure_ (i := 2) (N := some 50) (v := ?_) (a' := ?_) #[true, true, true, false, false, false, false, false, false, false, false, false, false, false, false, false, false, false, false, false, false, false, false, false, false, false, false, false, false, false, false, false, false, false, false, false, false] rfl rfl (any_of HT_.out (by kernel_rfl)) (fun _ _ _ h => h) (Or.inl ⟨by rfl, ?_⟩) ?_ ?_
                  rotate_left
                  · intro w'
                    go_simp
                    with_reducible rfl
                  rotate_left
                  · simp only [Act.put, List.setIfInBounds_toArray, List.set_cons_zero, List.set_cons_succ, i64_w, i32_w]
                    rfl
                  refine pure_ (i := 3) (N := some 51) (v := ?_) (a' := ?_) #[true, true, true, true, false, false, false, false, false, false, false, false, false, false, false, false, false, false, false, false, false, false, false, false, false, false, false, false, false, false, false, false, false, false, false, false, false] rfl rfl (any_of HT_.out (by kernel_rfl)) (fun _ _ _ h => h) (Or.inl ⟨by rfl, ?_⟩) ?_ ?_
                  rotate_left
                  · intro w'
                    go_simp
                    with_reducible rfl
                  rotate_left
                  · simp only [Act.put, List.setIfInBounds_toArray, List.set_cons_zero, List.set_cons_succ, i64_w, i32_w]
                    rfl
                  refine pure_ (i := 4) (N := some 52) (v := ?_) (a' := ?_) #[true, true, true, true, true, false, false, false, false, false, false, false, false, false, false, false, false, false, false, false, false, false, false, false, false, false, false, false, false, false, false, false, false, false, false, false, false] rfl rfl (any_of HT_.out (by kernel_rfl)) (fun _ _ _ h => h) (Or.inl ⟨by rfl, ?_⟩) ?_ ?_
                  rotate_left
                  · intro w'
                    go_simp
                    with_reducible rfl
                  rotate_left
                  · simp only [Act.put, List.setIfInBounds_toArray, List.set_cons_zero, List.set_cons_succ, i64_w, i32_w]
                    rfl
                  refine pure_ (i := 5) (N := some 53) (v := ?_) (a' := ?_) #[true, true, true, true, true, true, false, false, false, false, false, false, false, false, false, false, false, false, false, false, false, false, false, false, false, false, false, false, false, false, false, false, false, false, false, false, false] rfl rfl (any_of HT_.out (by kernel_rfl)) (fun _ _ _ h => h) (Or.inl ⟨by rfl, ?_⟩) ?_ ?_
                  rotate_left
                  · intro w'
                    go_simp
                    with_reducible rfl
                  rotate_left
                  · simp only [Act.put, List.setIfInBounds_toArray, List.set_cons_zero, List.set_cons_succ, i64_w, i32_w]
                    rfl
                  refine pure_ (i := 7) (N := some 55) (v := ?_) (a' := ?_) #[true, true, true, true, true, true, false, true, false, false, false, false, false, false, false, false, false, false, false, false, false, false, false, false, false, false, false, false, false, false, false, false, false, false, false, false, false] rfl rfl (any_of HT_.out (by kernel_rfl)) (fun _ _ _ h => h) (Or.inl ⟨by rfl, ?_⟩) ?_ ?_
                  rotate_left
                  · intro w'
                    go_simp
                    with_reducible rfl
                  rotate_left
                  · simp only [Act.put, List.setIfInBounds_toArray, List.set_cons_zero, List.set_cons_succ, i64_w, i32_w]
                    rfl
                  refine pure_ (i := 8) (N := some 56) (v := ?_) (a' := ?_) #[true, true, true, true, true, true, false, true, true, false, false, false, false, false, false, false, false, false, false, false, false, false, false, false, false, false, false, false, false, false, false, false, false, false, false, false, false] rfl rfl (any_of HT_.out (by kernel_rfl)) (fun _ _ _ h => h) (Or.inl ⟨by rfl, ?_⟩) ?_ ?_
                  rotate_left
                  · intro w'
                    go_simp
                    with_reducible rfl
                  rotate_left
                  · simp only [Act.put, List.setIfInBounds_toArray, List.set_cons_zero, List.set_cons_succ, i64_w, i32_w]
                    rfl
                  refine take_ (i := 6) (N := some 54) (v := ?_) (a' := ?_) #[true, true, true, true, true, true, true, true, true, false, false, false, false, false, false, false, false, false, false, false, false, false, false, false, false, false, false, false, false, false, false, false, false, false, false, false, false] rfl rfl (take_ofW HT_.out HW_.out (by kernel_rfl)) (fun _ _ _ h => h) (Or.inl ⟨by rfl, ?_⟩) hHeld ?_ ?_
                  rotate_left
                  · rintro w' ⟨s0, s1, s2, s3, s4, s5, s6, s7, s8, s9, s10, s11, s12, s13, s14, s15⟩
                    go_simp
                    with_reducible rfl
                  rotate_left
                  · simp only [Act.put, List.setIfInBounds_toArray, List.set_cons_zero, List.set_cons_succ, i64_w, i32_w]
                    rfl
                  refine take_ (i := 9) (N := some 57) (v := ?_) (a' := ?_) #[true, true, true, true, true, true, true, true, true, true, false, false, false, false, false, false, false, false, false, false, false, false, false, false, false, false, false, false, false, false, false, false, false, false, false, false, false] rfl rfl (take_ofW HT_.out HW_.out (by kernel_rfl)) (fun _ _ _ h => h) (Or.inl ⟨by rfl, ?_⟩) hHeld ?_ ?_
                  rotate_left
                  · rintro w' ⟨s0, s1, s2, s3, s4, s5, s6, s7, s8, s9, s10, s11, s12, s13, s14, s15⟩
                    go_simp
                    with_reducible rfl
                  rotate_left
                  · simp only [Act.put, List.setIfInBounds_toArray, List.set_cons_zero, List.set_cons_succ, i64_w, i32_w]
                    rfl
                  refine pure_ (i := 10) (N := some 58) (v := ?_) (a' := ?_) #[true, true, true, true, true, true, true, true, true, true, true, false, false, false, false, false, false, false, false, false, false, false, false, false, false, false, false, false, false, false, false, false, false, false, false, false, false] rfl rfl (any_of HT_.out (by kernel_rfl)) (fun _ _ _ h => h) (Or.inl ⟨by rfl, ?_⟩) ?_ ?_
                  rotate_left
                  · intro w'
                    go_simp
                    with_reducible rfl
                  rotate_left
                  · simp only [Act.put, List.setIfInBounds_toArray, List.set_cons_zero, List.set_cons_succ, i64_w, i32_w]
                    rfl
                  refine pure_ (i := 11) (N := some 59) (v := ?_) (a' := ?_) #[true, true, true, true, true, true, true, true, true, true, true, true, false, false, false, false, false, false, false, false, false, false, false, false, false, false, false, false, false, false, false, false, false, false, false, false, false] rfl rfl (any_of HT_.out (by kernel_rfl)) (fun _ _ _ h => h) (Or.inl ⟨by rfl, ?_⟩) ?_ ?_
                  rotate_left
                  · intro w'
                    go_simp
                    with_reducible rfl
                  rotate_left
                  · simp only [Act.put, List.setIfInBounds_toArray, List.set_cons_zero, List.set_cons_succ, i64_w, i32_w]
                    rfl
                  refine pure_ (i := 12) (N := some 60) (v := ?_) (a' := ?_) #[true, true, true, true, true, true, true, true, true, true, true, true, true, false, false, false, false, false, false, false, false, false, false, false, false, false, false, false, false, false, false, false, false, false, false, false, false] rfl rfl (any_of HT_.out (by kernel_rfl)) (fun _ _ _ h => h) (Or.inl ⟨by rfl, ?_⟩) ?_ ?_
                  rotate_left
                  · intro w'
                    go_simp
                    with_reducible rfl
                  rotate_left
                  · simp only [Act.put, List.setIfInBounds_toArray, List.set_cons_zero, List.set_cons_succ, i64_w, i32_w]
                    rfl
                  refine pure_ (i := 13) (N := some 61) (v := ?_) (a' := ?_) #[true, true, true, true, true, true, true, true, true, true, true, true, true, true, false, false, false, false, false, false, false, false, false, false, false, false, false, false, false, false, false, false, false, false, false, false, false] rfl rfl (any_of HT_.out (by kernel_rfl)) (fun _ _ _ h => h) (Or.inl ⟨by rfl, ?_⟩) ?_ ?_
                  rotate_left
                  · intro w'
                    go_simp
                    with_reducible rfl
                  rotate_left
                  · simp only [Act.put, List.setIfInBounds_toArray, List.set_cons_zero, List.set_cons_succ, i64_w, i32_w]
                    rfl
                  refine pure_ (i := 14) (N := some 62) (v := ?_) (a' := ?_) #[true, true, true, true, true, true, true, true, true, true, true, true, true, true, true, false, false, false, false, false, false, false, false, false, false, false, false, false, false, false, false, false, false, false, false, false, false] rfl rfl (any_of HT_.out (by kernel_rfl)) (fun _ _ _ h => h) (Or.inl ⟨by rfl, ?_⟩) ?_ ?_
                  rotate_left
                  · intro w'
                    go_simp
                    with_reducible rfl
                  rotate_left
                  · simp only [Act.put, List.setIfInBounds_toArray, List.set_cons_zero, List.set_cons_succ, i64_w, i32_w]
                    rfl
                  refine pure_ (i := 15) (N := some 63) (v := ?_) (a' := ?_) #[true, true, true, true, true, true, true, true, true, true, true, true, true, true, true, true, false, false, false, false, false, false, false, false, false, false, false, false, false, false, false, false, false, false, false, false, false] rfl rfl (any_of HT_.out (by kernel_rfl)) (fun _ _ _ h => h) (Or.inl ⟨by rfl, ?_⟩) ?_ ?_
                  rotate_left
                  · intro w'
                    go_simp
                    with_reducible rfl
                  rotate_left
                  · simp only [Act.put, List.setIfInBounds_toArray, List.set_cons_zero, List.set_cons_succ, i64_w, i32_w]
                    rfl
                  refine pure_ (i := 16) (N := some 64) (v := ?_) (a' := ?_) #[true, true, true, true, true, true, true, true, true, true, true, true, true, true, true, true, true, false, false, false, false, false, false, false, false, false, false, false, false, false, false, false, false, false, false, false, false] rfl rfl (any_of HT_.out (by kernel_rfl)) (fun _ _ _ h => h) (Or.inl ⟨by rfl, ?_⟩) ?_ ?_
                  rotate_left
                  · intro w'
                    go_simp
                    with_reducible rfl
                  rotate_left
                  · simp only [Act.put, List.setIfInBounds_toArray, List.set_cons_zero, List.set_cons_succ, i64_w, i32_w]
                    rfl
                  refine pure_ (i := 17) (N := some 65) (v := ?_) (a' := ?_) #[true, true, true, true, true, true, true, true, true, true, true, true, true, true, true, true, true, true, false, false, false, false, false, false, false, false, false, false, false, false, false, false, false, false, false, false, false] rfl rfl (any_of HT_.out (by kernel_rfl)) (fun _ _ _ h => h) (Or.inl ⟨by rfl, ?_⟩) ?_ ?_
                  rotate_left
                  · intro w'
                    go_simp
                    with_reducible rfl
                  rotate_left
                  · simp only [Act.put, List.setIfInBounds_toArray, List.set_cons_zero, List.set_cons_succ, i64_w, i32_w]
                    rfl
                  refine pure_ (i := 18) (N := some 66) (v := ?_) (a' := ?_) #[true, true, true, true, true, true, true, true, true, true, true, true, true, true, true, true, true, true, true, false, false, false, false, false, false, false, false, false, false, false, false, false, false, false, false, false, false] rfl rfl (any_of HT_.out (by kernel_rfl)) (fun _ _ _ h => h) (Or.inl ⟨by rfl, ?_⟩) ?_ ?_
                  rotate_left
                  · intro w'
                    go_simp
                    with_reducible rfl
                  rotate_left
                  · simp only [Act.put, List.setIfInBounds_toArray, List.set_cons_zero, List.set_cons_succ, i64_w, i32_w]
                    rfl
                  refine pure_ (i := 19) (N := some 67) (v := ?_) (a' := ?_) #[true, true, true, true, true, true, true, true, true, true, true, true, true, true, true, true, true, true, true, true, false, false, false, false, false, false, false, false, false, false, false, false, false, false, false, false, false] rfl rfl (any_of HT_.out (by kernel_rfl)) (fun _ _ _ h => h) (Or.inl ⟨by rfl, ?_⟩) ?_ ?_
                  rotate_left
                  · intro w'
                    go_simp
                    with_reducible rfl
                  rotate_left
                  · simp only [Act.put, List.setIfInBounds_toArray, List.set_cons_zero, List.set_cons_succ, i64_w, i32_w]
                    rfl
                  refine take_ (i := 20) (N := some 68) (v := ?_) (a' := ?_) #[true, true, true, true, true, true, true, true, true, true, true, true, true, true, true, true, true, true, true, true, true, false, false, false, false, false, false, false, false, false, false, false, false, false, false, false, false] rfl rfl (take_ofW HT_.out HW_.out (by kernel_rfl)) (fun _ _ _ h => h) (Or.inl ⟨by rfl, ?_⟩) hHeld ?_ ?_
                  rotate_left
                  · rintro w' ⟨s0, s1, s2, s3, s4, s5, s6, s7, s8, s9, s10, s11, s12, s13, s14, s15⟩
                    go_simp
                    with_reducible rfl
                  rotate_left
                  · simp only [Act.put, List.setIfInBounds_toArray, List.set_cons_zero, List.set_cons_succ, i64_w, i32_w]
                    rfl
                  refine take_ (i := 21) (N := some 69) (v := ?_) (a' := ?_) #[true, true, true, true, true, true, true, true, true, true, true, true, true, true, true, true, true, true, true, true, true, true, false, false, false, false, false, false, false, false, false, false, false, false, false, false, false] rfl rfl (take_ofW HT_.out HW_.out (by kernel_rfl)) (fun _ _ _ h => h) (Or.inl ⟨by rfl, ?_⟩) hHeld ?_ ?_
                  rotate_left
                  · rintro w' ⟨s0, s1, s2, s3, s4, s5, s6, s7, s8, s9, s10, s11, s12, s13, s14, s15⟩
                    go_simp
                    with_reducible rfl
                  rotate_left
                  · simp only [Act.put, List.setIfInBounds_toArray, List.set_cons_zero, List.set_cons_succ, i64_w, i32_w]
                    rfl
                  refine pure_ (i := 22) (N := some 70) (v := ?_) (a' := ?_) #[true, true, true, true, true, true, true, true, true, true, true, true, true, true, true, true, true, true, true, true, true, true, true, false, false, false, false, false, false, false, false, false, false, false, false, false, false] rfl rfl (any_of HT_.out (by kernel_rfl)) (fun _ _ _ h => h) (Or.inl ⟨by rfl, ?_⟩) ?_ ?_
                  rotate_left
                  · intro w'
                    go_simp
                    with_reducible rfl
                  rotate_left
                  · simp only [Act.put, List.setIfInBounds_toArray, List.set_cons_zero, List.set_cons_succ, i64_w, i32_w]
                    rfl
                  refine pure_ (i := 23) (N := some 71) (v := ?_) (a' := ?_) #[true, true, true, true, true, true, true, true, true, true, true, true, true, true, true, true, true, true, true, true, true, true, true, true, false, false, false, false, false, false, false, false, false, false, false, false, false] rfl rfl (any_of HT_.out (by kernel_rfl)) (fun _ _ _ h => h) (Or.inl ⟨by rfl, ?_⟩) ?_ ?_
                  rotate_left
                  · intro w'
                    go_simp
                    with_reducible rfl
                  rotate_left
                  · simp only [Act.put, List.setIfInBounds_toArray, List.set_cons_zero, List.set_cons_succ, i64_w, i32_w]
                    rfl
                  refine pure_ (i := 24) (N := some 72) (v := ?_) (a' := ?_) #[true, true, true, true, true, true, true, true, true, true, true, true, true, true, true, true, true, true, true, true, true, true, true, true, true, false, false, false, false, false, false, false, false, false, false, false, false] rfl rfl (any_of HT_.out (by kernel_rfl)) (fun _ _ _ h => h) (Or.inl ⟨by rfl, ?_⟩) ?_ ?_
                  rotate_left
                  · intro w'
                    go_simp
                    with_reducible rfl
                  rotate_left
                  · simp only [Act.put, List.setIfInBounds_toArray, List.set_cons_zero, List.set_cons_succ, i64_w, i32_w]
                    rfl
                  refine pure_ (i := 25) (N := some 73) (v := ?_) (a' := ?_) #[true, true, true, true, true, true, true, true, true, true, true, true, true, true, true, true, true, true, true, true, true, true, true, true, true, true, false, false, false, false, false, false, false, false, false, false, false] rfl rfl (any_of HT_.out (by kernel_rfl)) (fun _ _ _ h => h) (Or.inl ⟨by rfl, ?_⟩) ?_ ?_
                  rotate_left
                  · intro w'
                    go_simp
                    with_reducible rfl
                  rotate_left
                  · simp only [Act.put, List.setIfInBounds_toArray, List.set_cons_zero, List.set_cons_succ, i64_w, i32_w]
                    rfl
                  refine pure_ (i := 26) (N := some 74) (v := ?_) (a' := ?_) #[true, true, true, true, true, true, true, true, true, true, true, true, true, true, true, true, true, true, true, true, true, true, true, true, true, true, true, false, false, false, false, false, false, false, false, false, false] rfl rfl (any_of HT_.out (by kernel_rfl)) (fun _ _ _ h => h) (Or.inl ⟨by rfl, ?_⟩) ?_ ?_
                  rotate_left
                  · intro w'
                    go_simp
                    with_reducible rfl
                  rotate_left
                  · simp only [Act.put, List.setIfInBounds_toArray, List.set_cons_zero, List.set_cons_succ, i64_w, i32_w]
                    rfl
                  refine pure_ (i := 27) (N := some 75) (v := ?_) (a' := ?_) #[true, true, true, true, true, true, true, true, true, true, true, true, true, true, true, true, true, true, true, true, true, true, true, true, true, true, true, true, false, false, false, false, false, false, false, false, false] rfl rfl (any_of HT_.out (by kernel_rfl)) (fun _ _ _ h => h) (Or.inl ⟨by rfl, ?_⟩) ?_ ?_
                  rotate_left
                  · intro w'
                    go_simp
                    with_reducible rfl
                  rotate_left
                  · simp only [Act.put, List.setIfInBounds_toArray, List.set_cons_zero, List.set_cons_succ, i64_w, i32_w]
                    rfl
                  refine pure_ (i := 28) (N := some 76) (v := ?_) (a' := ?_) #[true, true, true, true, true, true, true, true, true, true, true, true, true, true, true, true, true, true, true, true, true, true, true, true, true, true, true, true, true, false, false, false, false, false, false, false, false] rfl rfl (any_of HT_.out (by kernel_rfl)) (fun _ _ _ h => h) (Or.inl ⟨by rfl, ?_⟩) ?_ ?_
                  rotate_left
                  · intro w'
                    go_simp
                    with_reducible rfl
                  rotate_left
                  · simp only [Act.put, List.setIfInBounds_toArray, List.set_cons_zero, List.set_cons_succ, i64_w, i32_w]
                    rfl
                  refine pure_ (i := 29) (N := some 77) (v := ?_) (a' := ?_) #[true, true, true, true, true, true, true, true, true, true, true, true, true, true, true, true, true, true, true, true, true, true, true, true, true, true, true, true, true, true, false, false, false, false, false, false, false] rfl rfl (any_of HT_.out (by kernel_rfl)) (fun _ _ _ h => h) (Or.inl ⟨by rfl, ?_⟩) ?_ ?_
                  rotate_left
                  · intro w'
                    go_simp
                    with_reducible rfl
                  rotate_left
                  · simp only [Act.put, List.setIfInBounds_toArray, List.set_cons_zero, List.set_cons_succ, i64_w, i32_w]
                    rfl
                  refine take_ (i := 31) (N := some 79) (v := ?_) (a' := ?_) #[true, true, true, true, true, true, true, true, true, true, true, true, true, true, true, true, true, true, true, true, true, true, true, true, true, true, true, true, true, true, false, true, false, false, false, false, false] rfl rfl (take_ofW HT_.out HW_.out (by kernel_rfl)) (fun _ _ _ h => h) (Or.inl ⟨by rfl, ?_⟩) hHeld ?_ ?_
                  rotate_left
                  · rintro w' ⟨s0, s1, s2, s3, s4, s5, s6, s7, s8, s9, s10, s11, s12, s13, s14, s15⟩
                    go_simp
                    with_reducible rfl
                  rotate_left
                  · simp only [Act.put, List.setIfInBounds_toArray, List.set_cons_zero, List.set_cons_succ, i64_w, i32_w]
                    rfl
                  refine take_ (i := 32) (N := some 80) (v := ?_) (a' := ?_) #[true, true, true, true, true, true, true, true, true, true, true, true, true, true, true, true, true, true, true, true, true, true, true, true, true, true, true, true, true, true, false, true, true, false, false, false, false] rfl rfl (take_ofW HT_.out HW_.out (by kernel_rfl)) (fun _ _ _ h => h) (Or.inl ⟨by rfl, ?_⟩) hHeld ?_ ?_
                  rotate_left
                  · rintro w' ⟨s0, s1, s2, s3, s4, s5, s6, s7, s8, s9, s10, s11, s12, s13, s14, s15⟩
                    go_simp
                    with_reducible rfl
                  rotate_left
                  · simp only [Act.put, List.setIfInBounds_toArray, List.set_cons_zero, List.set_cons_succ, i64_w, i32_w]
                    rfl
                  refine join_ (σ := Value × Value) 3 #[true, true, true, true, true, true, true, true, true, true, true, true, true, true, true, true, true, true, true, true, true, true, true, true, true, true, true, true, true, true, true, true, true, true, false, false, false] (fun s_ => [(78, s_.1), (81, s_.2)]) (fun s_ w' => (w'.cell? ⟨gb174, 0, none⟩ = some (.string (⟨#[100]⟩ : ByteArray)) ∧ w'.cell? ⟨gb174, 1, none⟩ = some (.string (⟨#[113]⟩ : ByteArray)) ∧ w'.cell? ⟨gb173, 0, none⟩ = some (.string (⟨#[100]⟩ : ByteArray)) ∧ w'.cell? ⟨gb173, 1, none⟩ = some (.string (⟨#[112]⟩ : ByteArray)) ∧ w'.cell? ad188 = some (.string ((rd_T47 t181 0).f0.f0)) ∧ w'.cell? ⟨ad188.block, ad188.off + 1, none⟩ = some (.string ((rd_T47 t181 0).f0.f1)) ∧ w'.cell? ⟨ad188.block, ad188.off + 2, none⟩ = some (.string ((rd_T47 t181 0).f1.f0)) ∧ w'.cell? ⟨ad188.block, ad188.off + 3, none⟩ = some (.string ((rd_T47 t181 0).f1.f1)) ∧ w'.cell? ⟨ad188.block, ad188.off + 4, none⟩ = some (.int .i64 ((rd_T47 t181 0).f2)) ∧ w'.cell? ⟨ad189.block, ad189.off + 5, none⟩ = some (.string ((rd_T47 y175 1).f0.f0)) ∧ w'.cell? ⟨ad189.block, ad189.off + 5 + 1, none⟩ = some (.string ((rd_T47 y175 1).f0.f1)) ∧ w'.cell? ⟨ad189.block, ad189.off + 5 + 2, none⟩ = some (.string ((rd_T47 y175 1).f1.f0)) ∧ w'.cell? ⟨ad189.block, ad189.off + 5 + 3, none⟩ = some (.string ((rd_T47 y175 1).f1.f1)) ∧ w'.cell? ⟨ad189.block, ad189.off + 5 + 4, none⟩ = some (.int .i64 ((rd_T47 y175 1).f2)) ∧ w'.cell? ad190 = some (.string ((rd_T45 t182 0).f0)) ∧ w'.cell? ⟨ad190.block, ad190.off + 1, none⟩ = some (.string ((rd_T45 t182 0).f1))) ∧ (Kd.N k55 55 w' w.heap.size (fun k_ => some k_ ≠ (.slice (some ad189) y175.length co45 : Value).ownBlock ∧ some k_ ≠ (.slice Ao47 y178.length co47 : Value).ownBlock ∧ some k_ ≠ (.slice (some ad188) t181.length co50 : Value).ownBlock ∧ some k_ ≠ (.slice (some ad190) t182.length co51 : Value).ownBlock ∧ some k_ ≠ (s_.1 : Value).ownBlock ∧ some k_ ≠ (s_.2 : Value).ownBlock ∧ k_ ≠ gb171 ∧ k_ ≠ gb172 ∧ k_ ≠ gb173 ∧ k_ ≠ gb174) (.slice Ao46 y168.length co46) y168) ∧ (Kd.R k47 47 w' w.heap.size (fun k_ => some k_ ≠ (.slice (some ad188) t181.length co50 : Value).ownBlock) (.slice (some ad189) y175.length co45) y175) ∧ (Kd.R k62 62 w' w.heap.size (fun _ => True) (.slice Ao47 y178.length co47) y178) ∧ (Kd.R k47 47 w' w.heap.size (fun k_ => some k_ ≠ (.slice (some ad189) y175.length co45 : Value).ownBlock) (.slice (some ad188) t181.length co50) t181) ∧ (Kd.R k45 45 w' w.heap.size (fun k_ => some k_ ≠ (s_.1 : Value).ownBlock ∧ some k_ ≠ (s_.2 : Value).ownBlock ∧ k_ ≠ gb171 ∧ k_ ≠ gb172 ∧ k_ ≠ gb173 ∧ k_ ≠ gb174) (.slice (some ad190) t182.length co51) t182) ∧ (Kd.R k45 45 w' w.heap.size (fun k_ => some k_ ≠ (.slice (some ad190) t182.length co51 : Value).ownBlock ∧ some k_ ≠ (s_.2 : Value).ownBlock ∧ k_ ≠ gb171 ∧ k_ ≠ gb172 ∧ k_ ≠ gb173 ∧ k_ ≠ gb174) s_.1 t191) ∧ (Kd.R k45 45 w' w.heap.size (fun k_ => some k_ ≠ (.slice (some ad190) t182.length co51 : Value).ownBlock ∧ some k_ ≠ (s_.1 : Value).ownBlock ∧ k_ ≠ gb171 ∧ k_ ≠ gb172 ∧ k_ ≠ gb173 ∧ k_ ≠ gb174) s_.2 y194) ∧ (w'.heap[gb171]? = some (.cells #[.string (⟨#[97]⟩ : ByteArray), .string (⟨#[120]⟩ : ByteArray)] 45 (0, 0))) ∧ (w'.heap[gb172]? = some (.cells #[.string (⟨#[98]⟩ : ByteArray), .string (⟨#[120]⟩ : ByteArray)] 45 (0, 0))) ∧ (w'.heap[gb173]? = some (.cells #[.string (⟨#[100]⟩ : ByteArray), .string (⟨#[112]⟩ : ByteArray)] 45 (0, 0))) ∧ (w'.heap[gb174]? = some (.cells #[.string (⟨#[100]⟩ : ByteArray), .string (⟨#[113]⟩ : ByteArray)] 45 (0, 0))) ∧ (Below w.heap.size w w')) ?_ ?_
                  rotate_left
                  · intro hCont
                    refine two_ (i := 30) (j := 33) (Ni := some 78) (Nj := some 81) #[true, true, true, true, true, true, true, true, true, true, true, true, true, true, true, true, true, true, true, true, true, true, true, true, true, true, true, true, true, true, true, true, true, false, false, false, false] #[true, true, true, true, true, true, true, true, true, true, true, true, true, true, true, true, true, true, true, true, true, true, true, true, true, true, true, true, true, true, false, true, true, true, false, false, false] rfl rfl rfl rfl (two_of HT_.out (by kernel_rfl)) (by decide) (by decide) (fun K hK => ?_) (fun K hK => ?_)
                    · skip
                      refine goes_ Try.func18 (by kernel_rfl) rfl #[.slice Ao46 y168.length co46, .string (⟨#[100]⟩ : ByteArray)] (by rfl) rfl rfl (by (try simp only [List.map_toArray, List.map_cons, List.map_nil]); first | done | rfl | (simp only [List.length_drop, List.length_take]; rfl)) ?_
                      with_reducible refine (port_Clients.calls k _ _ y168 (⟨#[100]⟩ : ByteArray) t191 _ ?side1 ?side2 A10.out).mono ?_
                      (case side1 => repeat (first | exact (Kd.N_reads' HO170.out).2.2 | (with_reducible refine Kd.C_alloc ?_ _) | (with_reducible refine Kd.C_drewN ?_ _) | (with_reducible refine Kd.C_drew ?_)))
                      (case side2 => exact (Kd.N_reads' HO170.out).2.1)
                      rintro e w52 ⟨v192, rfl, ho0, hb⟩
                      have HS4_ := (hb.cell (World.block_lt_of_cell? _ _ (hHeld.2.2.2.2.1))).trans (hHeld.2.2.2.2.1)
                      have HS5_ := (hb.cell (World.block_lt_of_cell? _ _ (hHeld.2.2.2.2.2.1))).trans (hHeld.2.2.2.2.2.1)
                      have HS6_ := (hb.cell (World.block_lt_of_cell? _ _ (hHeld.2.2.2.2.2.2.1))).trans (hHeld.2.2.2.2.2.2.1)
                      have HS7_ := (hb.cell (World.block_lt_of_cell? _ _ (hHeld.2.2.2.2.2.2.2.1))).trans (hHeld.2.2.2.2.2.2.2.1)
                      have HS8_ := (hb.cell (World.block_lt_of_cell? _ _ (hHeld.2.2.2.2.2.2.2.2.1))).trans (hHeld.2.2.2.2.2.2.2.2.1)
                      have HS9_ := (hb.cell (World.block_lt_of_cell? _ _ (hHeld.2.2.2.2.2.2.2.2.2.1))).trans (hHeld.2.2.2.2.2.2.2.2.2.1)
                      have HS10_ := (hb.cell (World.block_lt_of_cell? _ _ (hHeld.2.2.2.2.2.2.2.2.2.2.1))).trans (hHeld.2.2.2.2.2.2.2.2.2.2.1)
                      have HS11_ := (hb.cell (World.block_lt_of_cell? _ _ (hHeld.2.2.2.2.2.2.2.2.2.2.2.1))).trans (hHeld.2.2.2.2.2.2.2.2.2.2.2.1)
                      have HS12_ := (hb.cell (World.block_lt_of_cell? _ _ (hHeld.2.2.2.2.2.2.2.2.2.2.2.2.1))).trans (hHeld.2.2.2.2.2.2.2.2.2.2.2.2.1)
                      have HS13_ := (hb.cell (World.block_lt_of_cell? _ _ (hHeld.2.2.2.2.2.2.2.2.2.2.2.2.2.1))).trans (hHeld.2.2.2.2.2.2.2.2.2.2.2.2.2.1)
                      have HS14_ := (hb.cell (World.block_lt_of_cell? _ _ (hHeld.2.2.2.2.2.2.2.2.2.2.2.2.2.2.1))).trans (hHeld.2.2.2.2.2.2.2.2.2.2.2.2.2.2.1)
                      have HS15_ := (hb.cell (World.block_lt_of_cell? _ _ (hHeld.2.2.2.2.2.2.2.2.2.2.2.2.2.2.2))).trans (hHeld.2.2.2.2.2.2.2.2.2.2.2.2.2.2.2)
                      refine ⟨_, rfl, ?_⟩
                      have n0_ := Aside0.mk (Kd.N_elder' (by (with_reducible repeat (first | apply Kd.N_alloc | apply Kd.N_drewN | apply Kd.N_drew)); exact HO170.out) (Kd.R_base ho0) hb)
                      have n1_ := Aside0.mk (Kd.R_below (by (with_reducible repeat (first | apply Kd.R_alloc | apply Kd.R_drewN | apply Kd.R_drew)); exact HO177.out) hb)
                      have n2_ := Aside0.mk (Kd.R_below (by (with_reducible repeat (first | apply Kd.R_alloc | apply Kd.R_drewN | apply Kd.R_drew)); exact HO180.out) hb)
                      have n3_ := Aside0.mk (Kd.R_below (by (with_reducible repeat (first | apply Kd.R_alloc | apply Kd.R_drewN | apply Kd.R_drew)); exact HO185.out) hb)
                      have n4_ := Aside0.mk (Kd.R_elder' (by (with_reducible repeat (first | apply Kd.R_alloc | apply Kd.R_drewN | apply Kd.R_drew)); exact HO187.out) (Kd.R_base ho0) hb)
                      have n5_ := Aside0.mk (Kd.R_lower (Kd.R_newB (Kd.R_newB (Kd.R_newB (Kd.R_newB (Kd.R_new' ho0 (Kd.R_lt (by (with_reducible repeat (first | apply Kd.R_alloc | apply Kd.R_drewN | apply Kd.R_drew)); exact HO187.out))) (g := gb171) (o := .cells #[.string (⟨#[97]⟩ : ByteArray), .string (⟨#[120]⟩ : ByteArray)] 45 (0, 0)) (by (with_reducible repeat (first | refine blk_drewN ?_ _ | refine blk_drew ?_ | refine blk_alloc ?_ _)); exact BK171.out)) (g := gb172) (o := .cells #[.string (⟨#[98]⟩ : ByteArray), .string (⟨#[120]⟩ : ByteArray)] 45 (0, 0)) (by (with_reducible repeat (first | refine blk_drewN ?_ _ | refine blk_drew ?_ | refine blk_alloc ?_ _)); exact BK172.out)) (g := gb173) (o := .cells #[.string (⟨#[100]⟩ : ByteArray), .string (⟨#[112]⟩ : ByteArray)] 45 (0, 0)) (by (with_reducible repeat (first | refine blk_drewN ?_ _ | refine blk_drew ?_ | refine blk_alloc ?_ _)); exact BK173.out)) (g := gb174) (o := .cells #[.string (⟨#[100]⟩ : ByteArray), .string (⟨#[113]⟩ : ByteArray)] 45 (0, 0)) (by (with_reducible repeat (first | refine blk_drewN ?_ _ | refine blk_drew ?_ | refine blk_alloc ?_ _)); exact BK174.out)) (below_size (by repeat (first | (with_reducible first | exact HB.out | apply below_alloc | apply pw_below_drewN | apply below_drew1 | refine below_set ?_ GE171.out | refine below_set ?_ GE172.out | refine below_set ?_ GE173.out | refine below_set ?_ GE174.out) | exact HB.out))))
                      have n6_ := Aside0.mk (blk_below (g := gb171) (o := .cells #[.string (⟨#[97]⟩ : ByteArray), .string (⟨#[120]⟩ : ByteArray)] 45 (0, 0)) (by (with_reducible repeat (first | refine blk_drewN ?_ _ | refine blk_drew ?_ | refine blk_alloc ?_ _)); exact BK171.out) hb)
                      have n7_ := Aside0.mk (blk_below (g := gb172) (o := .cells #[.string (⟨#[98]⟩ : ByteArray), .string (⟨#[120]⟩ : ByteArray)] 45 (0, 0)) (by (with_reducible repeat (first | refine blk_drewN ?_ _ | refine blk_drew ?_ | refine blk_alloc ?_ _)); exact BK172.out) hb)
                      have n8_ := Aside0.mk (blk_below (g := gb173) (o := .cells #[.string (⟨#[100]⟩ : ByteArray), .string (⟨#[112]⟩ : ByteArray)] 45 (0, 0)) (by (with_reducible repeat (first | refine blk_drewN ?_ _ | refine blk_drew ?_ | refine blk_alloc ?_ _)); exact BK173.out) hb)
                      have n9_ := Aside0.mk (blk_below (g := gb174) (o := .cells #[.string (⟨#[100]⟩ : ByteArray), .string (⟨#[113]⟩ : ByteArray)] 45 (0, 0)) (by (with_reducible repeat (first | refine blk_drewN ?_ _ | refine blk_drew ?_ | refine blk_alloc ?_ _)); exact BK174.out) hb)
                      have n10_ := Aside0.mk (below_step (by repeat (first | (with_reducible first | exact HB.out | apply below_alloc | apply pw_below_drewN | apply below_drew1 | refine below_set ?_ GE171.out | refine below_set ?_ GE172.out | refine below_set ?_ GE173.out | refine below_set ?_ GE174.out) | exact HB.out)) hb)
                      clear HO170
                      clear HO177
                      clear HO180
                      clear HO185
                      clear HO187
                      clear BK171
                      clear BK172
                      clear BK173
                      clear BK174
                      clear HB
                      have HO170 := n0_
                      have HO177 := n1_
                      have HO180 := n2_
                      have HO185 := n3_
                      have HO187 := n4_
                      have HO193 := n5_
                      have BK171 := n6_
                      have BK172 := n7_
                      have BK173 := n8_
                      have BK174 := n9_
                      have HB := n10_
                      clear n0_ n1_ n2_ n3_ n4_ n5_ n6_ n7_ n8_ n9_ n10_
                      (try clear hb)
                      (try clear hb2)
                      (try clear hk)
                      (try clear hi)
                      (try clear ho0)
                      refine hK.out _ _ ⟨(blk_cell BK174.out 0).trans rfl, (blk_cell BK174.out 1).trans rfl, (blk_cell BK173.out 0).trans rfl, (blk_cell BK173.out 1).trans rfl, HS4_, HS5_, HS6_, HS7_, HS8_, HS9_, HS10_, HS11_, HS12_, HS13_, HS14_, HS15_⟩ (fun hHeld => ?_)
                      clear hK K
                      refine norm_ (a' := ?_) ?_ ?_
                      rotate_left
                      · show Act.put _ (some 78) _ = _
                        simp only [Act.put, List.setIfInBounds_toArray, List.set_cons_zero, List.set_cons_succ, i64_w, i32_w]
                        rfl
                      refine one_ (i := 33) (N := some 81) #[true, true, true, true, true, true, true, true, true, true, true, true, true, true, true, true, true, true, true, true, true, true, true, true, true, true, true, true, true, true, true, true, true, true, false, false, false] rfl rfl (one_of HT_.out (by kernel_rfl)) (by decide) (fun K hK => ?_)
                      refine Kd.R_lit_step k45 _ 45 ?hg (N := 81) ?hd (xs := ([(⟨(⟨#[100]⟩ : ByteArray), (⟨#[112]⟩ : ByteArray)⟩ : S45), (⟨(⟨#[100]⟩ : ByteArray), (⟨#[113]⟩ : ByteArray)⟩ : S45)] : List (S45))) (inner := [.string (⟨#[100]⟩ : ByteArray), .string (⟨#[112]⟩ : ByteArray), .string (⟨#[100]⟩ : ByteArray), .string (⟨#[113]⟩ : ByteArray)]) (ok := fun _ => True) (okp := fun _ => True) ?hr ?hp (fun _ hk => hk) trivial (Below.refl _ _) (Nat.le_refl _) (by simp) ?_; (case hd => rfl); (case hg => rfl); (case hr => first | (go_simp; done) | (go_simp; rfl)); (case hp => exact (Reps.c2 (show Kd.M k45 _ _ _ (⟨(⟨#[100]⟩ : ByteArray), (⟨#[112]⟩ : ByteArray)⟩ : S45) [.string (⟨#[100]⟩ : ByteArray), .string (⟨#[112]⟩ : ByteArray)] from (k45_mkM _ _ _ (⟨(⟨#[100]⟩ : ByteArray), (⟨#[112]⟩ : ByteArray)⟩ : S45) )) (Reps.c2 (show Kd.M k45 _ _ _ (⟨(⟨#[100]⟩ : ByteArray), (⟨#[113]⟩ : ByteArray)⟩ : S45) [.string (⟨#[100]⟩ : ByteArray), .string (⟨#[113]⟩ : ByteArray)] from (k45_mkM _ _ _ (⟨(⟨#[100]⟩ : ByteArray), (⟨#[113]⟩ : ByteArray)⟩ : S45) )) (Reps.none _ _))))
                      intro v195 w53 ho54 hb hg_ hnew_
                      have HS4_ := (hb.cell (World.block_lt_of_cell? _ _ (hHeld.2.2.2.2.1))).trans (hHeld.2.2.2.2.1)
                      have HS5_ := (hb.cell (World.block_lt_of_cell? _ _ (hHeld.2.2.2.2.2.1))).trans (hHeld.2.2.2.2.2.1)
                      have HS6_ := (hb.cell (World.block_lt_of_cell? _ _ (hHeld.2.2.2.2.2.2.1))).trans (hHeld.2.2.2.2.2.2.1)
                      have HS7_ := (hb.cell (World.block_lt_of_cell? _ _ (hHeld.2.2.2.2.2.2.2.1))).trans (hHeld.2.2.2.2.2.2.2.1)
                      have HS8_ := (hb.cell (World.block_lt_of_cell? _ _ (hHeld.2.2.2.2.2.2.2.2.1))).trans (hHeld.2.2.2.2.2.2.2.2.1)
                      have HS9_ := (hb.cell (World.block_lt_of_cell? _ _ (hHeld.2.2.2.2.2.2.2.2.2.1))).trans (hHeld.2.2.2.2.2.2.2.2.2.1)
                      have HS10_ := (hb.cell (World.block_lt_of_cell? _ _ (hHeld.2.2.2.2.2.2.2.2.2.2.1))).trans (hHeld.2.2.2.2.2.2.2.2.2.2.1)
                      have HS11_ := (hb.cell (World.block_lt_of_cell? _ _ (hHeld.2.2.2.2.2.2.2.2.2.2.2.1))).trans (hHeld.2.2.2.2.2.2.2.2.2.2.2.1)
                      have HS12_ := (hb.cell (World.block_lt_of_cell? _ _ (hHeld.2.2.2.2.2.2.2.2.2.2.2.2.1))).trans (hHeld.2.2.2.2.2.2.2.2.2.2.2.2.1)
                      have HS13_ := (hb.cell (World.block_lt_of_cell? _ _ (hHeld.2.2.2.2.2.2.2.2.2.2.2.2.2.1))).trans (hHeld.2.2.2.2.2.2.2.2.2.2.2.2.2.1)
                      have HS14_ := (hb.cell (World.block_lt_of_cell? _ _ (hHeld.2.2.2.2.2.2.2.2.2.2.2.2.2.2.1))).trans (hHeld.2.2.2.2.2.2.2.2.2.2.2.2.2.2.1)
                      have HS15_ := (hb.cell (World.block_lt_of_cell? _ _ (hHeld.2.2.2.2.2.2.2.2.2.2.2.2.2.2.2))).trans (hHeld.2.2.2.2.2.2.2.2.2.2.2.2.2.2.2)
                      clear hg_ hnew_
                      (first | rw [← Ny194.out] at ho54 | (simp only [Int.reduceToNat] at ho54; rw [← Ny194.out] at ho54))
                      have n0_ := Aside0.mk (Kd.N_elder' (by (with_reducible repeat (first | apply Kd.N_alloc | apply Kd.N_drewN | apply Kd.N_drew)); exact HO170.out) (Kd.R_base ho54) hb)
                      have n1_ := Aside0.mk (Kd.R_below (by (with_reducible repeat (first | apply Kd.R_alloc | apply Kd.R_drewN | apply Kd.R_drew)); exact HO177.out) hb)
                      have n2_ := Aside0.mk (Kd.R_below (by (with_reducible repeat (first | apply Kd.R_alloc | apply Kd.R_drewN | apply Kd.R_drew)); exact HO180.out) hb)
                      have n3_ := Aside0.mk (Kd.R_below (by (with_reducible repeat (first | apply Kd.R_alloc | apply Kd.R_drewN | apply Kd.R_drew)); exact HO185.out) hb)
                      have n4_ := Aside0.mk (Kd.R_elder' (by (with_reducible repeat (first | apply Kd.R_alloc | apply Kd.R_drewN | apply Kd.R_drew)); exact HO187.out) (Kd.R_base ho54) hb)
                      have n5_ := Aside0.mk (Kd.R_elder' (by (with_reducible repeat (first | apply Kd.R_alloc | apply Kd.R_drewN | apply Kd.R_drew)); exact HO193.out) (Kd.R_base ho54) hb)
                      have n6_ := Aside0.mk (Kd.R_lower (Kd.R_newB (Kd.R_newB (Kd.R_newB (Kd.R_newB (Kd.R_new' (Kd.R_new' ho54 (Kd.R_lt (by (with_reducible repeat (first | apply Kd.R_alloc | apply Kd.R_drewN | apply Kd.R_drew)); exact HO187.out))) (Kd.R_lt (by (with_reducible repeat (first | apply Kd.R_alloc | apply Kd.R_drewN | apply Kd.R_drew)); exact HO193.out))) (g := gb171) (o := .cells #[.string (⟨#[97]⟩ : ByteArray), .string (⟨#[120]⟩ : ByteArray)] 45 (0, 0)) (by (with_reducible repeat (first | refine blk_drewN ?_ _ | refine blk_drew ?_ | refine blk_alloc ?_ _)); exact BK171.out)) (g := gb172) (o := .cells #[.string (⟨#[98]⟩ : ByteArray), .string (⟨#[120]⟩ : ByteArray)] 45 (0, 0)) (by (with_reducible repeat (first | refine blk_drewN ?_ _ | refine blk_drew ?_ | refine blk_alloc ?_ _)); exact BK172.out)) (g := gb173) (o := .cells #[.string (⟨#[100]⟩ : ByteArray), .string (⟨#[112]⟩ : ByteArray)] 45 (0, 0)) (by (with_reducible repeat (first | refine blk_drewN ?_ _ | refine blk_drew ?_ | refine blk_alloc ?_ _)); exact BK173.out)) (g := gb174) (o := .cells #[.string (⟨#[100]⟩ : ByteArray), .string (⟨#[113]⟩ : ByteArray)] 45 (0, 0)) (by (with_reducible repeat (first | refine blk_drewN ?_ _ | refine blk_drew ?_ | refine blk_alloc ?_ _)); exact BK174.out)) (below_size (by repeat (first | (with_reducible first | exact HB.out | apply below_alloc | apply pw_below_drewN | apply below_drew1 | refine below_set ?_ GE171.out | refine below_set ?_ GE172.out | refine below_set ?_ GE173.out | refine below_set ?_ GE174.out) | exact HB.out))))
                      have n7_ := Aside0.mk (blk_below (g := gb171) (o := .cells #[.string (⟨#[97]⟩ : ByteArray), .string (⟨#[120]⟩ : ByteArray)] 45 (0, 0)) (by (with_reducible repeat (first | refine blk_drewN ?_ _ | refine blk_drew ?_ | refine blk_alloc ?_ _)); exact BK171.out) hb)
                      have n8_ := Aside0.mk (blk_below (g := gb172) (o := .cells #[.string (⟨#[98]⟩ : ByteArray), .string (⟨#[120]⟩ : ByteArray)] 45 (0, 0)) (by (with_reducible repeat (first | refine blk_drewN ?_ _ | refine blk_drew ?_ | refine blk_alloc ?_ _)); exact BK172.out) hb)
                      have n9_ := Aside0.mk (blk_below (g := gb173) (o := .cells #[.string (⟨#[100]⟩ : ByteArray), .string (⟨#[112]⟩ : ByteArray)] 45 (0, 0)) (by (with_reducible repeat (first | refine blk_drewN ?_ _ | refine blk_drew ?_ | refine blk_alloc ?_ _)); exact BK173.out) hb)
                      have n10_ := Aside0.mk (blk_below (g := gb174) (o := .cells #[.string (⟨#[100]⟩ : ByteArray), .string (⟨#[113]⟩ : ByteArray)] 45 (0, 0)) (by (with_reducible repeat (first | refine blk_drewN ?_ _ | refine blk_drew ?_ | refine blk_alloc ?_ _)); exact BK174.out) hb)
                      have n11_ := Aside0.mk (below_step (by repeat (first | (with_reducible first | exact HB.out | apply below_alloc | apply pw_below_drewN | apply below_drew1 | refine below_set ?_ GE171.out | refine below_set ?_ GE172.out | refine below_set ?_ GE173.out | refine below_set ?_ GE174.out) | exact HB.out)) hb)
                      clear HO170
                      clear HO177
                      clear HO180
                      clear HO185
                      clear HO187
                      clear HO193
                      clear BK171
                      clear BK172
                      clear BK173
                      clear BK174
                      clear HB
                      have HO170 := n0_
                      have HO177 := n1_
                      have HO180 := n2_
                      have HO185 := n3_
                      have HO187 := n4_
                      have HO193 := n5_
                      have HO196 := n6_
                      have BK171 := n7_
                      have BK172 := n8_
                      have BK173 := n9_
                      have BK174 := n10_
                      have HB := n11_
                      clear n0_ n1_ n2_ n3_ n4_ n5_ n6_ n7_ n8_ n9_ n10_ n11_
                      clear hb ho54
                      refine hK.out _ _ ⟨(blk_cell BK174.out 0).trans rfl, (blk_cell BK174.out 1).trans rfl, (blk_cell BK173.out 0).trans rfl, (blk_cell BK173.out 1).trans rfl, HS4_, HS5_, HS6_, HS7_, HS8_, HS9_, HS10_, HS11_, HS12_, HS13_, HS14_, HS15_⟩ (fun hHeld => ?_)
                      clear hK K
                      refine norm_ (a' := ?_) ?_ ?_
                      rotate_left
                      · show Act.put _ (some 81) _ = _
                        simp only [Act.put, List.setIfInBounds_toArray, List.set_cons_zero, List.set_cons_succ, i64_w, i32_w]
                        rfl
                      exact norm_ (by simp only [putAll, Act.put, List.setIfInBounds_toArray, List.set_cons_zero, List.set_cons_succ]) (hCont (v192, v195) _ ⟨hHeld, (by (with_reducible repeat (first | apply Kd.N_alloc | apply Kd.N_drewN | apply Kd.N_drew)); exact Kd.N_mono HO170.out (fun _ hk => ⟨hk.1.1.1.1.1.2, ⟨hk.1.1.1.1.2, ⟨hk.1.1.1.2, ⟨hk.1.1.2, ⟨hk.1.2, ⟨hk.2, ⟨hk.1.1.1.1.1.1.1.1.1.2, ⟨hk.1.1.1.1.1.1.1.1.2, ⟨hk.1.1.1.1.1.1.1.2, hk.1.1.1.1.1.1.2⟩⟩⟩⟩⟩⟩⟩⟩⟩)), (by (with_reducible repeat (first | apply Kd.R_alloc | apply Kd.R_drewN | apply Kd.R_drew)); exact Kd.R_mono HO177.out (fun _ hk => hk.2)), (by (with_reducible repeat (first | apply Kd.R_alloc | apply Kd.R_drewN | apply Kd.R_drew)); exact HO180.out), (by (with_reducible repeat (first | apply Kd.R_alloc | apply Kd.R_drewN | apply Kd.R_drew)); exact Kd.R_mono HO185.out (fun _ hk => hk.2)), (by (with_reducible repeat (first | apply Kd.R_alloc | apply Kd.R_drewN | apply Kd.R_drew)); exact Kd.R_mono HO187.out (fun _ hk => ⟨hk.1.2, ⟨hk.2, ⟨hk.1.1.1.1.1.2, ⟨hk.1.1.1.1.2, ⟨hk.1.1.1.2, hk.1.1.2⟩⟩⟩⟩⟩)), (by (with_reducible repeat (first | apply Kd.R_alloc | apply Kd.R_drewN | apply Kd.R_drew)); exact Kd.R_mono HO193.out (fun _ hk => ⟨hk.1.1.1.1.1.2, ⟨hk.2, ⟨hk.1.1.1.1.2, ⟨hk.1.1.1.2, ⟨hk.1.1.2, hk.1.2⟩⟩⟩⟩⟩)), (by (with_reducible repeat (first | apply Kd.R_alloc | apply Kd.R_drewN | apply Kd.R_drew)); exact Kd.R_mono HO196.out (fun _ hk => ⟨hk.1.1.1.1.1.2, ⟨hk.1.1.1.1.2, ⟨hk.1.1.1.2, ⟨hk.1.1.2, ⟨hk.1.2, hk.2⟩⟩⟩⟩⟩)), (by (with_reducible repeat (first | refine blk_drewN ?_ _ | refine blk_drew ?_ | refine blk_alloc ?_ _)); exact BK171.out), (by (with_reducible repeat (first | refine blk_drewN ?_ _ | refine blk_drew ?_ | refine blk_alloc ?_ _)); exact BK172.out), (by (with_reducible repeat (first | refine blk_drewN ?_ _ | refine blk_drew ?_ | refine blk_alloc ?_ _)); exact BK173.out), (by (with_reducible repeat (first | refine blk_drewN ?_ _ | refine blk_drew ?_ | refine blk_alloc ?_ _)); exact BK174.out), (by repeat (first | (with_reducible first | exact HB.out | apply below_alloc | apply pw_below_drewN | apply below_drew1 | refine below_set ?_ GE171.out | refine below_set ?_ GE172.out | refine below_set ?_ GE173.out | refine below_set ?_ GE174.out) | exact HB.out))⟩)
                    · skip
                      refine Kd.R_lit_step k45 _ 45 ?hg (N := 81) ?hd (xs := ([(⟨(⟨#[100]⟩ : ByteArray), (⟨#[112]⟩ : ByteArray)⟩ : S45), (⟨(⟨#[100]⟩ : ByteArray), (⟨#[113]⟩ : ByteArray)⟩ : S45)] : List (S45))) (inner := [.string (⟨#[100]⟩ : ByteArray), .string (⟨#[112]⟩ : ByteArray), .string (⟨#[100]⟩ : ByteArray), .string (⟨#[113]⟩ : ByteArray)]) (ok := fun _ => True) (okp := fun _ => True) ?hr ?hp (fun _ hk => hk) trivial (Below.refl _ _) (Nat.le_refl _) (by simp) ?_; (case hd => rfl); (case hg => rfl); (case hr => first | (go_simp; done) | (go_simp; rfl)); (case hp => exact (Reps.c2 (show Kd.M k45 _ _ _ (⟨(⟨#[100]⟩ : ByteArray), (⟨#[112]⟩ : ByteArray)⟩ : S45) [.string (⟨#[100]⟩ : ByteArray), .string (⟨#[112]⟩ : ByteArray)] from (k45_mkM _ _ _ (⟨(⟨#[100]⟩ : ByteArray), (⟨#[112]⟩ : ByteArray)⟩ : S45) )) (Reps.c2 (show Kd.M k45 _ _ _ (⟨(⟨#[100]⟩ : ByteArray), (⟨#[113]⟩ : ByteArray)⟩ : S45) [.string (⟨#[100]⟩ : ByteArray), .string (⟨#[113]⟩ : ByteArray)] from (k45_mkM _ _ _ (⟨(⟨#[100]⟩ : ByteArray), (⟨#[113]⟩ : ByteArray)⟩ : S45) )) (Reps.none _ _))))
                      intro v195 w52 ho53 hb hg_ hnew_
                      have HS4_ := (hb.cell (World.block_lt_of_cell? _ _ (hHeld.2.2.2.2.1))).trans (hHeld.2.2.2.2.1)
                      have HS5_ := (hb.cell (World.block_lt_of_cell? _ _ (hHeld.2.2.2.2.2.1))).trans (hHeld.2.2.2.2.2.1)
                      have HS6_ := (hb.cell (World.block_lt_of_cell? _ _ (hHeld.2.2.2.2.2.2.1))).trans (hHeld.2.2.2.2.2.2.1)
                      have HS7_ := (hb.cell (World.block_lt_of_cell? _ _ (hHeld.2.2.2.2.2.2.2.1))).trans (hHeld.2.2.2.2.2.2.2.1)
                      have HS8_ := (hb.cell (World.block_lt_of_cell? _ _ (hHeld.2.2.2.2.2.2.2.2.1))).trans (hHeld.2.2.2.2.2.2.2.2.1)
                      have HS9_ := (hb.cell (World.block_lt_of_cell? _ _ (hHeld.2.2.2.2.2.2.2.2.2.1))).trans (hHeld.2.2.2.2.2.2.2.2.2.1)
                      have HS10_ := (hb.cell (World.block_lt_of_cell? _ _ (hHeld.2.2.2.2.2.2.2.2.2.2.1))).trans (hHeld.2.2.2.2.2.2.2.2.2.2.1)
                      have HS11_ := (hb.cell (World.block_lt_of_cell? _ _ (hHeld.2.2.2.2.2.2.2.2.2.2.2.1))).trans (hHeld.2.2.2.2.2.2.2.2.2.2.2.1)
                      have HS12_ := (hb.cell (World.block_lt_of_cell? _ _ (hHeld.2.2.2.2.2.2.2.2.2.2.2.2.1))).trans (hHeld.2.2.2.2.2.2.2.2.2.2.2.2.1)
                      have HS13_ := (hb.cell (World.block_lt_of_cell? _ _ (hHeld.2.2.2.2.2.2.2.2.2.2.2.2.2.1))).trans (hHeld.2.2.2.2.2.2.2.2.2.2.2.2.2.1)
                      have HS14_ := (hb.cell (World.block_lt_of_cell? _ _ (hHeld.2.2.2.2.2.2.2.2.2.2.2.2.2.2.1))).trans (hHeld.2.2.2.2.2.2.2.2.2.2.2.2.2.2.1)
                      have HS15_ := (hb.cell (World.block_lt_of_cell? _ _ (hHeld.2.2.2.2.2.2.2.2.2.2.2.2.2.2.2))).trans (hHeld.2.2.2.2.2.2.2.2.2.2.2.2.2.2.2)
                      clear hg_ hnew_
                      (first | rw [← Ny194.out] at ho53 | (simp only [Int.reduceToNat] at ho53; rw [← Ny194.out] at ho53))
                      have n0_ := Aside0.mk (Kd.N_elder' (by (with_reducible repeat (first | apply Kd.N_alloc | apply Kd.N_drewN | apply Kd.N_drew)); exact HO170.out) (Kd.R_base ho53) hb)
                      have n1_ := Aside0.mk (Kd.R_below (by (with_reducible repeat (first | apply Kd.R_alloc | apply Kd.R_drewN | apply Kd.R_drew)); exact HO177.out) hb)
                      have n2_ := Aside0.mk (Kd.R_below (by (with_reducible repeat (first | apply Kd.R_alloc | apply Kd.R_drewN | apply Kd.R_drew)); exact HO180.out) hb)
                      have n3_ := Aside0.mk (Kd.R_below (by (with_reducible repeat (first | apply Kd.R_alloc | apply Kd.R_drewN | apply Kd.R_drew)); exact HO185.out) hb)
                      have n4_ := Aside0.mk (Kd.R_elder' (by (with_reducible repeat (first | apply Kd.R_alloc | apply Kd.R_drewN | apply Kd.R_drew)); exact HO187.out) (Kd.R_base ho53) hb)
                      have n5_ := Aside0.mk (Kd.R_lower (Kd.R_newB (Kd.R_newB (Kd.R_newB (Kd.R_newB (Kd.R_new' ho53 (Kd.R_lt (by (with_reducible repeat (first | apply Kd.R_alloc | apply Kd.R_drewN | apply Kd.R_drew)); exact HO187.out))) (g := gb171) (o := .cells #[.string (⟨#[97]⟩ : ByteArray), .string (⟨#[120]⟩ : ByteArray)] 45 (0, 0)) (by (with_reducible repeat (first | refine blk_drewN ?_ _ | refine blk_drew ?_ | refine blk_alloc ?_ _)); exact BK171.out)) (g := gb172) (o := .cells #[.string (⟨#[98]⟩ : ByteArray), .string (⟨#[120]⟩ : ByteArray)] 45 (0, 0)) (by (with_reducible repeat (first | refine blk_drewN ?_ _ | refine blk_drew ?_ | refine blk_alloc ?_ _)); exact BK172.out)) (g := gb173) (o := .cells #[.string (⟨#[100]⟩ : ByteArray), .string (⟨#[112]⟩ : ByteArray)] 45 (0, 0)) (by (with_reducible repeat (first | refine blk_drewN ?_ _ | refine blk_drew ?_ | refine blk_alloc ?_ _)); exact BK173.out)) (g := gb174) (o := .cells #[.string (⟨#[100]⟩ : ByteArray), .string (⟨#[113]⟩ : ByteArray)] 45 (0, 0)) (by (with_reducible repeat (first | refine blk_drewN ?_ _ | refine blk_drew ?_ | refine blk_alloc ?_ _)); exact BK174.out)) (below_size (by repeat (first | (with_reducible first | exact HB.out | apply below_alloc | apply pw_below_drewN | apply below_drew1 | refine below_set ?_ GE171.out | refine below_set ?_ GE172.out | refine below_set ?_ GE173.out | refine below_set ?_ GE174.out) | exact HB.out))))
                      have n6_ := Aside0.mk (blk_below (g := gb171) (o := .cells #[.string (⟨#[97]⟩ : ByteArray), .string (⟨#[120]⟩ : ByteArray)] 45 (0, 0)) (by (with_reducible repeat (first | refine blk_drewN ?_ _ | refine blk_drew ?_ | refine blk_alloc ?_ _)); exact BK171.out) hb)
                      have n7_ := Aside0.mk (blk_below (g := gb172) (o := .cells #[.string (⟨#[98]⟩ : ByteArray), .string (⟨#[120]⟩ : ByteArray)] 45 (0, 0)) (by (with_reducible repeat (first | refine blk_drewN ?_ _ | refine blk_drew ?_ | refine blk_alloc ?_ _)); exact BK172.out) hb)
                      have n8_ := Aside0.mk (blk_below (g := gb173) (o := .cells #[.string (⟨#[100]⟩ : ByteArray), .string (⟨#[112]⟩ : ByteArray)] 45 (0, 0)) (by (with_reducible repeat (first | refine blk_drewN ?_ _ | refine blk_drew ?_ | refine blk_alloc ?_ _)); exact BK173.out) hb)
                      have n9_ := Aside0.mk (blk_below (g := gb174) (o := .cells #[.string (⟨#[100]⟩ : ByteArray), .string (⟨#[113]⟩ : ByteArray)] 45 (0, 0)) (by (with_reducible repeat (first | refine blk_drewN ?_ _ | refine blk_drew ?_ | refine blk_alloc ?_ _)); exact BK174.out) hb)
                      have n10_ := Aside0.mk (below_step (by repeat (first | (with_reducible first | exact HB.out | apply below_alloc | apply pw_below_drewN | apply below_drew1 | refine below_set ?_ GE171.out | refine below_set ?_ GE172.out | refine below_set ?_ GE173.out | refine below_set ?_ GE174.out) | exact HB.out)) hb)
                      clear HO170
                      clear HO177
                      clear HO180
                      clear HO185
                      clear HO187
                      clear BK171
                      clear BK172
                      clear BK173
                      clear BK174
                      clear HB
                      have HO170 := n0_
                      have HO177 := n1_
                      have HO180 := n2_
                      have HO185 := n3_
                      have HO187 := n4_
                      have HO196 := n5_
                      have BK171 := n6_
                      have BK172 := n7_
                      have BK173 := n8_
                      have BK174 := n9_
                      have HB := n10_
                      clear n0_ n1_ n2_ n3_ n4_ n5_ n6_ n7_ n8_ n9_ n10_
                      clear hb ho53
                      refine hK.out _ _ ⟨(blk_cell BK174.out 0).trans rfl, (blk_cell BK174.out 1).trans rfl, (blk_cell BK173.out 0).trans rfl, (blk_cell BK173.out 1).trans rfl, HS4_, HS5_, HS6_, HS7_, HS8_, HS9_, HS10_, HS11_, HS12_, HS13_, HS14_, HS15_⟩ (fun hHeld => ?_)
                      clear hK K
                      refine norm_ (a' := ?_) ?_ ?_
                      rotate_left
                      · show Act.put _ (some 81) _ = _
                        simp only [Act.put, List.setIfInBounds_toArray, List.set_cons_zero, List.set_cons_succ, i64_w, i32_w]
                        rfl
                      refine one_ (i := 30) (N := some 78) #[true, true, true, true, true, true, true, true, true, true, true, true, true, true, true, true, true, true, true, true, true, true, true, true, true, true, true, true, true, true, true, true, true, true, false, false, false] rfl rfl (one_of HT_.out (by kernel_rfl)) (by decide) (fun K hK => ?_)
                      refine goes_ Try.func18 (by kernel_rfl) rfl #[.slice Ao46 y168.length co46, .string (⟨#[100]⟩ : ByteArray)] (by rfl) rfl rfl (by (try simp only [List.map_toArray, List.map_cons, List.map_nil]); first | done | rfl | (simp only [List.length_drop, List.length_take]; rfl)) ?_
                      with_reducible refine (port_Clients.calls k _ _ y168 (⟨#[100]⟩ : ByteArray) t191 _ ?side1 ?side2 A10.out).mono ?_
                      (case side1 => repeat (first | exact (Kd.N_reads' HO170.out).2.2 | (with_reducible refine Kd.C_alloc ?_ _) | (with_reducible refine Kd.C_drewN ?_ _) | (with_reducible refine Kd.C_drew ?_)))
                      (case side2 => exact (Kd.N_reads' HO170.out).2.1)
                      rintro e w54 ⟨v192, rfl, ho0, hb⟩
                      have HS4_ := (hb.cell (World.block_lt_of_cell? _ _ (hHeld.2.2.2.2.1))).trans (hHeld.2.2.2.2.1)
                      have HS5_ := (hb.cell (World.block_lt_of_cell? _ _ (hHeld.2.2.2.2.2.1))).trans (hHeld.2.2.2.2.2.1)
                      have HS6_ := (hb.cell (World.block_lt_of_cell? _ _ (hHeld.2.2.2.2.2.2.1))).trans (hHeld.2.2.2.2.2.2.1)
                      have HS7_ := (hb.cell (World.block_lt_of_cell? _ _ (hHeld.2.2.2.2.2.2.2.1))).trans (hHeld.2.2.2.2.2.2.2.1)
                      have HS8_ := (hb.cell (World.block_lt_of_cell? _ _ (hHeld.2.2.2.2.2.2.2.2.1))).trans (hHeld.2.2.2.2.2.2.2.2.1)
                      have HS9_ := (hb.cell (World.block_lt_of_cell? _ _ (hHeld.2.2.2.2.2.2.2.2.2.1))).trans (hHeld.2.2.2.2.2.2.2.2.2.1)
                      have HS10_ := (hb.cell (World.block_lt_of_cell? _ _ (hHeld.2.2.2.2.2.2.2.2.2.2.1))).trans (hHeld.2.2.2.2.2.2.2.2.2.2.1)
                      have HS11_ := (hb.cell (World.block_lt_of_cell? _ _ (hHeld.2.2.2.2.2.2.2.2.2.2.2.1))).trans (hHeld.2.2.2.2.2.2.2.2.2.2.2.1)
                      have HS12_ := (hb.cell (World.block_lt_of_cell? _ _ (hHeld.2.2.2.2.2.2.2.2.2.2.2.2.1))).trans (hHeld.2.2.2.2.2.2.2.2.2.2.2.2.1)
                      have HS13_ := (hb.cell (World.block_lt_of_cell? _ _ (hHeld.2.2.2.2.2.2.2.2.2.2.2.2.2.1))).trans (hHeld.2.2.2.2.2.2.2.2.2.2.2.2.2.1)
                      have HS14_ := (hb.cell (World.block_lt_of_cell? _ _ (hHeld.2.2.2.2.2.2.2.2.2.2.2.2.2.2.1))).trans (hHeld.2.2.2.2.2.2.2.2.2.2.2.2.2.2.1)
                      have HS15_ := (hb.cell (World.block_lt_of_cell? _ _ (hHeld.2.2.2.2.2.2.2.2.2.2.2.2.2.2.2))).trans (hHeld.2.2.2.2.2.2.2.2.2.2.2.2.2.2.2)
                      refine ⟨_, rfl, ?_⟩
                      have n0_ := Aside0.mk (Kd.N_elder' (by (with_reducible repeat (first | apply Kd.N_alloc | apply Kd.N_drewN | apply Kd.N_drew)); exact HO170.out) (Kd.R_base ho0) hb)
                      have n1_ := Aside0.mk (Kd.R_below (by (with_reducible repeat (first | apply Kd.R_alloc | apply Kd.R_drewN | apply Kd.R_drew)); exact HO177.out) hb)
                      have n2_ := Aside0.mk (Kd.R_below (by (with_reducible repeat (first | apply Kd.R_alloc | apply Kd.R_drewN | apply Kd.R_drew)); exact HO180.out) hb)
                      have n3_ := Aside0.mk (Kd.R_below (by (with_reducible repeat (first | apply Kd.R_alloc | apply Kd.R_drewN | apply Kd.R_drew)); exact HO185.out) hb)
                      have n4_ := Aside0.mk (Kd.R_elder' (by (with_reducible repeat (first | apply Kd.R_alloc | apply Kd.R_drewN | apply Kd.R_drew)); exact HO187.out) (Kd.R_base ho0) hb)
                      have n5_ := Aside0.mk (Kd.R_elder' (by (with_reducible repeat (first | apply Kd.R_alloc | apply Kd.R_drewN | apply Kd.R_drew)); exact HO196.out) (Kd.R_base ho0) hb)
                      have n6_ := Aside0.mk (Kd.R_lower (Kd.R_newB (Kd.R_newB (Kd.R_newB (Kd.R_newB (Kd.R_new' (Kd.R_new' ho0 (Kd.R_lt (by (with_reducible repeat (first | apply Kd.R_alloc | apply Kd.R_drewN | apply Kd.R_drew)); exact HO187.out))) (Kd.R_lt (by (with_reducible repeat (first | apply Kd.R_alloc | apply Kd.R_drewN | apply Kd.R_drew)); exact HO196.out))) (g := gb171) (o := .cells #[.string (⟨#[97]⟩ : ByteArray), .string (⟨#[120]⟩ : ByteArray)] 45 (0, 0)) (by (with_reducible repeat (first | refine blk_drewN ?_ _ | refine blk_drew ?_ | refine blk_alloc ?_ _)); exact BK171.out)) (g := gb172) (o := .cells #[.string (⟨#[98]⟩ : ByteArray), .string (⟨#[120]⟩ : ByteArray)] 45 (0, 0)) (by (with_reducible repeat (first | refine blk_drewN ?_ _ | refine blk_drew ?_ | refine blk_alloc ?_ _)); exact BK172.out)) (g := gb173) (o := .cells #[.string (⟨#[100]⟩ : ByteArray), .string (⟨#[112]⟩ : ByteArray)] 45 (0, 0)) (by (with_reducible repeat (first | refine blk_drewN ?_ _ | refine blk_drew ?_ | refine blk_alloc ?_ _)); exact BK173.out)) (g := gb174) (o := .cells #[.string (⟨#[100]⟩ : ByteArray), .string (⟨#[113]⟩ : ByteArray)] 45 (0, 0)) (by (with_reducible repeat (first | refine blk_drewN ?_ _ | refine blk_drew ?_ | refine blk_alloc ?_ _)); exact BK174.out)) (below_size (by repeat (first | (with_reducible first | exact HB.out | apply below_alloc | apply pw_below_drewN | apply below_drew1 | refine below_set ?_ GE171.out | refine below_set ?_ GE172.out | refine below_set ?_ GE173.out | refine below_set ?_ GE174.out) | exact HB.out))))
                      have n7_ := Aside0.mk (blk_below (g := gb171) (o := .cells #[.string (⟨#[97]⟩ : ByteArray), .string (⟨#[120]⟩ : ByteArray)] 45 (0, 0)) (by (with_reducible repeat (first | refine blk_drewN ?_ _ | refine blk_drew ?_ | refine blk_alloc ?_ _)); exact BK171.out) hb)
                      have n8_ := Aside0.mk (blk_below (g := gb172) (o := .cells #[.string (⟨#[98]⟩ : ByteArray), .string (⟨#[120]⟩ : ByteArray)] 45 (0, 0)) (by (with_reducible repeat (first | refine blk_drewN ?_ _ | refine blk_drew ?_ | refine blk_alloc ?_ _)); exact BK172.out) hb)
                      have n9_ := Aside0.mk (blk_below (g := gb173) (o := .cells #[.string (⟨#[100]⟩ : ByteArray), .string (⟨#[112]⟩ : ByteArray)] 45 (0, 0)) (by (with_reducible repeat (first | refine blk_drewN ?_ _ | refine blk_drew ?_ | refine blk_alloc ?_ _)); exact BK173.out) hb)
                      have n10_ := Aside0.mk (blk_below (g := gb174) (o := .cells #[.string (⟨#[100]⟩ : ByteArray), .string (⟨#[113]⟩ : ByteArray)] 45 (0, 0)) (by (with_reducible repeat (first | refine blk_drewN ?_ _ | refine blk_drew ?_ | refine blk_alloc ?_ _)); exact BK174.out) hb)
                      have n11_ := Aside0.mk (below_step (by repeat (first | (with_reducible first | exact HB.out | apply below_alloc | apply pw_below_drewN | apply below_drew1 | refine below_set ?_ GE171.out | refine below_set ?_ GE172.out | refine below_set ?_ GE173.out | refine below_set ?_ GE174.out) | exact HB.out)) hb)
                      clear HO170
                      clear HO177
                      clear HO180
                      clear HO185
                      clear HO187
                      clear HO196
                      clear BK171
                      clear BK172
                      clear BK173
                      clear BK174
                      clear HB
                      have HO170 := n0_
                      have HO177 := n1_
                      have HO180 := n2_
                      have HO185 := n3_
                      have HO187 := n4_
                      have HO196 := n5_
                      have HO193 := n6_
                      have BK171 := n7_
                      have BK172 := n8_
                      have BK173 := n9_
                      have BK174 := n10_
                      have HB := n11_
                      clear n0_ n1_ n2_ n3_ n4_ n5_ n6_ n7_ n8_ n9_ n10_ n11_
                      (try clear hb)
                      (try clear hb2)
                      (try clear hk)
                      (try clear hi)
                      (try clear ho0)
                      refine hK.out _ _ ⟨(blk_cell BK174.out 0).trans rfl, (blk_cell BK174.out 1).trans rfl, (blk_cell BK173.out 0).trans rfl, (blk_cell BK173.out 1).trans rfl, HS4_, HS5_, HS6_, HS7_, HS8_, HS9_, HS10_, HS11_, HS12_, HS13_, HS14_, HS15_⟩ (fun hHeld => ?_)
                      clear hK K
                      refine norm_ (a' := ?_) ?_ ?_
                      rotate_left
                      · show Act.put _ (some 78) _ = _
                        simp only [Act.put, List.setIfInBounds_toArray, List.set_cons_zero, List.set_cons_succ, i64_w, i32_w]
                        rfl
                      exact norm_ (by simp only [putAll, Act.put, List.setIfInBounds_toArray, List.set_cons_zero, List.set_cons_succ]) (hCont (v192, v195) _ ⟨hHeld, (by (with_reducible repeat (first | apply Kd.N_alloc | apply Kd.N_drewN | apply Kd.N_drew)); exact Kd.N_mono HO170.out (fun _ hk => ⟨hk.1.1.1.1.1.2, ⟨hk.1.1.1.1.2, ⟨hk.1.1.1.2, ⟨hk.1.1.2, ⟨hk.2, ⟨hk.1.2, ⟨hk.1.1.1.1.1.1.1.1.1.2, ⟨hk.1.1.1.1.1.1.1.1.2, ⟨hk.1.1.1.1.1.1.1.2, hk.1.1.1.1.1.1.2⟩⟩⟩⟩⟩⟩⟩⟩⟩)), (by (with_reducible repeat (first | apply Kd.R_alloc | apply Kd.R_drewN | apply Kd.R_drew)); exact Kd.R_mono HO177.out (fun _ hk => hk.2)), (by (with_reducible repeat (first | apply Kd.R_alloc | apply Kd.R_drewN | apply Kd.R_drew)); exact HO180.out), (by (with_reducible repeat (first | apply Kd.R_alloc | apply Kd.R_drewN | apply Kd.R_drew)); exact Kd.R_mono HO185.out (fun _ hk => hk.2)), (by (with_reducible repeat (first | apply Kd.R_alloc | apply Kd.R_drewN | apply Kd.R_drew)); exact Kd.R_mono HO187.out (fun _ hk => ⟨hk.2, ⟨hk.1.2, ⟨hk.1.1.1.1.1.2, ⟨hk.1.1.1.1.2, ⟨hk.1.1.1.2, hk.1.1.2⟩⟩⟩⟩⟩)), (by (with_reducible repeat (first | apply Kd.R_alloc | apply Kd.R_drewN | apply Kd.R_drew)); exact Kd.R_mono HO193.out (fun _ hk => ⟨hk.1.1.1.1.1.2, ⟨hk.1.1.1.1.2, ⟨hk.1.1.1.2, ⟨hk.1.1.2, ⟨hk.1.2, hk.2⟩⟩⟩⟩⟩)), (by (with_reducible repeat (first | apply Kd.R_alloc | apply Kd.R_drewN | apply Kd.R_drew)); exact Kd.R_mono HO196.out (fun _ hk => ⟨hk.1.1.1.1.1.2, ⟨hk.2, ⟨hk.1.1.1.1.2, ⟨hk.1.1.1.2, ⟨hk.1.1.2, hk.1.2⟩⟩⟩⟩⟩)), (by (with_reducible repeat (first | refine blk_drewN ?_ _ | refine blk_drew ?_ | refine blk_alloc ?_ _)); exact BK171.out), (by (with_reducible repeat (first | refine blk_drewN ?_ _ | refine blk_drew ?_ | refine blk_alloc ?_ _)); exact BK172.out), (by (with_reducible repeat (first | refine blk_drewN ?_ _ | refine blk_drew ?_ | refine blk_alloc ?_ _)); exact BK173.out), (by (with_reducible repeat (first | refine blk_drewN ?_ _ | refine blk_drew ?_ | refine blk_alloc ?_ _)); exact BK174.out), (by repeat (first | (with_reducible first | exact HB.out | apply below_alloc | apply pw_below_drewN | apply below_drew1 | refine below_set ?_ GE171.out | refine below_set ?_ GE172.out | refine below_set ?_ GE173.out | refine below_set ?_ GE174.out) | exact HB.out))⟩)
                  rintro ⟨v192, v195⟩ w55 ⟨hS_, h0_, h1_, h2_, h3_, h4_, h5_, h6_, h7_, h8_, h9_, h10_, h11_⟩
                  have n0_ : Aside0 (Kd.N k55 55 w55 w.heap.size (fun k_ => some k_ ≠ (.slice (some ad189) y175.length co45 : Value).ownBlock ∧ some k_ ≠ (.slice Ao47 y178.length co47 : Value).ownBlock ∧ some k_ ≠ (.slice (some ad188) t181.length co50 : Value).ownBlock ∧ some k_ ≠ (.slice (some ad190) t182.length co51 : Value).ownBlock ∧ some k_ ≠ (v192 : Value).ownBlock ∧ some k_ ≠ (v195 : Value).ownBlock ∧ k_ ≠ gb171 ∧ k_ ≠ gb172 ∧ k_ ≠ gb173 ∧ k_ ≠ gb174) (.slice Ao46 y168.length co46) y168) := ⟨h0_⟩
                  have n1_ : Aside0 (Kd.R k47 47 w55 w.heap.size (fun k_ => some k_ ≠ (.slice (some ad188) t181.length co50 : Value).ownBlock) (.slice (some ad189) y175.length co45) y175) := ⟨h1_⟩
                  have n2_ : Aside0 (Kd.R k62 62 w55 w.heap.size (fun _ => True) (.slice Ao47 y178.length co47) y178) := ⟨h2_⟩
                  have n3_ : Aside0 (Kd.R k47 47 w55 w.heap.size (fun k_ => some k_ ≠ (.slice (some ad189) y175.length co45 : Value).ownBlock) (.slice (some ad188) t181.length co50) t181) := ⟨h3_⟩
                  have n4_ : Aside0 (Kd.R k45 45 w55 w.heap.size (fun k_ => some k_ ≠ (v192 : Value).ownBlock ∧ some k_ ≠ (v195 : Value).ownBlock ∧ k_ ≠ gb171 ∧ k_ ≠ gb172 ∧ k_ ≠ gb173 ∧ k_ ≠ gb174) (.slice (some ad190) t182.length co51) t182) := ⟨h4_⟩
                  have n5_ : Aside0 (Kd.R k45 45 w55 w.heap.size (fun k_ => some k_ ≠ (.slice (some ad190) t182.length co51 : Value).ownBlock ∧ some k_ ≠ (v195 : Value).ownBlock ∧ k_ ≠ gb171 ∧ k_ ≠ gb172 ∧ k_ ≠ gb173 ∧ k_ ≠ gb174) v192 t191) := ⟨h5_⟩
                  have n6_ : Aside0 (Kd.R k45 45 w55 w.heap.size (fun k_ => some k_ ≠ (.slice (some ad190) t182.length co51 : Value).ownBlock ∧ some k_ ≠ (v192 : Value).ownBlock ∧ k_ ≠ gb171 ∧ k_ ≠ gb172 ∧ k_ ≠ gb173 ∧ k_ ≠ gb174) v195 y194) := ⟨h6_⟩
                  have n7_ : Aside0 (w55.heap[gb171]? = some (.cells #[.string (⟨#[97]⟩ : ByteArray), .string (⟨#[120]⟩ : ByteArray)] 45 (0, 0))) := ⟨h7_⟩
                  have n8_ : Aside0 (w55.heap[gb172]? = some (.cells #[.string (⟨#[98]⟩ : ByteArray), .string (⟨#[120]⟩ : ByteArray)] 45 (0, 0))) := ⟨h8_⟩
                  have n9_ : Aside0 (w55.heap[gb173]? = some (.cells #[.string (⟨#[100]⟩ : ByteArray), .string (⟨#[112]⟩ : ByteArray)] 45 (0, 0))) := ⟨h9_⟩
                  have n10_ : Aside0 (w55.heap[gb174]? = some (.cells #[.string (⟨#[100]⟩ : ByteArray), .string (⟨#[113]⟩ : ByteArray)] 45 (0, 0))) := ⟨h10_⟩
                  have n11_ : Aside0 (Below w.heap.size w w55) := ⟨h11_⟩
                  clear HO170
                  clear HO177
                  clear HO180
                  clear HO185
                  clear HO187
                  clear BK171
                  clear BK172
                  clear BK173
                  clear BK174
                  clear HB
                  clear h0_ h1_ h2_ h3_ h4_ h5_ h6_ h7_ h8_ h9_ h10_ h11_
                  have HO170 := n0_
                  have HO177 := n1_
                  have HO180 := n2_
                  have HO185 := n3_
                  have HO187 := n4_
                  have HO193 := n5_
                  have HO196 := n6_
                  have BK171 := n7_
                  have BK172 := n8_
                  have BK173 := n9_
                  have BK174 := n10_
                  have HB := n11_
                  clear n0_ n1_ n2_ n3_ n4_ n5_ n6_ n7_ n8_ n9_ n10_ n11_
                  have hHeld : w55.cell? ⟨gb174, 0, none⟩ = some (.string (⟨#[100]⟩ : ByteArray)) ∧ w55.cell? ⟨gb174, 1, none⟩ = some (.string (⟨#[113]⟩ : ByteArray)) ∧ w55.cell? ⟨gb173, 0, none⟩ = some (.string (⟨#[100]⟩ : ByteArray)) ∧ w55.cell? ⟨gb173, 1, none⟩ = some (.string (⟨#[112]⟩ : ByteArray)) ∧ w55.cell? ad188 = some (.string ((rd_T47 t181 0).f0.f0)) ∧ w55.cell? ⟨ad188.block, ad188.off + 1, none⟩ = some (.string ((rd_T47 t181 0).f0.f1)) ∧ w55.cell? ⟨ad188.block, ad188.off + 2, none⟩ = some (.string ((rd_T47 t181 0).f1.f0)) ∧ w55.cell? ⟨ad188.block, ad188.off + 3, none⟩ = some (.string ((rd_T47 t181 0).f1.f1)) ∧ w55.cell? ⟨ad188.block, ad188.off + 4, none⟩ = some (.int .i64 ((rd_T47 t181 0).f2)) ∧ w55.cell? ⟨ad189.block, ad189.off + 5, none⟩ = some (.string ((rd_T47 y175 1).f0.f0)) ∧ w55.cell? ⟨ad189.block, ad189.off + 5 + 1, none⟩ = some (.string ((rd_T47 y175 1).f0.f1)) ∧ w55.cell? ⟨ad189.block, ad189.off + 5 + 2, none⟩ = some (.string ((rd_T47 y175 1).f1.f0)) ∧ w55.cell? ⟨ad189.block, ad189.off + 5 + 3, none⟩ = some (.string ((rd_T47 y175 1).f1.f1)) ∧ w55.cell? ⟨ad189.block, ad189.off + 5 + 4, none⟩ = some (.int .i64 ((rd_T47 y175 1).f2)) ∧ w55.cell? ad190 = some (.string ((rd_T45 t182 0).f0)) ∧ w55.cell? ⟨ad190.block, ad190.off + 1, none⟩ = some (.string ((rd_T45 t182 0).f1)) := hS_
                  obtain ⟨Ao56, co56, eo56⟩ := Kd.R_slice HO193.out
                  (first | subst eo56 | (injection eo56 with f1_ f2_ f3_; have f4_ := f1_.symm; have f5_ := f3_.symm; clear f1_ f2_ f3_; subst f4_; subst f5_))
                  obtain ⟨Ao57, co57, eo57⟩ := Kd.R_slice HO196.out
                  (first | subst eo57 | (injection eo57 with f1_ f2_ f3_; have f4_ := f1_.symm; have f5_ := f3_.symm; clear f1_ f2_ f3_; subst f4_; subst f5_))
                  refine norm_ (a' := ?_) ?_ ?_
                  rotate_left
                  · simp only [putAll, Act.put, List.setIfInBounds_toArray, List.set_cons_zero, List.set_cons_succ]
                    rfl
                  refine one_ (i := 34) (N := some 82) #[true, true, true, true, true, true, true, true, true, true, true, true, true, true, true, true, true, true, true, true, true, true, true, true, true, true, true, true, true, true, true, true, true, true, true, false, false] rfl rfl (one_of HT_.out (by kernel_rfl)) (by decide) (fun K hK => ?_)
                  refine goes_ Try.func17 (by kernel_rfl) rfl #[.slice Ao56 t191.length co56, .slice Ao57 y194.length co57] (by rfl) rfl rfl (by (try simp only [List.map_toArray, List.map_cons, List.map_nil]); first | done | rfl | (simp only [List.length_drop, List.length_take]; rfl)) ?_
                  with_reducible refine (contangoref11_SameAccs.calls k _ _ t191 _ _ y194 t197 _ ?side1 ?side2 ?side3 ?side4 A11.out).mono ?_
                  (case side1 => repeat (first | exact (Kd.R_reads' HO193.out).2.2 | (with_reducible refine Kd.C_alloc ?_ _) | (with_reducible refine Kd.C_drewN ?_ _) | (with_reducible refine Kd.C_drew ?_)))
                  (case side2 => exact (Kd.R_reads' HO193.out).2.1)
                  (case side3 => repeat (first | exact (Kd.R_reads' HO196.out).2.2 | (with_reducible refine Kd.C_alloc ?_ _) | (with_reducible refine Kd.C_drewN ?_ _) | (with_reducible refine Kd.C_drew ?_)))
                  (case side4 => exact (Kd.R_reads' HO196.out).2.1)
                  rintro e w' ⟨rfl, ⟨nd, rfl⟩⟩
                  refine ⟨_, rfl, ?_⟩
                  refine hK.out _ _ ⟨(blk_cell BK174.out 0).trans rfl, (blk_cell BK174.out 1).trans rfl, (blk_cell BK173.out 0).trans rfl, (blk_cell BK173.out 1).trans rfl, hHeld.2.2.2.2.1, hHeld.2.2.2.2.2.1, hHeld.2.2.2.2.2.2.1, hHeld.2.2.2.2.2.2.2.1, hHeld.2.2.2.2.2.2.2.2.1, hHeld.2.2.2.2.2.2.2.2.2.1, hHeld.2.2.2.2.2.2.2.2.2.2.1, hHeld.2.2.2.2.2.2.2.2.2.2.2.1, hHeld.2.2.2.2.2.2.2.2.2.2.2.2.1, hHeld.2.2.2.2.2.2.2.2.2.2.2.2.2.1, hHeld.2.2.2.2.2.2.2.2.2.2.2.2.2.2.1, hHeld.2.2.2.2.2.2.2.2.2.2.2.2.2.2.2⟩ (fun hHeld => ?_)
                  clear hK K
                  refine norm_ (a' := ?_) ?_ ?_
                  rotate_left
                  · show Act.put _ (some 82) _ = _
                    simp only [Act.put, List.setIfInBounds_toArray, List.set_cons_zero, List.set_cons_succ, i64_w, i32_w]
                    rfl
                  refine pure_ (i := 35) (N := some 83) (v := ?_) (a' := ?_) #[true, true, true, true, true, true, true, true, true, true, true, true, true, true, true, true, true, true, true, true, true, true, true, true, true, true, true, true, true, true, true, true, true, true, true, true, false] rfl rfl (any_of HT_.out (by kernel_rfl)) (fun _ _ _ h => h) (Or.inl ⟨by rfl, ?_⟩) ?_ ?_
                  rotate_left
                  · intro w'
                    go_simp
                    with_reducible rfl
                  rotate_left
                  · simp only [Act.put, List.setIfInBounds_toArray, List.set_cons_zero, List.set_cons_succ, i64_w, i32_w]
                    rfl
                  refine pure_ (i := 36) (N := some 0) (v := ?_) (a' := ?_) #[true, true, true, true, true, true, true, true, true, true, true, true, true, true, true, true, true, true, true, true, true, true, true, true, true, true, true, true, true, true, true, true, true, true, true, true, true] rfl rfl (any_of HT_.out (by kernel_rfl)) (fun _ _ _ h => h) (Or.inl ⟨by rfl, ?_⟩) ?_ ?_
                  rotate_left
                  · intro w'
                    go_simp
                    with_reducible rfl
                  rotate_left
                  · simp only [Act.put, List.setIfInBounds_toArray, List.set_cons_zero, List.set_cons_succ, i64_w, i32_w]
                    rfl
                  refine done_ (done_of HT_.out (by kernel_rfl)) ?_
                  try go_wp2
                  go_ret
                  exact ⟨by first | rfl | (simp [errW_none, errW_some] <;> rfl) | (simp [*, errW_none, errW_some] <;> rfl), by repeat (first | (with_reducible first | exact HB.out | apply below_alloc | apply pw_below_drewN | apply below_drew1 | refine below_set ?_ GE171.out | refine below_set ?_ GE172.out | refine below_set ?_ GE173.out | refine below_set ?_ GE174.out) | exact HB.out)⟩
                · rw [if_neg c9] at H
                  exact absurd (H.trans (congrArg some HRT.out)) (by first | simp [] | (simp only []; (repeat' split) <;> simp))
              · rw [if_neg c8] at H
                exact absurd (H.trans (congrArg some HRT.out)) (by first | simp [] | (simp only []; (repeat' split) <;> simp))
            · rw [if_neg c7] at H
              exact absurd H (by simp)
          · rw [if_neg c6] at H
            exact absurd (H.trans (congrArg some HRT.out)) (by first | simp [] | (simp only []; (repeat' split) <;> simp))
        · rw [if_neg c5] at H
          exact absurd (H.trans (congrArg some HRT.out)) (by first | simp [] | (simp only []; (repeat' split) <;> simp))
      · rw [if_neg c4] at H
        exact absurd H (by simp)
    · rw [if_neg c3] at H
      exact absurd H (by simp)
  · rw [if_neg c2] at H
    exact absurd (H.trans (congrArg some HRT.out)) (by first | simp [] | (simp only []; (repeat' split) <;> simp))

end Go.Proofs.Ytdhmckgagffgkaa.PPortMore
