-- Written by a program of this session's (a turned copy of the kit's print, with functions proved by hand).
import Derived.Test.YtmgeoombebkfaaaPDeliverSidesx0
import Derived.Test.YtmgeoombebkfaaaPDeliverSidesx2
import Derived.Test.YtmgeoombebkfaaaPDeliverSidesx3
import Derived.Test.YtmgeoombebkfaaaPDeliverSidesx6
import Derived.Test.YtmgeoombebkfaaaPDeliverSidesx10
import Derived.Test.YtmgeoombebkfaaaPDeliverSidesx11
namespace Go.Proofs.Ytmgeoombebkfaaa.PDeliverSides
open Go.RowKit Go.Proofs.YtmgeoombebkfaaaW.PrintWords Go.Proofs.YtmgeoombebkfaaaW.PrintLast Go.Proofs.YtmgeoombebkfaaaW.PrintMore
attribute [local go_sem] max2_int min2_int max_two min_two max_three min_three max_four min_four Go.Proofs.YtmgeoombebkfaaaHand.run_leq_str Go.Proofs.YtmgeoombebkfaaaHand.run_gtr_str Go.Proofs.YtmgeoombebkfaaaHand.run_geq_str   -- for this text's walks alone
set_option linter.unusedVariables false
set_option linter.unusedSimpArgs false

attribute [local go_sem high] eqA56 eqA60
/-! ### contangolaw52_goes: function 8 -/
def contangolaw52_goes.f (k : Nat)  : Option (Bool) := (contangolaw52_acc.f (⟨#[120]⟩ : ByteArray)).bind fun bt136 => ((contangolaw52_acc.f (⟨#[121]⟩ : ByteArray)).bind fun bt138 => ((contangolaw52_acc.f (⟨#[112]⟩ : ByteArray)).bind fun bt143 => ((contangolaw52_acc.f (⟨#[113]⟩ : ByteArray)).bind fun bt145 => ((deliver_Pairs.f k (([(⟨(⟨bt136.1, bt136.2⟩ : S54), 3⟩ : S60), (⟨(⟨bt138.1, bt138.2⟩ : S54), 2⟩ : S60)] : List (S60))) (([(⟨(⟨bt143.1, bt143.2⟩ : S54), 4⟩ : S60), (⟨(⟨bt145.1, bt145.2⟩ : S54), 1⟩ : S60)] : List (S60)))).bind fun bt150 => ((deliver_Flows.f k (⟨#[111, 105, 108]⟩ : ByteArray) 0 10 5 0 100 true 50 bt150.1).bind fun bt154 => ((deliver_Failed.f k (⟨#[111, 105, 108]⟩ : ByteArray) 0 10 5 0 100 true 50 3 25).bind fun bt158 => (if (bt150.1.length : Int) = 3 then (if 1 < (bt150.1.length : Int) then ((contangolaw52_acc.f (⟨#[112]⟩ : ByteArray)).bind fun bt161 => ((contangolaw52_acc.f (⟨#[121]⟩ : ByteArray)).bind fun bt163 => (if (eqD56 ((rd_T56 bt150.1 1).f0.f0) bt161.1 ((rd_T56 bt150.1 1).f0.f1) bt161.2 ((rd_T56 bt150.1 1).f1.f0) bt163.1 ((rd_T56 bt150.1 1).f1.f1) bt163.2 ((rd_T56 bt150.1 1).f2) 1) = true then (if bt150.2 = 0 then ((contangoref22_Same.f k bt154.1 (([(⟨(⟨#[112]⟩ : ByteArray), 0, 2000, 4⟩ : S63), (⟨(⟨#[113]⟩ : ByteArray), 0, 500, 4⟩ : S63), (⟨(⟨#[120]⟩ : ByteArray), 0, (-1500), 4⟩ : S63), (⟨(⟨#[121]⟩ : ByteArray), 0, (-1000), 4⟩ : S63)] : List (S63)))).bind fun t168 => (if t168 = true then (if bt154.2 = 0 then (if bt158.1 = 38 then (some (bt158.2 == 0)) else (some false)) else (some false)) else (some false))) else (some false)) else (some false)))) else (none)) else (some false))))))))
theorem contangolaw52_goes.mono : ∀ k, LeO (contangolaw52_goes.f k ) (contangolaw52_goes.f (k + 1) ) := by
  intro  k
  unfold contangolaw52_goes.f
  repeat' first
      | (with_reducible exact contangoref22_Same.mono _ _ _)
      | (with_reducible exact deliver_Failed.mono _ _ _ _ _ _ _ _ _ _ _)
      | (with_reducible exact deliver_Flows.mono _ _ _ _ _ _ _ _ _ _)
      | (with_reducible exact deliver_Pairs.mono _ _ _)
      | (with_reducible exact LeO.refl _)
      | (with_reducible exact LeO.none _)
      | (with_reducible refine LeO.ite ?_ ?_)
      | (with_reducible refine LeO.bind ?_ (fun _ => ?_))
      | exact contangoref22_Same.mono _ _ _
      | exact deliver_Failed.mono _ _ _ _ _ _ _ _ _ _ _
      | exact deliver_Flows.mono _ _ _ _ _ _ _ _ _ _
      | exact deliver_Pairs.mono _ _ _
      | exact LeO.none _
      | refine LeO.ite ?_ ?_
      | refine LeO.bind ?_ (fun _ => ?_)
theorem contangolaw52_goes.only (k : Nat) (r : Bool) (h : contangolaw52_goes.f k  = some r) : r = true := by
  exact Option.some.inj ((at_rounds (fun k => contangolaw52_goes.mono k) (Nat.le_max_left k 100) h).symm.trans (at_rounds (fun k => contangolaw52_goes.mono k) (Nat.le_max_right k 100) (by decide +kernel : contangolaw52_goes.f 100 = some true)))
def contangolaw52_goes.T5 : Bool × List (List Nat × List Nat) := (true, [([], []), ([0], [0]), ([1], [1]), ([2], [2]), ([3], [3]), ([4, 3], [3, 4]), ([5, 3], [3, 5]), ([3, 3], [3]), ([7, 3], [3]), ([7, 8, 3], [3, 7, 8]), ([6, 9, 3], [3, 6, 9]), ([3, 10], [3, 10]), ([11, 8], [11]), ([12], [12]), ([13, 12], [12, 13]), ([12, 14], [12, 14]), ([15, 12], [15]), ([16], [16]), ([16], [16]), ([16], [16]), ([16], [16]), ([16], [16]), ([18, 19, 20, 21, 16], [16, 18, 19, 20, 21]), ([17, 22, 16, 16], [16, 17, 22]), ([16, 23], [16, 23]), ([24, 23], [24]), ([25], [25]), ([26, 25], [25, 26]), ([25, 27], [25, 27]), ([28, 25], [28]), ([29], [29]), ([30, 29], [29, 30]), ([29, 31], [29, 31]), ([32, 29], [32]), ([33], [33]), ([34, 33], [33, 34]), ([33, 35], [33, 35]), ([36, 33, 0, 1, 2, 3, 4, 5, 6, 7, 8, 9, 10, 11, 12, 13, 14, 15, 16, 17, 18, 19, 20, 21, 22, 23, 24, 25, 26, 27, 28, 29, 30, 31, 32, 33, 34, 35, 36], [36])])
def contangolaw52_goes.B5 : List Nat := [0, 1, 3, 7, 15, 31, 63, 15, 143, 399, 1023, 2047, 4095, 8191, 16383, 32767, 65535, 131071, 131071, 131071, 131071, 131071, 4063231, 8388607, 16777215, 33554431, 67108863, 134217727, 268435455, 536870911, 1073741823, 2147483647, 4294967295, 8589934591, 17179869183, 34359738367, 68719476735, 137438953471]
theorem contangolaw52_goes.tab5 : rtab .any (opsOf Try.f8 5) = contangolaw52_goes.T5 := by kernel_rfl
theorem contangolaw52_goes.bits5 : waitsOk contangolaw52_goes.T5.2 contangolaw52_goes.B5 = true := by kernel_rfl
set_option maxHeartbeats 8000000 in
set_option maxRecDepth 100000 in
theorem contangolaw52_goes.calls (k : Nat)  (r : Bool) (w : World) (h : contangolaw52_goes.f k  = some r) :
    Calls Try.prog 8 #[] w fun e w' => e = .returned (.bool r) ∧ Below w.heap.size w w' := by
 have hu35 := Try.underlying35
 have hu60 := Try.underlying60
 have hu56 := Try.underlying56
 have hu63 := Try.underlying63
 have HB := Aside0.mk (Below.refl w.heap.size w)
 have HRT := Aside0.mk (contangolaw52_goes.only k r h)
 have H : ((contangolaw52_acc.f (⟨#[120]⟩ : ByteArray)).bind fun bt136 => ((contangolaw52_acc.f (⟨#[121]⟩ : ByteArray)).bind fun bt138 => ((contangolaw52_acc.f (⟨#[112]⟩ : ByteArray)).bind fun bt143 => ((contangolaw52_acc.f (⟨#[113]⟩ : ByteArray)).bind fun bt145 => ((deliver_Pairs.f k (([(⟨(⟨bt136.1, bt136.2⟩ : S54), 3⟩ : S60), (⟨(⟨bt138.1, bt138.2⟩ : S54), 2⟩ : S60)] : List (S60))) (([(⟨(⟨bt143.1, bt143.2⟩ : S54), 4⟩ : S60), (⟨(⟨bt145.1, bt145.2⟩ : S54), 1⟩ : S60)] : List (S60)))).bind fun bt150 => ((deliver_Flows.f k (⟨#[111, 105, 108]⟩ : ByteArray) 0 10 5 0 100 true 50 bt150.1).bind fun bt154 => ((deliver_Failed.f k (⟨#[111, 105, 108]⟩ : ByteArray) 0 10 5 0 100 true 50 3 25).bind fun bt158 => (if (bt150.1.length : Int) = 3 then (if 1 < (bt150.1.length : Int) then ((contangolaw52_acc.f (⟨#[112]⟩ : ByteArray)).bind fun bt161 => ((contangolaw52_acc.f (⟨#[121]⟩ : ByteArray)).bind fun bt163 => (if (eqD56 ((rd_T56 bt150.1 1).f0.f0) bt161.1 ((rd_T56 bt150.1 1).f0.f1) bt161.2 ((rd_T56 bt150.1 1).f1.f0) bt163.1 ((rd_T56 bt150.1 1).f1.f1) bt163.2 ((rd_T56 bt150.1 1).f2) 1) = true then (if bt150.2 = 0 then ((contangoref22_Same.f k bt154.1 (([(⟨(⟨#[112]⟩ : ByteArray), 0, 2000, 4⟩ : S63), (⟨(⟨#[113]⟩ : ByteArray), 0, 500, 4⟩ : S63), (⟨(⟨#[120]⟩ : ByteArray), 0, (-1500), 4⟩ : S63), (⟨(⟨#[121]⟩ : ByteArray), 0, (-1000), 4⟩ : S63)] : List (S63)))).bind fun t168 => (if t168 = true then (if bt154.2 = 0 then (if bt158.1 = 38 then (some (bt158.2 == 0)) else (some false)) else (some false)) else (some false))) else (some false)) else (some false)))) else (none)) else (some false))))))))) = some r := h
 clear h
 replace H := Option.bind_eq_some_iff.mp H
 obtain ⟨⟨t136, t137⟩, A10, H⟩ := H
 replace H : ((contangolaw52_acc.f (⟨#[121]⟩ : ByteArray)).bind fun bt138 => ((contangolaw52_acc.f (⟨#[112]⟩ : ByteArray)).bind fun bt143 => ((contangolaw52_acc.f (⟨#[113]⟩ : ByteArray)).bind fun bt145 => ((deliver_Pairs.f k (([(⟨(⟨t136, t137⟩ : S54), 3⟩ : S60), (⟨(⟨bt138.1, bt138.2⟩ : S54), 2⟩ : S60)] : List (S60))) (([(⟨(⟨bt143.1, bt143.2⟩ : S54), 4⟩ : S60), (⟨(⟨bt145.1, bt145.2⟩ : S54), 1⟩ : S60)] : List (S60)))).bind fun bt150 => ((deliver_Flows.f k (⟨#[111, 105, 108]⟩ : ByteArray) 0 10 5 0 100 true 50 bt150.1).bind fun bt154 => ((deliver_Failed.f k (⟨#[111, 105, 108]⟩ : ByteArray) 0 10 5 0 100 true 50 3 25).bind fun bt158 => (if (bt150.1.length : Int) = 3 then (if 1 < (bt150.1.length : Int) then ((contangolaw52_acc.f (⟨#[112]⟩ : ByteArray)).bind fun bt161 => ((contangolaw52_acc.f (⟨#[121]⟩ : ByteArray)).bind fun bt163 => (if (eqD56 ((rd_T56 bt150.1 1).f0.f0) bt161.1 ((rd_T56 bt150.1 1).f0.f1) bt161.2 ((rd_T56 bt150.1 1).f1.f0) bt163.1 ((rd_T56 bt150.1 1).f1.f1) bt163.2 ((rd_T56 bt150.1 1).f2) 1) = true then (if bt150.2 = 0 then ((contangoref22_Same.f k bt154.1 (([(⟨(⟨#[112]⟩ : ByteArray), 0, 2000, 4⟩ : S63), (⟨(⟨#[113]⟩ : ByteArray), 0, 500, 4⟩ : S63), (⟨(⟨#[120]⟩ : ByteArray), 0, (-1500), 4⟩ : S63), (⟨(⟨#[121]⟩ : ByteArray), 0, (-1000), 4⟩ : S63)] : List (S63)))).bind fun t168 => (if t168 = true then (if bt154.2 = 0 then (if bt158.1 = 38 then (some (bt158.2 == 0)) else (some false)) else (some false)) else (some false))) else (some false)) else (some false)))) else (none)) else (some false)))))))) = some r := H
 have A1 := Aside0.mk A10
 clear A10
 replace H := Option.bind_eq_some_iff.mp H
 obtain ⟨⟨t138, t139⟩, A20, H⟩ := H
 replace H : ((contangolaw52_acc.f (⟨#[112]⟩ : ByteArray)).bind fun bt143 => ((contangolaw52_acc.f (⟨#[113]⟩ : ByteArray)).bind fun bt145 => ((deliver_Pairs.f k (([(⟨(⟨t136, t137⟩ : S54), 3⟩ : S60), (⟨(⟨t138, t139⟩ : S54), 2⟩ : S60)] : List (S60))) (([(⟨(⟨bt143.1, bt143.2⟩ : S54), 4⟩ : S60), (⟨(⟨bt145.1, bt145.2⟩ : S54), 1⟩ : S60)] : List (S60)))).bind fun bt150 => ((deliver_Flows.f k (⟨#[111, 105, 108]⟩ : ByteArray) 0 10 5 0 100 true 50 bt150.1).bind fun bt154 => ((deliver_Failed.f k (⟨#[111, 105, 108]⟩ : ByteArray) 0 10 5 0 100 true 50 3 25).bind fun bt158 => (if (bt150.1.length : Int) = 3 then (if 1 < (bt150.1.length : Int) then ((contangolaw52_acc.f (⟨#[112]⟩ : ByteArray)).bind fun bt161 => ((contangolaw52_acc.f (⟨#[121]⟩ : ByteArray)).bind fun bt163 => (if (eqD56 ((rd_T56 bt150.1 1).f0.f0) bt161.1 ((rd_T56 bt150.1 1).f0.f1) bt161.2 ((rd_T56 bt150.1 1).f1.f0) bt163.1 ((rd_T56 bt150.1 1).f1.f1) bt163.2 ((rd_T56 bt150.1 1).f2) 1) = true then (if bt150.2 = 0 then ((contangoref22_Same.f k bt154.1 (([(⟨(⟨#[112]⟩ : ByteArray), 0, 2000, 4⟩ : S63), (⟨(⟨#[113]⟩ : ByteArray), 0, 500, 4⟩ : S63), (⟨(⟨#[120]⟩ : ByteArray), 0, (-1500), 4⟩ : S63), (⟨(⟨#[121]⟩ : ByteArray), 0, (-1000), 4⟩ : S63)] : List (S63)))).bind fun t168 => (if t168 = true then (if bt154.2 = 0 then (if bt158.1 = 38 then (some (bt158.2 == 0)) else (some false)) else (some false)) else (some false))) else (some false)) else (some false)))) else (none)) else (some false))))))) = some r := H
 have A2 := Aside0.mk A20
 clear A20
 obtain ⟨y140, hy140⟩ : ∃ y_ : List (S60), y_ = (([(⟨(⟨t136, t137⟩ : S54), 3⟩ : S60), (⟨(⟨t138, t139⟩ : S54), 2⟩ : S60)] : List (S60))) := ⟨_, rfl⟩
 replace H : ((contangolaw52_acc.f (⟨#[112]⟩ : ByteArray)).bind fun bt143 => ((contangolaw52_acc.f (⟨#[113]⟩ : ByteArray)).bind fun bt145 => ((deliver_Pairs.f k y140 (([(⟨(⟨bt143.1, bt143.2⟩ : S54), 4⟩ : S60), (⟨(⟨bt145.1, bt145.2⟩ : S54), 1⟩ : S60)] : List (S60)))).bind fun bt150 => ((deliver_Flows.f k (⟨#[111, 105, 108]⟩ : ByteArray) 0 10 5 0 100 true 50 bt150.1).bind fun bt154 => ((deliver_Failed.f k (⟨#[111, 105, 108]⟩ : ByteArray) 0 10 5 0 100 true 50 3 25).bind fun bt158 => (if (bt150.1.length : Int) = 3 then (if 1 < (bt150.1.length : Int) then ((contangolaw52_acc.f (⟨#[112]⟩ : ByteArray)).bind fun bt161 => ((contangolaw52_acc.f (⟨#[121]⟩ : ByteArray)).bind fun bt163 => (if (eqD56 ((rd_T56 bt150.1 1).f0.f0) bt161.1 ((rd_T56 bt150.1 1).f0.f1) bt161.2 ((rd_T56 bt150.1 1).f1.f0) bt163.1 ((rd_T56 bt150.1 1).f1.f1) bt163.2 ((rd_T56 bt150.1 1).f2) 1) = true then (if bt150.2 = 0 then ((contangoref22_Same.f k bt154.1 (([(⟨(⟨#[112]⟩ : ByteArray), 0, 2000, 4⟩ : S63), (⟨(⟨#[113]⟩ : ByteArray), 0, 500, 4⟩ : S63), (⟨(⟨#[120]⟩ : ByteArray), 0, (-1500), 4⟩ : S63), (⟨(⟨#[121]⟩ : ByteArray), 0, (-1000), 4⟩ : S63)] : List (S63)))).bind fun t168 => (if t168 = true then (if bt154.2 = 0 then (if bt158.1 = 38 then (some (bt158.2 == 0)) else (some false)) else (some false)) else (some false))) else (some false)) else (some false)))) else (none)) else (some false))))))) = some r := by first | (rw [hy140]; with_reducible exact H) | (have H2_ := (Option.bind_some _ _).symm.trans H; rw [hy140]; with_reducible exact H2_) | (have H2_ := (Option.bind_some _ _).symm.trans H; with_reducible exact H2_) | with_reducible exact H | (rw [hy140]; exact H) | exact H
 have Ny140 := Aside0.mk hy140
 clear hy140
 replace H := Option.bind_eq_some_iff.mp H
 obtain ⟨⟨t143, t144⟩, A30, H⟩ := H
 replace H : ((contangolaw52_acc.f (⟨#[113]⟩ : ByteArray)).bind fun bt145 => ((deliver_Pairs.f k y140 (([(⟨(⟨t143, t144⟩ : S54), 4⟩ : S60), (⟨(⟨bt145.1, bt145.2⟩ : S54), 1⟩ : S60)] : List (S60)))).bind fun bt150 => ((deliver_Flows.f k (⟨#[111, 105, 108]⟩ : ByteArray) 0 10 5 0 100 true 50 bt150.1).bind fun bt154 => ((deliver_Failed.f k (⟨#[111, 105, 108]⟩ : ByteArray) 0 10 5 0 100 true 50 3 25).bind fun bt158 => (if (bt150.1.length : Int) = 3 then (if 1 < (bt150.1.length : Int) then ((contangolaw52_acc.f (⟨#[112]⟩ : ByteArray)).bind fun bt161 => ((contangolaw52_acc.f (⟨#[121]⟩ : ByteArray)).bind fun bt163 => (if (eqD56 ((rd_T56 bt150.1 1).f0.f0) bt161.1 ((rd_T56 bt150.1 1).f0.f1) bt161.2 ((rd_T56 bt150.1 1).f1.f0) bt163.1 ((rd_T56 bt150.1 1).f1.f1) bt163.2 ((rd_T56 bt150.1 1).f2) 1) = true then (if bt150.2 = 0 then ((contangoref22_Same.f k bt154.1 (([(⟨(⟨#[112]⟩ : ByteArray), 0, 2000, 4⟩ : S63), (⟨(⟨#[113]⟩ : ByteArray), 0, 500, 4⟩ : S63), (⟨(⟨#[120]⟩ : ByteArray), 0, (-1500), 4⟩ : S63), (⟨(⟨#[121]⟩ : ByteArray), 0, (-1000), 4⟩ : S63)] : List (S63)))).bind fun t168 => (if t168 = true then (if bt154.2 = 0 then (if bt158.1 = 38 then (some (bt158.2 == 0)) else (some false)) else (some false)) else (some false))) else (some false)) else (some false)))) else (none)) else (some false)))))) = some r := H
 have A3 := Aside0.mk A30
 clear A30
 replace H := Option.bind_eq_some_iff.mp H
 obtain ⟨⟨t145, t146⟩, A40, H⟩ := H
 replace H : ((deliver_Pairs.f k y140 (([(⟨(⟨t143, t144⟩ : S54), 4⟩ : S60), (⟨(⟨t145, t146⟩ : S54), 1⟩ : S60)] : List (S60)))).bind fun bt150 => ((deliver_Flows.f k (⟨#[111, 105, 108]⟩ : ByteArray) 0 10 5 0 100 true 50 bt150.1).bind fun bt154 => ((deliver_Failed.f k (⟨#[111, 105, 108]⟩ : ByteArray) 0 10 5 0 100 true 50 3 25).bind fun bt158 => (if (bt150.1.length : Int) = 3 then (if 1 < (bt150.1.length : Int) then ((contangolaw52_acc.f (⟨#[112]⟩ : ByteArray)).bind fun bt161 => ((contangolaw52_acc.f (⟨#[121]⟩ : ByteArray)).bind fun bt163 => (if (eqD56 ((rd_T56 bt150.1 1).f0.f0) bt161.1 ((rd_T56 bt150.1 1).f0.f1) bt161.2 ((rd_T56 bt150.1 1).f1.f0) bt163.1 ((rd_T56 bt150.1 1).f1.f1) bt163.2 ((rd_T56 bt150.1 1).f2) 1) = true then (if bt150.2 = 0 then ((contangoref22_Same.f k bt154.1 (([(⟨(⟨#[112]⟩ : ByteArray), 0, 2000, 4⟩ : S63), (⟨(⟨#[113]⟩ : ByteArray), 0, 500, 4⟩ : S63), (⟨(⟨#[120]⟩ : ByteArray), 0, (-1500), 4⟩ : S63), (⟨(⟨#[121]⟩ : ByteArray), 0, (-1000), 4⟩ : S63)] : List (S63)))).bind fun t168 => (if t168 = true then (if bt154.2 = 0 then (if bt158.1 = 38 then (some (bt158.2 == 0)) else (some false)) else (some false)) else (some false))) else (some false)) else (some false)))) else (none)) else (some false))))) = some r := H
 have A4 := Aside0.mk A40
 clear A40
 obtain ⟨y147, hy147⟩ : ∃ y_ : List (S60), y_ = (([(⟨(⟨t143, t144⟩ : S54), 4⟩ : S60), (⟨(⟨t145, t146⟩ : S54), 1⟩ : S60)] : List (S60))) := ⟨_, rfl⟩
 replace H : ((deliver_Pairs.f k y140 y147).bind fun bt150 => ((deliver_Flows.f k (⟨#[111, 105, 108]⟩ : ByteArray) 0 10 5 0 100 true 50 bt150.1).bind fun bt154 => ((deliver_Failed.f k (⟨#[111, 105, 108]⟩ : ByteArray) 0 10 5 0 100 true 50 3 25).bind fun bt158 => (if (bt150.1.length : Int) = 3 then (if 1 < (bt150.1.length : Int) then ((contangolaw52_acc.f (⟨#[112]⟩ : ByteArray)).bind fun bt161 => ((contangolaw52_acc.f (⟨#[121]⟩ : ByteArray)).bind fun bt163 => (if (eqD56 ((rd_T56 bt150.1 1).f0.f0) bt161.1 ((rd_T56 bt150.1 1).f0.f1) bt161.2 ((rd_T56 bt150.1 1).f1.f0) bt163.1 ((rd_T56 bt150.1 1).f1.f1) bt163.2 ((rd_T56 bt150.1 1).f2) 1) = true then (if bt150.2 = 0 then ((contangoref22_Same.f k bt154.1 (([(⟨(⟨#[112]⟩ : ByteArray), 0, 2000, 4⟩ : S63), (⟨(⟨#[113]⟩ : ByteArray), 0, 500, 4⟩ : S63), (⟨(⟨#[120]⟩ : ByteArray), 0, (-1500), 4⟩ : S63), (⟨(⟨#[121]⟩ : ByteArray), 0, (-1000), 4⟩ : S63)] : List (S63)))).bind fun t168 => (if t168 = true then (if bt154.2 = 0 then (if bt158.1 = 38 then (some (bt158.2 == 0)) else (some false)) else (some false)) else (some false))) else (some false)) else (some false)))) else (none)) else (some false))))) = some r := by first | (rw [hy147]; with_reducible exact H) | (have H2_ := (Option.bind_some _ _).symm.trans H; rw [hy147]; with_reducible exact H2_) | (have H2_ := (Option.bind_some _ _).symm.trans H; with_reducible exact H2_) | with_reducible exact H | (rw [hy147]; exact H) | exact H
 have Ny147 := Aside0.mk hy147
 clear hy147
 replace H := Option.bind_eq_some_iff.mp H
 obtain ⟨⟨t150, t151⟩, A50, H⟩ := H
 replace H : ((deliver_Flows.f k (⟨#[111, 105, 108]⟩ : ByteArray) 0 10 5 0 100 true 50 t150).bind fun bt154 => ((deliver_Failed.f k (⟨#[111, 105, 108]⟩ : ByteArray) 0 10 5 0 100 true 50 3 25).bind fun bt158 => (if (t150.length : Int) = 3 then (if 1 < (t150.length : Int) then ((contangolaw52_acc.f (⟨#[112]⟩ : ByteArray)).bind fun bt161 => ((contangolaw52_acc.f (⟨#[121]⟩ : ByteArray)).bind fun bt163 => (if (eqD56 ((rd_T56 t150 1).f0.f0) bt161.1 ((rd_T56 t150 1).f0.f1) bt161.2 ((rd_T56 t150 1).f1.f0) bt163.1 ((rd_T56 t150 1).f1.f1) bt163.2 ((rd_T56 t150 1).f2) 1) = true then (if t151 = 0 then ((contangoref22_Same.f k bt154.1 (([(⟨(⟨#[112]⟩ : ByteArray), 0, 2000, 4⟩ : S63), (⟨(⟨#[113]⟩ : ByteArray), 0, 500, 4⟩ : S63), (⟨(⟨#[120]⟩ : ByteArray), 0, (-1500), 4⟩ : S63), (⟨(⟨#[121]⟩ : ByteArray), 0, (-1000), 4⟩ : S63)] : List (S63)))).bind fun t168 => (if t168 = true then (if bt154.2 = 0 then (if bt158.1 = 38 then (some (bt158.2 == 0)) else (some false)) else (some false)) else (some false))) else (some false)) else (some false)))) else (none)) else (some false)))) = some r := H
 have A5 := Aside0.mk A50
 clear A50
 replace H := Option.bind_eq_some_iff.mp H
 obtain ⟨⟨t154, t157⟩, A60, H⟩ := H
 replace H : ((deliver_Failed.f k (⟨#[111, 105, 108]⟩ : ByteArray) 0 10 5 0 100 true 50 3 25).bind fun bt158 => (if (t150.length : Int) = 3 then (if 1 < (t150.length : Int) then ((contangolaw52_acc.f (⟨#[112]⟩ : ByteArray)).bind fun bt161 => ((contangolaw52_acc.f (⟨#[121]⟩ : ByteArray)).bind fun bt163 => (if (eqD56 ((rd_T56 t150 1).f0.f0) bt161.1 ((rd_T56 t150 1).f0.f1) bt161.2 ((rd_T56 t150 1).f1.f0) bt163.1 ((rd_T56 t150 1).f1.f1) bt163.2 ((rd_T56 t150 1).f2) 1) = true then (if t151 = 0 then ((contangoref22_Same.f k t154 (([(⟨(⟨#[112]⟩ : ByteArray), 0, 2000, 4⟩ : S63), (⟨(⟨#[113]⟩ : ByteArray), 0, 500, 4⟩ : S63), (⟨(⟨#[120]⟩ : ByteArray), 0, (-1500), 4⟩ : S63), (⟨(⟨#[121]⟩ : ByteArray), 0, (-1000), 4⟩ : S63)] : List (S63)))).bind fun t168 => (if t168 = true then (if t157 = 0 then (if bt158.1 = 38 then (some (bt158.2 == 0)) else (some false)) else (some false)) else (some false))) else (some false)) else (some false)))) else (none)) else (some false))) = some r := H
 have A6 := Aside0.mk A60
 clear A60
 replace H := Option.bind_eq_some_iff.mp H
 obtain ⟨⟨t158, t159⟩, A70, H⟩ := H
 replace H : (if (t150.length : Int) = 3 then (if 1 < (t150.length : Int) then ((contangolaw52_acc.f (⟨#[112]⟩ : ByteArray)).bind fun bt161 => ((contangolaw52_acc.f (⟨#[121]⟩ : ByteArray)).bind fun bt163 => (if (eqD56 ((rd_T56 t150 1).f0.f0) bt161.1 ((rd_T56 t150 1).f0.f1) bt161.2 ((rd_T56 t150 1).f1.f0) bt163.1 ((rd_T56 t150 1).f1.f1) bt163.2 ((rd_T56 t150 1).f2) 1) = true then (if t151 = 0 then ((contangoref22_Same.f k t154 (([(⟨(⟨#[112]⟩ : ByteArray), 0, 2000, 4⟩ : S63), (⟨(⟨#[113]⟩ : ByteArray), 0, 500, 4⟩ : S63), (⟨(⟨#[120]⟩ : ByteArray), 0, (-1500), 4⟩ : S63), (⟨(⟨#[121]⟩ : ByteArray), 0, (-1000), 4⟩ : S63)] : List (S63)))).bind fun t168 => (if t168 = true then (if t157 = 0 then (if t158 = 38 then (some (t159 == 0)) else (some false)) else (some false)) else (some false))) else (some false)) else (some false)))) else (none)) else (some false)) = some r := H
 have A7 := Aside0.mk A70
 clear A70
 by_cases c8 : (t150.length : Int) = 3
 rotate_left
 · rw [if_neg c8] at H
   exact absurd (H.trans (congrArg some HRT.out)) (by first | simp [] | (simp only []; (repeat' split) <;> simp))
 rw [if_pos c8] at H
 have c8b0 : ((t150.length : Int) == 3) = true := beq_iff_eq.mpr c8
 have c8b1 : ((t150.length : Int) != 3) = false := bne_eq_false_iff_eq.mpr c8
 clear c8
 by_cases c9 : 1 < (t150.length : Int)
 rotate_left
 · rw [if_neg c9] at H
   exact absurd H (by simp)
 rw [if_pos c9] at H
 have c9b0 : decide (1 < (t150.length : Int)) = true := decide_eq_true c9
 have c9b1 : decide (1 < t150.length) = true := decide_eq_true (by omega)
 clear c9
 replace H := Option.bind_eq_some_iff.mp H
 obtain ⟨⟨t161, t162⟩, A100, H⟩ := H
 replace H : ((contangolaw52_acc.f (⟨#[121]⟩ : ByteArray)).bind fun bt163 => (if (eqD56 ((rd_T56 t150 1).f0.f0) t161 ((rd_T56 t150 1).f0.f1) t162 ((rd_T56 t150 1).f1.f0) bt163.1 ((rd_T56 t150 1).f1.f1) bt163.2 ((rd_T56 t150 1).f2) 1) = true then (if t151 = 0 then ((contangoref22_Same.f k t154 (([(⟨(⟨#[112]⟩ : ByteArray), 0, 2000, 4⟩ : S63), (⟨(⟨#[113]⟩ : ByteArray), 0, 500, 4⟩ : S63), (⟨(⟨#[120]⟩ : ByteArray), 0, (-1500), 4⟩ : S63), (⟨(⟨#[121]⟩ : ByteArray), 0, (-1000), 4⟩ : S63)] : List (S63)))).bind fun t168 => (if t168 = true then (if t157 = 0 then (if t158 = 38 then (some (t159 == 0)) else (some false)) else (some false)) else (some false))) else (some false)) else (some false))) = some r := H
 have A10 := Aside0.mk A100
 clear A100
 replace H := Option.bind_eq_some_iff.mp H
 obtain ⟨⟨t163, t164⟩, A110, H⟩ := H
 replace H : (if (eqD56 ((rd_T56 t150 1).f0.f0) t161 ((rd_T56 t150 1).f0.f1) t162 ((rd_T56 t150 1).f1.f0) t163 ((rd_T56 t150 1).f1.f1) t164 ((rd_T56 t150 1).f2) 1) = true then (if t151 = 0 then ((contangoref22_Same.f k t154 (([(⟨(⟨#[112]⟩ : ByteArray), 0, 2000, 4⟩ : S63), (⟨(⟨#[113]⟩ : ByteArray), 0, 500, 4⟩ : S63), (⟨(⟨#[120]⟩ : ByteArray), 0, (-1500), 4⟩ : S63), (⟨(⟨#[121]⟩ : ByteArray), 0, (-1000), 4⟩ : S63)] : List (S63)))).bind fun t168 => (if t168 = true then (if t157 = 0 then (if t158 = 38 then (some (t159 == 0)) else (some false)) else (some false)) else (some false))) else (some false)) else (some false)) = some r := H
 have A11 := Aside0.mk A110
 clear A110
 by_cases c12 : (eqD56 ((rd_T56 t150 1).f0.f0) t161 ((rd_T56 t150 1).f0.f1) t162 ((rd_T56 t150 1).f1.f0) t163 ((rd_T56 t150 1).f1.f1) t164 ((rd_T56 t150 1).f2) 1) = true
 rotate_left
 · rw [if_neg c12] at H
   exact absurd (H.trans (congrArg some HRT.out)) (by first | simp [] | (simp only []; (repeat' split) <;> simp))
 rw [if_pos c12] at H
 have c12b0 : (eqD56 ((rd_T56 t150 1).f0.f0) t161 ((rd_T56 t150 1).f0.f1) t162 ((rd_T56 t150 1).f1.f0) t163 ((rd_T56 t150 1).f1.f1) t164 ((rd_T56 t150 1).f2) 1) = true := c12
 clear c12
 by_cases c13 : t151 = 0
 rotate_left
 · rw [if_neg c13] at H
   exact absurd (H.trans (congrArg some HRT.out)) (by first | simp [] | (simp only []; (repeat' split) <;> simp))
 rw [if_pos c13] at H
 have c13b0 : (t151 == 0) = true := beq_iff_eq.mpr c13
 have c13b1 : (t151 != 0) = false := bne_eq_false_iff_eq.mpr c13
 clear c13
 obtain ⟨y165, hy165⟩ : ∃ y_ : List (S63), y_ = (([(⟨(⟨#[112]⟩ : ByteArray), 0, 2000, 4⟩ : S63), (⟨(⟨#[113]⟩ : ByteArray), 0, 500, 4⟩ : S63), (⟨(⟨#[120]⟩ : ByteArray), 0, (-1500), 4⟩ : S63), (⟨(⟨#[121]⟩ : ByteArray), 0, (-1000), 4⟩ : S63)] : List (S63))) := ⟨_, rfl⟩
 replace H : ((contangoref22_Same.f k t154 y165).bind fun t168 => (if t168 = true then (if t157 = 0 then (if t158 = 38 then (some (t159 == 0)) else (some false)) else (some false)) else (some false))) = some r := by first | (rw [hy165]; with_reducible exact H) | (have H2_ := (Option.bind_some _ _).symm.trans H; rw [hy165]; with_reducible exact H2_) | (have H2_ := (Option.bind_some _ _).symm.trans H; with_reducible exact H2_) | with_reducible exact H | (rw [hy165]; exact H) | exact H
 have Ny165 := Aside0.mk hy165
 clear hy165
 replace H := Option.bind_eq_some_iff.mp H
 obtain ⟨t168, A140, H⟩ := H
 replace H : (if t168 = true then (if t157 = 0 then (if t158 = 38 then (some (t159 == 0)) else (some false)) else (some false)) else (some false)) = some r := H
 have A14 := Aside0.mk A140
 clear A140
 by_cases c15 : t168 = true
 rotate_left
 · replace c15 := Bool.eq_false_iff.mpr c15
   subst c15
   have H1 : (some false) = some r := by rw [if_neg (show ¬ (false = true) by decide)] at H; exact H
   clear H
   have H := H1
   clear H1
   exact absurd (H.trans (congrArg some HRT.out)) (by first | simp [] | (simp only []; (repeat' split) <;> simp))
 subst c15
 have H1 : (if t157 = 0 then (if t158 = 38 then (some (t159 == 0)) else (some false)) else (some false)) = some r := by rw [if_pos rfl] at H; exact H
 clear H
 have H := H1
 clear H1
 by_cases c16 : t157 = 0
 rotate_left
 · rw [if_neg c16] at H
   exact absurd (H.trans (congrArg some HRT.out)) (by first | simp [] | (simp only []; (repeat' split) <;> simp))
 rw [if_pos c16] at H
 have c16b0 : (t157 == 0) = true := beq_iff_eq.mpr c16
 have c16b1 : (t157 != 0) = false := bne_eq_false_iff_eq.mpr c16
 clear c16
 by_cases c17 : t158 = 38
 rotate_left
 · rw [if_neg c17] at H
   exact absurd (H.trans (congrArg some HRT.out)) (by first | simp [] | (simp only []; (repeat' split) <;> simp))
 rw [if_pos c17] at H
 have c17b0 : (t158 == 38) = true := beq_iff_eq.mpr c17
 have c17b1 : (t158 != 38) = false := bne_eq_false_iff_eq.mpr c17
 clear c17
 obtain rfl := Option.some.inj H
 go_enter Try.func8, Try.ntmps8
 try go_wp2_with (first | ((with_reducible refine gate_dst (N := 1) rfl ?_); (try (refine gate_guard (by rfl) ?_; dsimp only)); refine box_event ?hg (N := 1) ?hd (cs := #[.string (⟨#[]⟩ : ByteArray), .int .i64 0, .int .i64 0, .int .i64 0, .int .i64 0, .int .i64 0, .bool false]) (t := 35) ?hr ?_; (case hd => rfl); (case hg => rfl); (case hr => first | (go_simp; done) | (go_simp; rfl)); intro gb135 hg w18 hbox hb; have n0_ := Aside0.mk (below_step (by repeat (first | (with_reducible first | exact HB.out | apply below_alloc | apply pw_below_drewN | apply below_drew1) | exact HB.out)) hb); have n1_ := Aside0.mk (hbox); have n2_ := Aside0.mk ((by rw [hg]; exact (below_size (by repeat (first | (with_reducible first | exact HB.out | apply below_alloc | apply pw_below_drewN | apply below_drew1) | exact HB.out))) : w.heap.size ≤ gb135)); have n3_ := Aside0.mk ((by rw [hg]; exact (below_size (by repeat (first | (with_reducible first | exact HB.out | apply below_alloc | apply pw_below_drewN | apply below_drew1) | exact HB.out))) : w.heap.size ≤ gb135)); clear HB; have HB := n0_; have BK135 := n1_; have GW135 := n2_; have GE135 := n3_; clear n0_ n1_ n2_ n3_; clear hb hbox hg; have hcz19_0 : w18.cell? ⟨gb135, 0, none⟩ = some (.string (⟨#[]⟩ : ByteArray)) := (blk_cell BK135.out 0).trans rfl; have hcz19_1 : w18.cell? ⟨gb135, 1, none⟩ = some (.int .i64 0) := (blk_cell BK135.out 1).trans rfl; have hcz19_2 : w18.cell? ⟨gb135, 2, none⟩ = some (.int .i64 0) := (blk_cell BK135.out 2).trans rfl; have hcz19_3 : w18.cell? ⟨gb135, 3, none⟩ = some (.int .i64 0) := (blk_cell BK135.out 3).trans rfl; have hcz19_4 : w18.cell? ⟨gb135, 4, none⟩ = some (.int .i64 0) := (blk_cell BK135.out 4).trans rfl; have hcz19_5 : w18.cell? ⟨gb135, 5, none⟩ = some (.int .i64 0) := (blk_cell BK135.out 5).trans rfl; have hcz19_6 : w18.cell? ⟨gb135, 6, none⟩ = some (.bool false) := (blk_cell BK135.out 6).trans rfl; have hfz19_0 := blk_frozen BK135.out 0; have hfz19_1 := blk_frozen BK135.out 1; have hfz19_2 := blk_frozen BK135.out 2; have hfz19_3 := blk_frozen BK135.out 3; have hfz19_4 := blk_frozen BK135.out 4; have hfz19_5 := blk_frozen BK135.out 5; have hfz19_6 := blk_frozen BK135.out 6) | ((with_reducible refine gate_callee (f := 28) rfl ?_); refine goesL_ (some 10) rfl rfl Try.func28 (by kernel_rfl) rfl #[.string (⟨#[120]⟩ : ByteArray)] rfl (by (try simp only [List.map_toArray, List.map_cons, List.map_nil]); first | done | rfl | (simp only [List.length_drop, List.length_take]; rfl)) ?_; (with_reducible refine (contangolaw52_acc.calls (⟨#[120]⟩ : ByteArray) t136 t137 _ A1.out).mono ?_); rintro e w20 ⟨rfl, hb⟩; refine ⟨_, rfl, ?_⟩; have n0_ := Aside0.mk (blk_below (g := gb135) (o := .cells #[.string (⟨#[111, 105, 108]⟩ : ByteArray), .int .i64 0, .int .i64 10, .int .i64 5, .int .i64 0, .int .i64 100, .bool true] 35 (0, 0)) (by (with_reducible repeat (first | refine blk_drewN ?_ _ | refine blk_drew ?_ | refine blk_alloc ?_ _)); refine blk_put (cs := #[.string (⟨#[111, 105, 108]⟩ : ByteArray), .int .i64 0, .int .i64 10, .int .i64 5, .int .i64 0, .int .i64 100, .bool false]) ?_ 6 _ rfl; (with_reducible repeat (first | refine blk_drewN ?_ _ | refine blk_drew ?_ | refine blk_alloc ?_ _)); refine blk_put (cs := #[.string (⟨#[111, 105, 108]⟩ : ByteArray), .int .i64 0, .int .i64 10, .int .i64 5, .int .i64 0, .int .i64 0, .bool false]) ?_ 5 _ rfl; (with_reducible repeat (first | refine blk_drewN ?_ _ | refine blk_drew ?_ | refine blk_alloc ?_ _)); refine blk_put (cs := #[.string (⟨#[111, 105, 108]⟩ : ByteArray), .int .i64 0, .int .i64 10, .int .i64 5, .int .i64 0, .int .i64 0, .bool false]) ?_ 4 _ rfl; (with_reducible repeat (first | refine blk_drewN ?_ _ | refine blk_drew ?_ | refine blk_alloc ?_ _)); refine blk_put (cs := #[.string (⟨#[111, 105, 108]⟩ : ByteArray), .int .i64 0, .int .i64 10, .int .i64 0, .int .i64 0, .int .i64 0, .bool false]) ?_ 3 _ rfl; (with_reducible repeat (first | refine blk_drewN ?_ _ | refine blk_drew ?_ | refine blk_alloc ?_ _)); refine blk_put (cs := #[.string (⟨#[111, 105, 108]⟩ : ByteArray), .int .i64 0, .int .i64 0, .int .i64 0, .int .i64 0, .int .i64 0, .bool false]) ?_ 2 _ rfl; (with_reducible repeat (first | refine blk_drewN ?_ _ | refine blk_drew ?_ | refine blk_alloc ?_ _)); refine blk_put (cs := #[.string (⟨#[111, 105, 108]⟩ : ByteArray), .int .i64 0, .int .i64 0, .int .i64 0, .int .i64 0, .int .i64 0, .bool false]) ?_ 1 _ rfl; (with_reducible repeat (first | refine blk_drewN ?_ _ | refine blk_drew ?_ | refine blk_alloc ?_ _)); refine blk_put (cs := #[.string (⟨#[]⟩ : ByteArray), .int .i64 0, .int .i64 0, .int .i64 0, .int .i64 0, .int .i64 0, .bool false]) ?_ 0 _ rfl; (with_reducible repeat (first | refine blk_drewN ?_ _ | refine blk_drew ?_ | refine blk_alloc ?_ _)); exact BK135.out) hb); have n1_ := Aside0.mk (below_step (by repeat (first | (with_reducible first | exact HB.out | apply below_alloc | apply pw_below_drewN | apply below_drew1 | refine below_set ?_ GE135.out) | exact HB.out)) hb); clear BK135; clear HB; have BK135 := n0_; have HB := n1_; clear n0_ n1_; (try clear hb); (try clear hb2); (try clear hk); (try clear hi)) | ((with_reducible refine gate_callee (f := 28) rfl ?_); refine goesL_ (some 12) rfl rfl Try.func28 (by kernel_rfl) rfl #[.string (⟨#[121]⟩ : ByteArray)] rfl (by (try simp only [List.map_toArray, List.map_cons, List.map_nil]); first | done | rfl | (simp only [List.length_drop, List.length_take]; rfl)) ?_; (with_reducible refine (contangolaw52_acc.calls (⟨#[121]⟩ : ByteArray) t138 t139 _ A2.out).mono ?_); rintro e w21 ⟨rfl, hb⟩; refine ⟨_, rfl, ?_⟩; have n0_ := Aside0.mk (blk_below (g := gb135) (o := .cells #[.string (⟨#[111, 105, 108]⟩ : ByteArray), .int .i64 0, .int .i64 10, .int .i64 5, .int .i64 0, .int .i64 100, .bool true] 35 (0, 0)) (by (with_reducible repeat (first | refine blk_drewN ?_ _ | refine blk_drew ?_ | refine blk_alloc ?_ _)); exact BK135.out) hb); have n1_ := Aside0.mk (below_step (by repeat (first | (with_reducible first | exact HB.out | apply below_alloc | apply pw_below_drewN | apply below_drew1 | refine below_set ?_ GE135.out) | exact HB.out)) hb); clear BK135; clear HB; have BK135 := n0_; have HB := n1_; clear n0_ n1_; (try clear hb); (try clear hb2); (try clear hk); (try clear hi)) | ((with_reducible refine gate_dst (N := 14) rfl ?_); (try (refine gate_guard (by rfl) ?_; dsimp only)); refine Kd.R_lit k60 _ 60 ?hg (N := 14) ?hd (xs := ([(⟨(⟨t136, t137⟩ : S54), 3⟩ : S60), (⟨(⟨t138, t139⟩ : S54), 2⟩ : S60)] : List (S60))) (inner := [.string t136, .string t137, .int .i64 3, .string t138, .string t139, .int .i64 2]) (ok := fun _ => True) (okp := fun _ => True) ?hr ?hp (fun _ hk => hk) trivial (Below.refl _ _) (Nat.le_refl _) (by simp) ?_; (case hd => rfl); (case hg => rfl); (case hr => first | (go_simp; done) | (go_simp; rfl)); (case hp => exact (Reps.c3 (show Kd.M k60 _ _ _ (⟨(⟨t136, t137⟩ : S54), 3⟩ : S60) [.string t136, .string t137, .int .i64 3] from (k60_mkM _ _ _ (⟨(⟨t136, t137⟩ : S54), 3⟩ : S60) )) (Reps.c3 (show Kd.M k60 _ _ _ (⟨(⟨t138, t139⟩ : S54), 2⟩ : S60) [.string t138, .string t139, .int .i64 2] from (k60_mkM _ _ _ (⟨(⟨t138, t139⟩ : S54), 2⟩ : S60) )) (Reps.none _ _)))); intro v141 w22 ho23 hb hg_ hnew_; clear hg_ hnew_; (first | rw [← Ny140.out] at ho23 | (simp only [Int.reduceToNat] at ho23; rw [← Ny140.out] at ho23)); have n0_ := Aside0.mk (Kd.R_lower ho23 (below_size (by repeat (first | (with_reducible first | exact HB.out | apply below_alloc | apply pw_below_drewN | apply below_drew1 | refine below_set ?_ GE135.out) | exact HB.out)))); have n1_ := Aside0.mk (blk_below (g := gb135) (o := .cells #[.string (⟨#[111, 105, 108]⟩ : ByteArray), .int .i64 0, .int .i64 10, .int .i64 5, .int .i64 0, .int .i64 100, .bool true] 35 (0, 0)) (by (with_reducible repeat (first | refine blk_drewN ?_ _ | refine blk_drew ?_ | refine blk_alloc ?_ _)); exact BK135.out) hb); have n2_ := Aside0.mk (below_step (by repeat (first | (with_reducible first | exact HB.out | apply below_alloc | apply pw_below_drewN | apply below_drew1 | refine below_set ?_ GE135.out) | exact HB.out)) hb); clear BK135; clear HB; have HO142 := n0_; have BK135 := n1_; have HB := n2_; clear n0_ n1_ n2_; clear hb ho23) | ((with_reducible refine gate_callee (f := 28) rfl ?_); refine goesL_ (some 15) rfl rfl Try.func28 (by kernel_rfl) rfl #[.string (⟨#[112]⟩ : ByteArray)] rfl (by (try simp only [List.map_toArray, List.map_cons, List.map_nil]); first | done | rfl | (simp only [List.length_drop, List.length_take]; rfl)) ?_; (with_reducible refine (contangolaw52_acc.calls (⟨#[112]⟩ : ByteArray) t143 t144 _ A3.out).mono ?_); rintro e w24 ⟨rfl, hb⟩; refine ⟨_, rfl, ?_⟩; have n0_ := Aside0.mk (Kd.R_below (by (with_reducible repeat (first | apply Kd.R_alloc | apply Kd.R_drewN | apply Kd.R_drew)); exact HO142.out) hb); have n1_ := Aside0.mk (blk_below (g := gb135) (o := .cells #[.string (⟨#[111, 105, 108]⟩ : ByteArray), .int .i64 0, .int .i64 10, .int .i64 5, .int .i64 0, .int .i64 100, .bool true] 35 (0, 0)) (by (with_reducible repeat (first | refine blk_drewN ?_ _ | refine blk_drew ?_ | refine blk_alloc ?_ _)); exact BK135.out) hb); have n2_ := Aside0.mk (below_step (by repeat (first | (with_reducible first | exact HB.out | apply below_alloc | apply pw_below_drewN | apply below_drew1 | refine below_set ?_ GE135.out) | exact HB.out)) hb); clear HO142; clear BK135; clear HB; have HO142 := n0_; have BK135 := n1_; have HB := n2_; clear n0_ n1_ n2_; (try clear hb); (try clear hb2); (try clear hk); (try clear hi)) | ((with_reducible refine gate_callee (f := 28) rfl ?_); refine goesL_ (some 17) rfl rfl Try.func28 (by kernel_rfl) rfl #[.string (⟨#[113]⟩ : ByteArray)] rfl (by (try simp only [List.map_toArray, List.map_cons, List.map_nil]); first | done | rfl | (simp only [List.length_drop, List.length_take]; rfl)) ?_; (with_reducible refine (contangolaw52_acc.calls (⟨#[113]⟩ : ByteArray) t145 t146 _ A4.out).mono ?_); rintro e w25 ⟨rfl, hb⟩; refine ⟨_, rfl, ?_⟩; have n0_ := Aside0.mk (Kd.R_below (by (with_reducible repeat (first | apply Kd.R_alloc | apply Kd.R_drewN | apply Kd.R_drew)); exact HO142.out) hb); have n1_ := Aside0.mk (blk_below (g := gb135) (o := .cells #[.string (⟨#[111, 105, 108]⟩ : ByteArray), .int .i64 0, .int .i64 10, .int .i64 5, .int .i64 0, .int .i64 100, .bool true] 35 (0, 0)) (by (with_reducible repeat (first | refine blk_drewN ?_ _ | refine blk_drew ?_ | refine blk_alloc ?_ _)); exact BK135.out) hb); have n2_ := Aside0.mk (below_step (by repeat (first | (with_reducible first | exact HB.out | apply below_alloc | apply pw_below_drewN | apply below_drew1 | refine below_set ?_ GE135.out) | exact HB.out)) hb); clear HO142; clear BK135; clear HB; have HO142 := n0_; have BK135 := n1_; have HB := n2_; clear n0_ n1_ n2_; (try clear hb); (try clear hb2); (try clear hk); (try clear hi)) | ((with_reducible refine gate_dst (N := 19) rfl ?_); (try (refine gate_guard (by rfl) ?_; dsimp only)); refine Kd.R_lit k60 _ 60 ?hg (N := 19) ?hd (xs := ([(⟨(⟨t143, t144⟩ : S54), 4⟩ : S60), (⟨(⟨t145, t146⟩ : S54), 1⟩ : S60)] : List (S60))) (inner := [.string t143, .string t144, .int .i64 4, .string t145, .string t146, .int .i64 1]) (ok := fun _ => True) (okp := fun _ => True) ?hr ?hp (fun _ hk => hk) trivial (Below.refl _ _) (Nat.le_refl _) (by simp) ?_; (case hd => rfl); (case hg => rfl); (case hr => first | (go_simp; done) | (go_simp; rfl)); (case hp => exact (Reps.c3 (show Kd.M k60 _ _ _ (⟨(⟨t143, t144⟩ : S54), 4⟩ : S60) [.string t143, .string t144, .int .i64 4] from (k60_mkM _ _ _ (⟨(⟨t143, t144⟩ : S54), 4⟩ : S60) )) (Reps.c3 (show Kd.M k60 _ _ _ (⟨(⟨t145, t146⟩ : S54), 1⟩ : S60) [.string t145, .string t146, .int .i64 1] from (k60_mkM _ _ _ (⟨(⟨t145, t146⟩ : S54), 1⟩ : S60) )) (Reps.none _ _)))); intro v148 w26 ho27 hb hg_ hnew_; clear hg_ hnew_; (first | rw [← Ny147.out] at ho27 | (simp only [Int.reduceToNat] at ho27; rw [← Ny147.out] at ho27)); have n0_ := Aside0.mk (Kd.R_elder' (by (with_reducible repeat (first | apply Kd.R_alloc | apply Kd.R_drewN | apply Kd.R_drew)); exact HO142.out) (Kd.R_base ho27) hb); have n1_ := Aside0.mk (Kd.R_lower (Kd.R_new' ho27 (Kd.R_lt (by (with_reducible repeat (first | apply Kd.R_alloc | apply Kd.R_drewN | apply Kd.R_drew)); exact HO142.out))) (below_size (by repeat (first | (with_reducible first | exact HB.out | apply below_alloc | apply pw_below_drewN | apply below_drew1 | refine below_set ?_ GE135.out) | exact HB.out)))); have n2_ := Aside0.mk (blk_below (g := gb135) (o := .cells #[.string (⟨#[111, 105, 108]⟩ : ByteArray), .int .i64 0, .int .i64 10, .int .i64 5, .int .i64 0, .int .i64 100, .bool true] 35 (0, 0)) (by (with_reducible repeat (first | refine blk_drewN ?_ _ | refine blk_drew ?_ | refine blk_alloc ?_ _)); exact BK135.out) hb); have n3_ := Aside0.mk (below_step (by repeat (first | (with_reducible first | exact HB.out | apply below_alloc | apply pw_below_drewN | apply below_drew1 | refine below_set ?_ GE135.out) | exact HB.out)) hb); clear HO142; clear BK135; clear HB; have HO142 := n0_; have HO149 := n1_; have BK135 := n2_; have HB := n3_; clear n0_ n1_ n2_ n3_; clear hb ho27; obtain ⟨Ao28, co28, eo28⟩ := Kd.R_slice HO142.out; subst eo28; obtain ⟨Ao29, co29, eo29⟩ := Kd.R_slice HO149.out; subst eo29) | ((with_reducible refine gate_callee (f := 9) rfl ?_); refine goesL_ (some 20) rfl rfl Try.func9 (by kernel_rfl) rfl #[.slice Ao28 y140.length co28, .slice Ao29 y147.length co29] rfl (by (try simp only [List.map_toArray, List.map_cons, List.map_nil]); first | done | rfl | (simp only [List.length_drop, List.length_take]; rfl)) ?_; (with_reducible refine (deliver_Pairs.calls k _ _ y140 _ _ y147 t150 t151 _ ?side1 ?side2 ?side3 ?side4 A5.out).mono ?_); (case side1 => repeat (first | exact (Kd.R_reads' HO142.out).2.2 | (with_reducible refine Kd.C_alloc ?_ _) | (with_reducible refine Kd.C_drewN ?_ _) | (with_reducible refine Kd.C_drew ?_))); (case side2 => exact (Kd.R_reads' HO142.out).2.1); (case side3 => repeat (first | exact (Kd.R_reads' HO149.out).2.2 | (with_reducible refine Kd.C_alloc ?_ _) | (with_reducible refine Kd.C_drewN ?_ _) | (with_reducible refine Kd.C_drew ?_))); (case side4 => exact (Kd.R_reads' HO149.out).2.1); rintro e w30 ⟨v152, rfl, ho0, hb⟩; refine ⟨_, rfl, ?_⟩; have n0_ := Aside0.mk (Kd.R_below (by (with_reducible repeat (first | apply Kd.R_alloc | apply Kd.R_drewN | apply Kd.R_drew)); exact HO142.out) hb); have n1_ := Aside0.mk (Kd.R_below (by (with_reducible repeat (first | apply Kd.R_alloc | apply Kd.R_drewN | apply Kd.R_drew)); exact HO149.out) hb); have n2_ := Aside0.mk (Kd.R_lower ho0 (below_size (by repeat (first | (with_reducible first | exact HB.out | apply below_alloc | apply pw_below_drewN | apply below_drew1 | refine below_set ?_ GE135.out) | exact HB.out)))); have n3_ := Aside0.mk (blk_below (g := gb135) (o := .cells #[.string (⟨#[111, 105, 108]⟩ : ByteArray), .int .i64 0, .int .i64 10, .int .i64 5, .int .i64 0, .int .i64 100, .bool true] 35 (0, 0)) (by (with_reducible repeat (first | refine blk_drewN ?_ _ | refine blk_drew ?_ | refine blk_alloc ?_ _)); exact BK135.out) hb); have n4_ := Aside0.mk (below_step (by repeat (first | (with_reducible first | exact HB.out | apply below_alloc | apply pw_below_drewN | apply below_drew1 | refine below_set ?_ GE135.out) | exact HB.out)) hb); clear HO142; clear HO149; clear BK135; clear HB; have HO142 := n0_; have HO149 := n1_; have HO153 := n2_; have BK135 := n3_; have HB := n4_; clear n0_ n1_ n2_ n3_ n4_; (try clear hb); (try clear hb2); (try clear hk); (try clear hi); (try clear ho0); have hcz31_0 : w30.cell? ⟨gb135, 0, none⟩ = some (.string (⟨#[111, 105, 108]⟩ : ByteArray)) := (blk_cell BK135.out 0).trans rfl; have hcz31_1 : w30.cell? ⟨gb135, 1, none⟩ = some (.int .i64 0) := (blk_cell BK135.out 1).trans rfl; have hcz31_2 : w30.cell? ⟨gb135, 2, none⟩ = some (.int .i64 10) := (blk_cell BK135.out 2).trans rfl; have hcz31_3 : w30.cell? ⟨gb135, 3, none⟩ = some (.int .i64 5) := (blk_cell BK135.out 3).trans rfl; have hcz31_4 : w30.cell? ⟨gb135, 4, none⟩ = some (.int .i64 0) := (blk_cell BK135.out 4).trans rfl; have hcz31_5 : w30.cell? ⟨gb135, 5, none⟩ = some (.int .i64 100) := (blk_cell BK135.out 5).trans rfl; have hcz31_6 : w30.cell? ⟨gb135, 6, none⟩ = some (.bool true) := (blk_cell BK135.out 6).trans rfl; have hfz31_0 := blk_frozen BK135.out 0; have hfz31_1 := blk_frozen BK135.out 1; have hfz31_2 := blk_frozen BK135.out 2; have hfz31_3 := blk_frozen BK135.out 3; have hfz31_4 := blk_frozen BK135.out 4; have hfz31_5 := blk_frozen BK135.out 5; have hfz31_6 := blk_frozen BK135.out 6; obtain ⟨Ao32, co32, eo32⟩ := Kd.R_slice HO153.out; subst eo32) | ((with_reducible refine gate_callee (f := 18) rfl ?_); refine goesL_ (some 26) rfl rfl Try.func18 (by kernel_rfl) rfl #[.agg #[.string (⟨#[111, 105, 108]⟩ : ByteArray), .int .i64 0, .int .i64 10, .int .i64 5, .int .i64 0, .int .i64 100, .bool true], .int .i64 50, .slice Ao32 t150.length co32] rfl (by (try simp only [List.map_toArray, List.map_cons, List.map_nil]); first | done | rfl | (simp only [List.length_drop, List.length_take]; rfl)) ?_; (with_reducible refine (deliver_Flows.calls k (⟨#[111, 105, 108]⟩ : ByteArray) 0 10 5 0 100 true 50 _ _ t150 t154 t157 _ ?side1 ?side2 A6.out).mono ?_); (case side1 => repeat (first | exact (Kd.R_reads' HO153.out).2.2 | (with_reducible refine Kd.C_alloc ?_ _) | (with_reducible refine Kd.C_drewN ?_ _) | (with_reducible refine Kd.C_drew ?_))); (case side2 => exact (Kd.R_reads' HO153.out).2.1); rintro e w33 ⟨v155, rfl, ho0, hb⟩; refine ⟨_, rfl, ?_⟩; have n0_ := Aside0.mk (Kd.R_below (by (with_reducible repeat (first | apply Kd.R_alloc | apply Kd.R_drewN | apply Kd.R_drew)); exact HO142.out) hb); have n1_ := Aside0.mk (Kd.R_below (by (with_reducible repeat (first | apply Kd.R_alloc | apply Kd.R_drewN | apply Kd.R_drew)); exact HO149.out) hb); have n2_ := Aside0.mk (Kd.R_below (by (with_reducible repeat (first | apply Kd.R_alloc | apply Kd.R_drewN | apply Kd.R_drew)); exact HO153.out) hb); have n3_ := Aside0.mk (Kd.R_lower ho0 (below_size (by repeat (first | (with_reducible first | exact HB.out | apply below_alloc | apply pw_below_drewN | apply below_drew1 | refine below_set ?_ GE135.out) | exact HB.out)))); have n4_ := Aside0.mk (blk_below (g := gb135) (o := .cells #[.string (⟨#[111, 105, 108]⟩ : ByteArray), .int .i64 0, .int .i64 10, .int .i64 5, .int .i64 0, .int .i64 100, .bool true] 35 (0, 0)) (by (with_reducible repeat (first | refine blk_drewN ?_ _ | refine blk_drew ?_ | refine blk_alloc ?_ _)); exact BK135.out) hb); have n5_ := Aside0.mk (below_step (by repeat (first | (with_reducible first | exact HB.out | apply below_alloc | apply pw_below_drewN | apply below_drew1 | refine below_set ?_ GE135.out) | exact HB.out)) hb); clear HO142; clear HO149; clear HO153; clear BK135; clear HB; have HO142 := n0_; have HO149 := n1_; have HO153 := n2_; have HO156 := n3_; have BK135 := n4_; have HB := n5_; clear n0_ n1_ n2_ n3_ n4_ n5_; (try clear hb); (try clear hb2); (try clear hk); (try clear hi); (try clear ho0); have hcz34_0 : w33.cell? ⟨gb135, 0, none⟩ = some (.string (⟨#[111, 105, 108]⟩ : ByteArray)) := (blk_cell BK135.out 0).trans rfl; have hcz34_1 : w33.cell? ⟨gb135, 1, none⟩ = some (.int .i64 0) := (blk_cell BK135.out 1).trans rfl; have hcz34_2 : w33.cell? ⟨gb135, 2, none⟩ = some (.int .i64 10) := (blk_cell BK135.out 2).trans rfl; have hcz34_3 : w33.cell? ⟨gb135, 3, none⟩ = some (.int .i64 5) := (blk_cell BK135.out 3).trans rfl; have hcz34_4 : w33.cell? ⟨gb135, 4, none⟩ = some (.int .i64 0) := (blk_cell BK135.out 4).trans rfl; have hcz34_5 : w33.cell? ⟨gb135, 5, none⟩ = some (.int .i64 100) := (blk_cell BK135.out 5).trans rfl; have hcz34_6 : w33.cell? ⟨gb135, 6, none⟩ = some (.bool true) := (blk_cell BK135.out 6).trans rfl; have hfz34_0 := blk_frozen BK135.out 0; have hfz34_1 := blk_frozen BK135.out 1; have hfz34_2 := blk_frozen BK135.out 2; have hfz34_3 := blk_frozen BK135.out 3; have hfz34_4 := blk_frozen BK135.out 4; have hfz34_5 := blk_frozen BK135.out 5; have hfz34_6 := blk_frozen BK135.out 6) | ((with_reducible refine gate_callee (f := 16) rfl ?_); refine goesL_ (some 31) rfl rfl Try.func16 (by kernel_rfl) rfl #[.agg #[.string (⟨#[111, 105, 108]⟩ : ByteArray), .int .i64 0, .int .i64 10, .int .i64 5, .int .i64 0, .int .i64 100, .bool true], .int .i64 50, .int .i64 3, .int .i64 25] rfl (by (try simp only [List.map_toArray, List.map_cons, List.map_nil]); first | done | rfl | (simp only [List.length_drop, List.length_take]; rfl)) ?_; (with_reducible refine (deliver_Failed.calls k (⟨#[111, 105, 108]⟩ : ByteArray) 0 10 5 0 100 true 50 3 25 t158 t159 _ A7.out).mono ?_); rintro e w35 ⟨rfl, hb⟩; refine ⟨_, rfl, ?_⟩; have n0_ := Aside0.mk (Kd.R_below (by (with_reducible repeat (first | apply Kd.R_alloc | apply Kd.R_drewN | apply Kd.R_drew)); exact HO142.out) hb); have n1_ := Aside0.mk (Kd.R_below (by (with_reducible repeat (first | apply Kd.R_alloc | apply Kd.R_drewN | apply Kd.R_drew)); exact HO149.out) hb); have n2_ := Aside0.mk (Kd.R_below (by (with_reducible repeat (first | apply Kd.R_alloc | apply Kd.R_drewN | apply Kd.R_drew)); exact HO153.out) hb); have n3_ := Aside0.mk (Kd.R_below (by (with_reducible repeat (first | apply Kd.R_alloc | apply Kd.R_drewN | apply Kd.R_drew)); exact HO156.out) hb); have n4_ := Aside0.mk (blk_below (g := gb135) (o := .cells #[.string (⟨#[111, 105, 108]⟩ : ByteArray), .int .i64 0, .int .i64 10, .int .i64 5, .int .i64 0, .int .i64 100, .bool true] 35 (0, 0)) (by (with_reducible repeat (first | refine blk_drewN ?_ _ | refine blk_drew ?_ | refine blk_alloc ?_ _)); exact BK135.out) hb); have n5_ := Aside0.mk (below_step (by repeat (first | (with_reducible first | exact HB.out | apply below_alloc | apply pw_below_drewN | apply below_drew1 | refine below_set ?_ GE135.out) | exact HB.out)) hb); clear HO142; clear HO149; clear HO153; clear HO156; clear BK135; clear HB; have HO142 := n0_; have HO149 := n1_; have HO153 := n2_; have HO156 := n3_; have BK135 := n4_; have HB := n5_; clear n0_ n1_ n2_ n3_ n4_ n5_; (try clear hb); (try clear hb2); (try clear hk); (try clear hi)))
 have n0_ := Aside0.mk (Kd.R_drew HO142.out)
 have n1_ := Aside0.mk (Kd.R_drew HO149.out)
 have n2_ := Aside0.mk (Kd.R_drew HO153.out)
 have n3_ := Aside0.mk (Kd.R_drew HO156.out)
 have n4_ := Aside0.mk (blk_drew BK135.out)
 have n5_ := Aside0.mk (below_drew1 HB.out)
 clear HO142
 clear HO149
 clear HO153
 clear HO156
 clear BK135
 clear HB
 have HO142 := n0_
 have HO149 := n1_
 have HO153 := n2_
 have HO156 := n3_
 have BK135 := n4_
 have HB := n5_
 clear n0_ n1_ n2_ n3_ n4_ n5_
 have p160 : 0 ≤ (1 : Int) := (by omega)
 have q160 : 1 < (t150.length : Int) := of_decide_eq_true (by first | (with_reducible assumption) | assumption)
 obtain ⟨ad160, e160, hx160_0, hx160_1, hx160_2, hx160_3, hx160_4⟩ := at_T56 (Kd.R_reads' HO153.out).2.2 1 p160 q160
 cases e160
 (try simp only [show (1 : Int).toNat = 1 from rfl, Nat.reduceMul, Nat.reduceEqDiff, Go.Addr.add, ↓reduceIte] at hx160_0)
 (try simp only [show (1 : Int).toNat = 1 from rfl, Nat.reduceMul, Nat.reduceEqDiff, Go.Addr.add, ↓reduceIte] at hx160_1)
 (try simp only [show (1 : Int).toNat = 1 from rfl, Nat.reduceMul, Nat.reduceEqDiff, Go.Addr.add, ↓reduceIte] at hx160_2)
 (try simp only [show (1 : Int).toNat = 1 from rfl, Nat.reduceMul, Nat.reduceEqDiff, Go.Addr.add, ↓reduceIte] at hx160_3)
 (try simp only [show (1 : Int).toNat = 1 from rfl, Nat.reduceMul, Nat.reduceEqDiff, Go.Addr.add, ↓reduceIte] at hx160_4)
 have qi160 : (1 < t150.length) = True := eq_true (by omega)
 (try rw [show ((1 : Int)).toNat = 1 from rfl] at hx160_0)
 (try rw [show 1 * 5 = 5 from rfl] at hx160_0)
 (try rw [show ((1 : Int)).toNat = 1 from rfl] at hx160_1)
 (try rw [show 1 * 5 = 5 from rfl] at hx160_1)
 (try rw [show ((1 : Int)).toNat = 1 from rfl] at hx160_2)
 (try rw [show 1 * 5 = 5 from rfl] at hx160_2)
 (try rw [show ((1 : Int)).toNat = 1 from rfl] at hx160_3)
 (try rw [show 1 * 5 = 5 from rfl] at hx160_3)
 (try rw [show ((1 : Int)).toNat = 1 from rfl] at hx160_4)
 (try rw [show 1 * 5 = 5 from rfl] at hx160_4)
 replace p160 := eq_true p160
 replace q160 := eq_true q160
 refine start_ (n := 38) (S := fun w' => w'.cell? ⟨ad160.block, ad160.off + 5, none⟩ = some (.string ((rd_T56 t150 1).f0.f0)) ∧ w'.cell? ⟨ad160.block, ad160.off + 5 + 1, none⟩ = some (.string ((rd_T56 t150 1).f0.f1)) ∧ w'.cell? ⟨ad160.block, ad160.off + 5 + 2, none⟩ = some (.string ((rd_T56 t150 1).f1.f0)) ∧ w'.cell? ⟨ad160.block, ad160.off + 5 + 3, none⟩ = some (.string ((rd_T56 t150 1).f1.f1)) ∧ w'.cell? ⟨ad160.block, ad160.off + 5 + 4, none⟩ = some (.int .i64 ((rd_T56 t150 1).f2))) (ds := []) #[false, false, false, false, false, false, false, false, false, false, false, false, false, false, false, false, false, false, false, false, false, false, false, false, false, false, false, false, false, false, false, false, false, false, false, false, false, false] (by kernel_rfl) rfl rfl ⟨hx160_0, hx160_1, hx160_2, hx160_3, hx160_4⟩ (fun hHeld => ?_); refine with_tabW contangolaw52_goes.tab5 contangolaw52_goes.bits5 (fun HT_ HW_ => ?_)
 generalize w35.drew = w36 at HO142 HO149 HO153 HO156 BK135 HB hx160_0 hx160_1 hx160_2 hx160_3 hx160_4 hHeld ⊢
 refine pure_ (i := 0) (N := some 34) (v := ?_) (a' := ?_) #[true, false, false, false, false, false, false, false, false, false, false, false, false, false, false, false, false, false, false, false, false, false, false, false, false, false, false, false, false, false, false, false, false, false, false, false, false, false] rfl rfl (any_of HT_.out (by kernel_rfl)) (fun _ _ _ h => h) (Or.inl ⟨by rfl, ?_⟩) ?_ ?_
 rotate_left
 · intro w'
   go_simp
   with_reducible rfl
 rotate_left
 · simp only [Act.put, List.setIfInBounds_toArray, List.set_cons_zero, List.set_cons_succ, i64_w, i32_w]
   rfl
 refine pure_ (i := 1) (N := some 35) (v := ?_) (a' := ?_) #[true, true, false, false, false, false, false, false, false, false, false, false, false, false, false, false, false, false, false, false, false, false, false, false, false, false, false, false, false, false, false, false, false, false, false, false, false, false] rfl rfl (any_of HT_.out (by kernel_rfl)) (fun _ _ _ h => h) (Or.inl ⟨by rfl, ?_⟩) ?_ ?_
 rotate_left
 · intro w'
   go_simp
   with_reducible rfl
 rotate_left
 · simp only [Act.put, List.setIfInBounds_toArray, List.set_cons_zero, List.set_cons_succ, i64_w, i32_w]
   rfl
 refine pure_ (i := 2) (N := some 36) (v := ?_) (a' := ?_) #[true, true, true, false, false, false, false, false, false, false, false, false, false, false, false, false, false, false, false, false, false, false, false, false, false, false, false, false, false, false, false, false, false, false, false, false, false, false] rfl rfl (any_of HT_.out (by kernel_rfl)) (fun _ _ _ h => h) (Or.inl ⟨by rfl, ?_⟩) ?_ ?_
 rotate_left
 · intro w'
   go_simp
   with_reducible rfl
 rotate_left
 · simp only [Act.put, List.setIfInBounds_toArray, List.set_cons_zero, List.set_cons_succ, i64_w, i32_w]
   rfl
 refine pure_ (i := 3) (N := some 37) (v := ?_) (a' := ?_) #[true, true, true, true, false, false, false, false, false, false, false, false, false, false, false, false, false, false, false, false, false, false, false, false, false, false, false, false, false, false, false, false, false, false, false, false, false, false] rfl rfl (any_of HT_.out (by kernel_rfl)) (fun _ _ _ h => h) (Or.inl ⟨by rfl, ?_⟩) ?_ ?_
 rotate_left
 · intro w'
   go_simp
   with_reducible rfl
 rotate_left
 · simp only [Act.put, List.setIfInBounds_toArray, List.set_cons_zero, List.set_cons_succ, i64_w, i32_w]
   rfl
 refine pure_ (i := 4) (N := some 38) (v := ?_) (a' := ?_) #[true, true, true, true, true, false, false, false, false, false, false, false, false, false, false, false, false, false, false, false, false, false, false, false, false, false, false, false, false, false, false, false, false, false, false, false, false, false] rfl rfl (any_of HT_.out (by kernel_rfl)) (fun _ _ _ h => h) (Or.inl ⟨by rfl, ?_⟩) ?_ ?_
 rotate_left
 · intro w'
   go_simp
   with_reducible rfl
 rotate_left
 · simp only [Act.put, List.setIfInBounds_toArray, List.set_cons_zero, List.set_cons_succ, i64_w, i32_w]
   rfl
 refine pure_ (i := 5) (N := some 39) (v := ?_) (a' := ?_) #[true, true, true, true, true, true, false, false, false, false, false, false, false, false, false, false, false, false, false, false, false, false, false, false, false, false, false, false, false, false, false, false, false, false, false, false, false, false] rfl rfl (any_of HT_.out (by kernel_rfl)) (fun _ _ _ h => h) (Or.inl ⟨by rfl, ?_⟩) ?_ ?_
 rotate_left
 · intro w'
   go_simp
   with_reducible rfl
 rotate_left
 · simp only [Act.put, List.setIfInBounds_toArray, List.set_cons_zero, List.set_cons_succ, i64_w, i32_w]
   rfl
 refine take_ (i := 6) (N := some 40) (v := ?_) (a' := ?_) #[true, true, true, true, true, true, true, false, false, false, false, false, false, false, false, false, false, false, false, false, false, false, false, false, false, false, false, false, false, false, false, false, false, false, false, false, false, false] rfl rfl (take_ofW HT_.out HW_.out (by kernel_rfl)) (fun _ _ _ h => h) (Or.inl ⟨by rfl, ?_⟩) hHeld ?_ ?_
 rotate_left
 · rintro w' ⟨s0, s1, s2, s3, s4⟩
   go_simp
   with_reducible rfl
 rotate_left
 · simp only [Act.put, List.setIfInBounds_toArray, List.set_cons_zero, List.set_cons_succ, i64_w, i32_w]
   rfl
 refine one_ (i := 7) (N := some 41) #[true, true, true, true, true, true, true, true, false, false, false, false, false, false, false, false, false, false, false, false, false, false, false, false, false, false, false, false, false, false, false, false, false, false, false, false, false, false] rfl rfl (one_of HT_.out (by kernel_rfl)) (by decide) (fun K hK => ?_)
 refine goes_ Try.func28 (by kernel_rfl) rfl #[.string (⟨#[112]⟩ : ByteArray)] (by rfl) rfl rfl (by (try simp only [List.map_toArray, List.map_cons, List.map_nil]); first | done | rfl | (simp only [List.length_drop, List.length_take]; rfl)) ?_
 with_reducible refine (contangolaw52_acc.calls (⟨#[112]⟩ : ByteArray) t161 t162 _ A10.out).mono ?_
 rintro e w37 ⟨rfl, hb⟩
 have HS0_ := (hb.cell (World.block_lt_of_cell? _ _ (hHeld.1))).trans (hHeld.1)
 have HS1_ := (hb.cell (World.block_lt_of_cell? _ _ (hHeld.2.1))).trans (hHeld.2.1)
 have HS2_ := (hb.cell (World.block_lt_of_cell? _ _ (hHeld.2.2.1))).trans (hHeld.2.2.1)
 have HS3_ := (hb.cell (World.block_lt_of_cell? _ _ (hHeld.2.2.2.1))).trans (hHeld.2.2.2.1)
 have HS4_ := (hb.cell (World.block_lt_of_cell? _ _ (hHeld.2.2.2.2))).trans (hHeld.2.2.2.2)
 refine ⟨_, rfl, ?_⟩
 have n0_ := Aside0.mk (Kd.R_below (by (with_reducible repeat (first | apply Kd.R_alloc | apply Kd.R_drewN | apply Kd.R_drew)); exact HO142.out) hb)
 have n1_ := Aside0.mk (Kd.R_below (by (with_reducible repeat (first | apply Kd.R_alloc | apply Kd.R_drewN | apply Kd.R_drew)); exact HO149.out) hb)
 have n2_ := Aside0.mk (Kd.R_below (by (with_reducible repeat (first | apply Kd.R_alloc | apply Kd.R_drewN | apply Kd.R_drew)); exact HO153.out) hb)
 have n3_ := Aside0.mk (Kd.R_below (by (with_reducible repeat (first | apply Kd.R_alloc | apply Kd.R_drewN | apply Kd.R_drew)); exact HO156.out) hb)
 have n4_ := Aside0.mk (blk_below (g := gb135) (o := .cells #[.string (⟨#[111, 105, 108]⟩ : ByteArray), .int .i64 0, .int .i64 10, .int .i64 5, .int .i64 0, .int .i64 100, .bool true] 35 (0, 0)) (by (with_reducible repeat (first | refine blk_drewN ?_ _ | refine blk_drew ?_ | refine blk_alloc ?_ _)); exact BK135.out) hb)
 have n5_ := Aside0.mk (below_step (by repeat (first | (with_reducible first | exact HB.out | apply below_alloc | apply pw_below_drewN | apply below_drew1 | refine below_set ?_ GE135.out) | exact HB.out)) hb)
 clear HO142
 clear HO149
 clear HO153
 clear HO156
 clear BK135
 clear HB
 have HO142 := n0_
 have HO149 := n1_
 have HO153 := n2_
 have HO156 := n3_
 have BK135 := n4_
 have HB := n5_
 clear n0_ n1_ n2_ n3_ n4_ n5_
 (try clear hb)
 (try clear hb2)
 (try clear hk)
 (try clear hi)
 refine hK.out _ _ ⟨HS0_, HS1_, HS2_, HS3_, HS4_⟩ (fun hHeld => ?_)
 clear hK K
 refine norm_ (a' := ?_) ?_ ?_
 rotate_left
 · show Act.put _ (some 41) _ = _
   simp only [Act.put, List.setIfInBounds_toArray, List.set_cons_zero, List.set_cons_succ, i64_w, i32_w]
   rfl
 refine one_ (i := 8) (N := some 42) #[true, true, true, true, true, true, true, true, true, false, false, false, false, false, false, false, false, false, false, false, false, false, false, false, false, false, false, false, false, false, false, false, false, false, false, false, false, false] rfl rfl (one_of HT_.out (by kernel_rfl)) (by decide) (fun K hK => ?_)
 refine goes_ Try.func28 (by kernel_rfl) rfl #[.string (⟨#[121]⟩ : ByteArray)] (by rfl) rfl rfl (by (try simp only [List.map_toArray, List.map_cons, List.map_nil]); first | done | rfl | (simp only [List.length_drop, List.length_take]; rfl)) ?_
 with_reducible refine (contangolaw52_acc.calls (⟨#[121]⟩ : ByteArray) t163 t164 _ A11.out).mono ?_
 rintro e w38 ⟨rfl, hb⟩
 have HS0_ := (hb.cell (World.block_lt_of_cell? _ _ (hHeld.1))).trans (hHeld.1)
 have HS1_ := (hb.cell (World.block_lt_of_cell? _ _ (hHeld.2.1))).trans (hHeld.2.1)
 have HS2_ := (hb.cell (World.block_lt_of_cell? _ _ (hHeld.2.2.1))).trans (hHeld.2.2.1)
 have HS3_ := (hb.cell (World.block_lt_of_cell? _ _ (hHeld.2.2.2.1))).trans (hHeld.2.2.2.1)
 have HS4_ := (hb.cell (World.block_lt_of_cell? _ _ (hHeld.2.2.2.2))).trans (hHeld.2.2.2.2)
 refine ⟨_, rfl, ?_⟩
 have n0_ := Aside0.mk (Kd.R_below (by (with_reducible repeat (first | apply Kd.R_alloc | apply Kd.R_drewN | apply Kd.R_drew)); exact HO142.out) hb)
 have n1_ := Aside0.mk (Kd.R_below (by (with_reducible repeat (first | apply Kd.R_alloc | apply Kd.R_drewN | apply Kd.R_drew)); exact HO149.out) hb)
 have n2_ := Aside0.mk (Kd.R_below (by (with_reducible repeat (first | apply Kd.R_alloc | apply Kd.R_drewN | apply Kd.R_drew)); exact HO153.out) hb)
 have n3_ := Aside0.mk (Kd.R_below (by (with_reducible repeat (first | apply Kd.R_alloc | apply Kd.R_drewN | apply Kd.R_drew)); exact HO156.out) hb)
 have n4_ := Aside0.mk (blk_below (g := gb135) (o := .cells #[.string (⟨#[111, 105, 108]⟩ : ByteArray), .int .i64 0, .int .i64 10, .int .i64 5, .int .i64 0, .int .i64 100, .bool true] 35 (0, 0)) (by (with_reducible repeat (first | refine blk_drewN ?_ _ | refine blk_drew ?_ | refine blk_alloc ?_ _)); exact BK135.out) hb)
 have n5_ := Aside0.mk (below_step (by repeat (first | (with_reducible first | exact HB.out | apply below_alloc | apply pw_below_drewN | apply below_drew1 | refine below_set ?_ GE135.out) | exact HB.out)) hb)
 clear HO142
 clear HO149
 clear HO153
 clear HO156
 clear BK135
 clear HB
 have HO142 := n0_
 have HO149 := n1_
 have HO153 := n2_
 have HO156 := n3_
 have BK135 := n4_
 have HB := n5_
 clear n0_ n1_ n2_ n3_ n4_ n5_
 (try clear hb)
 (try clear hb2)
 (try clear hk)
 (try clear hi)
 refine hK.out _ _ ⟨HS0_, HS1_, HS2_, HS3_, HS4_⟩ (fun hHeld => ?_)
 clear hK K
 refine norm_ (a' := ?_) ?_ ?_
 rotate_left
 · show Act.put _ (some 42) _ = _
   simp only [Act.put, List.setIfInBounds_toArray, List.set_cons_zero, List.set_cons_succ, i64_w, i32_w]
   rfl
 refine pure_ (i := 9) (N := some 43) (v := ?_) (a' := ?_) #[true, true, true, true, true, true, true, true, true, true, false, false, false, false, false, false, false, false, false, false, false, false, false, false, false, false, false, false, false, false, false, false, false, false, false, false, false, false] rfl rfl (any_of HT_.out (by kernel_rfl)) (fun _ _ _ h => h) (Or.inl ⟨by rfl, ?_⟩) ?_ ?_
 rotate_left
 · intro w'
   go_simp
   with_reducible rfl
 rotate_left
 · simp only [Act.put, List.setIfInBounds_toArray, List.set_cons_zero, List.set_cons_succ, i64_w, i32_w]
   rfl
 refine pure_ (i := 10) (N := some 44) (v := ?_) (a' := ?_) #[true, true, true, true, true, true, true, true, true, true, true, false, false, false, false, false, false, false, false, false, false, false, false, false, false, false, false, false, false, false, false, false, false, false, false, false, false, false] rfl rfl (any_of HT_.out (by kernel_rfl)) (fun _ _ _ h => h) (Or.inl ⟨by rfl, ?_⟩) ?_ ?_
 rotate_left
 · intro w'
   go_simp
   with_reducible rfl
 rotate_left
 · simp only [Act.put, List.setIfInBounds_toArray, List.set_cons_zero, List.set_cons_succ, i64_w, i32_w]
   rfl
 refine pure_ (i := 11) (N := some 45) (v := ?_) (a' := ?_) #[true, true, true, true, true, true, true, true, true, true, true, true, false, false, false, false, false, false, false, false, false, false, false, false, false, false, false, false, false, false, false, false, false, false, false, false, false, false] rfl rfl (any_of HT_.out (by kernel_rfl)) (fun _ _ _ h => h) (Or.inl ⟨by rfl, ?_⟩) ?_ ?_
 rotate_left
 · intro w'
   go_simp
   with_reducible rfl
 rotate_left
 · simp only [Act.put, List.setIfInBounds_toArray, List.set_cons_zero, List.set_cons_succ, i64_w, i32_w]
   rfl
 refine pure_ (i := 12) (N := some 46) (v := ?_) (a' := ?_) #[true, true, true, true, true, true, true, true, true, true, true, true, true, false, false, false, false, false, false, false, false, false, false, false, false, false, false, false, false, false, false, false, false, false, false, false, false, false] rfl rfl (any_of HT_.out (by kernel_rfl)) (fun _ _ _ h => h) (Or.inl ⟨by rfl, ?_⟩) ?_ ?_
 rotate_left
 · intro w'
   go_simp
   with_reducible rfl
 rotate_left
 · simp only [Act.put, List.setIfInBounds_toArray, List.set_cons_zero, List.set_cons_succ, i64_w, i32_w]
   rfl
 refine pure_ (i := 13) (N := some 47) (v := ?_) (a' := ?_) #[true, true, true, true, true, true, true, true, true, true, true, true, true, true, false, false, false, false, false, false, false, false, false, false, false, false, false, false, false, false, false, false, false, false, false, false, false, false] rfl rfl (any_of HT_.out (by kernel_rfl)) (fun _ _ _ h => h) (Or.inl ⟨by rfl, ?_⟩) ?_ ?_
 rotate_left
 · intro w'
   go_simp
   with_reducible rfl
 rotate_left
 · simp only [Act.put, List.setIfInBounds_toArray, List.set_cons_zero, List.set_cons_succ, i64_w, i32_w]
   rfl
 refine pure_ (i := 14) (N := some 48) (v := ?_) (a' := ?_) #[true, true, true, true, true, true, true, true, true, true, true, true, true, true, true, false, false, false, false, false, false, false, false, false, false, false, false, false, false, false, false, false, false, false, false, false, false, false] rfl rfl (any_of HT_.out (by kernel_rfl)) (fun _ _ _ h => h) (Or.inl ⟨by rfl, ?_⟩) ?_ ?_
 rotate_left
 · intro w'
   go_simp
   with_reducible rfl
 rotate_left
 · simp only [Act.put, List.setIfInBounds_toArray, List.set_cons_zero, List.set_cons_succ, i64_w, i32_w]
   rfl
 refine pure_ (i := 15) (N := some 49) (v := ?_) (a' := ?_) #[true, true, true, true, true, true, true, true, true, true, true, true, true, true, true, true, false, false, false, false, false, false, false, false, false, false, false, false, false, false, false, false, false, false, false, false, false, false] rfl rfl (any_of HT_.out (by kernel_rfl)) (fun _ _ _ h => h) (Or.inl ⟨by rfl, ?_⟩) ?_ ?_
 rotate_left
 · intro w'
   go_simp
   with_reducible rfl
 rotate_left
 · simp only [Act.put, List.setIfInBounds_toArray, List.set_cons_zero, List.set_cons_succ, i64_w, i32_w]
   rfl
 refine pure_ (i := 16) (N := some 50) (v := ?_) (a' := ?_) #[true, true, true, true, true, true, true, true, true, true, true, true, true, true, true, true, true, false, false, false, false, false, false, false, false, false, false, false, false, false, false, false, false, false, false, false, false, false] rfl rfl (any_of HT_.out (by kernel_rfl)) (fun _ _ _ h => h) (Or.inl ⟨by rfl, ?_⟩) ?_ ?_
 rotate_left
 · intro w'
   go_simp
   with_reducible rfl
 rotate_left
 · simp only [Act.put, List.setIfInBounds_toArray, List.set_cons_zero, List.set_cons_succ, i64_w, i32_w]
   rfl
 refine pure_ (i := 17) (N := some 51) (v := ?_) (a' := ?_) #[true, true, true, true, true, true, true, true, true, true, true, true, true, true, true, true, true, true, false, false, false, false, false, false, false, false, false, false, false, false, false, false, false, false, false, false, false, false] rfl rfl (any_of HT_.out (by kernel_rfl)) (fun _ _ _ h => h) (Or.inl ⟨by rfl, ?_⟩) ?_ ?_
 rotate_left
 · intro w'
   go_simp
   with_reducible rfl
 rotate_left
 · simp only [Act.put, List.setIfInBounds_toArray, List.set_cons_zero, List.set_cons_succ, i64_w, i32_w]
   rfl
 refine pure_ (i := 18) (N := some 52) (v := ?_) (a' := ?_) #[true, true, true, true, true, true, true, true, true, true, true, true, true, true, true, true, true, true, true, false, false, false, false, false, false, false, false, false, false, false, false, false, false, false, false, false, false, false] rfl rfl (any_of HT_.out (by kernel_rfl)) (fun _ _ _ h => h) (Or.inl ⟨by rfl, ?_⟩) ?_ ?_
 rotate_left
 · intro w'
   go_simp
   with_reducible rfl
 rotate_left
 · simp only [Act.put, List.setIfInBounds_toArray, List.set_cons_zero, List.set_cons_succ, i64_w, i32_w]
   rfl
 refine pure_ (i := 19) (N := some 53) (v := ?_) (a' := ?_) #[true, true, true, true, true, true, true, true, true, true, true, true, true, true, true, true, true, true, true, true, false, false, false, false, false, false, false, false, false, false, false, false, false, false, false, false, false, false] rfl rfl (any_of HT_.out (by kernel_rfl)) (fun _ _ _ h => h) (Or.inl ⟨by rfl, ?_⟩) ?_ ?_
 rotate_left
 · intro w'
   go_simp
   with_reducible rfl
 rotate_left
 · simp only [Act.put, List.setIfInBounds_toArray, List.set_cons_zero, List.set_cons_succ, i64_w, i32_w]
   rfl
 refine pure_ (i := 20) (N := some 54) (v := ?_) (a' := ?_) #[true, true, true, true, true, true, true, true, true, true, true, true, true, true, true, true, true, true, true, true, true, false, false, false, false, false, false, false, false, false, false, false, false, false, false, false, false, false] rfl rfl (any_of HT_.out (by kernel_rfl)) (fun _ _ _ h => h) (Or.inl ⟨by rfl, ?_⟩) ?_ ?_
 rotate_left
 · intro w'
   go_simp
   with_reducible rfl
 rotate_left
 · simp only [Act.put, List.setIfInBounds_toArray, List.set_cons_zero, List.set_cons_succ, i64_w, i32_w]
   rfl
 refine pure_ (i := 21) (N := some 55) (v := ?_) (a' := ?_) #[true, true, true, true, true, true, true, true, true, true, true, true, true, true, true, true, true, true, true, true, true, true, false, false, false, false, false, false, false, false, false, false, false, false, false, false, false, false] rfl rfl (any_of HT_.out (by kernel_rfl)) (fun _ _ _ h => h) (Or.inl ⟨by rfl, ?_⟩) ?_ ?_
 rotate_left
 · intro w'
   go_simp
   with_reducible rfl
 rotate_left
 · simp only [Act.put, List.setIfInBounds_toArray, List.set_cons_zero, List.set_cons_succ, i64_w, i32_w]
   rfl
 refine one_ (i := 22) (N := some 56) #[true, true, true, true, true, true, true, true, true, true, true, true, true, true, true, true, true, true, true, true, true, true, true, false, false, false, false, false, false, false, false, false, false, false, false, false, false, false] rfl rfl (one_of HT_.out (by kernel_rfl)) (by decide) (fun K hK => ?_)
 refine Kd.R_lit_step k63 _ 63 ?hg (N := 56) ?hd (xs := ([(⟨(⟨#[112]⟩ : ByteArray), 0, 2000, 4⟩ : S63), (⟨(⟨#[113]⟩ : ByteArray), 0, 500, 4⟩ : S63), (⟨(⟨#[120]⟩ : ByteArray), 0, (-1500), 4⟩ : S63), (⟨(⟨#[121]⟩ : ByteArray), 0, (-1000), 4⟩ : S63)] : List (S63))) (inner := [.string (⟨#[112]⟩ : ByteArray), .int .i64 0, .int .i64 2000, .int .i64 4, .string (⟨#[113]⟩ : ByteArray), .int .i64 0, .int .i64 500, .int .i64 4, .string (⟨#[120]⟩ : ByteArray), .int .i64 0, .int .i64 (-1500), .int .i64 4, .string (⟨#[121]⟩ : ByteArray), .int .i64 0, .int .i64 (-1000), .int .i64 4]) (ok := fun _ => True) (okp := fun _ => True) ?hr ?hp (fun _ hk => hk) trivial (Below.refl _ _) (Nat.le_refl _) (by simp) ?_; (case hd => rfl); (case hg => rfl); (case hr => first | (go_simp; done) | (go_simp; rfl)); (case hp => exact (Reps.c4 (show Kd.M k63 _ _ _ (⟨(⟨#[112]⟩ : ByteArray), 0, 2000, 4⟩ : S63) [.string (⟨#[112]⟩ : ByteArray), .int .i64 0, .int .i64 2000, .int .i64 4] from (k63_mkM _ _ _ (⟨(⟨#[112]⟩ : ByteArray), 0, 2000, 4⟩ : S63) )) (Reps.c4 (show Kd.M k63 _ _ _ (⟨(⟨#[113]⟩ : ByteArray), 0, 500, 4⟩ : S63) [.string (⟨#[113]⟩ : ByteArray), .int .i64 0, .int .i64 500, .int .i64 4] from (k63_mkM _ _ _ (⟨(⟨#[113]⟩ : ByteArray), 0, 500, 4⟩ : S63) )) (Reps.c4 (show Kd.M k63 _ _ _ (⟨(⟨#[120]⟩ : ByteArray), 0, (-1500), 4⟩ : S63) [.string (⟨#[120]⟩ : ByteArray), .int .i64 0, .int .i64 (-1500), .int .i64 4] from (k63_mkM _ _ _ (⟨(⟨#[120]⟩ : ByteArray), 0, (-1500), 4⟩ : S63) )) (Reps.c4 (show Kd.M k63 _ _ _ (⟨(⟨#[121]⟩ : ByteArray), 0, (-1000), 4⟩ : S63) [.string (⟨#[121]⟩ : ByteArray), .int .i64 0, .int .i64 (-1000), .int .i64 4] from (k63_mkM _ _ _ (⟨(⟨#[121]⟩ : ByteArray), 0, (-1000), 4⟩ : S63) )) (Reps.none _ _))))))
 intro v166 w39 ho40 hb hg_ hnew_
 have HS0_ := (hb.cell (World.block_lt_of_cell? _ _ (hHeld.1))).trans (hHeld.1)
 have HS1_ := (hb.cell (World.block_lt_of_cell? _ _ (hHeld.2.1))).trans (hHeld.2.1)
 have HS2_ := (hb.cell (World.block_lt_of_cell? _ _ (hHeld.2.2.1))).trans (hHeld.2.2.1)
 have HS3_ := (hb.cell (World.block_lt_of_cell? _ _ (hHeld.2.2.2.1))).trans (hHeld.2.2.2.1)
 have HS4_ := (hb.cell (World.block_lt_of_cell? _ _ (hHeld.2.2.2.2))).trans (hHeld.2.2.2.2)
 clear hg_ hnew_
 (first | rw [← Ny165.out] at ho40 | (simp only [Int.reduceToNat] at ho40; rw [← Ny165.out] at ho40))
 have n0_ := Aside0.mk (Kd.R_below (by (with_reducible repeat (first | apply Kd.R_alloc | apply Kd.R_drewN | apply Kd.R_drew)); exact HO142.out) hb)
 have n1_ := Aside0.mk (Kd.R_below (by (with_reducible repeat (first | apply Kd.R_alloc | apply Kd.R_drewN | apply Kd.R_drew)); exact HO149.out) hb)
 have n2_ := Aside0.mk (Kd.R_below (by (with_reducible repeat (first | apply Kd.R_alloc | apply Kd.R_drewN | apply Kd.R_drew)); exact HO153.out) hb)
 have n3_ := Aside0.mk (Kd.R_elder' (by (with_reducible repeat (first | apply Kd.R_alloc | apply Kd.R_drewN | apply Kd.R_drew)); exact HO156.out) (Kd.R_base ho40) hb)
 have n4_ := Aside0.mk (Kd.R_lower (Kd.R_new' ho40 (Kd.R_lt (by (with_reducible repeat (first | apply Kd.R_alloc | apply Kd.R_drewN | apply Kd.R_drew)); exact HO156.out))) (below_size (by repeat (first | (with_reducible first | exact HB.out | apply below_alloc | apply pw_below_drewN | apply below_drew1 | refine below_set ?_ GE135.out) | exact HB.out))))
 have n5_ := Aside0.mk (blk_below (g := gb135) (o := .cells #[.string (⟨#[111, 105, 108]⟩ : ByteArray), .int .i64 0, .int .i64 10, .int .i64 5, .int .i64 0, .int .i64 100, .bool true] 35 (0, 0)) (by (with_reducible repeat (first | refine blk_drewN ?_ _ | refine blk_drew ?_ | refine blk_alloc ?_ _)); exact BK135.out) hb)
 have n6_ := Aside0.mk (below_step (by repeat (first | (with_reducible first | exact HB.out | apply below_alloc | apply pw_below_drewN | apply below_drew1 | refine below_set ?_ GE135.out) | exact HB.out)) hb)
 clear HO142
 clear HO149
 clear HO153
 clear HO156
 clear BK135
 clear HB
 have HO142 := n0_
 have HO149 := n1_
 have HO153 := n2_
 have HO156 := n3_
 have HO167 := n4_
 have BK135 := n5_
 have HB := n6_
 clear n0_ n1_ n2_ n3_ n4_ n5_ n6_
 clear hb ho40
 obtain ⟨Ao41, co41, eo41⟩ := Kd.R_slice HO156.out
 (first | subst eo41 | (injection eo41 with f1_ f2_ f3_; have f4_ := f1_.symm; have f5_ := f3_.symm; clear f1_ f2_ f3_; subst f4_; subst f5_))
 obtain ⟨Ao42, co42, eo42⟩ := Kd.R_slice HO167.out
 (first | subst eo42 | (injection eo42 with f1_ f2_ f3_; have f4_ := f1_.symm; have f5_ := f3_.symm; clear f1_ f2_ f3_; subst f4_; subst f5_))
 refine hK.out _ _ ⟨HS0_, HS1_, HS2_, HS3_, HS4_⟩ (fun hHeld => ?_)
 clear hK K
 refine norm_ (a' := ?_) ?_ ?_
 rotate_left
 · show Act.put _ (some 56) _ = _
   simp only [Act.put, List.setIfInBounds_toArray, List.set_cons_zero, List.set_cons_succ, i64_w, i32_w]
   rfl
 refine one_ (i := 23) (N := some 57) #[true, true, true, true, true, true, true, true, true, true, true, true, true, true, true, true, true, true, true, true, true, true, true, true, false, false, false, false, false, false, false, false, false, false, false, false, false, false] rfl rfl (one_of HT_.out (by kernel_rfl)) (by decide) (fun K hK => ?_)
 refine goes_ Try.func21 (by kernel_rfl) rfl #[.slice Ao41 t154.length co41, .slice Ao42 y165.length co42] (by rfl) rfl rfl (by (try simp only [List.map_toArray, List.map_cons, List.map_nil]); first | done | rfl | (simp only [List.length_drop, List.length_take]; rfl)) ?_
 with_reducible refine (contangoref22_Same.calls k _ _ t154 _ _ y165 true _ ?side1 ?side2 ?side3 ?side4 A14.out).mono ?_
 (case side1 => repeat (first | exact (Kd.R_reads' HO156.out).2.2 | (with_reducible refine Kd.C_alloc ?_ _) | (with_reducible refine Kd.C_drewN ?_ _) | (with_reducible refine Kd.C_drew ?_)))
 (case side2 => exact (Kd.R_reads' HO156.out).2.1)
 (case side3 => repeat (first | exact (Kd.R_reads' HO167.out).2.2 | (with_reducible refine Kd.C_alloc ?_ _) | (with_reducible refine Kd.C_drewN ?_ _) | (with_reducible refine Kd.C_drew ?_)))
 (case side4 => exact (Kd.R_reads' HO167.out).2.1)
 rintro e w' ⟨rfl, ⟨nd, rfl⟩⟩
 refine ⟨_, rfl, ?_⟩
 refine hK.out _ _ ⟨hHeld.1, hHeld.2.1, hHeld.2.2.1, hHeld.2.2.2.1, hHeld.2.2.2.2⟩ (fun hHeld => ?_)
 clear hK K
 refine norm_ (a' := ?_) ?_ ?_
 rotate_left
 · show Act.put _ (some 57) _ = _
   simp only [Act.put, List.setIfInBounds_toArray, List.set_cons_zero, List.set_cons_succ, i64_w, i32_w]
   rfl
 refine pure_ (i := 24) (N := some 58) (v := ?_) (a' := ?_) #[true, true, true, true, true, true, true, true, true, true, true, true, true, true, true, true, true, true, true, true, true, true, true, true, true, false, false, false, false, false, false, false, false, false, false, false, false, false] rfl rfl (any_of HT_.out (by kernel_rfl)) (fun _ _ _ h => h) (Or.inl ⟨by rfl, ?_⟩) ?_ ?_
 rotate_left
 · intro w'
   go_simp
   with_reducible rfl
 rotate_left
 · simp only [Act.put, List.setIfInBounds_toArray, List.set_cons_zero, List.set_cons_succ, i64_w, i32_w]
   rfl
 refine pure_ (i := 25) (N := some 59) (v := ?_) (a' := ?_) #[true, true, true, true, true, true, true, true, true, true, true, true, true, true, true, true, true, true, true, true, true, true, true, true, true, true, false, false, false, false, false, false, false, false, false, false, false, false] rfl rfl (any_of HT_.out (by kernel_rfl)) (fun _ _ _ h => h) (Or.inl ⟨by rfl, ?_⟩) ?_ ?_
 rotate_left
 · intro w'
   go_simp
   with_reducible rfl
 rotate_left
 · simp only [Act.put, List.setIfInBounds_toArray, List.set_cons_zero, List.set_cons_succ, i64_w, i32_w]
   rfl
 refine pure_ (i := 26) (N := some 60) (v := ?_) (a' := ?_) #[true, true, true, true, true, true, true, true, true, true, true, true, true, true, true, true, true, true, true, true, true, true, true, true, true, true, true, false, false, false, false, false, false, false, false, false, false, false] rfl rfl (any_of HT_.out (by kernel_rfl)) (fun _ _ _ h => h) (Or.inl ⟨by rfl, ?_⟩) ?_ ?_
 rotate_left
 · intro w'
   go_simp
   with_reducible rfl
 rotate_left
 · simp only [Act.put, List.setIfInBounds_toArray, List.set_cons_zero, List.set_cons_succ, i64_w, i32_w]
   rfl
 refine pure_ (i := 27) (N := some 61) (v := ?_) (a' := ?_) #[true, true, true, true, true, true, true, true, true, true, true, true, true, true, true, true, true, true, true, true, true, true, true, true, true, true, true, true, false, false, false, false, false, false, false, false, false, false] rfl rfl (any_of HT_.out (by kernel_rfl)) (fun _ _ _ h => h) (Or.inl ⟨by rfl, ?_⟩) ?_ ?_
 rotate_left
 · intro w'
   go_simp
   with_reducible rfl
 rotate_left
 · simp only [Act.put, List.setIfInBounds_toArray, List.set_cons_zero, List.set_cons_succ, i64_w, i32_w]
   rfl
 refine pure_ (i := 28) (N := some 62) (v := ?_) (a' := ?_) #[true, true, true, true, true, true, true, true, true, true, true, true, true, true, true, true, true, true, true, true, true, true, true, true, true, true, true, true, true, false, false, false, false, false, false, false, false, false] rfl rfl (any_of HT_.out (by kernel_rfl)) (fun _ _ _ h => h) (Or.inl ⟨by rfl, ?_⟩) ?_ ?_
 rotate_left
 · intro w'
   go_simp
   with_reducible rfl
 rotate_left
 · simp only [Act.put, List.setIfInBounds_toArray, List.set_cons_zero, List.set_cons_succ, i64_w, i32_w]
   rfl
 refine pure_ (i := 29) (N := some 63) (v := ?_) (a' := ?_) #[true, true, true, true, true, true, true, true, true, true, true, true, true, true, true, true, true, true, true, true, true, true, true, true, true, true, true, true, true, true, false, false, false, false, false, false, false, false] rfl rfl (any_of HT_.out (by kernel_rfl)) (fun _ _ _ h => h) (Or.inl ⟨by rfl, ?_⟩) ?_ ?_
 rotate_left
 · intro w'
   go_simp
   with_reducible rfl
 rotate_left
 · simp only [Act.put, List.setIfInBounds_toArray, List.set_cons_zero, List.set_cons_succ, i64_w, i32_w]
   rfl
 refine pure_ (i := 30) (N := some 64) (v := ?_) (a' := ?_) #[true, true, true, true, true, true, true, true, true, true, true, true, true, true, true, true, true, true, true, true, true, true, true, true, true, true, true, true, true, true, true, false, false, false, false, false, false, false] rfl rfl (any_of HT_.out (by kernel_rfl)) (fun _ _ _ h => h) (Or.inl ⟨by rfl, ?_⟩) ?_ ?_
 rotate_left
 · intro w'
   go_simp
   with_reducible rfl
 rotate_left
 · simp only [Act.put, List.setIfInBounds_toArray, List.set_cons_zero, List.set_cons_succ, i64_w, i32_w]
   rfl
 refine pure_ (i := 31) (N := some 65) (v := ?_) (a' := ?_) #[true, true, true, true, true, true, true, true, true, true, true, true, true, true, true, true, true, true, true, true, true, true, true, true, true, true, true, true, true, true, true, true, false, false, false, false, false, false] rfl rfl (any_of HT_.out (by kernel_rfl)) (fun _ _ _ h => h) (Or.inl ⟨by rfl, ?_⟩) ?_ ?_
 rotate_left
 · intro w'
   go_simp
   with_reducible rfl
 rotate_left
 · simp only [Act.put, List.setIfInBounds_toArray, List.set_cons_zero, List.set_cons_succ, i64_w, i32_w]
   rfl
 refine pure_ (i := 32) (N := some 66) (v := ?_) (a' := ?_) #[true, true, true, true, true, true, true, true, true, true, true, true, true, true, true, true, true, true, true, true, true, true, true, true, true, true, true, true, true, true, true, true, true, false, false, false, false, false] rfl rfl (any_of HT_.out (by kernel_rfl)) (fun _ _ _ h => h) (Or.inl ⟨by rfl, ?_⟩) ?_ ?_
 rotate_left
 · intro w'
   go_simp
   with_reducible rfl
 rotate_left
 · simp only [Act.put, List.setIfInBounds_toArray, List.set_cons_zero, List.set_cons_succ, i64_w, i32_w]
   rfl
 refine pure_ (i := 33) (N := some 67) (v := ?_) (a' := ?_) #[true, true, true, true, true, true, true, true, true, true, true, true, true, true, true, true, true, true, true, true, true, true, true, true, true, true, true, true, true, true, true, true, true, true, false, false, false, false] rfl rfl (any_of HT_.out (by kernel_rfl)) (fun _ _ _ h => h) (Or.inl ⟨by rfl, ?_⟩) ?_ ?_
 rotate_left
 · intro w'
   go_simp
   with_reducible rfl
 rotate_left
 · simp only [Act.put, List.setIfInBounds_toArray, List.set_cons_zero, List.set_cons_succ, i64_w, i32_w]
   rfl
 refine pure_ (i := 34) (N := some 68) (v := ?_) (a' := ?_) #[true, true, true, true, true, true, true, true, true, true, true, true, true, true, true, true, true, true, true, true, true, true, true, true, true, true, true, true, true, true, true, true, true, true, true, false, false, false] rfl rfl (any_of HT_.out (by kernel_rfl)) (fun _ _ _ h => h) (Or.inl ⟨by rfl, ?_⟩) ?_ ?_
 rotate_left
 · intro w'
   go_simp
   with_reducible rfl
 rotate_left
 · simp only [Act.put, List.setIfInBounds_toArray, List.set_cons_zero, List.set_cons_succ, i64_w, i32_w]
   rfl
 refine pure_ (i := 35) (N := some 69) (v := ?_) (a' := ?_) #[true, true, true, true, true, true, true, true, true, true, true, true, true, true, true, true, true, true, true, true, true, true, true, true, true, true, true, true, true, true, true, true, true, true, true, true, false, false] rfl rfl (any_of HT_.out (by kernel_rfl)) (fun _ _ _ h => h) (Or.inl ⟨by rfl, ?_⟩) ?_ ?_
 rotate_left
 · intro w'
   go_simp
   with_reducible rfl
 rotate_left
 · simp only [Act.put, List.setIfInBounds_toArray, List.set_cons_zero, List.set_cons_succ, i64_w, i32_w]
   rfl
 refine pure_ (i := 36) (N := some 70) (v := ?_) (a' := ?_) #[true, true, true, true, true, true, true, true, true, true, true, true, true, true, true, true, true, true, true, true, true, true, true, true, true, true, true, true, true, true, true, true, true, true, true, true, true, false] rfl rfl (any_of HT_.out (by kernel_rfl)) (fun _ _ _ h => h) (Or.inl ⟨by rfl, ?_⟩) ?_ ?_
 rotate_left
 · intro w'
   go_simp
   with_reducible rfl
 rotate_left
 · simp only [Act.put, List.setIfInBounds_toArray, List.set_cons_zero, List.set_cons_succ, i64_w, i32_w]
   rfl
 refine pure_ (i := 37) (N := some 0) (v := ?_) (a' := ?_) #[true, true, true, true, true, true, true, true, true, true, true, true, true, true, true, true, true, true, true, true, true, true, true, true, true, true, true, true, true, true, true, true, true, true, true, true, true, true] rfl rfl (any_of HT_.out (by kernel_rfl)) (fun _ _ _ h => h) (Or.inl ⟨by rfl, ?_⟩) ?_ ?_
 rotate_left
 · intro w'
   go_simp
   with_reducible rfl
 rotate_left
 · simp only [Act.put, List.setIfInBounds_toArray, List.set_cons_zero, List.set_cons_succ, i64_w, i32_w]
   rfl
 refine done_ (done_of HT_.out (by kernel_rfl)) ?_
 try go_wp2
 go_ret
 exact ⟨by first | rfl | (simp [errW_none, errW_some] <;> rfl) | (simp [*, errW_none, errW_some] <;> rfl), by repeat (first | (with_reducible first | exact HB.out | apply below_alloc | apply pw_below_drewN | apply below_drew1 | refine below_set ?_ GE135.out) | exact HB.out)⟩

/-! ### contangoref52_Parts: function 13 -/
def contangoref52_Parts.l0 : Nat → List (S60) → List (S60) → Int → Option (Bool)
  | 0, _, _, _ => none
  | k + 1, x0, x1, x5 => if x5 < (x0.length : Int) then (if 0 ≤ x5 then (if x5 < (x1.length : Int) then (if ((eqD60 ((rd_T60 x0 x5).f0.f0) ((rd_T60 x1 x5).f0.f0) ((rd_T60 x0 x5).f0.f1) ((rd_T60 x1 x5).f0.f1) ((rd_T60 x0 x5).f1) ((rd_T60 x1 x5).f1)) = true) then (contangoref52_Parts.l0 k x0 x1 (wrap64 (x5 + 1))) else (some false)) else (none)) else (none)) else (some true)
def contangoref52_Parts.f (k : Nat) (l0 : List (S60)) (l1 : List (S60)) : Option (Bool) := if (l0.length : Int) = (l1.length : Int) then (contangoref52_Parts.l0 k l0 l1 0) else (some false)
theorem contangoref52_Parts.mono_l : ∀ k, (∀ y0 y1 y2, LeO (contangoref52_Parts.l0 k y0 y1 y2) (contangoref52_Parts.l0 (k + 1) y0 y1 y2))
  | 0 => fun _ _ _ r h => by simp [contangoref52_Parts.l0] at h
  | k + 1 => by
    have ih0 := contangoref52_Parts.mono_l k
    · intro y0 y1 y2
      unfold contangoref52_Parts.l0
      repeat' first
      | (with_reducible exact ih0 _ _ _)
      | (with_reducible exact LeO.refl _)
      | (with_reducible exact LeO.none _)
      | (with_reducible refine LeO.ite ?_ ?_)
      | (with_reducible refine LeO.bind ?_ (fun _ => ?_))
      | exact ih0 _ _ _
      | exact LeO.none _
      | refine LeO.ite ?_ ?_
      | refine LeO.bind ?_ (fun _ => ?_)
theorem contangoref52_Parts.mono : ∀ a0 a1 k, LeO (contangoref52_Parts.f k a0 a1) (contangoref52_Parts.f (k + 1) a0 a1) := by
  intro a0 a1 k
  have ih0 := contangoref52_Parts.mono_l k
  unfold contangoref52_Parts.f
  repeat' first
      | (with_reducible exact ih0 _ _ _)
      | (with_reducible exact LeO.refl _)
      | (with_reducible exact LeO.none _)
      | (with_reducible refine LeO.ite ?_ ?_)
      | (with_reducible refine LeO.bind ?_ (fun _ => ?_))
      | exact ih0 _ _ _
      | exact LeO.none _
      | refine LeO.ite ?_ ?_
      | refine LeO.bind ?_ (fun _ => ?_)
set_option maxHeartbeats 8000000 in
set_option maxRecDepth 100000 in
theorem contangoref52_Parts.calls (k : Nat) (A0 : Option Addr) (c0 : Nat) (l0 : List (S60)) (A1 : Option Addr) (c1 : Nat) (l1 : List (S60)) (r : Bool) (w : World) (hr0 : Kd.C k60 w A0 l0.length l0) (hc0 : l0.length ≤ c0) (hr1 : Kd.C k60 w A1 l1.length l1) (hc1 : l1.length ≤ c1) (h : contangoref52_Parts.f k l0 l1 = some r) :
    Calls Try.prog 13 #[.slice A0 l0.length c0, .slice A1 l1.length c1] w fun e w' => e = .returned (.bool r) ∧ Drawn0 w w' := by
 have hu60 := Try.underlying60
 have HR0 := Aside0.mk hr0
 have HC0 := Aside0.mk hc0
 clear hr0 hc0
 have HR1 := Aside0.mk hr1
 have HC1 := Aside0.mk hc1
 clear hr1 hc1
 have H : (if (l0.length : Int) = (l1.length : Int) then (contangoref52_Parts.l0 k l0 l1 0) else (some false)) = some r := h
 clear h
 by_cases c3 : (l0.length : Int) = (l1.length : Int)
 rotate_left
 · rw [if_neg c3] at H
   have c3b0 : ((l0.length : Int) == (l1.length : Int)) = false := beq_eq_false_iff_ne.mpr c3
   have c3b1 : ((l0.length : Int) != (l1.length : Int)) = true := bne_iff_ne.mpr c3
   have c3b2 : (l0.length == l1.length) = false := by first | simpa using c3 | (simp at c3 ⊢; omega)
   obtain rfl := Option.some.inj H
   go_enter Try.func13, Try.ntmps13
   go_wp2
   repeat (go_quiet (fail); try go_wp2)
   go_ret
   exact ⟨by first | rfl | (simp; done) | (simp [*]; done), by repeat (first | exact Drawn0.refl _ | apply Drawn0.step)⟩
 rw [if_pos c3] at H
 have c3b0 : ((l0.length : Int) == (l1.length : Int)) = true := beq_iff_eq.mpr c3
 have c3b1 : ((l0.length : Int) != (l1.length : Int)) = false := bne_eq_false_iff_eq.mpr c3
 have c3b2 : (l0.length == l1.length) = true := by first | simpa using c3 | (simp at c3 ⊢; omega)
 clear c3
 have H' := Aside0.mk H
 clear H
 go_enter Try.func13, Try.ntmps13
 go_wp2
 repeat (go_quiet (fail); try go_wp2)
 go_loopg [5] k (fun kq v5 w' => ∃ (x5_1 : Int), v5 = .int .i64 x5_1 ∧ Aside0 (contangoref52_Parts.l0 kq l0 l1 x5_1 = some r) ∧ Aside0 (kq ≤ k) ∧ Drawn0 w w')
 case atStart => exact ⟨(0), (by first | rfl | (simp; done) | (simp [*]; done)), H', ⟨Nat.le_refl _⟩, by repeat (first | exact Drawn0.refl _ | apply Drawn0.step)⟩
 case round =>
  clear H'
  try clear c1
  try clear p2
  try clear c3
  try clear c3b0
  try clear c3b1
  try clear c3b2
  obtain ⟨x5_1, rfl, HA, HK1, ⟨m1, rfl⟩⟩ := hrel
  cases gk with
  | zero => exact absurd HA.out (by simp [contangoref52_Parts.l0])
  | succ k1 =>
   have H := HA.out
   clear HA
   simp only [contangoref52_Parts.l0] at H
   by_cases c4 : x5_1 < (l0.length : Int)
   rotate_left
   · rw [if_neg c4] at H
     have c4b0 : decide (x5_1 < (l0.length : Int)) = false := decide_eq_false c4
     clear c4
     obtain rfl := Option.some.inj H
     go_wp2
     repeat (go_quiet (fail); try go_wp2)
     go_ret
     exact ⟨by first | rfl | (simp; done) | (simp [*]; done), by repeat (first | exact Drawn0.refl _ | apply Drawn0.step)⟩
   rw [if_pos c4] at H
   have c4b0 : decide (x5_1 < (l0.length : Int)) = true := decide_eq_true c4
   clear c4
   by_cases c5 : 0 ≤ x5_1
   rotate_left
   · rw [if_neg c5] at H
     exact absurd H (by simp)
   rw [if_pos c5] at H
   have c5b0 : decide (0 ≤ x5_1) = true := decide_eq_true c5
   clear c5
   by_cases c6 : x5_1 < (l1.length : Int)
   rotate_left
   · rw [if_neg c6] at H
     exact absurd H (by simp)
   rw [if_pos c6] at H
   have c6b0 : decide (x5_1 < (l1.length : Int)) = true := decide_eq_true c6
   clear c6
   by_cases c7 : ((eqD60 ((rd_T60 l0 x5_1).f0.f0) ((rd_T60 l1 x5_1).f0.f0) ((rd_T60 l0 x5_1).f0.f1) ((rd_T60 l1 x5_1).f0.f1) ((rd_T60 l0 x5_1).f1) ((rd_T60 l1 x5_1).f1)) = true)
   rotate_left
   · rw [if_neg c7] at H
     have c7b0 : (eqD60 ((rd_T60 l0 x5_1).f0.f0) ((rd_T60 l1 x5_1).f0.f0) ((rd_T60 l0 x5_1).f0.f1) ((rd_T60 l1 x5_1).f0.f1) ((rd_T60 l0 x5_1).f1) ((rd_T60 l1 x5_1).f1)) = false := by simpa using c7
     clear c7
     obtain rfl := Option.some.inj H
     have p169 : 0 ≤ (x5_1 : Int) := of_decide_eq_true (by first | (with_reducible assumption) | assumption)
     have q169 : x5_1 < (l0.length : Int) := of_decide_eq_true (by first | (with_reducible assumption) | assumption)
     obtain ⟨ad169, e169, hx169_0, hx169_1, hx169_2⟩ := at_T60 HR0.out x5_1 p169 q169
     cases e169
     replace p169 := eq_true p169
     replace q169 := eq_true q169
     have p170 : 0 ≤ (x5_1 : Int) := of_decide_eq_true (by first | (with_reducible assumption) | assumption)
     have q170 : x5_1 < (l1.length : Int) := of_decide_eq_true (by first | (with_reducible assumption) | assumption)
     obtain ⟨ad170, e170, hx170_0, hx170_1, hx170_2⟩ := at_T60 HR1.out x5_1 p170 q170
     cases e170
     replace p170 := eq_true p170
     replace q170 := eq_true q170
     go_wp2
     repeat (go_quiet (fail); try go_wp2)
     go_ret
     exact ⟨by first | rfl | (simp; done) | (simp [*]; done), by repeat (first | exact Drawn0.refl _ | apply Drawn0.step)⟩
   rw [if_pos c7] at H
   have c7b0 : (eqD60 ((rd_T60 l0 x5_1).f0.f0) ((rd_T60 l1 x5_1).f0.f0) ((rd_T60 l0 x5_1).f0.f1) ((rd_T60 l1 x5_1).f0.f1) ((rd_T60 l0 x5_1).f1) ((rd_T60 l1 x5_1).f1)) = true := c7
   clear c7
   have H' := Aside0.mk H
   clear H
   have p169 : 0 ≤ (x5_1 : Int) := of_decide_eq_true (by first | (with_reducible assumption) | assumption)
   have q169 : x5_1 < (l0.length : Int) := of_decide_eq_true (by first | (with_reducible assumption) | assumption)
   obtain ⟨ad169, e169, hx169_0, hx169_1, hx169_2⟩ := at_T60 HR0.out x5_1 p169 q169
   cases e169
   replace p169 := eq_true p169
   replace q169 := eq_true q169
   have p170 : 0 ≤ (x5_1 : Int) := of_decide_eq_true (by first | (with_reducible assumption) | assumption)
   have q170 : x5_1 < (l1.length : Int) := of_decide_eq_true (by first | (with_reducible assumption) | assumption)
   obtain ⟨ad170, e170, hx170_0, hx170_1, hx170_2⟩ := at_T60 HR1.out x5_1 p170 q170
   cases e170
   replace p170 := eq_true p170
   replace q170 := eq_true q170
   go_wp2
   repeat (go_quiet (fail); try go_wp2)
   go_roundg k1
   case measure => have := HK1.out; omega
   case rel => exact ⟨(wrap64 (x5_1 + 1)), (by first | rfl | (simp; done) | (simp [*]; done)), H', ⟨by have := HK1.out; omega⟩, by repeat (first | exact Drawn0.refl _ | apply Drawn0.step)⟩

/-! ### contangolaw52_few: function 25 -/
def contangolaw52_few.l0 : Nat → List (S94) → Int → Int → Int → Option (Bool)
  | 0, _, _, _, _ => none
  | k + 1, x0, x3, x6, x7 => if x7 < x6 then (if 0 ≤ x7 then (if x7 < (x0.length : Int) then (contangolaw52_few.l0 k x0 (wrap64 (x3 + (mn (((rd_T94 x0 x7).f1).length : Int) 1000))) x6 (wrap64 (x7 + 1))) else (none)) else (none)) else (if (x0.length : Int) ≤ 1100 then (some (decide (x3 ≤ 3000))) else (some false))
def contangolaw52_few.f (k : Nat) (l0 : List (S94)) : Option (Bool) := contangolaw52_few.l0 k l0 0 (l0.length : Int) 0
theorem contangolaw52_few.mono_l : ∀ k, (∀ y0 y1 y2 y3, LeO (contangolaw52_few.l0 k y0 y1 y2 y3) (contangolaw52_few.l0 (k + 1) y0 y1 y2 y3))
  | 0 => fun _ _ _ _ r h => by simp [contangolaw52_few.l0] at h
  | k + 1 => by
    have ih0 := contangolaw52_few.mono_l k
    · intro y0 y1 y2 y3
      unfold contangolaw52_few.l0
      repeat' first
      | (with_reducible exact ih0 _ _ _ _)
      | (with_reducible exact LeO.refl _)
      | (with_reducible exact LeO.none _)
      | (with_reducible refine LeO.ite ?_ ?_)
      | (with_reducible refine LeO.bind ?_ (fun _ => ?_))
      | exact ih0 _ _ _ _
      | exact LeO.none _
      | refine LeO.ite ?_ ?_
      | refine LeO.bind ?_ (fun _ => ?_)
theorem contangolaw52_few.mono : ∀ a0 k, LeO (contangolaw52_few.f k a0) (contangolaw52_few.f (k + 1) a0) := by
  intro a0 k
  have ih0 := contangolaw52_few.mono_l k
  unfold contangolaw52_few.f
  repeat' first
      | (with_reducible exact ih0 _ _ _ _)
      | (with_reducible exact LeO.refl _)
      | (with_reducible exact LeO.none _)
      | (with_reducible refine LeO.ite ?_ ?_)
      | (with_reducible refine LeO.bind ?_ (fun _ => ?_))
      | exact ih0 _ _ _ _
      | exact LeO.none _
      | refine LeO.ite ?_ ?_
      | refine LeO.bind ?_ (fun _ => ?_)
set_option maxHeartbeats 8000000 in
set_option maxRecDepth 100000 in
theorem contangolaw52_few.calls (k : Nat) (A0 : Option Addr) (c0 : Nat) (l0 : List (S94)) (r : Bool) (w : World) (hr0 : Kd.C k94 w A0 l0.length l0) (hc0 : l0.length ≤ c0) (h : contangolaw52_few.f k l0 = some r) :
    Calls Try.prog 25 #[.slice A0 l0.length c0] w fun e w' => e = .returned (.bool r) ∧ Below w.heap.size w w' := by
 have HR0 := Aside0.mk hr0
 have HC0 := Aside0.mk hc0
 clear hr0 hc0
 have HB := Aside0.mk (Below.refl w.heap.size w)
 have H : (contangolaw52_few.l0 k l0 0 (l0.length : Int) 0) = some r := h
 clear h
 have H' := Aside0.mk H
 clear H
 go_enter Try.func25, Try.ntmps25
 go_wp2
 go_loopg [3, 7] k (fun kq v3 v7 w' => ∃ (x3_1 : Int) (x7_1 : Int), v3 = .int .i64 x3_1 ∧ v7 = .int .i64 x7_1 ∧ Aside0 (contangolaw52_few.l0 kq l0 x3_1 (l0.length : Int) x7_1 = some r) ∧ Aside0 (kq ≤ k) ∧ Aside0 (Below w.heap.size w w'))
 case atStart => exact ⟨(0), (0), (by first | rfl | (simp; done) | (simp [*]; done)), (by first | rfl | (simp; done) | (simp [*]; done)), H', ⟨Nat.le_refl _⟩, ⟨by repeat (first | (with_reducible first | exact HB.out | apply below_alloc | apply pw_below_drewN | apply below_drew1) | exact HB.out)⟩⟩
 case round =>
  clear H'
  obtain ⟨x3_1, x7_1, rfl, rfl, HA, HK1, HB⟩ := hrel
  cases gk with
  | zero => exact absurd HA.out (by simp [contangolaw52_few.l0])
  | succ k1 =>
   have H := HA.out
   clear HA
   simp only [contangolaw52_few.l0] at H
   by_cases c2 : x7_1 < (l0.length : Int)
   rotate_left
   · rw [if_neg c2] at H
     have c2b0 : decide (x7_1 < (l0.length : Int)) = false := decide_eq_false c2
     clear c2
     by_cases c6 : (l0.length : Int) ≤ 1100
     · rw [if_pos c6] at H
       have c6b0 : decide ((l0.length : Int) ≤ 1100) = true := decide_eq_true c6
       have c6b1 : decide (l0.length ≤ 1100) = true := decide_eq_true (by omega)
       clear c6
       obtain rfl := Option.some.inj H
       go_wp2
       go_ret
       exact ⟨by first | rfl | (simp [errW_none, errW_some] <;> rfl) | (simp [*, errW_none, errW_some] <;> rfl), by repeat (first | (with_reducible first | exact HB.out | apply below_alloc | apply pw_below_drewN | apply below_drew1) | exact HB.out)⟩
     rw [if_neg c6] at H
     have c6b0 : decide ((l0.length : Int) ≤ 1100) = false := decide_eq_false c6
     have c6b1 : decide (l0.length ≤ 1100) = false := decide_eq_false (by omega)
     clear c6
     obtain rfl := Option.some.inj H
     go_wp2
     go_ret
     exact ⟨by first | rfl | (simp [errW_none, errW_some] <;> rfl) | (simp [*, errW_none, errW_some] <;> rfl), by repeat (first | (with_reducible first | exact HB.out | apply below_alloc | apply pw_below_drewN | apply below_drew1) | exact HB.out)⟩
   rw [if_pos c2] at H
   have c2b0 : decide (x7_1 < (l0.length : Int)) = true := decide_eq_true c2
   clear c2
   by_cases c3 : 0 ≤ x7_1
   rotate_left
   · rw [if_neg c3] at H
     exact absurd H (by simp)
   rw [if_pos c3] at H
   have c3b0 : decide (0 ≤ x7_1) = true := decide_eq_true c3
   clear c3
   by_cases c4 : x7_1 < (l0.length : Int)
   rotate_left
   · rw [if_neg c4] at H
     exact absurd H (by simp)
   rw [if_pos c4] at H
   have c4b0 : decide (x7_1 < (l0.length : Int)) = true := decide_eq_true c4
   clear c4
   obtain ⟨ji5, hji5⟩ : ∃ j_ : Int, (mn (((rd_T94 l0 x7_1).f1).length : Int) 1000) = j_ := ⟨_, rfl⟩
   replace H : (contangolaw52_few.l0 k1 l0 (wrap64 (x3_1 + (ji5))) (l0.length : Int) (wrap64 (x7_1 + 1))) = some r := by first | (rw [hji5] at H; exact H) | (simp only [hji5] at H ⊢; exact H)
   have hji5_ : (if 1000 < (((rd_T94 l0 x7_1).f1).length : Int) then 1000 else (((rd_T94 l0 x7_1).f1).length : Int)) = ji5 := hji5
   have H' := Aside0.mk H
   clear H
   have p171 : 0 ≤ (x7_1 : Int) := of_decide_eq_true (by first | (with_reducible assumption) | assumption)
   have q171 : x7_1 < (l0.length : Int) := of_decide_eq_true (by first | (with_reducible assumption) | assumption)
   obtain ⟨ad171, A171_2, c171_2, e171, hx171_0, hx171_1, hx171_2, hl171_2, hi171_2⟩ := at_T94 HR0.out x7_1 p171 q171
   cases e171
   replace hx171_0 := (HB.out.cell (World.block_lt_of_cell? w _ hx171_0)).trans hx171_0
   replace hx171_1 := (HB.out.cell (World.block_lt_of_cell? w _ hx171_1)).trans hx171_1
   replace hx171_2 := (HB.out.cell (World.block_lt_of_cell? w _ hx171_2)).trans hx171_2
   have HR171_2 := Aside0.mk hi171_2
   have HC171_2 := Aside0.mk hl171_2
   clear hi171_2 hl171_2
   replace p171 := eq_true p171
   replace q171 := eq_true q171
   go_wp2
   go_roundg k1
   case measure => have := HK1.out; omega
   case rel => exact ⟨(wrap64 (x3_1 + (ji5))), (wrap64 (x7_1 + 1)), (by first | rfl | (simp; done) | (simp only [← hji5] <;> (first | rfl | simp)) | (simp [*]; done)), (by first | rfl | (simp; done) | (simp [i64_w]; done) | (simp [*]; done)), H', ⟨by have := HK1.out; omega⟩, ⟨by repeat (first | (with_reducible first | exact HB.out | apply below_alloc | apply pw_below_drewN | apply below_drew1) | exact HB.out)⟩⟩

/-! ### cmp_isNaN_string: function 97 -/
def cmp_isNaN_string.f (a0 : ByteArray) : Option (Bool) := some (a0.toList != a0.toList)
set_option maxHeartbeats 8000000 in
set_option maxRecDepth 100000 in
theorem cmp_isNaN_string.calls (a0 : ByteArray) (r : Bool) (w : World) (h : cmp_isNaN_string.f a0 = some r) :
    Calls Try.prog 97 #[.string a0] w fun e w' => e = .returned (.bool r) ∧ Drawn0 w w' := by
 have H : (some (a0.toList != a0.toList)) = some r := h
 clear h
 obtain rfl := Option.some.inj H
 go_enter Try.func97, Try.ntmps97
 go_wp2
 go_ret
 exact ⟨by first | rfl | (simp; done) | (simp [*]; done), by repeat (first | exact Drawn0.refl _ | apply Drawn0.step)⟩

end Go.Proofs.Ytmgeoombebkfaaa.PDeliverSides
