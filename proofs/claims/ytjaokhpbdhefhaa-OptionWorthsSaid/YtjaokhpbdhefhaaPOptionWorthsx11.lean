-- Written by a program of this session's (a turned copy of the kit's print, with functions proved by hand).
import Derived.Test.YtjaokhpbdhefhaaPOptionWorthsx0
import Derived.Test.YtjaokhpbdhefhaaPOptionWorthsx3
import Derived.Test.YtjaokhpbdhefhaaPOptionWorthsx6
import Derived.Test.YtjaokhpbdhefhaaPOptionWorthsx10
namespace Go.Proofs.Ytjaokhpbdhefhaa.POptionWorths
open Go.RowKit Go.Proofs.YtjaokhpbdhefhaaW.PrintWords Go.Proofs.YtjaokhpbdhefhaaW.PrintLast Go.Proofs.YtjaokhpbdhefhaaW.PrintMore
attribute [local go_sem] max2_int min2_int max_two min_two max_three min_three max_four min_four Go.Proofs.YtjaokhpbdhefhaaHand.run_leq_str Go.Proofs.YtjaokhpbdhefhaaHand.run_gtr_str Go.Proofs.YtjaokhpbdhefhaaHand.run_geq_str   -- for this text's walks alone
set_option linter.unusedVariables false
set_option linter.unusedSimpArgs false

/-! ### contangolaw21_goes: function 14 -/
def contangolaw21_goes.f (k : Nat)  : Option (Bool) := (contangolaw21_of.f 2).bind fun bt185 => ((contangolaw21_of.f 3).bind fun bt189 => ((contangolaw21_oil.f).bind fun bt195 => ((option_Premium.f k bt195.1 bt195.2.1 bt195.2.2.1 bt195.2.2.2.1 bt195.2.2.2.2.1 bt195.2.2.2.2.2.1 bt195.2.2.2.2.2.2 (⟨#[]⟩ : ByteArray) (⟨#[]⟩ : ByteArray) bt185.1 bt185.2.1 bt185.2.2.1 bt185.2.2.2 (-3) 4 0).bind fun bt202 => ((contangolaw21_oil.f).bind fun bt204 => ((option_Net.f k (([(⟨bt204.1, bt204.2.1, bt204.2.2.1, bt204.2.2.2.1, bt204.2.2.2.2.1, bt204.2.2.2.2.2.1, bt204.2.2.2.2.2.2⟩ : S29)] : List (S29))) (([(⟨(⟨bt185.1, bt185.2.1, bt185.2.2.1, bt185.2.2.2⟩ : S23), 2, 0⟩ : S57), (⟨(⟨bt189.1, bt189.2.1, bt189.2.2.1, bt189.2.2.2⟩ : S23), 0, 1⟩ : S57)] : List (S57))) (([(⟨(⟨bt185.1, bt185.2.1, bt185.2.2.1, bt185.2.2.2⟩ : S23), 7⟩ : S63), (⟨(⟨bt189.1, bt189.2.1, bt189.2.2.1, bt189.2.2.2⟩ : S23), 3⟩ : S63)] : List (S63)))).bind fun bt220 => ((option_Intrinsic.f k bt185.1 bt185.2.1 bt185.2.2.1 bt185.2.2.2 60).bind fun t224 => (if t224 = 10 then ((option_Intrinsic.f k bt189.1 bt189.2.1 bt189.2.2.1 bt189.2.2.2 60).bind fun t225 => (if t225 = 0 then ((option_Intrinsic.f k bt189.1 bt189.2.1 bt189.2.2.1 bt189.2.2.2 40).bind fun t226 => (if t226 = 10 then ((option_Ends.f k bt185.1 bt185.2.1 bt185.2.2.1 bt185.2.2.2 50).bind fun t227 => (if t227 = true then (some false) else (if bt202.1 = (-1200) then (if bt202.2 = 0 then (if (bt220.1.length : Int) = 8 then (if 0 < (bt220.1.length : Int) then (if (rd bt220.1 0) = 1100 then (some (bt220.2 == 0)) else (some false)) else (none)) else (some false)) else (some false)) else (some false)))) else (some false))) else (some false))) else (some false))))))))
theorem contangolaw21_goes.mono : ∀ k, LeO (contangolaw21_goes.f k ) (contangolaw21_goes.f (k + 1) ) := by
  intro  k
  unfold contangolaw21_goes.f
  repeat' first
      | (with_reducible exact option_Ends.mono _ _ _ _ _ _)
      | (with_reducible exact option_Intrinsic.mono _ _ _ _ _ _)
      | (with_reducible exact option_Net.mono _ _ _ _)
      | (with_reducible exact option_Premium.mono _ _ _ _ _ _ _ _ _ _ _ _ _ _ _ _ _)
      | (with_reducible exact LeO.refl _)
      | (with_reducible exact LeO.none _)
      | (with_reducible refine LeO.ite ?_ ?_)
      | (with_reducible refine LeO.bind ?_ (fun _ => ?_))
      | exact option_Ends.mono _ _ _ _ _ _
      | exact option_Intrinsic.mono _ _ _ _ _ _
      | exact option_Net.mono _ _ _ _
      | exact option_Premium.mono _ _ _ _ _ _ _ _ _ _ _ _ _ _ _ _ _
      | exact LeO.none _
      | refine LeO.ite ?_ ?_
      | refine LeO.bind ?_ (fun _ => ?_)
theorem contangolaw21_goes.only (k : Nat) (r : Bool) (h : contangolaw21_goes.f k  = some r) : r = true := by
  exact Option.some.inj ((at_rounds (fun k => contangolaw21_goes.mono k) (Nat.le_max_left k 100) h).symm.trans (at_rounds (fun k => contangolaw21_goes.mono k) (Nat.le_max_right k 100) (by decide +kernel : contangolaw21_goes.f 100 = some true)))
def contangolaw21_goes.T2 : Bool × List (List Nat × List Nat) := (true, [([], []), ([], []), ([1], [1]), ([0, 2, 0], [0, 2]), ([3], [3]), ([4], [4]), ([4], [4]), ([5, 3, 0, 1, 2, 3, 4, 5], [5]), ([6, 7, 0, 1, 2, 3, 4, 5, 6, 7], [6])])
def contangolaw21_goes.B2 : List Nat := [0, 0, 2, 7, 15, 31, 31, 63, 255]
theorem contangolaw21_goes.tab2 : rtab .any (opsOf Try.f14 2) = contangolaw21_goes.T2 := by kernel_rfl
theorem contangolaw21_goes.bits2 : waitsOk contangolaw21_goes.T2.2 contangolaw21_goes.B2 = true := by kernel_rfl
def contangolaw21_goes.T3 : Bool × List (List Nat × List Nat) := (true, [([], []), ([0], [0]), ([], []), ([2], [2]), ([], []), ([4], [4]), ([3, 5], [3, 5]), ([], []), ([7], [7]), ([], []), ([9], [9]), ([8, 10], [8, 10]), ([1, 6, 11, 0], [1, 6, 11]), ([12], [12]), ([13], [13]), ([13], [13]), ([14, 12, 0, 1, 2, 3, 4, 5, 6, 7, 8, 9, 10, 11, 12, 13, 14], [14]), ([15, 16, 0, 1, 2, 3, 4, 5, 6, 7, 8, 9, 10, 11, 12, 13, 14, 15, 16], [15])])
def contangolaw21_goes.B3 : List Nat := [0, 1, 0, 4, 0, 16, 60, 0, 128, 0, 512, 1920, 4095, 8191, 16383, 16383, 32767, 131071]
theorem contangolaw21_goes.tab3 : rtab .any (opsOf Try.f14 3) = contangolaw21_goes.T3 := by kernel_rfl
theorem contangolaw21_goes.bits3 : waitsOk contangolaw21_goes.T3.2 contangolaw21_goes.B3 = true := by kernel_rfl
set_option maxHeartbeats 8000000 in
set_option maxRecDepth 100000 in
theorem contangolaw21_goes.calls (k : Nat)  (r : Bool) (w : World) (h : contangolaw21_goes.f k  = some r) :
    Calls Try.prog 14 #[] w fun e w' => e = .returned (.bool r) ∧ Below w.heap.size w w' := by
  have hu23 := Try.underlying23
  have hu33 := Try.underlying33
  have hu57 := Try.underlying57
  have hu63 := Try.underlying63
  have HB := Aside0.mk (Below.refl w.heap.size w)
  have HRT := Aside0.mk (contangolaw21_goes.only k r h)
  have H : ((contangolaw21_of.f 2).bind fun bt185 => ((contangolaw21_of.f 3).bind fun bt189 => ((contangolaw21_oil.f).bind fun bt195 => ((option_Premium.f k bt195.1 bt195.2.1 bt195.2.2.1 bt195.2.2.2.1 bt195.2.2.2.2.1 bt195.2.2.2.2.2.1 bt195.2.2.2.2.2.2 (⟨#[]⟩ : ByteArray) (⟨#[]⟩ : ByteArray) bt185.1 bt185.2.1 bt185.2.2.1 bt185.2.2.2 (-3) 4 0).bind fun bt202 => ((contangolaw21_oil.f).bind fun bt204 => ((option_Net.f k (([(⟨bt204.1, bt204.2.1, bt204.2.2.1, bt204.2.2.2.1, bt204.2.2.2.2.1, bt204.2.2.2.2.2.1, bt204.2.2.2.2.2.2⟩ : S29)] : List (S29))) (([(⟨(⟨bt185.1, bt185.2.1, bt185.2.2.1, bt185.2.2.2⟩ : S23), 2, 0⟩ : S57), (⟨(⟨bt189.1, bt189.2.1, bt189.2.2.1, bt189.2.2.2⟩ : S23), 0, 1⟩ : S57)] : List (S57))) (([(⟨(⟨bt185.1, bt185.2.1, bt185.2.2.1, bt185.2.2.2⟩ : S23), 7⟩ : S63), (⟨(⟨bt189.1, bt189.2.1, bt189.2.2.1, bt189.2.2.2⟩ : S23), 3⟩ : S63)] : List (S63)))).bind fun bt220 => ((option_Intrinsic.f k bt185.1 bt185.2.1 bt185.2.2.1 bt185.2.2.2 60).bind fun t224 => (if t224 = 10 then ((option_Intrinsic.f k bt189.1 bt189.2.1 bt189.2.2.1 bt189.2.2.2 60).bind fun t225 => (if t225 = 0 then ((option_Intrinsic.f k bt189.1 bt189.2.1 bt189.2.2.1 bt189.2.2.2 40).bind fun t226 => (if t226 = 10 then ((option_Ends.f k bt185.1 bt185.2.1 bt185.2.2.1 bt185.2.2.2 50).bind fun t227 => (if t227 = true then (some false) else (if bt202.1 = (-1200) then (if bt202.2 = 0 then (if (bt220.1.length : Int) = 8 then (if 0 < (bt220.1.length : Int) then (if (rd bt220.1 0) = 1100 then (some (bt220.2 == 0)) else (some false)) else (none)) else (some false)) else (some false)) else (some false)))) else (some false))) else (some false))) else (some false))))))))) = some r := h
  clear h
  replace H := Option.bind_eq_some_iff.mp H
  obtain ⟨⟨t185, t186, t187, t188⟩, A10, H⟩ := H
  replace H : ((contangolaw21_of.f 3).bind fun bt189 => ((contangolaw21_oil.f).bind fun bt195 => ((option_Premium.f k bt195.1 bt195.2.1 bt195.2.2.1 bt195.2.2.2.1 bt195.2.2.2.2.1 bt195.2.2.2.2.2.1 bt195.2.2.2.2.2.2 (⟨#[]⟩ : ByteArray) (⟨#[]⟩ : ByteArray) t185 t186 t187 t188 (-3) 4 0).bind fun bt202 => ((contangolaw21_oil.f).bind fun bt204 => ((option_Net.f k (([(⟨bt204.1, bt204.2.1, bt204.2.2.1, bt204.2.2.2.1, bt204.2.2.2.2.1, bt204.2.2.2.2.2.1, bt204.2.2.2.2.2.2⟩ : S29)] : List (S29))) (([(⟨(⟨t185, t186, t187, t188⟩ : S23), 2, 0⟩ : S57), (⟨(⟨bt189.1, bt189.2.1, bt189.2.2.1, bt189.2.2.2⟩ : S23), 0, 1⟩ : S57)] : List (S57))) (([(⟨(⟨t185, t186, t187, t188⟩ : S23), 7⟩ : S63), (⟨(⟨bt189.1, bt189.2.1, bt189.2.2.1, bt189.2.2.2⟩ : S23), 3⟩ : S63)] : List (S63)))).bind fun bt220 => ((option_Intrinsic.f k t185 t186 t187 t188 60).bind fun t224 => (if t224 = 10 then ((option_Intrinsic.f k bt189.1 bt189.2.1 bt189.2.2.1 bt189.2.2.2 60).bind fun t225 => (if t225 = 0 then ((option_Intrinsic.f k bt189.1 bt189.2.1 bt189.2.2.1 bt189.2.2.2 40).bind fun t226 => (if t226 = 10 then ((option_Ends.f k t185 t186 t187 t188 50).bind fun t227 => (if t227 = true then (some false) else (if bt202.1 = (-1200) then (if bt202.2 = 0 then (if (bt220.1.length : Int) = 8 then (if 0 < (bt220.1.length : Int) then (if (rd bt220.1 0) = 1100 then (some (bt220.2 == 0)) else (some false)) else (none)) else (some false)) else (some false)) else (some false)))) else (some false))) else (some false))) else (some false)))))))) = some r := H
  have A1 := Aside0.mk A10
  clear A10
  replace H := Option.bind_eq_some_iff.mp H
  obtain ⟨⟨t189, t190, t191, t192⟩, A20, H⟩ := H
  replace H : ((contangolaw21_oil.f).bind fun bt195 => ((option_Premium.f k bt195.1 bt195.2.1 bt195.2.2.1 bt195.2.2.2.1 bt195.2.2.2.2.1 bt195.2.2.2.2.2.1 bt195.2.2.2.2.2.2 (⟨#[]⟩ : ByteArray) (⟨#[]⟩ : ByteArray) t185 t186 t187 t188 (-3) 4 0).bind fun bt202 => ((contangolaw21_oil.f).bind fun bt204 => ((option_Net.f k (([(⟨bt204.1, bt204.2.1, bt204.2.2.1, bt204.2.2.2.1, bt204.2.2.2.2.1, bt204.2.2.2.2.2.1, bt204.2.2.2.2.2.2⟩ : S29)] : List (S29))) (([(⟨(⟨t185, t186, t187, t188⟩ : S23), 2, 0⟩ : S57), (⟨(⟨t189, t190, t191, t192⟩ : S23), 0, 1⟩ : S57)] : List (S57))) (([(⟨(⟨t185, t186, t187, t188⟩ : S23), 7⟩ : S63), (⟨(⟨t189, t190, t191, t192⟩ : S23), 3⟩ : S63)] : List (S63)))).bind fun bt220 => ((option_Intrinsic.f k t185 t186 t187 t188 60).bind fun t224 => (if t224 = 10 then ((option_Intrinsic.f k t189 t190 t191 t192 60).bind fun t225 => (if t225 = 0 then ((option_Intrinsic.f k t189 t190 t191 t192 40).bind fun t226 => (if t226 = 10 then ((option_Ends.f k t185 t186 t187 t188 50).bind fun t227 => (if t227 = true then (some false) else (if bt202.1 = (-1200) then (if bt202.2 = 0 then (if (bt220.1.length : Int) = 8 then (if 0 < (bt220.1.length : Int) then (if (rd bt220.1 0) = 1100 then (some (bt220.2 == 0)) else (some false)) else (none)) else (some false)) else (some false)) else (some false)))) else (some false))) else (some false))) else (some false))))))) = some r := H
  have A2 := Aside0.mk A20
  clear A20
  replace H := Option.bind_eq_some_iff.mp H
  obtain ⟨⟨t195, t196, t197, t198, t199, t200, t201⟩, A30, H⟩ := H
  replace H : ((option_Premium.f k t195 t196 t197 t198 t199 t200 t201 (⟨#[]⟩ : ByteArray) (⟨#[]⟩ : ByteArray) t185 t186 t187 t188 (-3) 4 0).bind fun bt202 => ((contangolaw21_oil.f).bind fun bt204 => ((option_Net.f k (([(⟨bt204.1, bt204.2.1, bt204.2.2.1, bt204.2.2.2.1, bt204.2.2.2.2.1, bt204.2.2.2.2.2.1, bt204.2.2.2.2.2.2⟩ : S29)] : List (S29))) (([(⟨(⟨t185, t186, t187, t188⟩ : S23), 2, 0⟩ : S57), (⟨(⟨t189, t190, t191, t192⟩ : S23), 0, 1⟩ : S57)] : List (S57))) (([(⟨(⟨t185, t186, t187, t188⟩ : S23), 7⟩ : S63), (⟨(⟨t189, t190, t191, t192⟩ : S23), 3⟩ : S63)] : List (S63)))).bind fun bt220 => ((option_Intrinsic.f k t185 t186 t187 t188 60).bind fun t224 => (if t224 = 10 then ((option_Intrinsic.f k t189 t190 t191 t192 60).bind fun t225 => (if t225 = 0 then ((option_Intrinsic.f k t189 t190 t191 t192 40).bind fun t226 => (if t226 = 10 then ((option_Ends.f k t185 t186 t187 t188 50).bind fun t227 => (if t227 = true then (some false) else (if bt202.1 = (-1200) then (if bt202.2 = 0 then (if (bt220.1.length : Int) = 8 then (if 0 < (bt220.1.length : Int) then (if (rd bt220.1 0) = 1100 then (some (bt220.2 == 0)) else (some false)) else (none)) else (some false)) else (some false)) else (some false)))) else (some false))) else (some false))) else (some false)))))) = some r := H
  have A3 := Aside0.mk A30
  clear A30
  replace H := Option.bind_eq_some_iff.mp H
  obtain ⟨⟨t202, t203⟩, A40, H⟩ := H
  replace H : ((contangolaw21_oil.f).bind fun bt204 => ((option_Net.f k (([(⟨bt204.1, bt204.2.1, bt204.2.2.1, bt204.2.2.2.1, bt204.2.2.2.2.1, bt204.2.2.2.2.2.1, bt204.2.2.2.2.2.2⟩ : S29)] : List (S29))) (([(⟨(⟨t185, t186, t187, t188⟩ : S23), 2, 0⟩ : S57), (⟨(⟨t189, t190, t191, t192⟩ : S23), 0, 1⟩ : S57)] : List (S57))) (([(⟨(⟨t185, t186, t187, t188⟩ : S23), 7⟩ : S63), (⟨(⟨t189, t190, t191, t192⟩ : S23), 3⟩ : S63)] : List (S63)))).bind fun bt220 => ((option_Intrinsic.f k t185 t186 t187 t188 60).bind fun t224 => (if t224 = 10 then ((option_Intrinsic.f k t189 t190 t191 t192 60).bind fun t225 => (if t225 = 0 then ((option_Intrinsic.f k t189 t190 t191 t192 40).bind fun t226 => (if t226 = 10 then ((option_Ends.f k t185 t186 t187 t188 50).bind fun t227 => (if t227 = true then (some false) else (if t202 = (-1200) then (if t203 = 0 then (if (bt220.1.length : Int) = 8 then (if 0 < (bt220.1.length : Int) then (if (rd bt220.1 0) = 1100 then (some (bt220.2 == 0)) else (some false)) else (none)) else (some false)) else (some false)) else (some false)))) else (some false))) else (some false))) else (some false))))) = some r := H
  have A4 := Aside0.mk A40
  clear A40
  replace H := Option.bind_eq_some_iff.mp H
  obtain ⟨⟨t204, t205, t206, t207, t208, t209, t210⟩, A50, H⟩ := H
  replace H : ((option_Net.f k (([(⟨t204, t205, t206, t207, t208, t209, t210⟩ : S29)] : List (S29))) (([(⟨(⟨t185, t186, t187, t188⟩ : S23), 2, 0⟩ : S57), (⟨(⟨t189, t190, t191, t192⟩ : S23), 0, 1⟩ : S57)] : List (S57))) (([(⟨(⟨t185, t186, t187, t188⟩ : S23), 7⟩ : S63), (⟨(⟨t189, t190, t191, t192⟩ : S23), 3⟩ : S63)] : List (S63)))).bind fun bt220 => ((option_Intrinsic.f k t185 t186 t187 t188 60).bind fun t224 => (if t224 = 10 then ((option_Intrinsic.f k t189 t190 t191 t192 60).bind fun t225 => (if t225 = 0 then ((option_Intrinsic.f k t189 t190 t191 t192 40).bind fun t226 => (if t226 = 10 then ((option_Ends.f k t185 t186 t187 t188 50).bind fun t227 => (if t227 = true then (some false) else (if t202 = (-1200) then (if t203 = 0 then (if (bt220.1.length : Int) = 8 then (if 0 < (bt220.1.length : Int) then (if (rd bt220.1 0) = 1100 then (some (bt220.2 == 0)) else (some false)) else (none)) else (some false)) else (some false)) else (some false)))) else (some false))) else (some false))) else (some false)))) = some r := H
  have A5 := Aside0.mk A50
  clear A50
  obtain ⟨y211, hy211⟩ : ∃ y_ : List (S29), y_ = (([(⟨t204, t205, t206, t207, t208, t209, t210⟩ : S29)] : List (S29))) := ⟨_, rfl⟩
  replace H : ((option_Net.f k y211 (([(⟨(⟨t185, t186, t187, t188⟩ : S23), 2, 0⟩ : S57), (⟨(⟨t189, t190, t191, t192⟩ : S23), 0, 1⟩ : S57)] : List (S57))) (([(⟨(⟨t185, t186, t187, t188⟩ : S23), 7⟩ : S63), (⟨(⟨t189, t190, t191, t192⟩ : S23), 3⟩ : S63)] : List (S63)))).bind fun bt220 => ((option_Intrinsic.f k t185 t186 t187 t188 60).bind fun t224 => (if t224 = 10 then ((option_Intrinsic.f k t189 t190 t191 t192 60).bind fun t225 => (if t225 = 0 then ((option_Intrinsic.f k t189 t190 t191 t192 40).bind fun t226 => (if t226 = 10 then ((option_Ends.f k t185 t186 t187 t188 50).bind fun t227 => (if t227 = true then (some false) else (if t202 = (-1200) then (if t203 = 0 then (if (bt220.1.length : Int) = 8 then (if 0 < (bt220.1.length : Int) then (if (rd bt220.1 0) = 1100 then (some (bt220.2 == 0)) else (some false)) else (none)) else (some false)) else (some false)) else (some false)))) else (some false))) else (some false))) else (some false)))) = some r := by first | (rw [hy211]; with_reducible exact H) | (have H2_ := (Option.bind_some _ _).symm.trans H; rw [hy211]; with_reducible exact H2_) | (have H2_ := (Option.bind_some _ _).symm.trans H; with_reducible exact H2_) | with_reducible exact H | (rw [hy211]; exact H) | exact H
  have Ny211 := Aside0.mk hy211
  clear hy211
  obtain ⟨y214, hy214⟩ : ∃ y_ : List (S57), y_ = (([(⟨(⟨t185, t186, t187, t188⟩ : S23), 2, 0⟩ : S57), (⟨(⟨t189, t190, t191, t192⟩ : S23), 0, 1⟩ : S57)] : List (S57))) := ⟨_, rfl⟩
  replace H : ((option_Net.f k y211 y214 (([(⟨(⟨t185, t186, t187, t188⟩ : S23), 7⟩ : S63), (⟨(⟨t189, t190, t191, t192⟩ : S23), 3⟩ : S63)] : List (S63)))).bind fun bt220 => ((option_Intrinsic.f k t185 t186 t187 t188 60).bind fun t224 => (if t224 = 10 then ((option_Intrinsic.f k t189 t190 t191 t192 60).bind fun t225 => (if t225 = 0 then ((option_Intrinsic.f k t189 t190 t191 t192 40).bind fun t226 => (if t226 = 10 then ((option_Ends.f k t185 t186 t187 t188 50).bind fun t227 => (if t227 = true then (some false) else (if t202 = (-1200) then (if t203 = 0 then (if (bt220.1.length : Int) = 8 then (if 0 < (bt220.1.length : Int) then (if (rd bt220.1 0) = 1100 then (some (bt220.2 == 0)) else (some false)) else (none)) else (some false)) else (some false)) else (some false)))) else (some false))) else (some false))) else (some false)))) = some r := by first | (rw [hy214]; with_reducible exact H) | (have H2_ := (Option.bind_some _ _).symm.trans H; rw [hy214]; with_reducible exact H2_) | (have H2_ := (Option.bind_some _ _).symm.trans H; with_reducible exact H2_) | with_reducible exact H | (rw [hy214]; exact H) | exact H
  have Ny214 := Aside0.mk hy214
  clear hy214
  obtain ⟨y217, hy217⟩ : ∃ y_ : List (S63), y_ = (([(⟨(⟨t185, t186, t187, t188⟩ : S23), 7⟩ : S63), (⟨(⟨t189, t190, t191, t192⟩ : S23), 3⟩ : S63)] : List (S63))) := ⟨_, rfl⟩
  replace H : ((option_Net.f k y211 y214 y217).bind fun bt220 => ((option_Intrinsic.f k t185 t186 t187 t188 60).bind fun t224 => (if t224 = 10 then ((option_Intrinsic.f k t189 t190 t191 t192 60).bind fun t225 => (if t225 = 0 then ((option_Intrinsic.f k t189 t190 t191 t192 40).bind fun t226 => (if t226 = 10 then ((option_Ends.f k t185 t186 t187 t188 50).bind fun t227 => (if t227 = true then (some false) else (if t202 = (-1200) then (if t203 = 0 then (if (bt220.1.length : Int) = 8 then (if 0 < (bt220.1.length : Int) then (if (rd bt220.1 0) = 1100 then (some (bt220.2 == 0)) else (some false)) else (none)) else (some false)) else (some false)) else (some false)))) else (some false))) else (some false))) else (some false)))) = some r := by first | (rw [hy217]; with_reducible exact H) | (have H2_ := (Option.bind_some _ _).symm.trans H; rw [hy217]; with_reducible exact H2_) | (have H2_ := (Option.bind_some _ _).symm.trans H; with_reducible exact H2_) | with_reducible exact H | (rw [hy217]; exact H) | exact H
  have Ny217 := Aside0.mk hy217
  clear hy217
  replace H := Option.bind_eq_some_iff.mp H
  obtain ⟨⟨t220, t221⟩, A60, H⟩ := H
  replace H : ((option_Intrinsic.f k t185 t186 t187 t188 60).bind fun t224 => (if t224 = 10 then ((option_Intrinsic.f k t189 t190 t191 t192 60).bind fun t225 => (if t225 = 0 then ((option_Intrinsic.f k t189 t190 t191 t192 40).bind fun t226 => (if t226 = 10 then ((option_Ends.f k t185 t186 t187 t188 50).bind fun t227 => (if t227 = true then (some false) else (if t202 = (-1200) then (if t203 = 0 then (if (t220.length : Int) = 8 then (if 0 < (t220.length : Int) then (if (rd t220 0) = 1100 then (some (t221 == 0)) else (some false)) else (none)) else (some false)) else (some false)) else (some false)))) else (some false))) else (some false))) else (some false))) = some r := H
  have A6 := Aside0.mk A60
  clear A60
  replace H := Option.bind_eq_some_iff.mp H
  obtain ⟨t224, A70, H⟩ := H
  replace H : (if t224 = 10 then ((option_Intrinsic.f k t189 t190 t191 t192 60).bind fun t225 => (if t225 = 0 then ((option_Intrinsic.f k t189 t190 t191 t192 40).bind fun t226 => (if t226 = 10 then ((option_Ends.f k t185 t186 t187 t188 50).bind fun t227 => (if t227 = true then (some false) else (if t202 = (-1200) then (if t203 = 0 then (if (t220.length : Int) = 8 then (if 0 < (t220.length : Int) then (if (rd t220 0) = 1100 then (some (t221 == 0)) else (some false)) else (none)) else (some false)) else (some false)) else (some false)))) else (some false))) else (some false))) else (some false)) = some r := H
  have A7 := Aside0.mk A70
  clear A70
  by_cases c8 : t224 = 10
  · rw [if_pos c8] at H
    have c8b0 : (t224 == 10) = true := beq_iff_eq.mpr c8
    have c8b1 : (t224 != 10) = false := bne_eq_false_iff_eq.mpr c8
    clear c8
    replace H := Option.bind_eq_some_iff.mp H
    obtain ⟨t225, A90, H⟩ := H
    replace H : (if t225 = 0 then ((option_Intrinsic.f k t189 t190 t191 t192 40).bind fun t226 => (if t226 = 10 then ((option_Ends.f k t185 t186 t187 t188 50).bind fun t227 => (if t227 = true then (some false) else (if t202 = (-1200) then (if t203 = 0 then (if (t220.length : Int) = 8 then (if 0 < (t220.length : Int) then (if (rd t220 0) = 1100 then (some (t221 == 0)) else (some false)) else (none)) else (some false)) else (some false)) else (some false)))) else (some false))) else (some false)) = some r := H
    have A9 := Aside0.mk A90
    clear A90
    by_cases c10 : t225 = 0
    · rw [if_pos c10] at H
      have c10b0 : (t225 == 0) = true := beq_iff_eq.mpr c10
      have c10b1 : (t225 != 0) = false := bne_eq_false_iff_eq.mpr c10
      clear c10
      replace H := Option.bind_eq_some_iff.mp H
      obtain ⟨t226, A110, H⟩ := H
      replace H : (if t226 = 10 then ((option_Ends.f k t185 t186 t187 t188 50).bind fun t227 => (if t227 = true then (some false) else (if t202 = (-1200) then (if t203 = 0 then (if (t220.length : Int) = 8 then (if 0 < (t220.length : Int) then (if (rd t220 0) = 1100 then (some (t221 == 0)) else (some false)) else (none)) else (some false)) else (some false)) else (some false)))) else (some false)) = some r := H
      have A11 := Aside0.mk A110
      clear A110
      by_cases c12 : t226 = 10
      · rw [if_pos c12] at H
        have c12b0 : (t226 == 10) = true := beq_iff_eq.mpr c12
        have c12b1 : (t226 != 10) = false := bne_eq_false_iff_eq.mpr c12
        clear c12
        replace H := Option.bind_eq_some_iff.mp H
        obtain ⟨t227, A130, H⟩ := H
        replace H : (if t227 = true then (some false) else (if t202 = (-1200) then (if t203 = 0 then (if (t220.length : Int) = 8 then (if 0 < (t220.length : Int) then (if (rd t220 0) = 1100 then (some (t221 == 0)) else (some false)) else (none)) else (some false)) else (some false)) else (some false))) = some r := H
        have A13 := Aside0.mk A130
        clear A130
        by_cases c14 : t227 = true
        · subst c14
          have H1 : (some false) = some r := by rw [if_pos rfl] at H; exact H
          clear H
          have H := H1
          clear H1
          exact absurd (H.trans (congrArg some HRT.out)) (by first | simp [] | (simp only []; (repeat' split) <;> simp))
        · replace c14 := Bool.eq_false_iff.mpr c14
          subst c14
          have H1 : (if t202 = (-1200) then (if t203 = 0 then (if (t220.length : Int) = 8 then (if 0 < (t220.length : Int) then (if (rd t220 0) = 1100 then (some (t221 == 0)) else (some false)) else (none)) else (some false)) else (some false)) else (some false)) = some r := by rw [if_neg (show ¬ (false = true) by decide)] at H; exact H
          clear H
          have H := H1
          clear H1
          by_cases c15 : t202 = (-1200)
          · rw [if_pos c15] at H
            have c15b0 : (t202 == (-1200)) = true := beq_iff_eq.mpr c15
            have c15b1 : (t202 != (-1200)) = false := bne_eq_false_iff_eq.mpr c15
            clear c15
            by_cases c16 : t203 = 0
            · rw [if_pos c16] at H
              have c16b0 : (t203 == 0) = true := beq_iff_eq.mpr c16
              have c16b1 : (t203 != 0) = false := bne_eq_false_iff_eq.mpr c16
              clear c16
              by_cases c17 : (t220.length : Int) = 8
              · rw [if_pos c17] at H
                have c17b0 : ((t220.length : Int) == 8) = true := beq_iff_eq.mpr c17
                have c17b1 : ((t220.length : Int) != 8) = false := bne_eq_false_iff_eq.mpr c17
                clear c17
                by_cases c18 : 0 < (t220.length : Int)
                · rw [if_pos c18] at H
                  have c18b0 : decide (0 < (t220.length : Int)) = true := decide_eq_true c18
                  have c18b1 : decide (0 < t220.length) = true := decide_eq_true (by omega)
                  clear c18
                  by_cases c19 : (rd t220 0) = 1100
                  · rw [if_pos c19] at H
                    have c19b0 : ((rd t220 0) == 1100) = true := beq_iff_eq.mpr c19
                    have c19b1 : ((rd t220 0) != 1100) = false := bne_eq_false_iff_eq.mpr c19
                    clear c19
                    obtain rfl := Option.some.inj H
                    go_enter Try.func14, Try.ntmps14
                    try go_wp2_with (first | ((with_reducible refine gate_callee (f := 27) rfl ?_); refine goesL_ (some 7) rfl rfl Try.func27 (by kernel_rfl) rfl #[.int .i64 2] rfl (by (try simp only [List.map_toArray, List.map_cons, List.map_nil]); first | done | rfl | (simp only [List.length_drop, List.length_take]; rfl)) ?_; (with_reducible refine (contangolaw21_of.calls 2 t185 t186 t187 t188 _ A1.out).mono ?_); rintro e w20 ⟨rfl, hb⟩; refine ⟨_, rfl, ?_⟩; have n0_ := Aside0.mk (below_step (by repeat (first | (with_reducible first | exact HB.out | apply below_alloc | apply pw_below_drewN | apply below_drew1) | exact HB.out)) hb); clear HB; have HB := n0_; clear n0_; (try clear hb); (try clear hb2); (try clear hk); (try clear hi)) | ((with_reducible refine gate_callee (f := 27) rfl ?_); refine goesL_ (some 8) rfl rfl Try.func27 (by kernel_rfl) rfl #[.int .i64 3] rfl (by (try simp only [List.map_toArray, List.map_cons, List.map_nil]); first | done | rfl | (simp only [List.length_drop, List.length_take]; rfl)) ?_; (with_reducible refine (contangolaw21_of.calls 3 t189 t190 t191 t192 _ A2.out).mono ?_); rintro e w21 ⟨rfl, hb⟩; refine ⟨_, rfl, ?_⟩; have n0_ := Aside0.mk (below_step (by repeat (first | (with_reducible first | exact HB.out | apply below_alloc | apply pw_below_drewN | apply below_drew1) | exact HB.out)) hb); clear HB; have HB := n0_; clear n0_; (try clear hb); (try clear hb2); (try clear hk); (try clear hi)) | ((with_reducible refine gate_dst (N := 1) rfl ?_); (try (refine gate_guard (by rfl) ?_; dsimp only)); refine box_event ?hg (N := 1) ?hd (cs := #[.string (⟨#[]⟩ : ByteArray), .int .i64 0, .int .i64 0, .int .i64 0]) (t := 23) ?hr ?_; (case hd => rfl); (case hg => rfl); (case hr => first | (go_simp; done) | (go_simp; rfl)); intro gb193 hg w22 hbox hb; have n0_ := Aside0.mk (below_step (by repeat (first | (with_reducible first | exact HB.out | apply below_alloc | apply pw_below_drewN | apply below_drew1) | exact HB.out)) hb); have n1_ := Aside0.mk (hbox); have n2_ := Aside0.mk ((by rw [hg]; exact (below_size (by repeat (first | (with_reducible first | exact HB.out | apply below_alloc | apply pw_below_drewN | apply below_drew1) | exact HB.out))) : w.heap.size ≤ gb193)); have n3_ := Aside0.mk ((by rw [hg]; exact (below_size (by repeat (first | (with_reducible first | exact HB.out | apply below_alloc | apply pw_below_drewN | apply below_drew1) | exact HB.out))) : w.heap.size ≤ gb193)); clear HB; have HB := n0_; have BK193 := n1_; have GW193 := n2_; have GE193 := n3_; clear n0_ n1_ n2_ n3_; clear hb hbox hg) | ((with_reducible refine gate_dst (N := 2) rfl ?_); (try (refine gate_guard (by rfl) ?_; dsimp only)); refine box_event ?hg (N := 2) ?hd (cs := #[.string (⟨#[]⟩ : ByteArray), .int .i64 0, .int .i64 0, .int .i64 0]) (t := 23) ?hr ?_; (case hd => rfl); (case hg => rfl); (case hr => first | (go_simp; done) | (go_simp; rfl)); intro gb194 hg w23 hbox hb; have n0_ := Aside0.mk (blk_below (g := gb193) (o := .cells #[.string (⟨#[]⟩ : ByteArray), .int .i64 0, .int .i64 0, .int .i64 0] 23 (0, 0)) (by (with_reducible repeat (first | refine blk_drewN ?_ _ | refine blk_drew ?_ | refine blk_alloc ?_ _)); exact BK193.out) hb); have n1_ := Aside0.mk (below_step (by repeat (first | (with_reducible first | exact HB.out | apply below_alloc | apply pw_below_drewN | apply below_drew1 | refine below_set ?_ GE193.out) | exact HB.out)) hb); have n2_ := Aside0.mk (hbox); have n3_ := Aside0.mk ((by rw [hg]; exact (below_size (by repeat (first | (with_reducible first | exact HB.out | apply below_alloc | apply pw_below_drewN | apply below_drew1 | refine below_set ?_ GE193.out) | exact HB.out))) : w.heap.size ≤ gb194)); have n4_ := Aside0.mk ((by rw [hg]; exact (below_size (by repeat (first | (with_reducible first | exact HB.out | apply below_alloc | apply pw_below_drewN | apply below_drew1 | refine below_set ?_ GE193.out) | exact HB.out))) : w.heap.size ≤ gb194)); have n5_ := Aside0.mk ((by rw [hg]; exact Nat.ne_of_lt (blk_lt (g := gb193) (o := .cells #[.string (⟨#[]⟩ : ByteArray), .int .i64 0, .int .i64 0, .int .i64 0] 23 (0, 0)) (by (with_reducible repeat (first | refine blk_drewN ?_ _ | refine blk_drew ?_ | refine blk_alloc ?_ _)); exact BK193.out)) : gb193 ≠ gb194)); have n6_ := Aside0.mk ((by rw [hg]; exact Nat.ne_of_gt (blk_lt (g := gb193) (o := .cells #[.string (⟨#[]⟩ : ByteArray), .int .i64 0, .int .i64 0, .int .i64 0] 23 (0, 0)) (by (with_reducible repeat (first | refine blk_drewN ?_ _ | refine blk_drew ?_ | refine blk_alloc ?_ _)); exact BK193.out)) : gb194 ≠ gb193)); clear BK193; clear HB; have BK193 := n0_; have HB := n1_; have BK194 := n2_; have GW194 := n3_; have GE194 := n4_; have NB193_194 := n5_; have NB194_193 := n6_; clear n0_ n1_ n2_ n3_ n4_ n5_ n6_; clear hb hbox hg; have hnb24 := NB193_194.out; have hnc24 := NB194_193.out; have hcz25_0 : w23.cell? ⟨gb193, 0, none⟩ = some (.string (⟨#[]⟩ : ByteArray)) := (blk_cell BK193.out 0).trans rfl; have hcz25_1 : w23.cell? ⟨gb193, 1, none⟩ = some (.int .i64 0) := (blk_cell BK193.out 1).trans rfl; have hcz25_2 : w23.cell? ⟨gb193, 2, none⟩ = some (.int .i64 0) := (blk_cell BK193.out 2).trans rfl; have hcz25_3 : w23.cell? ⟨gb193, 3, none⟩ = some (.int .i64 0) := (blk_cell BK193.out 3).trans rfl; have hfz25_0 := blk_frozen BK193.out 0; have hfz25_1 := blk_frozen BK193.out 1; have hfz25_2 := blk_frozen BK193.out 2; have hfz25_3 := blk_frozen BK193.out 3; have hcz26_0 : w23.cell? ⟨gb194, 0, none⟩ = some (.string (⟨#[]⟩ : ByteArray)) := (blk_cell BK194.out 0).trans rfl; have hcz26_1 : w23.cell? ⟨gb194, 1, none⟩ = some (.int .i64 0) := (blk_cell BK194.out 1).trans rfl; have hcz26_2 : w23.cell? ⟨gb194, 2, none⟩ = some (.int .i64 0) := (blk_cell BK194.out 2).trans rfl; have hcz26_3 : w23.cell? ⟨gb194, 3, none⟩ = some (.int .i64 0) := (blk_cell BK194.out 3).trans rfl; have hfz26_0 := blk_frozen BK194.out 0; have hfz26_1 := blk_frozen BK194.out 1; have hfz26_2 := blk_frozen BK194.out 2; have hfz26_3 := blk_frozen BK194.out 3))
                    have n0_ : Aside0 (((((((((w23.setCell ⟨gb193, 0, none⟩ (.string t185)).setCell ⟨gb193, 1, none⟩ (.int .i64 t186)).setCell ⟨gb193, 2, none⟩ (.int .i64 t187)).setCell ⟨gb193, 3, none⟩ (.int .i64 t188)).setCell ⟨gb194, 0, none⟩ (.string t189)).setCell ⟨gb194, 1, none⟩ (.int .i64 t190)).setCell ⟨gb194, 2, none⟩ (.int .i64 t191)).setCell ⟨gb194, 3, none⟩ (.int .i64 t192)).heap[gb193]? = some (.cells #[.string t185, .int .i64 t186, .int .i64 t187, .int .i64 t188] 23 (0, 0))) := ⟨by (with_reducible repeat (first | refine blk_drewN ?_ _ | refine blk_drew ?_ | refine blk_alloc ?_ _)); refine blk_far ?_ NB193_194.out _; (with_reducible repeat (first | refine blk_drewN ?_ _ | refine blk_drew ?_ | refine blk_alloc ?_ _)); refine blk_far ?_ NB193_194.out _; (with_reducible repeat (first | refine blk_drewN ?_ _ | refine blk_drew ?_ | refine blk_alloc ?_ _)); refine blk_far ?_ NB193_194.out _; (with_reducible repeat (first | refine blk_drewN ?_ _ | refine blk_drew ?_ | refine blk_alloc ?_ _)); refine blk_far ?_ NB193_194.out _; (with_reducible repeat (first | refine blk_drewN ?_ _ | refine blk_drew ?_ | refine blk_alloc ?_ _)); refine blk_put (cs := #[.string t185, .int .i64 t186, .int .i64 t187, .int .i64 0]) ?_ 3 _ rfl; (with_reducible repeat (first | refine blk_drewN ?_ _ | refine blk_drew ?_ | refine blk_alloc ?_ _)); refine blk_put (cs := #[.string t185, .int .i64 t186, .int .i64 0, .int .i64 0]) ?_ 2 _ rfl; (with_reducible repeat (first | refine blk_drewN ?_ _ | refine blk_drew ?_ | refine blk_alloc ?_ _)); refine blk_put (cs := #[.string t185, .int .i64 0, .int .i64 0, .int .i64 0]) ?_ 1 _ rfl; (with_reducible repeat (first | refine blk_drewN ?_ _ | refine blk_drew ?_ | refine blk_alloc ?_ _)); refine blk_put (cs := #[.string (⟨#[]⟩ : ByteArray), .int .i64 0, .int .i64 0, .int .i64 0]) ?_ 0 _ rfl; (with_reducible repeat (first | refine blk_drewN ?_ _ | refine blk_drew ?_ | refine blk_alloc ?_ _)); exact BK193.out⟩
                    have n1_ : Aside0 (((((((((w23.setCell ⟨gb193, 0, none⟩ (.string t185)).setCell ⟨gb193, 1, none⟩ (.int .i64 t186)).setCell ⟨gb193, 2, none⟩ (.int .i64 t187)).setCell ⟨gb193, 3, none⟩ (.int .i64 t188)).setCell ⟨gb194, 0, none⟩ (.string t189)).setCell ⟨gb194, 1, none⟩ (.int .i64 t190)).setCell ⟨gb194, 2, none⟩ (.int .i64 t191)).setCell ⟨gb194, 3, none⟩ (.int .i64 t192)).heap[gb194]? = some (.cells #[.string t189, .int .i64 t190, .int .i64 t191, .int .i64 t192] 23 (0, 0))) := ⟨by (with_reducible repeat (first | refine blk_drewN ?_ _ | refine blk_drew ?_ | refine blk_alloc ?_ _)); refine blk_put (cs := #[.string t189, .int .i64 t190, .int .i64 t191, .int .i64 0]) ?_ 3 _ rfl; (with_reducible repeat (first | refine blk_drewN ?_ _ | refine blk_drew ?_ | refine blk_alloc ?_ _)); refine blk_put (cs := #[.string t189, .int .i64 t190, .int .i64 0, .int .i64 0]) ?_ 2 _ rfl; (with_reducible repeat (first | refine blk_drewN ?_ _ | refine blk_drew ?_ | refine blk_alloc ?_ _)); refine blk_put (cs := #[.string t189, .int .i64 0, .int .i64 0, .int .i64 0]) ?_ 1 _ rfl; (with_reducible repeat (first | refine blk_drewN ?_ _ | refine blk_drew ?_ | refine blk_alloc ?_ _)); refine blk_put (cs := #[.string (⟨#[]⟩ : ByteArray), .int .i64 0, .int .i64 0, .int .i64 0]) ?_ 0 _ rfl; (with_reducible repeat (first | refine blk_drewN ?_ _ | refine blk_drew ?_ | refine blk_alloc ?_ _)); refine blk_far ?_ NB194_193.out _; (with_reducible repeat (first | refine blk_drewN ?_ _ | refine blk_drew ?_ | refine blk_alloc ?_ _)); refine blk_far ?_ NB194_193.out _; (with_reducible repeat (first | refine blk_drewN ?_ _ | refine blk_drew ?_ | refine blk_alloc ?_ _)); refine blk_far ?_ NB194_193.out _; (with_reducible repeat (first | refine blk_drewN ?_ _ | refine blk_drew ?_ | refine blk_alloc ?_ _)); refine blk_far ?_ NB194_193.out _; (with_reducible repeat (first | refine blk_drewN ?_ _ | refine blk_drew ?_ | refine blk_alloc ?_ _)); exact BK194.out⟩
                    have n2_ : Aside0 (Below w.heap.size w ((((((((w23.setCell ⟨gb193, 0, none⟩ (.string t185)).setCell ⟨gb193, 1, none⟩ (.int .i64 t186)).setCell ⟨gb193, 2, none⟩ (.int .i64 t187)).setCell ⟨gb193, 3, none⟩ (.int .i64 t188)).setCell ⟨gb194, 0, none⟩ (.string t189)).setCell ⟨gb194, 1, none⟩ (.int .i64 t190)).setCell ⟨gb194, 2, none⟩ (.int .i64 t191)).setCell ⟨gb194, 3, none⟩ (.int .i64 t192))) := ⟨by repeat (first | (with_reducible first | exact HB.out | apply below_alloc | apply pw_below_drewN | apply below_drew1 | refine below_set ?_ GE193.out | refine below_set ?_ GE194.out) | exact HB.out)⟩
                    (try clear BK193)
                    (try clear BK194)
                    (try clear HB)
                    generalize ((((((((w23.setCell ⟨gb193, 0, none⟩ (.string t185)).setCell ⟨gb193, 1, none⟩ (.int .i64 t186)).setCell ⟨gb193, 2, none⟩ (.int .i64 t187)).setCell ⟨gb193, 3, none⟩ (.int .i64 t188)).setCell ⟨gb194, 0, none⟩ (.string t189)).setCell ⟨gb194, 1, none⟩ (.int .i64 t190)).setCell ⟨gb194, 2, none⟩ (.int .i64 t191)).setCell ⟨gb194, 3, none⟩ (.int .i64 t192)) = w27 at n0_ n1_ n2_ ⊢
                    have BK193 := n0_
                    have BK194 := n1_
                    have HB := n2_
                    clear n0_ n1_ n2_
                    have n0_ := Aside0.mk (blk_drew BK193.out)
                    have n1_ := Aside0.mk (blk_drew BK194.out)
                    have n2_ := Aside0.mk (below_drew1 HB.out)
                    clear BK193
                    clear BK194
                    clear HB
                    have BK193 := n0_
                    have BK194 := n1_
                    have HB := n2_
                    clear n0_ n1_ n2_
                    refine start_ (n := 9) (S := fun w' => w'.cell? ⟨gb193, 0, none⟩ = some (.string t185) ∧ w'.cell? ⟨gb193, 1, none⟩ = some (.int .i64 t186) ∧ w'.cell? ⟨gb193, 2, none⟩ = some (.int .i64 t187) ∧ w'.cell? ⟨gb193, 3, none⟩ = some (.int .i64 t188)) (ds := []) #[false, false, false, false, false, false, false, false, false] (by kernel_rfl) rfl rfl ⟨(blk_cell BK193.out 0).trans rfl, (blk_cell BK193.out 1).trans rfl, (blk_cell BK193.out 2).trans rfl, (blk_cell BK193.out 3).trans rfl⟩ (fun hHeld => ?_); refine with_tabW contangolaw21_goes.tab2 contangolaw21_goes.bits2 (fun HT_ HW_ => ?_)
                    generalize w27.drew = w28 at BK193 BK194 HB hHeld ⊢
                    refine take_ (i := 1) (N := some 11) (v := ?_) (a' := ?_) #[false, true, false, false, false, false, false, false, false] rfl rfl (take_ofW HT_.out HW_.out (by kernel_rfl)) (fun _ _ _ h => h) (Or.inl ⟨by rfl, ?_⟩) hHeld ?_ ?_
                    rotate_left
                    · rintro w' ⟨s0, s1, s2, s3⟩
                      go_simp
                      with_reducible rfl
                    rotate_left
                    · simp only [Act.put, List.setIfInBounds_toArray, List.set_cons_zero, List.set_cons_succ, i64_w, i32_w]
                      rfl
                    refine pure_ (i := 2) (N := some 12) (v := ?_) (a' := ?_) #[false, true, true, false, false, false, false, false, false] rfl rfl (any_of HT_.out (by kernel_rfl)) (fun _ _ _ h => h) (Or.inl ⟨by rfl, ?_⟩) ?_ ?_
                    rotate_left
                    · intro w'
                      go_simp
                      with_reducible rfl
                    rotate_left
                    · simp only [Act.put, List.setIfInBounds_toArray, List.set_cons_zero, List.set_cons_succ, i64_w, i32_w]
                      rfl
                    refine one_ (i := 0) (N := some 10) #[true, true, true, false, false, false, false, false, false] rfl rfl (one_of HT_.out (by kernel_rfl)) (by decide) (fun K hK => ?_)
                    refine goes_ Try.func28 (by kernel_rfl) rfl #[] (by rfl) rfl rfl (by (try simp only [List.map_toArray, List.map_cons, List.map_nil]); first | done | rfl | (simp only [List.length_drop, List.length_take]; rfl)) ?_
                    with_reducible refine (contangolaw21_oil.calls  t195 t196 t197 t198 t199 t200 t201 _ A3.out).mono ?_
                    rintro e w29 ⟨rfl, hb⟩
                    refine ⟨_, rfl, ?_⟩
                    have n0_ := Aside0.mk (blk_below (g := gb193) (o := .cells #[.string t185, .int .i64 t186, .int .i64 t187, .int .i64 t188] 23 (0, 0)) (by (with_reducible repeat (first | refine blk_drewN ?_ _ | refine blk_drew ?_ | refine blk_alloc ?_ _)); exact BK193.out) hb)
                    have n1_ := Aside0.mk (blk_below (g := gb194) (o := .cells #[.string t189, .int .i64 t190, .int .i64 t191, .int .i64 t192] 23 (0, 0)) (by (with_reducible repeat (first | refine blk_drewN ?_ _ | refine blk_drew ?_ | refine blk_alloc ?_ _)); exact BK194.out) hb)
                    have n2_ := Aside0.mk (below_step (by repeat (first | (with_reducible first | exact HB.out | apply below_alloc | apply pw_below_drewN | apply below_drew1 | refine below_set ?_ GE193.out | refine below_set ?_ GE194.out) | exact HB.out)) hb)
                    clear BK193
                    clear BK194
                    clear HB
                    have BK193 := n0_
                    have BK194 := n1_
                    have HB := n2_
                    clear n0_ n1_ n2_
                    (try clear hb)
                    (try clear hb2)
                    (try clear hk)
                    (try clear hi)
                    refine hK.out _ _ ⟨(blk_cell BK193.out 0).trans rfl, (blk_cell BK193.out 1).trans rfl, (blk_cell BK193.out 2).trans rfl, (blk_cell BK193.out 3).trans rfl⟩ (fun hHeld => ?_)
                    clear hK K
                    refine norm_ (a' := ?_) ?_ ?_
                    rotate_left
                    · show Act.put _ (some 10) _ = _
                      simp only [Act.put, List.setIfInBounds_toArray, List.set_cons_zero, List.set_cons_succ, i64_w, i32_w]
                      rfl
                    refine one_ (i := 3) (N := some 13) #[true, true, true, true, false, false, false, false, false] rfl rfl (one_of HT_.out (by kernel_rfl)) (by decide) (fun K hK => ?_)
                    refine goes_ Try.func15 (by kernel_rfl) rfl #[.agg #[.string t195, .int .i64 t196, .int .i64 t197, .int .i64 t198, .int .i64 t199, .int .i64 t200, .bool t201], .agg #[.string (⟨#[]⟩ : ByteArray), .string (⟨#[]⟩ : ByteArray), .string t185, .int .i64 t186, .int .i64 t187, .int .i64 t188, .int .i64 (-3), .int .i64 4, .int .i64 0]] (by rfl) rfl rfl (by (try simp only [List.map_toArray, List.map_cons, List.map_nil]); first | done | rfl | (simp only [List.length_drop, List.length_take]; rfl)) ?_
                    with_reducible refine (option_Premium.calls k t195 t196 t197 t198 t199 t200 t201 (⟨#[]⟩ : ByteArray) (⟨#[]⟩ : ByteArray) t185 t186 t187 t188 (-3) 4 0 t202 t203 _ A4.out).mono ?_
                    rintro e w30 ⟨rfl, hb⟩
                    refine ⟨_, rfl, ?_⟩
                    have n0_ := Aside0.mk (blk_below (g := gb193) (o := .cells #[.string t185, .int .i64 t186, .int .i64 t187, .int .i64 t188] 23 (0, 0)) (by (with_reducible repeat (first | refine blk_drewN ?_ _ | refine blk_drew ?_ | refine blk_alloc ?_ _)); exact BK193.out) hb)
                    have n1_ := Aside0.mk (blk_below (g := gb194) (o := .cells #[.string t189, .int .i64 t190, .int .i64 t191, .int .i64 t192] 23 (0, 0)) (by (with_reducible repeat (first | refine blk_drewN ?_ _ | refine blk_drew ?_ | refine blk_alloc ?_ _)); exact BK194.out) hb)
                    have n2_ := Aside0.mk (below_step (by repeat (first | (with_reducible first | exact HB.out | apply below_alloc | apply pw_below_drewN | apply below_drew1 | refine below_set ?_ GE193.out | refine below_set ?_ GE194.out) | exact HB.out)) hb)
                    clear BK193
                    clear BK194
                    clear HB
                    have BK193 := n0_
                    have BK194 := n1_
                    have HB := n2_
                    clear n0_ n1_ n2_
                    (try clear hb)
                    (try clear hb2)
                    (try clear hk)
                    (try clear hi)
                    refine hK.out _ _ ⟨(blk_cell BK193.out 0).trans rfl, (blk_cell BK193.out 1).trans rfl, (blk_cell BK193.out 2).trans rfl, (blk_cell BK193.out 3).trans rfl⟩ (fun hHeld => ?_)
                    clear hK K
                    refine norm_ (a' := ?_) ?_ ?_
                    rotate_left
                    · show Act.put _ (some 13) _ = _
                      simp only [Act.put, List.setIfInBounds_toArray, List.set_cons_zero, List.set_cons_succ, i64_w, i32_w]
                      rfl
                    refine pure_ (i := 4) (N := some 9) (v := ?_) (a' := ?_) #[true, true, true, true, true, false, false, false, false] rfl rfl (any_of HT_.out (by kernel_rfl)) (fun _ _ _ h => h) (Or.inl ⟨by rfl, ?_⟩) ?_ ?_
                    rotate_left
                    · intro w'
                      go_simp
                      with_reducible rfl
                    rotate_left
                    · simp only [Act.put, List.setIfInBounds_toArray, List.set_cons_zero, List.set_cons_succ, i64_w, i32_w]
                      rfl
                    refine pure_ (i := 5) (N := some 14) (v := ?_) (a' := ?_) #[true, true, true, true, true, true, false, false, false] rfl rfl (any_of HT_.out (by kernel_rfl)) (fun _ _ _ h => h) (Or.inl ⟨by rfl, ?_⟩) ?_ ?_
                    rotate_left
                    · intro w'
                      go_simp
                      with_reducible rfl
                    rotate_left
                    · simp only [Act.put, List.setIfInBounds_toArray, List.set_cons_zero, List.set_cons_succ, i64_w, i32_w]
                      rfl
                    refine pure_ (i := 6) (N := some 15) (v := ?_) (a' := ?_) #[true, true, true, true, true, true, true, false, false] rfl rfl (any_of HT_.out (by kernel_rfl)) (fun _ _ _ h => h) (Or.inl ⟨by rfl, ?_⟩) ?_ ?_
                    rotate_left
                    · intro w'
                      go_simp
                      with_reducible rfl
                    rotate_left
                    · simp only [Act.put, List.setIfInBounds_toArray, List.set_cons_zero, List.set_cons_succ, i64_w, i32_w]
                      rfl
                    refine pure_ (i := 7) (N := some 3) (v := ?_) (a' := ?_) #[true, true, true, true, true, true, true, true, false] rfl rfl (any_of HT_.out (by kernel_rfl)) (fun _ _ _ h => h) (Or.inl ⟨by rfl, ?_⟩) ?_ ?_
                    rotate_left
                    · intro w'
                      go_simp
                      with_reducible rfl
                    rotate_left
                    · simp only [Act.put, List.setIfInBounds_toArray, List.set_cons_zero, List.set_cons_succ, i64_w, i32_w]
                      rfl
                    refine pure_ (i := 8) (N := some 4) (v := ?_) (a' := ?_) #[true, true, true, true, true, true, true, true, true] rfl rfl (any_of HT_.out (by kernel_rfl)) (fun _ _ _ h => h) (Or.inl ⟨by rfl, ?_⟩) ?_ ?_
                    rotate_left
                    · intro w'
                      go_simp
                      with_reducible rfl
                    rotate_left
                    · simp only [Act.put, List.setIfInBounds_toArray, List.set_cons_zero, List.set_cons_succ, i64_w, i32_w]
                      rfl
                    refine done_ (done_of HT_.out (by kernel_rfl)) ?_
                    try go_wp2
                    have n0_ := Aside0.mk (blk_drew BK193.out)
                    have n1_ := Aside0.mk (blk_drew BK194.out)
                    have n2_ := Aside0.mk (below_drew1 HB.out)
                    clear BK193
                    clear BK194
                    clear HB
                    have BK193 := n0_
                    have BK194 := n1_
                    have HB := n2_
                    clear n0_ n1_ n2_
                    refine start_ (n := 18) (S := fun w' => True) (ds := []) #[false, false, false, false, false, false, false, false, false, false, false, false, false, false, false, false, false, false] (by kernel_rfl) rfl rfl trivial (fun hHeld => ?_); refine with_tabW contangolaw21_goes.tab3 contangolaw21_goes.bits3 (fun HT_ HW_ => ?_)
                    generalize w30.drew = w31 at BK193 BK194 HB hHeld ⊢
                    refine inv_at [0, 1, 2, 3, 4, 5, 6, 7, 8, 9, 10, 11, 12, 13, 14, 15, 16, 17] (fun a0_ b a w' => ∃ (v212 : Value) (v215 : Value) (v218 : Value) (v222 : Value) (m12_ : Value) (m13_ : Value) (m14_ : Value) (m16_ : Value), a = putSel a0_ b [(0, 17, .agg #[.string t204, .int .i64 t205, .int .i64 t206, .int .i64 t207, .int .i64 t208, .int .i64 t209, .bool t210]), (1, 18, v212), (2, 19, .agg #[.string t185, .int .i64 t186, .int .i64 t187, .int .i64 t188]), (3, 20, .agg #[.string t185, .int .i64 t186, .int .i64 t187, .int .i64 t188, .int .i64 2, .int .i64 0]), (4, 21, .agg #[.string t189, .int .i64 t190, .int .i64 t191, .int .i64 t192]), (5, 22, .agg #[.string t189, .int .i64 t190, .int .i64 t191, .int .i64 t192, .int .i64 0, .int .i64 1]), (6, 23, v215), (7, 24, .agg #[.string t185, .int .i64 t186, .int .i64 t187, .int .i64 t188]), (8, 25, .agg #[.string t185, .int .i64 t186, .int .i64 t187, .int .i64 t188, .int .i64 7]), (9, 26, .agg #[.string t189, .int .i64 t190, .int .i64 t191, .int .i64 t192]), (10, 27, .agg #[.string t189, .int .i64 t190, .int .i64 t191, .int .i64 t192, .int .i64 3]), (11, 28, v218), (12, 29, m12_), (13, 16, m13_), (14, 30, m14_), (15, 31, .int .i64 t221), (16, 5, m16_), (17, 6, .int .i64 t221)] ∧ (w'.heap[gb193]? = some (.cells #[.string t185, .int .i64 t186, .int .i64 t187, .int .i64 t188] 23 (0, 0))) ∧ (w'.heap[gb194]? = some (.cells #[.string t189, .int .i64 t190, .int .i64 t191, .int .i64 t192] 23 (0, 0))) ∧ (Below w.heap.size w w') ∧ (b 1 = true → Kd.R k29 29 w' w.heap.size (fun _ => True) v212 y211) ∧ (b 6 = true → Kd.R k57 57 w' w.heap.size (fun _ => True) v215 y214) ∧ (b 11 = true → Kd.R k63 63 w' w.heap.size (fun _ => True) v218 y217) ∧ (b 12 = true → Kd.R (Kd.int .i64) 3 w' w.heap.size (fun _ => True) v222 t220) ∧ (b 12 = true → (m12_ : Value) = .tuple #[v222, .int .i64 t221]) ∧ (b 13 = true → (m13_ : Value) = .tuple #[v222, .int .i64 t221]) ∧ (b 14 = true → (m14_ : Value) = v222) ∧ (b 16 = true → (m16_ : Value) = v222)) HT_.out HW_.out (by kernel_rfl) (by kernel_rfl) ?_ ?_ ?_
                    · exact ⟨.bool false, .bool false, .bool false, .bool false, .bool false, .bool false, .bool false, .bool false, by simp only [putSel, Bool.false_eq_true, if_false], BK193.out, BK194.out, HB.out, fun h_ => absurd h_ (by decide), fun h_ => absurd h_ (by decide), fun h_ => absurd h_ (by decide), fun h_ => absurd h_ (by decide), fun h_ => absurd h_ (by decide), fun h_ => absurd h_ (by decide), fun h_ => absurd h_ (by decide), fun h_ => absurd h_ (by decide)⟩
                    · skip
                      clear BK193 BK194 HB
                      refine steps_cons ?_ ?_
                      · rintro b a w' ⟨v212, v215, v218, v222, m12_, m13_, m14_, m16_, ha, Q_BK193, Q_BK194, Q_HB, Q_HO213, Q_HO216, Q_HO219, Q_HO223, Q_X12_, Q_X13_, Q_X14_, Q_X16_⟩ hb_ hon hoff
                        refine ⟨_, rfl, fun K hK => ?_⟩
                        replace ha := Aside0.mk ha
                        have BK193 := Aside0.mk Q_BK193
                        have BK194 := Aside0.mk Q_BK194
                        have HB := Aside0.mk Q_HB
                        refine goes_ Try.func28 (by kernel_rfl) rfl #[] (by rfl) rfl rfl (by first | (simp only [List.map_toArray, List.map_cons, List.map_nil, Act.eval, Array.getD_eq_getD_getElem?, Option.getD_some]; done) | (simp only [List.map_toArray, List.map_cons, List.map_nil, Act.eval, Array.getD_eq_getD_getElem?, Option.getD_some]; rfl)) ?_
                        with_reducible refine (contangolaw21_oil.calls  t204 t205 t206 t207 t208 t209 t210 _ A5.out).mono ?_
                        rintro e w32 ⟨rfl, hb⟩
                        refine ⟨_, rfl, ?_⟩
                        have n0_ := Aside0.mk (blk_below (g := gb193) (o := .cells #[.string t185, .int .i64 t186, .int .i64 t187, .int .i64 t188] 23 (0, 0)) (by (with_reducible repeat (first | refine blk_drewN ?_ _ | refine blk_drew ?_ | refine blk_alloc ?_ _)); exact BK193.out) hb)
                        have n1_ := Aside0.mk (blk_below (g := gb194) (o := .cells #[.string t189, .int .i64 t190, .int .i64 t191, .int .i64 t192] 23 (0, 0)) (by (with_reducible repeat (first | refine blk_drewN ?_ _ | refine blk_drew ?_ | refine blk_alloc ?_ _)); exact BK194.out) hb)
                        have n2_ := Aside0.mk (below_step (by repeat (first | (with_reducible first | exact HB.out | apply below_alloc | apply pw_below_drewN | apply below_drew1 | refine below_set ?_ GE193.out | refine below_set ?_ GE194.out) | exact HB.out)) hb)
                        have z_HO216 := fun (h0_ : b 6 = true) => (show Kd.R k57 57 w32 w.heap.size (fun _ => True) v215 y214 from by first | exact (Kd.R_below (by (with_reducible repeat (first | apply Kd.R_alloc | apply Kd.R_drewN | apply Kd.R_drew)); exact (Q_HO216 h0_)) hb) | exact Kd.R_mono (Kd.R_below (by (with_reducible repeat (first | apply Kd.R_alloc | apply Kd.R_drewN | apply Kd.R_drew)); exact (Q_HO216 h0_)) hb) (fun _ h_ => by first | trivial | exact h_ | exact h_.1))
                        have z_HO219 := fun (h0_ : b 11 = true) => (show Kd.R k63 63 w32 w.heap.size (fun _ => True) v218 y217 from by first | exact (Kd.R_below (by (with_reducible repeat (first | apply Kd.R_alloc | apply Kd.R_drewN | apply Kd.R_drew)); exact (Q_HO219 h0_)) hb) | exact Kd.R_mono (Kd.R_below (by (with_reducible repeat (first | apply Kd.R_alloc | apply Kd.R_drewN | apply Kd.R_drew)); exact (Q_HO219 h0_)) hb) (fun _ h_ => by first | trivial | exact h_ | exact h_.1))
                        clear BK193
                        clear BK194
                        clear HB
                        have BK193 := n0_
                        have BK194 := n1_
                        have HB := n2_
                        clear n0_ n1_ n2_
                        (try clear hb)
                        (try clear hb2)
                        (try clear hk)
                        (try clear hi)
                        refine hK.out _ _ ⟨v212, v215, v218, v222, m12_, m13_, m14_, m16_, (by rw [ha.out]; exact putSel_upk 0 hb_ rfl rfl rfl), (by (with_reducible repeat (first | refine blk_drewN ?_ _ | refine blk_drew ?_ | refine blk_alloc ?_ _)); exact BK193.out), (by (with_reducible repeat (first | refine blk_drewN ?_ _ | refine blk_drew ?_ | refine blk_alloc ?_ _)); exact BK194.out), (by repeat (first | (with_reducible first | exact HB.out | apply below_alloc | apply pw_below_drewN | apply below_drew1 | refine below_set ?_ GE193.out | refine below_set ?_ GE194.out) | exact HB.out)), fun h0_ => absurd ((hoff 1 (by kernel_rfl)).symm.trans h0_) (by decide), z_HO216, z_HO219, fun h0_ => absurd ((hoff 12 (by kernel_rfl)).symm.trans h0_) (by decide), fun h0_ => absurd ((hoff 12 (by kernel_rfl)).symm.trans h0_) (by decide), fun h0_ => absurd ((hoff 13 (by kernel_rfl)).symm.trans h0_) (by decide), fun h0_ => absurd ((hoff 14 (by kernel_rfl)).symm.trans h0_) (by decide), fun h0_ => absurd ((hoff 16 (by kernel_rfl)).symm.trans h0_) (by decide)⟩
                      refine steps_cons ?_ ?_
                      · rintro b a w' ⟨v212, v215, v218, v222, m12_, m13_, m14_, m16_, ha, Q_BK193, Q_BK194, Q_HB, Q_HO213, Q_HO216, Q_HO219, Q_HO223, Q_X12_, Q_X13_, Q_X14_, Q_X16_⟩ hb_ hon hoff
                        refine ⟨_, rfl, fun K hK => ?_⟩
                        have e17 : a.tmps[17]? = some (.agg #[.string t204, .int .i64 t205, .int .i64 t206, .int .i64 t207, .int .i64 t208, .int .i64 t209, .bool t210]) := by rw [ha]; exact putSel_on (e := (0, 17, .agg #[.string t204, .int .i64 t205, .int .i64 t206, .int .i64 t207, .int .i64 t208, .int .i64 t209, .bool t210])) 0 rfl rfl (hon 0 (by kernel_rfl)) rfl
                        replace ha := Aside0.mk ha
                        have BK193 := Aside0.mk Q_BK193
                        have BK194 := Aside0.mk Q_BK194
                        have HB := Aside0.mk Q_HB
                        refine Kd.R_lit_step k29 _ 29 ?hg (N := 18) ?hd (xs := ([(⟨t204, t205, t206, t207, t208, t209, t210⟩ : S29)] : List (S29))) (inner := [.string t204, .int .i64 t205, .int .i64 t206, .int .i64 t207, .int .i64 t208, .int .i64 t209, .bool t210]) (ok := fun _ => True) (okp := fun _ => True) ?hr ?hp (fun _ hk => hk) trivial (Below.refl _ _) (Nat.le_refl _) (by simp) ?_; (case hd => rfl); (case hg => rfl); (case hr => first | (go_simp; done) | (go_simp; rfl)); (case hp => exact (Reps.c7 (show Kd.M k29 _ _ _ (⟨t204, t205, t206, t207, t208, t209, t210⟩ : S29) [.string t204, .int .i64 t205, .int .i64 t206, .int .i64 t207, .int .i64 t208, .int .i64 t209, .bool t210] from (k29_mkM _ _ _ (⟨t204, t205, t206, t207, t208, t209, t210⟩ : S29) )) (Reps.none _ _)))
                        intro v212 w34 ho35 hb hg_ hnew_
                        clear hg_ hnew_
                        (first | rw [← Ny211.out] at ho35 | (simp only [Int.reduceToNat] at ho35; rw [← Ny211.out] at ho35))
                        have n0_ := Aside0.mk (Kd.R_lower ho35 (below_size (by repeat (first | (with_reducible first | exact HB.out | apply below_alloc | apply pw_below_drewN | apply below_drew1 | refine below_set ?_ GE193.out | refine below_set ?_ GE194.out) | exact HB.out))))
                        have n1_ := Aside0.mk (blk_below (g := gb193) (o := .cells #[.string t185, .int .i64 t186, .int .i64 t187, .int .i64 t188] 23 (0, 0)) (by (with_reducible repeat (first | refine blk_drewN ?_ _ | refine blk_drew ?_ | refine blk_alloc ?_ _)); exact BK193.out) hb)
                        have n2_ := Aside0.mk (blk_below (g := gb194) (o := .cells #[.string t189, .int .i64 t190, .int .i64 t191, .int .i64 t192] 23 (0, 0)) (by (with_reducible repeat (first | refine blk_drewN ?_ _ | refine blk_drew ?_ | refine blk_alloc ?_ _)); exact BK194.out) hb)
                        have n3_ := Aside0.mk (below_step (by repeat (first | (with_reducible first | exact HB.out | apply below_alloc | apply pw_below_drewN | apply below_drew1 | refine below_set ?_ GE193.out | refine below_set ?_ GE194.out) | exact HB.out)) hb)
                        have z_HO216 := fun (h0_ : b 6 = true) => (show Kd.R k57 57 w34 w.heap.size (fun _ => True) v215 y214 from by first | exact (Kd.R_below (by (with_reducible repeat (first | apply Kd.R_alloc | apply Kd.R_drewN | apply Kd.R_drew)); exact (Q_HO216 h0_)) hb) | exact Kd.R_mono (Kd.R_below (by (with_reducible repeat (first | apply Kd.R_alloc | apply Kd.R_drewN | apply Kd.R_drew)); exact (Q_HO216 h0_)) hb) (fun _ h_ => by first | trivial | exact h_ | exact h_.1))
                        have z_HO219 := fun (h0_ : b 11 = true) => (show Kd.R k63 63 w34 w.heap.size (fun _ => True) v218 y217 from by first | exact (Kd.R_below (by (with_reducible repeat (first | apply Kd.R_alloc | apply Kd.R_drewN | apply Kd.R_drew)); exact (Q_HO219 h0_)) hb) | exact Kd.R_mono (Kd.R_below (by (with_reducible repeat (first | apply Kd.R_alloc | apply Kd.R_drewN | apply Kd.R_drew)); exact (Q_HO219 h0_)) hb) (fun _ h_ => by first | trivial | exact h_ | exact h_.1))
                        clear BK193
                        clear BK194
                        clear HB
                        have HO213 := n0_
                        have BK193 := n1_
                        have BK194 := n2_
                        have HB := n3_
                        clear n0_ n1_ n2_ n3_
                        clear hb ho35
                        refine hK.out _ _ ⟨v212, v215, v218, v222, m12_, m13_, m14_, m16_, (by rw [ha.out]; exact putSel_upk 1 hb_ rfl rfl rfl), (by (with_reducible repeat (first | refine blk_drewN ?_ _ | refine blk_drew ?_ | refine blk_alloc ?_ _)); exact BK193.out), (by (with_reducible repeat (first | refine blk_drewN ?_ _ | refine blk_drew ?_ | refine blk_alloc ?_ _)); exact BK194.out), (by repeat (first | (with_reducible first | exact HB.out | apply below_alloc | apply pw_below_drewN | apply below_drew1 | refine below_set ?_ GE193.out | refine below_set ?_ GE194.out) | exact HB.out)), fun _ => (by (with_reducible repeat (first | apply Kd.R_alloc | apply Kd.R_drewN | apply Kd.R_drew)); exact HO213.out), z_HO216, z_HO219, fun h0_ => absurd ((hoff 12 (by kernel_rfl)).symm.trans h0_) (by decide), fun h0_ => absurd ((hoff 12 (by kernel_rfl)).symm.trans h0_) (by decide), fun h0_ => absurd ((hoff 13 (by kernel_rfl)).symm.trans h0_) (by decide), fun h0_ => absurd ((hoff 14 (by kernel_rfl)).symm.trans h0_) (by decide), fun h0_ => absurd ((hoff 16 (by kernel_rfl)).symm.trans h0_) (by decide)⟩
                      refine steps_cons ?_ ?_
                      · rintro b a w' ⟨v212, v215, v218, v222, m12_, m13_, m14_, m16_, ha, Q_BK193, Q_BK194, Q_HB, Q_HO213, Q_HO216, Q_HO219, Q_HO223, Q_X12_, Q_X13_, Q_X14_, Q_X16_⟩ hb_ hon hoff
                        refine ⟨_, rfl, fun K hK => ?_⟩
                        have e1 : a.tmps[1]? = some (.pointer (some ⟨gb193, 0, none⟩)) := by rw [ha]; exact (putSel_off rfl).trans rfl
                        replace ha := Aside0.mk ha
                        have BK193 := Aside0.mk Q_BK193
                        have BK194 := Aside0.mk Q_BK194
                        have HB := Aside0.mk Q_HB
                        have hc0_ : w'.cell? ⟨gb193, 0, none⟩ = some (.string t185) := (blk_cell BK193.out 0).trans rfl
                        have hc1_ : w'.cell? ⟨gb193, 1, none⟩ = some (.int .i64 t186) := (blk_cell BK193.out 1).trans rfl
                        have hc2_ : w'.cell? ⟨gb193, 2, none⟩ = some (.int .i64 t187) := (blk_cell BK193.out 2).trans rfl
                        have hc3_ : w'.cell? ⟨gb193, 3, none⟩ = some (.int .i64 t188) := (blk_cell BK193.out 3).trans rfl
                        refine value_ (w1 := w') (v := .agg #[.string t185, .int .i64 t186, .int .i64 t187, .int .i64 t188]) (by rfl) rfl ?_ ?_
                        · go_simp
                          (try simp only [i64_w])
                          try rfl
                        refine hK.out _ _ ⟨v212, v215, v218, v222, m12_, m13_, m14_, m16_, (by rw [ha.out]; exact putSel_upk 2 hb_ rfl rfl rfl), Q_BK193, Q_BK194, Q_HB, Q_HO213, fun h0_ => absurd ((hoff 6 (by kernel_rfl)).symm.trans h0_) (by decide), Q_HO219, fun h0_ => absurd ((hoff 12 (by kernel_rfl)).symm.trans h0_) (by decide), fun h0_ => absurd ((hoff 12 (by kernel_rfl)).symm.trans h0_) (by decide), fun h0_ => absurd ((hoff 13 (by kernel_rfl)).symm.trans h0_) (by decide), fun h0_ => absurd ((hoff 14 (by kernel_rfl)).symm.trans h0_) (by decide), fun h0_ => absurd ((hoff 16 (by kernel_rfl)).symm.trans h0_) (by decide)⟩
                      refine steps_cons ?_ ?_
                      · rintro b a w' ⟨v212, v215, v218, v222, m12_, m13_, m14_, m16_, ha, Q_BK193, Q_BK194, Q_HB, Q_HO213, Q_HO216, Q_HO219, Q_HO223, Q_X12_, Q_X13_, Q_X14_, Q_X16_⟩ hb_ hon hoff
                        refine ⟨_, rfl, fun K hK => ?_⟩
                        have e19 : a.tmps[19]? = some (.agg #[.string t185, .int .i64 t186, .int .i64 t187, .int .i64 t188]) := by rw [ha]; exact putSel_on (e := (2, 19, .agg #[.string t185, .int .i64 t186, .int .i64 t187, .int .i64 t188])) 2 rfl rfl (hon 2 (by kernel_rfl)) rfl
                        replace ha := Aside0.mk ha
                        have BK193 := Aside0.mk Q_BK193
                        have BK194 := Aside0.mk Q_BK194
                        have HB := Aside0.mk Q_HB
                        refine value_ (w1 := w') (v := .agg #[.string t185, .int .i64 t186, .int .i64 t187, .int .i64 t188, .int .i64 2, .int .i64 0]) (by rfl) rfl ?_ ?_
                        · go_simp
                          (try simp only [i64_w])
                          try rfl
                        refine hK.out _ _ ⟨v212, v215, v218, v222, m12_, m13_, m14_, m16_, (by rw [ha.out]; exact putSel_upk 3 hb_ rfl rfl rfl), Q_BK193, Q_BK194, Q_HB, Q_HO213, fun h0_ => absurd ((hoff 6 (by kernel_rfl)).symm.trans h0_) (by decide), Q_HO219, fun h0_ => absurd ((hoff 12 (by kernel_rfl)).symm.trans h0_) (by decide), fun h0_ => absurd ((hoff 12 (by kernel_rfl)).symm.trans h0_) (by decide), fun h0_ => absurd ((hoff 13 (by kernel_rfl)).symm.trans h0_) (by decide), fun h0_ => absurd ((hoff 14 (by kernel_rfl)).symm.trans h0_) (by decide), fun h0_ => absurd ((hoff 16 (by kernel_rfl)).symm.trans h0_) (by decide)⟩
                      refine steps_cons ?_ ?_
                      · rintro b a w' ⟨v212, v215, v218, v222, m12_, m13_, m14_, m16_, ha, Q_BK193, Q_BK194, Q_HB, Q_HO213, Q_HO216, Q_HO219, Q_HO223, Q_X12_, Q_X13_, Q_X14_, Q_X16_⟩ hb_ hon hoff
                        refine ⟨_, rfl, fun K hK => ?_⟩
                        have e2 : a.tmps[2]? = some (.pointer (some ⟨gb194, 0, none⟩)) := by rw [ha]; exact (putSel_off rfl).trans rfl
                        replace ha := Aside0.mk ha
                        have BK193 := Aside0.mk Q_BK193
                        have BK194 := Aside0.mk Q_BK194
                        have HB := Aside0.mk Q_HB
                        have hc0_ : w'.cell? ⟨gb194, 0, none⟩ = some (.string t189) := (blk_cell BK194.out 0).trans rfl
                        have hc1_ : w'.cell? ⟨gb194, 1, none⟩ = some (.int .i64 t190) := (blk_cell BK194.out 1).trans rfl
                        have hc2_ : w'.cell? ⟨gb194, 2, none⟩ = some (.int .i64 t191) := (blk_cell BK194.out 2).trans rfl
                        have hc3_ : w'.cell? ⟨gb194, 3, none⟩ = some (.int .i64 t192) := (blk_cell BK194.out 3).trans rfl
                        refine value_ (w1 := w') (v := .agg #[.string t189, .int .i64 t190, .int .i64 t191, .int .i64 t192]) (by rfl) rfl ?_ ?_
                        · go_simp
                          (try simp only [i64_w])
                          try rfl
                        refine hK.out _ _ ⟨v212, v215, v218, v222, m12_, m13_, m14_, m16_, (by rw [ha.out]; exact putSel_upk 4 hb_ rfl rfl rfl), Q_BK193, Q_BK194, Q_HB, Q_HO213, fun h0_ => absurd ((hoff 6 (by kernel_rfl)).symm.trans h0_) (by decide), Q_HO219, fun h0_ => absurd ((hoff 12 (by kernel_rfl)).symm.trans h0_) (by decide), fun h0_ => absurd ((hoff 12 (by kernel_rfl)).symm.trans h0_) (by decide), fun h0_ => absurd ((hoff 13 (by kernel_rfl)).symm.trans h0_) (by decide), fun h0_ => absurd ((hoff 14 (by kernel_rfl)).symm.trans h0_) (by decide), fun h0_ => absurd ((hoff 16 (by kernel_rfl)).symm.trans h0_) (by decide)⟩
                      refine steps_cons ?_ ?_
                      · rintro b a w' ⟨v212, v215, v218, v222, m12_, m13_, m14_, m16_, ha, Q_BK193, Q_BK194, Q_HB, Q_HO213, Q_HO216, Q_HO219, Q_HO223, Q_X12_, Q_X13_, Q_X14_, Q_X16_⟩ hb_ hon hoff
                        refine ⟨_, rfl, fun K hK => ?_⟩
                        have e21 : a.tmps[21]? = some (.agg #[.string t189, .int .i64 t190, .int .i64 t191, .int .i64 t192]) := by rw [ha]; exact putSel_on (e := (4, 21, .agg #[.string t189, .int .i64 t190, .int .i64 t191, .int .i64 t192])) 4 rfl rfl (hon 4 (by kernel_rfl)) rfl
                        replace ha := Aside0.mk ha
                        have BK193 := Aside0.mk Q_BK193
                        have BK194 := Aside0.mk Q_BK194
                        have HB := Aside0.mk Q_HB
                        refine value_ (w1 := w') (v := .agg #[.string t189, .int .i64 t190, .int .i64 t191, .int .i64 t192, .int .i64 0, .int .i64 1]) (by rfl) rfl ?_ ?_
                        · go_simp
                          (try simp only [i64_w])
                          try rfl
                        refine hK.out _ _ ⟨v212, v215, v218, v222, m12_, m13_, m14_, m16_, (by rw [ha.out]; exact putSel_upk 5 hb_ rfl rfl rfl), Q_BK193, Q_BK194, Q_HB, Q_HO213, fun h0_ => absurd ((hoff 6 (by kernel_rfl)).symm.trans h0_) (by decide), Q_HO219, fun h0_ => absurd ((hoff 12 (by kernel_rfl)).symm.trans h0_) (by decide), fun h0_ => absurd ((hoff 12 (by kernel_rfl)).symm.trans h0_) (by decide), fun h0_ => absurd ((hoff 13 (by kernel_rfl)).symm.trans h0_) (by decide), fun h0_ => absurd ((hoff 14 (by kernel_rfl)).symm.trans h0_) (by decide), fun h0_ => absurd ((hoff 16 (by kernel_rfl)).symm.trans h0_) (by decide)⟩
                      refine steps_cons ?_ ?_
                      · rintro b a w' ⟨v212, v215, v218, v222, m12_, m13_, m14_, m16_, ha, Q_BK193, Q_BK194, Q_HB, Q_HO213, Q_HO216, Q_HO219, Q_HO223, Q_X12_, Q_X13_, Q_X14_, Q_X16_⟩ hb_ hon hoff
                        refine ⟨_, rfl, fun K hK => ?_⟩
                        have e20 : a.tmps[20]? = some (.agg #[.string t185, .int .i64 t186, .int .i64 t187, .int .i64 t188, .int .i64 2, .int .i64 0]) := by rw [ha]; exact putSel_on (e := (3, 20, .agg #[.string t185, .int .i64 t186, .int .i64 t187, .int .i64 t188, .int .i64 2, .int .i64 0])) 3 rfl rfl (hon 3 (by kernel_rfl)) rfl
                        have e22 : a.tmps[22]? = some (.agg #[.string t189, .int .i64 t190, .int .i64 t191, .int .i64 t192, .int .i64 0, .int .i64 1]) := by rw [ha]; exact putSel_on (e := (5, 22, .agg #[.string t189, .int .i64 t190, .int .i64 t191, .int .i64 t192, .int .i64 0, .int .i64 1])) 5 rfl rfl (hon 5 (by kernel_rfl)) rfl
                        replace ha := Aside0.mk ha
                        have BK193 := Aside0.mk Q_BK193
                        have BK194 := Aside0.mk Q_BK194
                        have HB := Aside0.mk Q_HB
                        refine Kd.R_lit_step k57 _ 57 ?hg (N := 23) ?hd (xs := ([(⟨(⟨t185, t186, t187, t188⟩ : S23), 2, 0⟩ : S57), (⟨(⟨t189, t190, t191, t192⟩ : S23), 0, 1⟩ : S57)] : List (S57))) (inner := [.string t185, .int .i64 t186, .int .i64 t187, .int .i64 t188, .int .i64 2, .int .i64 0, .string t189, .int .i64 t190, .int .i64 t191, .int .i64 t192, .int .i64 0, .int .i64 1]) (ok := fun _ => True) (okp := fun _ => True) ?hr ?hp (fun _ hk => hk) trivial (Below.refl _ _) (Nat.le_refl _) (by simp) ?_; (case hd => rfl); (case hg => rfl); (case hr => first | (go_simp; done) | (go_simp; rfl)); (case hp => exact (Reps.c6 (show Kd.M k57 _ _ _ (⟨(⟨t185, t186, t187, t188⟩ : S23), 2, 0⟩ : S57) [.string t185, .int .i64 t186, .int .i64 t187, .int .i64 t188, .int .i64 2, .int .i64 0] from (k57_mkM _ _ _ (⟨(⟨t185, t186, t187, t188⟩ : S23), 2, 0⟩ : S57) )) (Reps.c6 (show Kd.M k57 _ _ _ (⟨(⟨t189, t190, t191, t192⟩ : S23), 0, 1⟩ : S57) [.string t189, .int .i64 t190, .int .i64 t191, .int .i64 t192, .int .i64 0, .int .i64 1] from (k57_mkM _ _ _ (⟨(⟨t189, t190, t191, t192⟩ : S23), 0, 1⟩ : S57) )) (Reps.none _ _))))
                        intro v215 w32 ho33 hb hg_ hnew_
                        clear hg_ hnew_
                        (first | rw [← Ny214.out] at ho33 | (simp only [Int.reduceToNat] at ho33; rw [← Ny214.out] at ho33))
                        have n0_ := Aside0.mk (Kd.R_lower ho33 (below_size (by repeat (first | (with_reducible first | exact HB.out | apply below_alloc | apply pw_below_drewN | apply below_drew1 | refine below_set ?_ GE193.out | refine below_set ?_ GE194.out) | exact HB.out))))
                        have n1_ := Aside0.mk (blk_below (g := gb193) (o := .cells #[.string t185, .int .i64 t186, .int .i64 t187, .int .i64 t188] 23 (0, 0)) (by (with_reducible repeat (first | refine blk_drewN ?_ _ | refine blk_drew ?_ | refine blk_alloc ?_ _)); exact BK193.out) hb)
                        have n2_ := Aside0.mk (blk_below (g := gb194) (o := .cells #[.string t189, .int .i64 t190, .int .i64 t191, .int .i64 t192] 23 (0, 0)) (by (with_reducible repeat (first | refine blk_drewN ?_ _ | refine blk_drew ?_ | refine blk_alloc ?_ _)); exact BK194.out) hb)
                        have n3_ := Aside0.mk (below_step (by repeat (first | (with_reducible first | exact HB.out | apply below_alloc | apply pw_below_drewN | apply below_drew1 | refine below_set ?_ GE193.out | refine below_set ?_ GE194.out) | exact HB.out)) hb)
                        have z_HO213 := fun (h0_ : b 1 = true) => (show Kd.R k29 29 w32 w.heap.size (fun _ => True) v212 y211 from by first | exact (Kd.R_below (by (with_reducible repeat (first | apply Kd.R_alloc | apply Kd.R_drewN | apply Kd.R_drew)); exact (Q_HO213 h0_)) hb) | exact Kd.R_mono (Kd.R_below (by (with_reducible repeat (first | apply Kd.R_alloc | apply Kd.R_drewN | apply Kd.R_drew)); exact (Q_HO213 h0_)) hb) (fun _ h_ => by first | trivial | exact h_ | exact h_.1))
                        have z_HO219 := fun (h0_ : b 11 = true) => (show Kd.R k63 63 w32 w.heap.size (fun _ => True) v218 y217 from by first | exact (Kd.R_below (by (with_reducible repeat (first | apply Kd.R_alloc | apply Kd.R_drewN | apply Kd.R_drew)); exact (Q_HO219 h0_)) hb) | exact Kd.R_mono (Kd.R_below (by (with_reducible repeat (first | apply Kd.R_alloc | apply Kd.R_drewN | apply Kd.R_drew)); exact (Q_HO219 h0_)) hb) (fun _ h_ => by first | trivial | exact h_ | exact h_.1))
                        clear BK193
                        clear BK194
                        clear HB
                        have HO216 := n0_
                        have BK193 := n1_
                        have BK194 := n2_
                        have HB := n3_
                        clear n0_ n1_ n2_ n3_
                        clear hb ho33
                        refine hK.out _ _ ⟨v212, v215, v218, v222, m12_, m13_, m14_, m16_, (by rw [ha.out]; exact putSel_upk 6 hb_ rfl rfl rfl), (by (with_reducible repeat (first | refine blk_drewN ?_ _ | refine blk_drew ?_ | refine blk_alloc ?_ _)); exact BK193.out), (by (with_reducible repeat (first | refine blk_drewN ?_ _ | refine blk_drew ?_ | refine blk_alloc ?_ _)); exact BK194.out), (by repeat (first | (with_reducible first | exact HB.out | apply below_alloc | apply pw_below_drewN | apply below_drew1 | refine below_set ?_ GE193.out | refine below_set ?_ GE194.out) | exact HB.out)), z_HO213, fun _ => (by (with_reducible repeat (first | apply Kd.R_alloc | apply Kd.R_drewN | apply Kd.R_drew)); exact HO216.out), z_HO219, fun h0_ => absurd ((hoff 12 (by kernel_rfl)).symm.trans h0_) (by decide), fun h0_ => absurd ((hoff 12 (by kernel_rfl)).symm.trans h0_) (by decide), fun h0_ => absurd ((hoff 13 (by kernel_rfl)).symm.trans h0_) (by decide), fun h0_ => absurd ((hoff 14 (by kernel_rfl)).symm.trans h0_) (by decide), fun h0_ => absurd ((hoff 16 (by kernel_rfl)).symm.trans h0_) (by decide)⟩
                      refine steps_cons ?_ ?_
                      · rintro b a w' ⟨v212, v215, v218, v222, m12_, m13_, m14_, m16_, ha, Q_BK193, Q_BK194, Q_HB, Q_HO213, Q_HO216, Q_HO219, Q_HO223, Q_X12_, Q_X13_, Q_X14_, Q_X16_⟩ hb_ hon hoff
                        refine ⟨_, rfl, fun K hK => ?_⟩
                        have e1 : a.tmps[1]? = some (.pointer (some ⟨gb193, 0, none⟩)) := by rw [ha]; exact (putSel_off rfl).trans rfl
                        replace ha := Aside0.mk ha
                        have BK193 := Aside0.mk Q_BK193
                        have BK194 := Aside0.mk Q_BK194
                        have HB := Aside0.mk Q_HB
                        have hc0_ : w'.cell? ⟨gb193, 0, none⟩ = some (.string t185) := (blk_cell BK193.out 0).trans rfl
                        have hc1_ : w'.cell? ⟨gb193, 1, none⟩ = some (.int .i64 t186) := (blk_cell BK193.out 1).trans rfl
                        have hc2_ : w'.cell? ⟨gb193, 2, none⟩ = some (.int .i64 t187) := (blk_cell BK193.out 2).trans rfl
                        have hc3_ : w'.cell? ⟨gb193, 3, none⟩ = some (.int .i64 t188) := (blk_cell BK193.out 3).trans rfl
                        refine value_ (w1 := w') (v := .agg #[.string t185, .int .i64 t186, .int .i64 t187, .int .i64 t188]) (by rfl) rfl ?_ ?_
                        · go_simp
                          (try simp only [i64_w])
                          try rfl
                        refine hK.out _ _ ⟨v212, v215, v218, v222, m12_, m13_, m14_, m16_, (by rw [ha.out]; exact putSel_upk 7 hb_ rfl rfl rfl), Q_BK193, Q_BK194, Q_HB, Q_HO213, Q_HO216, fun h0_ => absurd ((hoff 11 (by kernel_rfl)).symm.trans h0_) (by decide), fun h0_ => absurd ((hoff 12 (by kernel_rfl)).symm.trans h0_) (by decide), fun h0_ => absurd ((hoff 12 (by kernel_rfl)).symm.trans h0_) (by decide), fun h0_ => absurd ((hoff 13 (by kernel_rfl)).symm.trans h0_) (by decide), fun h0_ => absurd ((hoff 14 (by kernel_rfl)).symm.trans h0_) (by decide), fun h0_ => absurd ((hoff 16 (by kernel_rfl)).symm.trans h0_) (by decide)⟩
                      refine steps_cons ?_ ?_
                      · rintro b a w' ⟨v212, v215, v218, v222, m12_, m13_, m14_, m16_, ha, Q_BK193, Q_BK194, Q_HB, Q_HO213, Q_HO216, Q_HO219, Q_HO223, Q_X12_, Q_X13_, Q_X14_, Q_X16_⟩ hb_ hon hoff
                        refine ⟨_, rfl, fun K hK => ?_⟩
                        have e24 : a.tmps[24]? = some (.agg #[.string t185, .int .i64 t186, .int .i64 t187, .int .i64 t188]) := by rw [ha]; exact putSel_on (e := (7, 24, .agg #[.string t185, .int .i64 t186, .int .i64 t187, .int .i64 t188])) 7 rfl rfl (hon 7 (by kernel_rfl)) rfl
                        replace ha := Aside0.mk ha
                        have BK193 := Aside0.mk Q_BK193
                        have BK194 := Aside0.mk Q_BK194
                        have HB := Aside0.mk Q_HB
                        refine value_ (w1 := w') (v := .agg #[.string t185, .int .i64 t186, .int .i64 t187, .int .i64 t188, .int .i64 7]) (by rfl) rfl ?_ ?_
                        · go_simp
                          (try simp only [i64_w])
                          try rfl
                        refine hK.out _ _ ⟨v212, v215, v218, v222, m12_, m13_, m14_, m16_, (by rw [ha.out]; exact putSel_upk 8 hb_ rfl rfl rfl), Q_BK193, Q_BK194, Q_HB, Q_HO213, Q_HO216, fun h0_ => absurd ((hoff 11 (by kernel_rfl)).symm.trans h0_) (by decide), fun h0_ => absurd ((hoff 12 (by kernel_rfl)).symm.trans h0_) (by decide), fun h0_ => absurd ((hoff 12 (by kernel_rfl)).symm.trans h0_) (by decide), fun h0_ => absurd ((hoff 13 (by kernel_rfl)).symm.trans h0_) (by decide), fun h0_ => absurd ((hoff 14 (by kernel_rfl)).symm.trans h0_) (by decide), fun h0_ => absurd ((hoff 16 (by kernel_rfl)).symm.trans h0_) (by decide)⟩
                      refine steps_cons ?_ ?_
                      · rintro b a w' ⟨v212, v215, v218, v222, m12_, m13_, m14_, m16_, ha, Q_BK193, Q_BK194, Q_HB, Q_HO213, Q_HO216, Q_HO219, Q_HO223, Q_X12_, Q_X13_, Q_X14_, Q_X16_⟩ hb_ hon hoff
                        refine ⟨_, rfl, fun K hK => ?_⟩
                        have e2 : a.tmps[2]? = some (.pointer (some ⟨gb194, 0, none⟩)) := by rw [ha]; exact (putSel_off rfl).trans rfl
                        replace ha := Aside0.mk ha
                        have BK193 := Aside0.mk Q_BK193
                        have BK194 := Aside0.mk Q_BK194
                        have HB := Aside0.mk Q_HB
                        have hc0_ : w'.cell? ⟨gb194, 0, none⟩ = some (.string t189) := (blk_cell BK194.out 0).trans rfl
                        have hc1_ : w'.cell? ⟨gb194, 1, none⟩ = some (.int .i64 t190) := (blk_cell BK194.out 1).trans rfl
                        have hc2_ : w'.cell? ⟨gb194, 2, none⟩ = some (.int .i64 t191) := (blk_cell BK194.out 2).trans rfl
                        have hc3_ : w'.cell? ⟨gb194, 3, none⟩ = some (.int .i64 t192) := (blk_cell BK194.out 3).trans rfl
                        refine value_ (w1 := w') (v := .agg #[.string t189, .int .i64 t190, .int .i64 t191, .int .i64 t192]) (by rfl) rfl ?_ ?_
                        · go_simp
                          (try simp only [i64_w])
                          try rfl
                        refine hK.out _ _ ⟨v212, v215, v218, v222, m12_, m13_, m14_, m16_, (by rw [ha.out]; exact putSel_upk 9 hb_ rfl rfl rfl), Q_BK193, Q_BK194, Q_HB, Q_HO213, Q_HO216, fun h0_ => absurd ((hoff 11 (by kernel_rfl)).symm.trans h0_) (by decide), fun h0_ => absurd ((hoff 12 (by kernel_rfl)).symm.trans h0_) (by decide), fun h0_ => absurd ((hoff 12 (by kernel_rfl)).symm.trans h0_) (by decide), fun h0_ => absurd ((hoff 13 (by kernel_rfl)).symm.trans h0_) (by decide), fun h0_ => absurd ((hoff 14 (by kernel_rfl)).symm.trans h0_) (by decide), fun h0_ => absurd ((hoff 16 (by kernel_rfl)).symm.trans h0_) (by decide)⟩
                      refine steps_cons ?_ ?_
                      · rintro b a w' ⟨v212, v215, v218, v222, m12_, m13_, m14_, m16_, ha, Q_BK193, Q_BK194, Q_HB, Q_HO213, Q_HO216, Q_HO219, Q_HO223, Q_X12_, Q_X13_, Q_X14_, Q_X16_⟩ hb_ hon hoff
                        refine ⟨_, rfl, fun K hK => ?_⟩
                        have e26 : a.tmps[26]? = some (.agg #[.string t189, .int .i64 t190, .int .i64 t191, .int .i64 t192]) := by rw [ha]; exact putSel_on (e := (9, 26, .agg #[.string t189, .int .i64 t190, .int .i64 t191, .int .i64 t192])) 9 rfl rfl (hon 9 (by kernel_rfl)) rfl
                        replace ha := Aside0.mk ha
                        have BK193 := Aside0.mk Q_BK193
                        have BK194 := Aside0.mk Q_BK194
                        have HB := Aside0.mk Q_HB
                        refine value_ (w1 := w') (v := .agg #[.string t189, .int .i64 t190, .int .i64 t191, .int .i64 t192, .int .i64 3]) (by rfl) rfl ?_ ?_
                        · go_simp
                          (try simp only [i64_w])
                          try rfl
                        refine hK.out _ _ ⟨v212, v215, v218, v222, m12_, m13_, m14_, m16_, (by rw [ha.out]; exact putSel_upk 10 hb_ rfl rfl rfl), Q_BK193, Q_BK194, Q_HB, Q_HO213, Q_HO216, fun h0_ => absurd ((hoff 11 (by kernel_rfl)).symm.trans h0_) (by decide), fun h0_ => absurd ((hoff 12 (by kernel_rfl)).symm.trans h0_) (by decide), fun h0_ => absurd ((hoff 12 (by kernel_rfl)).symm.trans h0_) (by decide), fun h0_ => absurd ((hoff 13 (by kernel_rfl)).symm.trans h0_) (by decide), fun h0_ => absurd ((hoff 14 (by kernel_rfl)).symm.trans h0_) (by decide), fun h0_ => absurd ((hoff 16 (by kernel_rfl)).symm.trans h0_) (by decide)⟩
                      refine steps_cons ?_ ?_
                      · rintro b a w' ⟨v212, v215, v218, v222, m12_, m13_, m14_, m16_, ha, Q_BK193, Q_BK194, Q_HB, Q_HO213, Q_HO216, Q_HO219, Q_HO223, Q_X12_, Q_X13_, Q_X14_, Q_X16_⟩ hb_ hon hoff
                        refine ⟨_, rfl, fun K hK => ?_⟩
                        have e25 : a.tmps[25]? = some (.agg #[.string t185, .int .i64 t186, .int .i64 t187, .int .i64 t188, .int .i64 7]) := by rw [ha]; exact putSel_on (e := (8, 25, .agg #[.string t185, .int .i64 t186, .int .i64 t187, .int .i64 t188, .int .i64 7])) 8 rfl rfl (hon 8 (by kernel_rfl)) rfl
                        have e27 : a.tmps[27]? = some (.agg #[.string t189, .int .i64 t190, .int .i64 t191, .int .i64 t192, .int .i64 3]) := by rw [ha]; exact putSel_on (e := (10, 27, .agg #[.string t189, .int .i64 t190, .int .i64 t191, .int .i64 t192, .int .i64 3])) 10 rfl rfl (hon 10 (by kernel_rfl)) rfl
                        replace ha := Aside0.mk ha
                        have BK193 := Aside0.mk Q_BK193
                        have BK194 := Aside0.mk Q_BK194
                        have HB := Aside0.mk Q_HB
                        refine Kd.R_lit_step k63 _ 63 ?hg (N := 28) ?hd (xs := ([(⟨(⟨t185, t186, t187, t188⟩ : S23), 7⟩ : S63), (⟨(⟨t189, t190, t191, t192⟩ : S23), 3⟩ : S63)] : List (S63))) (inner := [.string t185, .int .i64 t186, .int .i64 t187, .int .i64 t188, .int .i64 7, .string t189, .int .i64 t190, .int .i64 t191, .int .i64 t192, .int .i64 3]) (ok := fun _ => True) (okp := fun _ => True) ?hr ?hp (fun _ hk => hk) trivial (Below.refl _ _) (Nat.le_refl _) (by simp) ?_; (case hd => rfl); (case hg => rfl); (case hr => first | (go_simp; done) | (go_simp; rfl)); (case hp => exact (Reps.c5 (show Kd.M k63 _ _ _ (⟨(⟨t185, t186, t187, t188⟩ : S23), 7⟩ : S63) [.string t185, .int .i64 t186, .int .i64 t187, .int .i64 t188, .int .i64 7] from (k63_mkM _ _ _ (⟨(⟨t185, t186, t187, t188⟩ : S23), 7⟩ : S63) )) (Reps.c5 (show Kd.M k63 _ _ _ (⟨(⟨t189, t190, t191, t192⟩ : S23), 3⟩ : S63) [.string t189, .int .i64 t190, .int .i64 t191, .int .i64 t192, .int .i64 3] from (k63_mkM _ _ _ (⟨(⟨t189, t190, t191, t192⟩ : S23), 3⟩ : S63) )) (Reps.none _ _))))
                        intro v218 w32 ho33 hb hg_ hnew_
                        clear hg_ hnew_
                        (first | rw [← Ny217.out] at ho33 | (simp only [Int.reduceToNat] at ho33; rw [← Ny217.out] at ho33))
                        have n0_ := Aside0.mk (Kd.R_lower ho33 (below_size (by repeat (first | (with_reducible first | exact HB.out | apply below_alloc | apply pw_below_drewN | apply below_drew1 | refine below_set ?_ GE193.out | refine below_set ?_ GE194.out) | exact HB.out))))
                        have n1_ := Aside0.mk (blk_below (g := gb193) (o := .cells #[.string t185, .int .i64 t186, .int .i64 t187, .int .i64 t188] 23 (0, 0)) (by (with_reducible repeat (first | refine blk_drewN ?_ _ | refine blk_drew ?_ | refine blk_alloc ?_ _)); exact BK193.out) hb)
                        have n2_ := Aside0.mk (blk_below (g := gb194) (o := .cells #[.string t189, .int .i64 t190, .int .i64 t191, .int .i64 t192] 23 (0, 0)) (by (with_reducible repeat (first | refine blk_drewN ?_ _ | refine blk_drew ?_ | refine blk_alloc ?_ _)); exact BK194.out) hb)
                        have n3_ := Aside0.mk (below_step (by repeat (first | (with_reducible first | exact HB.out | apply below_alloc | apply pw_below_drewN | apply below_drew1 | refine below_set ?_ GE193.out | refine below_set ?_ GE194.out) | exact HB.out)) hb)
                        have z_HO213 := fun (h0_ : b 1 = true) => (show Kd.R k29 29 w32 w.heap.size (fun _ => True) v212 y211 from by first | exact (Kd.R_below (by (with_reducible repeat (first | apply Kd.R_alloc | apply Kd.R_drewN | apply Kd.R_drew)); exact (Q_HO213 h0_)) hb) | exact Kd.R_mono (Kd.R_below (by (with_reducible repeat (first | apply Kd.R_alloc | apply Kd.R_drewN | apply Kd.R_drew)); exact (Q_HO213 h0_)) hb) (fun _ h_ => by first | trivial | exact h_ | exact h_.1))
                        have z_HO216 := fun (h0_ : b 6 = true) => (show Kd.R k57 57 w32 w.heap.size (fun _ => True) v215 y214 from by first | exact (Kd.R_below (by (with_reducible repeat (first | apply Kd.R_alloc | apply Kd.R_drewN | apply Kd.R_drew)); exact (Q_HO216 h0_)) hb) | exact Kd.R_mono (Kd.R_below (by (with_reducible repeat (first | apply Kd.R_alloc | apply Kd.R_drewN | apply Kd.R_drew)); exact (Q_HO216 h0_)) hb) (fun _ h_ => by first | trivial | exact h_ | exact h_.1))
                        clear BK193
                        clear BK194
                        clear HB
                        have HO219 := n0_
                        have BK193 := n1_
                        have BK194 := n2_
                        have HB := n3_
                        clear n0_ n1_ n2_ n3_
                        clear hb ho33
                        refine hK.out _ _ ⟨v212, v215, v218, v222, m12_, m13_, m14_, m16_, (by rw [ha.out]; exact putSel_upk 11 hb_ rfl rfl rfl), (by (with_reducible repeat (first | refine blk_drewN ?_ _ | refine blk_drew ?_ | refine blk_alloc ?_ _)); exact BK193.out), (by (with_reducible repeat (first | refine blk_drewN ?_ _ | refine blk_drew ?_ | refine blk_alloc ?_ _)); exact BK194.out), (by repeat (first | (with_reducible first | exact HB.out | apply below_alloc | apply pw_below_drewN | apply below_drew1 | refine below_set ?_ GE193.out | refine below_set ?_ GE194.out) | exact HB.out)), z_HO213, z_HO216, fun _ => (by (with_reducible repeat (first | apply Kd.R_alloc | apply Kd.R_drewN | apply Kd.R_drew)); exact HO219.out), fun h0_ => absurd ((hoff 12 (by kernel_rfl)).symm.trans h0_) (by decide), fun h0_ => absurd ((hoff 12 (by kernel_rfl)).symm.trans h0_) (by decide), fun h0_ => absurd ((hoff 13 (by kernel_rfl)).symm.trans h0_) (by decide), fun h0_ => absurd ((hoff 14 (by kernel_rfl)).symm.trans h0_) (by decide), fun h0_ => absurd ((hoff 16 (by kernel_rfl)).symm.trans h0_) (by decide)⟩
                      refine steps_cons ?_ ?_
                      · rintro b a w' ⟨v212, v215, v218, v222, m12_, m13_, m14_, m16_, ha, Q_BK193, Q_BK194, Q_HB, Q_HO213, Q_HO216, Q_HO219, Q_HO223, Q_X12_, Q_X13_, Q_X14_, Q_X16_⟩ hb_ hon hoff
                        refine ⟨_, rfl, fun K hK => ?_⟩
                        have e18 : a.tmps[18]? = some (v212) := by rw [ha]; exact putSel_on (e := (1, 18, v212)) 1 rfl rfl (hon 1 (by kernel_rfl)) rfl
                        have e23 : a.tmps[23]? = some (v215) := by rw [ha]; exact putSel_on (e := (6, 23, v215)) 6 rfl rfl (hon 6 (by kernel_rfl)) rfl
                        have e28 : a.tmps[28]? = some (v218) := by rw [ha]; exact putSel_on (e := (11, 28, v218)) 11 rfl rfl (hon 11 (by kernel_rfl)) rfl
                        replace ha := Aside0.mk ha
                        have BK193 := Aside0.mk Q_BK193
                        have BK194 := Aside0.mk Q_BK194
                        have HB := Aside0.mk Q_HB
                        have HO213 := Aside0.mk (Q_HO213 (hon 1 (by kernel_rfl)))
                        have HO216 := Aside0.mk (Q_HO216 (hon 6 (by kernel_rfl)))
                        have HO219 := Aside0.mk (Q_HO219 (hon 11 (by kernel_rfl)))
                        obtain ⟨Ao40, co40, eo40⟩ := Kd.R_slice HO213.out
                        (first | subst eo40 | (injection eo40 with f1_ f2_ f3_; have f4_ := f1_.symm; have f5_ := f3_.symm; clear f1_ f2_ f3_; subst f4_; subst f5_))
                        obtain ⟨Ao41, co41, eo41⟩ := Kd.R_slice HO216.out
                        (first | subst eo41 | (injection eo41 with f1_ f2_ f3_; have f4_ := f1_.symm; have f5_ := f3_.symm; clear f1_ f2_ f3_; subst f4_; subst f5_))
                        obtain ⟨Ao42, co42, eo42⟩ := Kd.R_slice HO219.out
                        (first | subst eo42 | (injection eo42 with f1_ f2_ f3_; have f4_ := f1_.symm; have f5_ := f3_.symm; clear f1_ f2_ f3_; subst f4_; subst f5_))
                        refine goes_ Try.func19 (by kernel_rfl) rfl #[.slice Ao40 y211.length co40, .slice Ao41 y214.length co41, .slice Ao42 y217.length co42] (by rfl) rfl rfl (by first | (simp only [List.map_toArray, List.map_cons, List.map_nil, Act.eval, Array.getD_eq_getD_getElem?, Option.getD_some, e18, e23, e28]; done) | (simp only [List.map_toArray, List.map_cons, List.map_nil, Act.eval, Array.getD_eq_getD_getElem?, Option.getD_some, e18, e23, e28]; rfl)) ?_
                        with_reducible refine (option_Net.calls k _ _ y211 _ _ y214 _ _ y217 t220 t221 _ ?side1 ?side2 ?side3 ?side4 ?side5 ?side6 A6.out).mono ?_
                        (case side1 => repeat (first | exact (Kd.R_reads' HO213.out).2.2 | (with_reducible refine Kd.C_alloc ?_ _) | (with_reducible refine Kd.C_drewN ?_ _) | (with_reducible refine Kd.C_drew ?_)))
                        (case side2 => exact (Kd.R_reads' HO213.out).2.1)
                        (case side3 => repeat (first | exact (Kd.R_reads' HO216.out).2.2 | (with_reducible refine Kd.C_alloc ?_ _) | (with_reducible refine Kd.C_drewN ?_ _) | (with_reducible refine Kd.C_drew ?_)))
                        (case side4 => exact (Kd.R_reads' HO216.out).2.1)
                        (case side5 => repeat (first | exact (Kd.R_reads' HO219.out).2.2 | (with_reducible refine Kd.C_alloc ?_ _) | (with_reducible refine Kd.C_drewN ?_ _) | (with_reducible refine Kd.C_drew ?_)))
                        (case side6 => exact (Kd.R_reads' HO219.out).2.1)
                        rintro e w43 ⟨v222, rfl, ho0, hb⟩
                        refine ⟨_, rfl, ?_⟩
                        have n0_ := Aside0.mk (Kd.R_below (by (with_reducible repeat (first | apply Kd.R_alloc | apply Kd.R_drewN | apply Kd.R_drew)); exact HO213.out) hb)
                        have n1_ := Aside0.mk (Kd.R_below (by (with_reducible repeat (first | apply Kd.R_alloc | apply Kd.R_drewN | apply Kd.R_drew)); exact HO216.out) hb)
                        have n2_ := Aside0.mk (Kd.R_below (by (with_reducible repeat (first | apply Kd.R_alloc | apply Kd.R_drewN | apply Kd.R_drew)); exact HO219.out) hb)
                        have n3_ := Aside0.mk (Kd.R_lower ho0 (below_size (by repeat (first | (with_reducible first | exact HB.out | apply below_alloc | apply pw_below_drewN | apply below_drew1 | refine below_set ?_ GE193.out | refine below_set ?_ GE194.out) | exact HB.out))))
                        have n4_ := Aside0.mk (blk_below (g := gb193) (o := .cells #[.string t185, .int .i64 t186, .int .i64 t187, .int .i64 t188] 23 (0, 0)) (by (with_reducible repeat (first | refine blk_drewN ?_ _ | refine blk_drew ?_ | refine blk_alloc ?_ _)); exact BK193.out) hb)
                        have n5_ := Aside0.mk (blk_below (g := gb194) (o := .cells #[.string t189, .int .i64 t190, .int .i64 t191, .int .i64 t192] 23 (0, 0)) (by (with_reducible repeat (first | refine blk_drewN ?_ _ | refine blk_drew ?_ | refine blk_alloc ?_ _)); exact BK194.out) hb)
                        have n6_ := Aside0.mk (below_step (by repeat (first | (with_reducible first | exact HB.out | apply below_alloc | apply pw_below_drewN | apply below_drew1 | refine below_set ?_ GE193.out | refine below_set ?_ GE194.out) | exact HB.out)) hb)
                        clear HO213
                        clear HO216
                        clear HO219
                        clear BK193
                        clear BK194
                        clear HB
                        have HO213 := n0_
                        have HO216 := n1_
                        have HO219 := n2_
                        have HO223 := n3_
                        have BK193 := n4_
                        have BK194 := n5_
                        have HB := n6_
                        clear n0_ n1_ n2_ n3_ n4_ n5_ n6_
                        (try clear hb)
                        (try clear hb2)
                        (try clear hk)
                        (try clear hi)
                        (try clear ho0)
                        refine hK.out _ _ ⟨.slice Ao40 y211.length co40, .slice Ao41 y214.length co41, .slice Ao42 y217.length co42, v222, (.tuple #[v222, .int .i64 t221]), m13_, m14_, m16_, (by rw [ha.out]; exact putSel_upk 12 hb_ rfl rfl rfl), (by (with_reducible repeat (first | refine blk_drewN ?_ _ | refine blk_drew ?_ | refine blk_alloc ?_ _)); exact BK193.out), (by (with_reducible repeat (first | refine blk_drewN ?_ _ | refine blk_drew ?_ | refine blk_alloc ?_ _)); exact BK194.out), (by repeat (first | (with_reducible first | exact HB.out | apply below_alloc | apply pw_below_drewN | apply below_drew1 | refine below_set ?_ GE193.out | refine below_set ?_ GE194.out) | exact HB.out)), fun _ => (by (with_reducible repeat (first | apply Kd.R_alloc | apply Kd.R_drewN | apply Kd.R_drew)); exact HO213.out), fun _ => (by (with_reducible repeat (first | apply Kd.R_alloc | apply Kd.R_drewN | apply Kd.R_drew)); exact HO216.out), fun _ => (by (with_reducible repeat (first | apply Kd.R_alloc | apply Kd.R_drewN | apply Kd.R_drew)); exact HO219.out), fun _ => (by (with_reducible repeat (first | apply Kd.R_alloc | apply Kd.R_drewN | apply Kd.R_drew)); exact HO223.out), fun _ => rfl, fun h0_ => absurd ((hoff 13 (by kernel_rfl)).symm.trans h0_) (by decide), fun h0_ => absurd ((hoff 14 (by kernel_rfl)).symm.trans h0_) (by decide), fun h0_ => absurd ((hoff 16 (by kernel_rfl)).symm.trans h0_) (by decide)⟩
                      refine steps_cons ?_ ?_
                      · rintro b a w' ⟨v212, v215, v218, v222, m12_, m13_, m14_, m16_, ha, Q_BK193, Q_BK194, Q_HB, Q_HO213, Q_HO216, Q_HO219, Q_HO223, Q_X12_, Q_X13_, Q_X14_, Q_X16_⟩ hb_ hon hoff
                        refine ⟨_, rfl, fun K hK => ?_⟩
                        have e29 : a.tmps[29]? = some (m12_) := by rw [ha]; exact putSel_on (e := (12, 29, m12_)) 12 rfl rfl (hon 12 (by kernel_rfl)) rfl
                        rw [Q_X12_ (hon 12 (by kernel_rfl))] at e29
                        replace ha := Aside0.mk ha
                        have BK193 := Aside0.mk Q_BK193
                        have BK194 := Aside0.mk Q_BK194
                        have HB := Aside0.mk Q_HB
                        have HO213 := Aside0.mk (Q_HO213 (hon 1 (by kernel_rfl)))
                        have HO216 := Aside0.mk (Q_HO216 (hon 6 (by kernel_rfl)))
                        have HO219 := Aside0.mk (Q_HO219 (hon 11 (by kernel_rfl)))
                        have HO223 := Aside0.mk (Q_HO223 (hon 12 (by kernel_rfl)))
                        refine value_ (w1 := w') (v := .tuple #[v222, .int .i64 t221]) (by rfl) rfl ?_ ?_
                        · go_simp
                          (try simp only [i64_w])
                          try rfl
                        refine hK.out _ _ ⟨v212, v215, v218, v222, m12_, (.tuple #[v222, .int .i64 t221]), m14_, m16_, (by rw [ha.out]; exact putSel_upk 13 hb_ rfl rfl rfl), Q_BK193, Q_BK194, Q_HB, Q_HO213, Q_HO216, Q_HO219, Q_HO223, Q_X12_, fun _ => rfl, fun h0_ => absurd ((hoff 14 (by kernel_rfl)).symm.trans h0_) (by decide), fun h0_ => absurd ((hoff 16 (by kernel_rfl)).symm.trans h0_) (by decide)⟩
                      refine steps_cons ?_ ?_
                      · rintro b a w' ⟨v212, v215, v218, v222, m12_, m13_, m14_, m16_, ha, Q_BK193, Q_BK194, Q_HB, Q_HO213, Q_HO216, Q_HO219, Q_HO223, Q_X12_, Q_X13_, Q_X14_, Q_X16_⟩ hb_ hon hoff
                        refine ⟨_, rfl, fun K hK => ?_⟩
                        have e16 : a.tmps[16]? = some (m13_) := by rw [ha]; exact putSel_on (e := (13, 16, m13_)) 13 rfl rfl (hon 13 (by kernel_rfl)) rfl
                        rw [Q_X13_ (hon 13 (by kernel_rfl))] at e16
                        replace ha := Aside0.mk ha
                        have BK193 := Aside0.mk Q_BK193
                        have BK194 := Aside0.mk Q_BK194
                        have HB := Aside0.mk Q_HB
                        have HO213 := Aside0.mk (Q_HO213 (hon 1 (by kernel_rfl)))
                        have HO216 := Aside0.mk (Q_HO216 (hon 6 (by kernel_rfl)))
                        have HO219 := Aside0.mk (Q_HO219 (hon 11 (by kernel_rfl)))
                        have HO223 := Aside0.mk (Q_HO223 (hon 12 (by kernel_rfl)))
                        obtain ⟨Ao14_0, co14_0, eo_⟩ := Kd.R_slice HO223.out
                        subst eo_
                        refine value_ (w1 := w') (v := .slice Ao14_0 t220.length co14_0) (by rfl) rfl ?_ ?_
                        · go_simp
                          (try simp only [i64_w])
                          try rfl
                        refine hK.out _ _ ⟨v212, v215, v218, .slice Ao14_0 t220.length co14_0, m12_, m13_, (.slice Ao14_0 t220.length co14_0), m16_, (by rw [ha.out]; exact putSel_upk 14 hb_ rfl rfl rfl), Q_BK193, Q_BK194, Q_HB, Q_HO213, Q_HO216, Q_HO219, Q_HO223, Q_X12_, Q_X13_, fun _ => rfl, fun h0_ => absurd ((hoff 16 (by kernel_rfl)).symm.trans h0_) (by decide)⟩
                      refine steps_cons ?_ ?_
                      · rintro b a w' ⟨v212, v215, v218, v222, m12_, m13_, m14_, m16_, ha, Q_BK193, Q_BK194, Q_HB, Q_HO213, Q_HO216, Q_HO219, Q_HO223, Q_X12_, Q_X13_, Q_X14_, Q_X16_⟩ hb_ hon hoff
                        refine ⟨_, rfl, fun K hK => ?_⟩
                        have e16 : a.tmps[16]? = some (m13_) := by rw [ha]; exact putSel_on (e := (13, 16, m13_)) 13 rfl rfl (hon 13 (by kernel_rfl)) rfl
                        rw [Q_X13_ (hon 13 (by kernel_rfl))] at e16
                        replace ha := Aside0.mk ha
                        have BK193 := Aside0.mk Q_BK193
                        have BK194 := Aside0.mk Q_BK194
                        have HB := Aside0.mk Q_HB
                        have HO213 := Aside0.mk (Q_HO213 (hon 1 (by kernel_rfl)))
                        have HO216 := Aside0.mk (Q_HO216 (hon 6 (by kernel_rfl)))
                        have HO219 := Aside0.mk (Q_HO219 (hon 11 (by kernel_rfl)))
                        have HO223 := Aside0.mk (Q_HO223 (hon 12 (by kernel_rfl)))
                        obtain ⟨Ao15_0, co15_0, eo_⟩ := Kd.R_slice HO223.out
                        subst eo_
                        refine value_ (w1 := w') (v := .int .i64 t221) (by rfl) rfl ?_ ?_
                        · go_simp
                          (try simp only [i64_w])
                          try rfl
                        refine hK.out _ _ ⟨v212, v215, v218, .slice Ao15_0 t220.length co15_0, m12_, m13_, m14_, m16_, (by rw [ha.out]; exact putSel_upk 15 hb_ rfl rfl rfl), Q_BK193, Q_BK194, Q_HB, Q_HO213, Q_HO216, Q_HO219, Q_HO223, Q_X12_, Q_X13_, Q_X14_, Q_X16_⟩
                      refine steps_cons ?_ ?_
                      · rintro b a w' ⟨v212, v215, v218, v222, m12_, m13_, m14_, m16_, ha, Q_BK193, Q_BK194, Q_HB, Q_HO213, Q_HO216, Q_HO219, Q_HO223, Q_X12_, Q_X13_, Q_X14_, Q_X16_⟩ hb_ hon hoff
                        refine ⟨_, rfl, fun K hK => ?_⟩
                        have e30 : a.tmps[30]? = some (m14_) := by rw [ha]; exact putSel_on (e := (14, 30, m14_)) 14 rfl rfl (hon 14 (by kernel_rfl)) rfl
                        rw [Q_X14_ (hon 14 (by kernel_rfl))] at e30
                        replace ha := Aside0.mk ha
                        have BK193 := Aside0.mk Q_BK193
                        have BK194 := Aside0.mk Q_BK194
                        have HB := Aside0.mk Q_HB
                        have HO213 := Aside0.mk (Q_HO213 (hon 1 (by kernel_rfl)))
                        have HO216 := Aside0.mk (Q_HO216 (hon 6 (by kernel_rfl)))
                        have HO219 := Aside0.mk (Q_HO219 (hon 11 (by kernel_rfl)))
                        have HO223 := Aside0.mk (Q_HO223 (hon 12 (by kernel_rfl)))
                        refine value_ (w1 := w') (v := v222) (by rfl) rfl ?_ ?_
                        · go_simp
                          (try simp only [i64_w])
                          try rfl
                        refine hK.out _ _ ⟨v212, v215, v218, v222, m12_, m13_, m14_, (v222), (by rw [ha.out]; exact putSel_upk 16 hb_ rfl rfl rfl), Q_BK193, Q_BK194, Q_HB, Q_HO213, Q_HO216, Q_HO219, Q_HO223, Q_X12_, Q_X13_, Q_X14_, fun _ => rfl⟩
                      refine steps_cons ?_ ?_
                      · rintro b a w' ⟨v212, v215, v218, v222, m12_, m13_, m14_, m16_, ha, Q_BK193, Q_BK194, Q_HB, Q_HO213, Q_HO216, Q_HO219, Q_HO223, Q_X12_, Q_X13_, Q_X14_, Q_X16_⟩ hb_ hon hoff
                        refine ⟨_, rfl, fun K hK => ?_⟩
                        have e31 : a.tmps[31]? = some (.int .i64 t221) := by rw [ha]; exact putSel_on (e := (15, 31, .int .i64 t221)) 15 rfl rfl (hon 15 (by kernel_rfl)) rfl
                        replace ha := Aside0.mk ha
                        have BK193 := Aside0.mk Q_BK193
                        have BK194 := Aside0.mk Q_BK194
                        have HB := Aside0.mk Q_HB
                        have HO213 := Aside0.mk (Q_HO213 (hon 1 (by kernel_rfl)))
                        have HO216 := Aside0.mk (Q_HO216 (hon 6 (by kernel_rfl)))
                        have HO219 := Aside0.mk (Q_HO219 (hon 11 (by kernel_rfl)))
                        have HO223 := Aside0.mk (Q_HO223 (hon 12 (by kernel_rfl)))
                        refine value_ (w1 := w') (v := .int .i64 t221) (by rfl) rfl ?_ ?_
                        · go_simp
                          (try simp only [i64_w])
                          try rfl
                        refine hK.out _ _ ⟨v212, v215, v218, v222, m12_, m13_, m14_, m16_, (by rw [ha.out]; exact putSel_upk 17 hb_ rfl rfl rfl), Q_BK193, Q_BK194, Q_HB, Q_HO213, Q_HO216, Q_HO219, Q_HO223, Q_X12_, Q_X13_, Q_X14_, Q_X16_⟩
                      exact steps_nil
                    rintro b a w43 hall ⟨v212, v215, v218, v222, m12_, m13_, m14_, m16_, ha, Q_BK193, Q_BK194, Q_HB, Q_HO213, Q_HO216, Q_HO219, Q_HO223, Q_X12_, Q_X13_, Q_X14_, Q_X16_⟩
                    clear BK193 BK194 HB
                    have hb0_ := hall 0 (by kernel_rfl)
                    have hb1_ := hall 1 (by kernel_rfl)
                    have hb2_ := hall 2 (by kernel_rfl)
                    have hb3_ := hall 3 (by kernel_rfl)
                    have hb4_ := hall 4 (by kernel_rfl)
                    have hb5_ := hall 5 (by kernel_rfl)
                    have hb6_ := hall 6 (by kernel_rfl)
                    have hb7_ := hall 7 (by kernel_rfl)
                    have hb8_ := hall 8 (by kernel_rfl)
                    have hb9_ := hall 9 (by kernel_rfl)
                    have hb10_ := hall 10 (by kernel_rfl)
                    have hb11_ := hall 11 (by kernel_rfl)
                    have hb12_ := hall 12 (by kernel_rfl)
                    have hb13_ := hall 13 (by kernel_rfl)
                    have hb14_ := hall 14 (by kernel_rfl)
                    have hb15_ := hall 15 (by kernel_rfl)
                    have hb16_ := hall 16 (by kernel_rfl)
                    have hb17_ := hall 17 (by kernel_rfl)
                    subst ha
                    obtain rfl := Q_X12_ hb12_
                    obtain rfl := Q_X13_ hb13_
                    obtain rfl := Q_X14_ hb14_
                    obtain rfl := Q_X16_ hb16_
                    simp only [putSel, hb0_, hb1_, hb2_, hb3_, hb4_, hb5_, hb6_, hb7_, hb8_, hb9_, hb10_, hb11_, hb12_, hb13_, hb14_, hb15_, hb16_, hb17_, if_true, Act.put, List.setIfInBounds_toArray, List.set_cons_zero, List.set_cons_succ]
                    have BK193 := Aside0.mk Q_BK193
                    clear Q_BK193
                    have BK194 := Aside0.mk Q_BK194
                    clear Q_BK194
                    have HB := Aside0.mk Q_HB
                    clear Q_HB
                    have HO213 := Aside0.mk (Q_HO213 hb1_)
                    clear Q_HO213
                    have HO216 := Aside0.mk (Q_HO216 hb6_)
                    clear Q_HO216
                    have HO219 := Aside0.mk (Q_HO219 hb11_)
                    clear Q_HO219
                    have HO223 := Aside0.mk (Q_HO223 hb12_)
                    clear Q_HO223
                    clear hall hb0_ hb1_ hb2_ hb3_ hb4_ hb5_ hb6_ hb7_ hb8_ hb9_ hb10_ hb11_ hb12_ hb13_ hb14_ hb15_ hb16_ hb17_
                    have hcz44_0 : w43.cell? ⟨gb193, 0, none⟩ = some (.string t185) := (blk_cell BK193.out 0).trans rfl
                    have hcz44_1 : w43.cell? ⟨gb193, 1, none⟩ = some (.int .i64 t186) := (blk_cell BK193.out 1).trans rfl
                    have hcz44_2 : w43.cell? ⟨gb193, 2, none⟩ = some (.int .i64 t187) := (blk_cell BK193.out 2).trans rfl
                    have hcz44_3 : w43.cell? ⟨gb193, 3, none⟩ = some (.int .i64 t188) := (blk_cell BK193.out 3).trans rfl
                    have hfz44_0 := blk_frozen BK193.out 0
                    have hfz44_1 := blk_frozen BK193.out 1
                    have hfz44_2 := blk_frozen BK193.out 2
                    have hfz44_3 := blk_frozen BK193.out 3
                    try go_wp2_with (first | ((with_reducible refine gate_callee (f := 8) rfl ?_); refine goesL_ (some 33) rfl rfl Try.func8 (by kernel_rfl) rfl #[.agg #[.string t185, .int .i64 t186, .int .i64 t187, .int .i64 t188], .int .i64 60] rfl (by (try simp only [List.map_toArray, List.map_cons, List.map_nil]); first | done | rfl | (simp only [List.length_drop, List.length_take]; rfl)) ?_; (with_reducible refine (option_Intrinsic.calls k t185 t186 t187 t188 60 t224 _ A7.out).mono ?_); rintro e w45 ⟨rfl, hb⟩; refine ⟨_, rfl, ?_⟩; have n0_ := Aside0.mk (Kd.R_below (by (with_reducible repeat (first | apply Kd.R_alloc | apply Kd.R_drewN | apply Kd.R_drew)); exact HO213.out) hb); have n1_ := Aside0.mk (Kd.R_below (by (with_reducible repeat (first | apply Kd.R_alloc | apply Kd.R_drewN | apply Kd.R_drew)); exact HO216.out) hb); have n2_ := Aside0.mk (Kd.R_below (by (with_reducible repeat (first | apply Kd.R_alloc | apply Kd.R_drewN | apply Kd.R_drew)); exact HO219.out) hb); have n3_ := Aside0.mk (Kd.R_below (by (with_reducible repeat (first | apply Kd.R_alloc | apply Kd.R_drewN | apply Kd.R_drew)); exact HO223.out) hb); have n4_ := Aside0.mk (blk_below (g := gb193) (o := .cells #[.string t185, .int .i64 t186, .int .i64 t187, .int .i64 t188] 23 (0, 0)) (by (with_reducible repeat (first | refine blk_drewN ?_ _ | refine blk_drew ?_ | refine blk_alloc ?_ _)); exact BK193.out) hb); have n5_ := Aside0.mk (blk_below (g := gb194) (o := .cells #[.string t189, .int .i64 t190, .int .i64 t191, .int .i64 t192] 23 (0, 0)) (by (with_reducible repeat (first | refine blk_drewN ?_ _ | refine blk_drew ?_ | refine blk_alloc ?_ _)); exact BK194.out) hb); have n6_ := Aside0.mk (below_step (by repeat (first | (with_reducible first | exact HB.out | apply below_alloc | apply pw_below_drewN | apply below_drew1 | refine below_set ?_ GE193.out | refine below_set ?_ GE194.out) | exact HB.out)) hb); clear HO213; clear HO216; clear HO219; clear HO223; clear BK193; clear BK194; clear HB; have HO213 := n0_; have HO216 := n1_; have HO219 := n2_; have HO223 := n3_; have BK193 := n4_; have BK194 := n5_; have HB := n6_; clear n0_ n1_ n2_ n3_ n4_ n5_ n6_; (try clear hb); (try clear hb2); (try clear hk); (try clear hi); have hcz46_0 : w45.cell? ⟨gb194, 0, none⟩ = some (.string t189) := (blk_cell BK194.out 0).trans rfl; have hcz46_1 : w45.cell? ⟨gb194, 1, none⟩ = some (.int .i64 t190) := (blk_cell BK194.out 1).trans rfl; have hcz46_2 : w45.cell? ⟨gb194, 2, none⟩ = some (.int .i64 t191) := (blk_cell BK194.out 2).trans rfl; have hcz46_3 : w45.cell? ⟨gb194, 3, none⟩ = some (.int .i64 t192) := (blk_cell BK194.out 3).trans rfl; have hfz46_0 := blk_frozen BK194.out 0; have hfz46_1 := blk_frozen BK194.out 1; have hfz46_2 := blk_frozen BK194.out 2; have hfz46_3 := blk_frozen BK194.out 3) | (go_at_call 8; (with_reducible refine (option_Intrinsic.calls k t189 t190 t191 t192 60 t225 _ A9.out).mono ?_); rintro e w47 ⟨rfl, hb⟩; have n0_ := Aside0.mk (Kd.R_below (by (with_reducible repeat (first | apply Kd.R_alloc | apply Kd.R_drewN | apply Kd.R_drew)); exact HO213.out) hb); have n1_ := Aside0.mk (Kd.R_below (by (with_reducible repeat (first | apply Kd.R_alloc | apply Kd.R_drewN | apply Kd.R_drew)); exact HO216.out) hb); have n2_ := Aside0.mk (Kd.R_below (by (with_reducible repeat (first | apply Kd.R_alloc | apply Kd.R_drewN | apply Kd.R_drew)); exact HO219.out) hb); have n3_ := Aside0.mk (Kd.R_below (by (with_reducible repeat (first | apply Kd.R_alloc | apply Kd.R_drewN | apply Kd.R_drew)); exact HO223.out) hb); have n4_ := Aside0.mk (blk_below (g := gb193) (o := .cells #[.string t185, .int .i64 t186, .int .i64 t187, .int .i64 t188] 23 (0, 0)) (by (with_reducible repeat (first | refine blk_drewN ?_ _ | refine blk_drew ?_ | refine blk_alloc ?_ _)); exact BK193.out) hb); have n5_ := Aside0.mk (blk_below (g := gb194) (o := .cells #[.string t189, .int .i64 t190, .int .i64 t191, .int .i64 t192] 23 (0, 0)) (by (with_reducible repeat (first | refine blk_drewN ?_ _ | refine blk_drew ?_ | refine blk_alloc ?_ _)); exact BK194.out) hb); have n6_ := Aside0.mk (below_step (by repeat (first | (with_reducible first | exact HB.out | apply below_alloc | apply pw_below_drewN | apply below_drew1 | refine below_set ?_ GE193.out | refine below_set ?_ GE194.out) | exact HB.out)) hb); clear HO213; clear HO216; clear HO219; clear HO223; clear BK193; clear BK194; clear HB; have HO213 := n0_; have HO216 := n1_; have HO219 := n2_; have HO223 := n3_; have BK193 := n4_; have BK194 := n5_; have HB := n6_; clear n0_ n1_ n2_ n3_ n4_ n5_ n6_; (try clear hb); (try clear hb2); (try clear hk); (try clear hi); have hcz48_0 : w47.cell? ⟨gb194, 0, none⟩ = some (.string t189) := (blk_cell BK194.out 0).trans rfl; have hcz48_1 : w47.cell? ⟨gb194, 1, none⟩ = some (.int .i64 t190) := (blk_cell BK194.out 1).trans rfl; have hcz48_2 : w47.cell? ⟨gb194, 2, none⟩ = some (.int .i64 t191) := (blk_cell BK194.out 2).trans rfl; have hcz48_3 : w47.cell? ⟨gb194, 3, none⟩ = some (.int .i64 t192) := (blk_cell BK194.out 3).trans rfl; have hfz48_0 := blk_frozen BK194.out 0; have hfz48_1 := blk_frozen BK194.out 1; have hfz48_2 := blk_frozen BK194.out 2; have hfz48_3 := blk_frozen BK194.out 3) | (go_at_call 8; (with_reducible refine (option_Intrinsic.calls k t189 t190 t191 t192 40 t226 _ A11.out).mono ?_); rintro e w49 ⟨rfl, hb⟩; have n0_ := Aside0.mk (Kd.R_below (by (with_reducible repeat (first | apply Kd.R_alloc | apply Kd.R_drewN | apply Kd.R_drew)); exact HO213.out) hb); have n1_ := Aside0.mk (Kd.R_below (by (with_reducible repeat (first | apply Kd.R_alloc | apply Kd.R_drewN | apply Kd.R_drew)); exact HO216.out) hb); have n2_ := Aside0.mk (Kd.R_below (by (with_reducible repeat (first | apply Kd.R_alloc | apply Kd.R_drewN | apply Kd.R_drew)); exact HO219.out) hb); have n3_ := Aside0.mk (Kd.R_below (by (with_reducible repeat (first | apply Kd.R_alloc | apply Kd.R_drewN | apply Kd.R_drew)); exact HO223.out) hb); have n4_ := Aside0.mk (blk_below (g := gb193) (o := .cells #[.string t185, .int .i64 t186, .int .i64 t187, .int .i64 t188] 23 (0, 0)) (by (with_reducible repeat (first | refine blk_drewN ?_ _ | refine blk_drew ?_ | refine blk_alloc ?_ _)); exact BK193.out) hb); have n5_ := Aside0.mk (blk_below (g := gb194) (o := .cells #[.string t189, .int .i64 t190, .int .i64 t191, .int .i64 t192] 23 (0, 0)) (by (with_reducible repeat (first | refine blk_drewN ?_ _ | refine blk_drew ?_ | refine blk_alloc ?_ _)); exact BK194.out) hb); have n6_ := Aside0.mk (below_step (by repeat (first | (with_reducible first | exact HB.out | apply below_alloc | apply pw_below_drewN | apply below_drew1 | refine below_set ?_ GE193.out | refine below_set ?_ GE194.out) | exact HB.out)) hb); clear HO213; clear HO216; clear HO219; clear HO223; clear BK193; clear BK194; clear HB; have HO213 := n0_; have HO216 := n1_; have HO219 := n2_; have HO223 := n3_; have BK193 := n4_; have BK194 := n5_; have HB := n6_; clear n0_ n1_ n2_ n3_ n4_ n5_ n6_; (try clear hb); (try clear hb2); (try clear hk); (try clear hi); have hcz50_0 : w49.cell? ⟨gb193, 0, none⟩ = some (.string t185) := (blk_cell BK193.out 0).trans rfl; have hcz50_1 : w49.cell? ⟨gb193, 1, none⟩ = some (.int .i64 t186) := (blk_cell BK193.out 1).trans rfl; have hcz50_2 : w49.cell? ⟨gb193, 2, none⟩ = some (.int .i64 t187) := (blk_cell BK193.out 2).trans rfl; have hcz50_3 : w49.cell? ⟨gb193, 3, none⟩ = some (.int .i64 t188) := (blk_cell BK193.out 3).trans rfl; have hfz50_0 := blk_frozen BK193.out 0; have hfz50_1 := blk_frozen BK193.out 1; have hfz50_2 := blk_frozen BK193.out 2; have hfz50_3 := blk_frozen BK193.out 3) | (go_at_call 10; (with_reducible refine (option_Ends.calls k t185 t186 t187 t188 50 false _ A13.out).mono ?_); rintro e w51 ⟨rfl, hb⟩; have n0_ := Aside0.mk (Kd.R_below (by (with_reducible repeat (first | apply Kd.R_alloc | apply Kd.R_drewN | apply Kd.R_drew)); exact HO213.out) hb); have n1_ := Aside0.mk (Kd.R_below (by (with_reducible repeat (first | apply Kd.R_alloc | apply Kd.R_drewN | apply Kd.R_drew)); exact HO216.out) hb); have n2_ := Aside0.mk (Kd.R_below (by (with_reducible repeat (first | apply Kd.R_alloc | apply Kd.R_drewN | apply Kd.R_drew)); exact HO219.out) hb); have n3_ := Aside0.mk (Kd.R_below (by (with_reducible repeat (first | apply Kd.R_alloc | apply Kd.R_drewN | apply Kd.R_drew)); exact HO223.out) hb); have n4_ := Aside0.mk (blk_below (g := gb193) (o := .cells #[.string t185, .int .i64 t186, .int .i64 t187, .int .i64 t188] 23 (0, 0)) (by (with_reducible repeat (first | refine blk_drewN ?_ _ | refine blk_drew ?_ | refine blk_alloc ?_ _)); exact BK193.out) hb); have n5_ := Aside0.mk (blk_below (g := gb194) (o := .cells #[.string t189, .int .i64 t190, .int .i64 t191, .int .i64 t192] 23 (0, 0)) (by (with_reducible repeat (first | refine blk_drewN ?_ _ | refine blk_drew ?_ | refine blk_alloc ?_ _)); exact BK194.out) hb); have n6_ := Aside0.mk (below_step (by repeat (first | (with_reducible first | exact HB.out | apply below_alloc | apply pw_below_drewN | apply below_drew1 | refine below_set ?_ GE193.out | refine below_set ?_ GE194.out) | exact HB.out)) hb); clear HO213; clear HO216; clear HO219; clear HO223; clear BK193; clear BK194; clear HB; have HO213 := n0_; have HO216 := n1_; have HO219 := n2_; have HO223 := n3_; have BK193 := n4_; have BK194 := n5_; have HB := n6_; clear n0_ n1_ n2_ n3_ n4_ n5_ n6_; (try clear hb); (try clear hb2); (try clear hk); (try clear hi); obtain ⟨Ao52, co52, eo52⟩ := Kd.R_slice HO223.out; subst eo52; have p228 : 0 ≤ (0 : Int) := (by omega); have q228 : 0 < (t220.length : Int) := of_decide_eq_true (by first | (with_reducible assumption) | assumption); obtain ⟨ad228, e228, hx228_0⟩ := Kd.at_int (Kd.R_reads' HO223.out).2.2 0 p228 q228; cases e228; have qi228 : (0 < t220.length) = True := eq_true (by omega); (try rw [show ((0 : Int)).toNat = 0 from rfl] at hx228_0); (try rw [Addr.add_zero'] at hx228_0); replace p228 := eq_true p228; replace q228 := eq_true q228))
                    go_ret
                    exact ⟨by first | rfl | (simp [errW_none, errW_some] <;> rfl) | (simp [*, errW_none, errW_some] <;> rfl), by repeat (first | (with_reducible first | exact HB.out | apply below_alloc | apply pw_below_drewN | apply below_drew1 | refine below_set ?_ GE193.out | refine below_set ?_ GE194.out) | exact HB.out)⟩
                  · rw [if_neg c19] at H
                    exact absurd (H.trans (congrArg some HRT.out)) (by first | simp [] | (simp only []; (repeat' split) <;> simp))
                · rw [if_neg c18] at H
                  exact absurd H (by simp)
              · rw [if_neg c17] at H
                exact absurd (H.trans (congrArg some HRT.out)) (by first | simp [] | (simp only []; (repeat' split) <;> simp))
            · rw [if_neg c16] at H
              exact absurd (H.trans (congrArg some HRT.out)) (by first | simp [] | (simp only []; (repeat' split) <;> simp))
          · rw [if_neg c15] at H
            exact absurd (H.trans (congrArg some HRT.out)) (by first | simp [] | (simp only []; (repeat' split) <;> simp))
      · rw [if_neg c12] at H
        exact absurd (H.trans (congrArg some HRT.out)) (by first | simp [] | (simp only []; (repeat' split) <;> simp))
    · rw [if_neg c10] at H
      exact absurd (H.trans (congrArg some HRT.out)) (by first | simp [] | (simp only []; (repeat' split) <;> simp))
  · rw [if_neg c8] at H
    exact absurd (H.trans (congrArg some HRT.out)) (by first | simp [] | (simp only []; (repeat' split) <;> simp))

end Go.Proofs.Ytjaokhpbdhefhaa.POptionWorths
