-- Written by a program of this session's (a turned copy of the kit's print, with functions proved by hand).
import Derived.Test.YtjaokhpbdhefhaaPOptionParityx0
import Derived.Test.YtjaokhpbdhefhaaPOptionParityx3
import Derived.Test.YtjaokhpbdhefhaaPOptionParityx5
import Derived.Test.YtjaokhpbdhefhaaPOptionParityx9
namespace Go.Proofs.Ytjaokhpbdhefhaa.POptionParity
open Go.RowKit Go.Proofs.YtjaokhpbdhefhaaW.PrintWords Go.Proofs.YtjaokhpbdhefhaaW.PrintLast Go.Proofs.YtjaokhpbdhefhaaW.PrintMore
attribute [local go_sem] max2_int min2_int max_two min_two max_three min_three max_four min_four Go.Proofs.YtjaokhpbdhefhaaHand.run_leq_str Go.Proofs.YtjaokhpbdhefhaaHand.run_gtr_str Go.Proofs.YtjaokhpbdhefhaaHand.run_geq_str   -- for this text's walks alone
set_option linter.unusedVariables false
set_option linter.unusedSimpArgs false

/-! ### contangolaw21_goes: function 14 -/
def contangolaw21_goes.f (k : Nat)  : Option (Bool) := (contangolaw21_of.f 2).bind fun bt175 => ((contangolaw21_of.f 3).bind fun bt179 => ((contangolaw21_oil.f).bind fun bt185 => ((option_Premium.f k bt185.1 bt185.2.1 bt185.2.2.1 bt185.2.2.2.1 bt185.2.2.2.2.1 bt185.2.2.2.2.2.1 bt185.2.2.2.2.2.2 (⟨#[]⟩ : ByteArray) (⟨#[]⟩ : ByteArray) bt175.1 bt175.2.1 bt175.2.2.1 bt175.2.2.2 (-3) 4 0).bind fun bt192 => ((contangolaw21_oil.f).bind fun bt194 => ((option_Net.f k (([(⟨bt194.1, bt194.2.1, bt194.2.2.1, bt194.2.2.2.1, bt194.2.2.2.2.1, bt194.2.2.2.2.2.1, bt194.2.2.2.2.2.2⟩ : S29)] : List (S29))) (([(⟨(⟨bt175.1, bt175.2.1, bt175.2.2.1, bt175.2.2.2⟩ : S23), 2, 0⟩ : S57), (⟨(⟨bt179.1, bt179.2.1, bt179.2.2.1, bt179.2.2.2⟩ : S23), 0, 1⟩ : S57)] : List (S57))) (([(⟨(⟨bt175.1, bt175.2.1, bt175.2.2.1, bt175.2.2.2⟩ : S23), 7⟩ : S63), (⟨(⟨bt179.1, bt179.2.1, bt179.2.2.1, bt179.2.2.2⟩ : S23), 3⟩ : S63)] : List (S63)))).bind fun bt210 => ((option_Intrinsic.f k bt175.1 bt175.2.1 bt175.2.2.1 bt175.2.2.2 60).bind fun t214 => (if t214 = 10 then ((option_Intrinsic.f k bt179.1 bt179.2.1 bt179.2.2.1 bt179.2.2.2 60).bind fun t215 => (if t215 = 0 then ((option_Intrinsic.f k bt179.1 bt179.2.1 bt179.2.2.1 bt179.2.2.2 40).bind fun t216 => (if t216 = 10 then ((option_Ends.f k bt175.1 bt175.2.1 bt175.2.2.1 bt175.2.2.2 50).bind fun t217 => (if t217 = true then (some false) else (if bt192.1 = (-1200) then (if bt192.2 = 0 then (if (bt210.1.length : Int) = 8 then (if 0 < (bt210.1.length : Int) then (if (rd bt210.1 0) = 1100 then (some (bt210.2 == 0)) else (some false)) else (none)) else (some false)) else (some false)) else (some false)))) else (some false))) else (some false))) else (some false))))))))
theorem contangolaw21_goes.mono : ∀ k, LeO (contangolaw21_goes.f k ) (contangolaw21_goes.f (k + 1) ) := by
  intro  k
  unfold contangolaw21_goes.f
  repeat' first
      | (with_reducible exact option_Ends.mono _ _ _ _ _ _)
      | (with_reducible exact option_Intrinsic.mono _ _ _ _ _ _)
      | (with_reducible exact option_Net.mono _ _ _ _)
      | (with_reducible exact option_Premium.mono _ _ _ _ _ _ _ _ _ _ _ _ _ _ _ _ _)
      | (with_reducible exact LeO.refl _)
      | (with_reducible exact LeO.none _)
      | (with_reducible refine LeO.ite ?_ ?_)
      | (with_reducible refine LeO.bind ?_ (fun _ => ?_))
      | exact option_Ends.mono _ _ _ _ _ _
      | exact option_Intrinsic.mono _ _ _ _ _ _
      | exact option_Net.mono _ _ _ _
      | exact option_Premium.mono _ _ _ _ _ _ _ _ _ _ _ _ _ _ _ _ _
      | exact LeO.none _
      | refine LeO.ite ?_ ?_
      | refine LeO.bind ?_ (fun _ => ?_)
theorem contangolaw21_goes.only (k : Nat) (r : Bool) (h : contangolaw21_goes.f k  = some r) : r = true := by
  exact Option.some.inj ((at_rounds (fun k => contangolaw21_goes.mono k) (Nat.le_max_left k 100) h).symm.trans (at_rounds (fun k => contangolaw21_goes.mono k) (Nat.le_max_right k 100) (by decide +kernel : contangolaw21_goes.f 100 = some true)))
def contangolaw21_goes.T2 : Bool × List (List Nat × List Nat) := (true, [([], []), ([], []), ([1], [1]), ([0, 2, 0], [0, 2]), ([3], [3]), ([4], [4]), ([4], [4]), ([5, 3, 0, 1, 2, 3, 4, 5], [5]), ([6, 7, 0, 1, 2, 3, 4, 5, 6, 7], [6])])
def contangolaw21_goes.B2 : List Nat := [0, 0, 2, 7, 15, 31, 31, 63, 255]
theorem contangolaw21_goes.tab2 : rtab .any (opsOf Try.f14 2) = contangolaw21_goes.T2 := by kernel_rfl
theorem contangolaw21_goes.bits2 : waitsOk contangolaw21_goes.T2.2 contangolaw21_goes.B2 = true := by kernel_rfl
def contangolaw21_goes.T3 : Bool × List (List Nat × List Nat) := (true, [([], []), ([0], [0]), ([], []), ([2], [2]), ([], []), ([4], [4]), ([3, 5], [3, 5]), ([], []), ([7], [7]), ([], []), ([9], [9]), ([8, 10], [8, 10]), ([1, 6, 11, 0], [1, 6, 11]), ([12], [12]), ([13], [13]), ([13], [13]), ([14, 12, 0, 1, 2, 3, 4, 5, 6, 7, 8, 9, 10, 11, 12, 13, 14], [14]), ([15, 16, 0, 1, 2, 3, 4, 5, 6, 7, 8, 9, 10, 11, 12, 13, 14, 15, 16], [15])])
def contangolaw21_goes.B3 : List Nat := [0, 1, 0, 4, 0, 16, 60, 0, 128, 0, 512, 1920, 4095, 8191, 16383, 16383, 32767, 131071]
theorem contangolaw21_goes.tab3 : rtab .any (opsOf Try.f14 3) = contangolaw21_goes.T3 := by kernel_rfl
theorem contangolaw21_goes.bits3 : waitsOk contangolaw21_goes.T3.2 contangolaw21_goes.B3 = true := by kernel_rfl
set_option maxHeartbeats 8000000 in
set_option maxRecDepth 100000 in
theorem contangolaw21_goes.calls (k : Nat)  (r : Bool) (w : World) (h : contangolaw21_goes.f k  = some r) :
    Calls Try.prog 14 #[] w fun e w' => e = .returned (.bool r) ∧ Below w.heap.size w w' := by
  have hu23 := Try.underlying23
  have hu33 := Try.underlying33
  have hu57 := Try.underlying57
  have hu63 := Try.underlying63
  have HB := Aside0.mk (Below.refl w.heap.size w)
  have HRT := Aside0.mk (contangolaw21_goes.only k r h)
  have H : ((contangolaw21_of.f 2).bind fun bt175 => ((contangolaw21_of.f 3).bind fun bt179 => ((contangolaw21_oil.f).bind fun bt185 => ((option_Premium.f k bt185.1 bt185.2.1 bt185.2.2.1 bt185.2.2.2.1 bt185.2.2.2.2.1 bt185.2.2.2.2.2.1 bt185.2.2.2.2.2.2 (⟨#[]⟩ : ByteArray) (⟨#[]⟩ : ByteArray) bt175.1 bt175.2.1 bt175.2.2.1 bt175.2.2.2 (-3) 4 0).bind fun bt192 => ((contangolaw21_oil.f).bind fun bt194 => ((option_Net.f k (([(⟨bt194.1, bt194.2.1, bt194.2.2.1, bt194.2.2.2.1, bt194.2.2.2.2.1, bt194.2.2.2.2.2.1, bt194.2.2.2.2.2.2⟩ : S29)] : List (S29))) (([(⟨(⟨bt175.1, bt175.2.1, bt175.2.2.1, bt175.2.2.2⟩ : S23), 2, 0⟩ : S57), (⟨(⟨bt179.1, bt179.2.1, bt179.2.2.1, bt179.2.2.2⟩ : S23), 0, 1⟩ : S57)] : List (S57))) (([(⟨(⟨bt175.1, bt175.2.1, bt175.2.2.1, bt175.2.2.2⟩ : S23), 7⟩ : S63), (⟨(⟨bt179.1, bt179.2.1, bt179.2.2.1, bt179.2.2.2⟩ : S23), 3⟩ : S63)] : List (S63)))).bind fun bt210 => ((option_Intrinsic.f k bt175.1 bt175.2.1 bt175.2.2.1 bt175.2.2.2 60).bind fun t214 => (if t214 = 10 then ((option_Intrinsic.f k bt179.1 bt179.2.1 bt179.2.2.1 bt179.2.2.2 60).bind fun t215 => (if t215 = 0 then ((option_Intrinsic.f k bt179.1 bt179.2.1 bt179.2.2.1 bt179.2.2.2 40).bind fun t216 => (if t216 = 10 then ((option_Ends.f k bt175.1 bt175.2.1 bt175.2.2.1 bt175.2.2.2 50).bind fun t217 => (if t217 = true then (some false) else (if bt192.1 = (-1200) then (if bt192.2 = 0 then (if (bt210.1.length : Int) = 8 then (if 0 < (bt210.1.length : Int) then (if (rd bt210.1 0) = 1100 then (some (bt210.2 == 0)) else (some false)) else (none)) else (some false)) else (some false)) else (some false)))) else (some false))) else (some false))) else (some false))))))))) = some r := h
  clear h
  replace H := Option.bind_eq_some_iff.mp H
  obtain ⟨⟨t175, t176, t177, t178⟩, A10, H⟩ := H
  replace H : ((contangolaw21_of.f 3).bind fun bt179 => ((contangolaw21_oil.f).bind fun bt185 => ((option_Premium.f k bt185.1 bt185.2.1 bt185.2.2.1 bt185.2.2.2.1 bt185.2.2.2.2.1 bt185.2.2.2.2.2.1 bt185.2.2.2.2.2.2 (⟨#[]⟩ : ByteArray) (⟨#[]⟩ : ByteArray) t175 t176 t177 t178 (-3) 4 0).bind fun bt192 => ((contangolaw21_oil.f).bind fun bt194 => ((option_Net.f k (([(⟨bt194.1, bt194.2.1, bt194.2.2.1, bt194.2.2.2.1, bt194.2.2.2.2.1, bt194.2.2.2.2.2.1, bt194.2.2.2.2.2.2⟩ : S29)] : List (S29))) (([(⟨(⟨t175, t176, t177, t178⟩ : S23), 2, 0⟩ : S57), (⟨(⟨bt179.1, bt179.2.1, bt179.2.2.1, bt179.2.2.2⟩ : S23), 0, 1⟩ : S57)] : List (S57))) (([(⟨(⟨t175, t176, t177, t178⟩ : S23), 7⟩ : S63), (⟨(⟨bt179.1, bt179.2.1, bt179.2.2.1, bt179.2.2.2⟩ : S23), 3⟩ : S63)] : List (S63)))).bind fun bt210 => ((option_Intrinsic.f k t175 t176 t177 t178 60).bind fun t214 => (if t214 = 10 then ((option_Intrinsic.f k bt179.1 bt179.2.1 bt179.2.2.1 bt179.2.2.2 60).bind fun t215 => (if t215 = 0 then ((option_Intrinsic.f k bt179.1 bt179.2.1 bt179.2.2.1 bt179.2.2.2 40).bind fun t216 => (if t216 = 10 then ((option_Ends.f k t175 t176 t177 t178 50).bind fun t217 => (if t217 = true then (some false) else (if bt192.1 = (-1200) then (if bt192.2 = 0 then (if (bt210.1.length : Int) = 8 then (if 0 < (bt210.1.length : Int) then (if (rd bt210.1 0) = 1100 then (some (bt210.2 == 0)) else (some false)) else (none)) else (some false)) else (some false)) else (some false)))) else (some false))) else (some false))) else (some false)))))))) = some r := H
  have A1 := Aside0.mk A10
  clear A10
  replace H := Option.bind_eq_some_iff.mp H
  obtain ⟨⟨t179, t180, t181, t182⟩, A20, H⟩ := H
  replace H : ((contangolaw21_oil.f).bind fun bt185 => ((option_Premium.f k bt185.1 bt185.2.1 bt185.2.2.1 bt185.2.2.2.1 bt185.2.2.2.2.1 bt185.2.2.2.2.2.1 bt185.2.2.2.2.2.2 (⟨#[]⟩ : ByteArray) (⟨#[]⟩ : ByteArray) t175 t176 t177 t178 (-3) 4 0).bind fun bt192 => ((contangolaw21_oil.f).bind fun bt194 => ((option_Net.f k (([(⟨bt194.1, bt194.2.1, bt194.2.2.1, bt194.2.2.2.1, bt194.2.2.2.2.1, bt194.2.2.2.2.2.1, bt194.2.2.2.2.2.2⟩ : S29)] : List (S29))) (([(⟨(⟨t175, t176, t177, t178⟩ : S23), 2, 0⟩ : S57), (⟨(⟨t179, t180, t181, t182⟩ : S23), 0, 1⟩ : S57)] : List (S57))) (([(⟨(⟨t175, t176, t177, t178⟩ : S23), 7⟩ : S63), (⟨(⟨t179, t180, t181, t182⟩ : S23), 3⟩ : S63)] : List (S63)))).bind fun bt210 => ((option_Intrinsic.f k t175 t176 t177 t178 60).bind fun t214 => (if t214 = 10 then ((option_Intrinsic.f k t179 t180 t181 t182 60).bind fun t215 => (if t215 = 0 then ((option_Intrinsic.f k t179 t180 t181 t182 40).bind fun t216 => (if t216 = 10 then ((option_Ends.f k t175 t176 t177 t178 50).bind fun t217 => (if t217 = true then (some false) else (if bt192.1 = (-1200) then (if bt192.2 = 0 then (if (bt210.1.length : Int) = 8 then (if 0 < (bt210.1.length : Int) then (if (rd bt210.1 0) = 1100 then (some (bt210.2 == 0)) else (some false)) else (none)) else (some false)) else (some false)) else (some false)))) else (some false))) else (some false))) else (some false))))))) = some r := H
  have A2 := Aside0.mk A20
  clear A20
  replace H := Option.bind_eq_some_iff.mp H
  obtain ⟨⟨t185, t186, t187, t188, t189, t190, t191⟩, A30, H⟩ := H
  replace H : ((option_Premium.f k t185 t186 t187 t188 t189 t190 t191 (⟨#[]⟩ : ByteArray) (⟨#[]⟩ : ByteArray) t175 t176 t177 t178 (-3) 4 0).bind fun bt192 => ((contangolaw21_oil.f).bind fun bt194 => ((option_Net.f k (([(⟨bt194.1, bt194.2.1, bt194.2.2.1, bt194.2.2.2.1, bt194.2.2.2.2.1, bt194.2.2.2.2.2.1, bt194.2.2.2.2.2.2⟩ : S29)] : List (S29))) (([(⟨(⟨t175, t176, t177, t178⟩ : S23), 2, 0⟩ : S57), (⟨(⟨t179, t180, t181, t182⟩ : S23), 0, 1⟩ : S57)] : List (S57))) (([(⟨(⟨t175, t176, t177, t178⟩ : S23), 7⟩ : S63), (⟨(⟨t179, t180, t181, t182⟩ : S23), 3⟩ : S63)] : List (S63)))).bind fun bt210 => ((option_Intrinsic.f k t175 t176 t177 t178 60).bind fun t214 => (if t214 = 10 then ((option_Intrinsic.f k t179 t180 t181 t182 60).bind fun t215 => (if t215 = 0 then ((option_Intrinsic.f k t179 t180 t181 t182 40).bind fun t216 => (if t216 = 10 then ((option_Ends.f k t175 t176 t177 t178 50).bind fun t217 => (if t217 = true then (some false) else (if bt192.1 = (-1200) then (if bt192.2 = 0 then (if (bt210.1.length : Int) = 8 then (if 0 < (bt210.1.length : Int) then (if (rd bt210.1 0) = 1100 then (some (bt210.2 == 0)) else (some false)) else (none)) else (some false)) else (some false)) else (some false)))) else (some false))) else (some false))) else (some false)))))) = some r := H
  have A3 := Aside0.mk A30
  clear A30
  replace H := Option.bind_eq_some_iff.mp H
  obtain ⟨⟨t192, t193⟩, A40, H⟩ := H
  replace H : ((contangolaw21_oil.f).bind fun bt194 => ((option_Net.f k (([(⟨bt194.1, bt194.2.1, bt194.2.2.1, bt194.2.2.2.1, bt194.2.2.2.2.1, bt194.2.2.2.2.2.1, bt194.2.2.2.2.2.2⟩ : S29)] : List (S29))) (([(⟨(⟨t175, t176, t177, t178⟩ : S23), 2, 0⟩ : S57), (⟨(⟨t179, t180, t181, t182⟩ : S23), 0, 1⟩ : S57)] : List (S57))) (([(⟨(⟨t175, t176, t177, t178⟩ : S23), 7⟩ : S63), (⟨(⟨t179, t180, t181, t182⟩ : S23), 3⟩ : S63)] : List (S63)))).bind fun bt210 => ((option_Intrinsic.f k t175 t176 t177 t178 60).bind fun t214 => (if t214 = 10 then ((option_Intrinsic.f k t179 t180 t181 t182 60).bind fun t215 => (if t215 = 0 then ((option_Intrinsic.f k t179 t180 t181 t182 40).bind fun t216 => (if t216 = 10 then ((option_Ends.f k t175 t176 t177 t178 50).bind fun t217 => (if t217 = true then (some false) else (if t192 = (-1200) then (if t193 = 0 then (if (bt210.1.length : Int) = 8 then (if 0 < (bt210.1.length : Int) then (if (rd bt210.1 0) = 1100 then (some (bt210.2 == 0)) else (some false)) else (none)) else (some false)) else (some false)) else (some false)))) else (some false))) else (some false))) else (some false))))) = some r := H
  have A4 := Aside0.mk A40
  clear A40
  replace H := Option.bind_eq_some_iff.mp H
  obtain ⟨⟨t194, t195, t196, t197, t198, t199, t200⟩, A50, H⟩ := H
  replace H : ((option_Net.f k (([(⟨t194, t195, t196, t197, t198, t199, t200⟩ : S29)] : List (S29))) (([(⟨(⟨t175, t176, t177, t178⟩ : S23), 2, 0⟩ : S57), (⟨(⟨t179, t180, t181, t182⟩ : S23), 0, 1⟩ : S57)] : List (S57))) (([(⟨(⟨t175, t176, t177, t178⟩ : S23), 7⟩ : S63), (⟨(⟨t179, t180, t181, t182⟩ : S23), 3⟩ : S63)] : List (S63)))).bind fun bt210 => ((option_Intrinsic.f k t175 t176 t177 t178 60).bind fun t214 => (if t214 = 10 then ((option_Intrinsic.f k t179 t180 t181 t182 60).bind fun t215 => (if t215 = 0 then ((option_Intrinsic.f k t179 t180 t181 t182 40).bind fun t216 => (if t216 = 10 then ((option_Ends.f k t175 t176 t177 t178 50).bind fun t217 => (if t217 = true then (some false) else (if t192 = (-1200) then (if t193 = 0 then (if (bt210.1.length : Int) = 8 then (if 0 < (bt210.1.length : Int) then (if (rd bt210.1 0) = 1100 then (some (bt210.2 == 0)) else (some false)) else (none)) else (some false)) else (some false)) else (some false)))) else (some false))) else (some false))) else (some false)))) = some r := H
  have A5 := Aside0.mk A50
  clear A50
  obtain ⟨y201, hy201⟩ : ∃ y_ : List (S29), y_ = (([(⟨t194, t195, t196, t197, t198, t199, t200⟩ : S29)] : List (S29))) := ⟨_, rfl⟩
  replace H : ((option_Net.f k y201 (([(⟨(⟨t175, t176, t177, t178⟩ : S23), 2, 0⟩ : S57), (⟨(⟨t179, t180, t181, t182⟩ : S23), 0, 1⟩ : S57)] : List (S57))) (([(⟨(⟨t175, t176, t177, t178⟩ : S23), 7⟩ : S63), (⟨(⟨t179, t180, t181, t182⟩ : S23), 3⟩ : S63)] : List (S63)))).bind fun bt210 => ((option_Intrinsic.f k t175 t176 t177 t178 60).bind fun t214 => (if t214 = 10 then ((option_Intrinsic.f k t179 t180 t181 t182 60).bind fun t215 => (if t215 = 0 then ((option_Intrinsic.f k t179 t180 t181 t182 40).bind fun t216 => (if t216 = 10 then ((option_Ends.f k t175 t176 t177 t178 50).bind fun t217 => (if t217 = true then (some false) else (if t192 = (-1200) then (if t193 = 0 then (if (bt210.1.length : Int) = 8 then (if 0 < (bt210.1.length : Int) then (if (rd bt210.1 0) = 1100 then (some (bt210.2 == 0)) else (some false)) else (none)) else (some false)) else (some false)) else (some false)))) else (some false))) else (some false))) else (some false)))) = some r := by first | (rw [hy201]; with_reducible exact H) | (have H2_ := (Option.bind_some _ _).symm.trans H; rw [hy201]; with_reducible exact H2_) | (have H2_ := (Option.bind_some _ _).symm.trans H; with_reducible exact H2_) | with_reducible exact H | (rw [hy201]; exact H) | exact H
  have Ny201 := Aside0.mk hy201
  clear hy201
  obtain ⟨y204, hy204⟩ : ∃ y_ : List (S57), y_ = (([(⟨(⟨t175, t176, t177, t178⟩ : S23), 2, 0⟩ : S57), (⟨(⟨t179, t180, t181, t182⟩ : S23), 0, 1⟩ : S57)] : List (S57))) := ⟨_, rfl⟩
  replace H : ((option_Net.f k y201 y204 (([(⟨(⟨t175, t176, t177, t178⟩ : S23), 7⟩ : S63), (⟨(⟨t179, t180, t181, t182⟩ : S23), 3⟩ : S63)] : List (S63)))).bind fun bt210 => ((option_Intrinsic.f k t175 t176 t177 t178 60).bind fun t214 => (if t214 = 10 then ((option_Intrinsic.f k t179 t180 t181 t182 60).bind fun t215 => (if t215 = 0 then ((option_Intrinsic.f k t179 t180 t181 t182 40).bind fun t216 => (if t216 = 10 then ((option_Ends.f k t175 t176 t177 t178 50).bind fun t217 => (if t217 = true then (some false) else (if t192 = (-1200) then (if t193 = 0 then (if (bt210.1.length : Int) = 8 then (if 0 < (bt210.1.length : Int) then (if (rd bt210.1 0) = 1100 then (some (bt210.2 == 0)) else (some false)) else (none)) else (some false)) else (some false)) else (some false)))) else (some false))) else (some false))) else (some false)))) = some r := by first | (rw [hy204]; with_reducible exact H) | (have H2_ := (Option.bind_some _ _).symm.trans H; rw [hy204]; with_reducible exact H2_) | (have H2_ := (Option.bind_some _ _).symm.trans H; with_reducible exact H2_) | with_reducible exact H | (rw [hy204]; exact H) | exact H
  have Ny204 := Aside0.mk hy204
  clear hy204
  obtain ⟨y207, hy207⟩ : ∃ y_ : List (S63), y_ = (([(⟨(⟨t175, t176, t177, t178⟩ : S23), 7⟩ : S63), (⟨(⟨t179, t180, t181, t182⟩ : S23), 3⟩ : S63)] : List (S63))) := ⟨_, rfl⟩
  replace H : ((option_Net.f k y201 y204 y207).bind fun bt210 => ((option_Intrinsic.f k t175 t176 t177 t178 60).bind fun t214 => (if t214 = 10 then ((option_Intrinsic.f k t179 t180 t181 t182 60).bind fun t215 => (if t215 = 0 then ((option_Intrinsic.f k t179 t180 t181 t182 40).bind fun t216 => (if t216 = 10 then ((option_Ends.f k t175 t176 t177 t178 50).bind fun t217 => (if t217 = true then (some false) else (if t192 = (-1200) then (if t193 = 0 then (if (bt210.1.length : Int) = 8 then (if 0 < (bt210.1.length : Int) then (if (rd bt210.1 0) = 1100 then (some (bt210.2 == 0)) else (some false)) else (none)) else (some false)) else (some false)) else (some false)))) else (some false))) else (some false))) else (some false)))) = some r := by first | (rw [hy207]; with_reducible exact H) | (have H2_ := (Option.bind_some _ _).symm.trans H; rw [hy207]; with_reducible exact H2_) | (have H2_ := (Option.bind_some _ _).symm.trans H; with_reducible exact H2_) | with_reducible exact H | (rw [hy207]; exact H) | exact H
  have Ny207 := Aside0.mk hy207
  clear hy207
  replace H := Option.bind_eq_some_iff.mp H
  obtain ⟨⟨t210, t211⟩, A60, H⟩ := H
  replace H : ((option_Intrinsic.f k t175 t176 t177 t178 60).bind fun t214 => (if t214 = 10 then ((option_Intrinsic.f k t179 t180 t181 t182 60).bind fun t215 => (if t215 = 0 then ((option_Intrinsic.f k t179 t180 t181 t182 40).bind fun t216 => (if t216 = 10 then ((option_Ends.f k t175 t176 t177 t178 50).bind fun t217 => (if t217 = true then (some false) else (if t192 = (-1200) then (if t193 = 0 then (if (t210.length : Int) = 8 then (if 0 < (t210.length : Int) then (if (rd t210 0) = 1100 then (some (t211 == 0)) else (some false)) else (none)) else (some false)) else (some false)) else (some false)))) else (some false))) else (some false))) else (some false))) = some r := H
  have A6 := Aside0.mk A60
  clear A60
  replace H := Option.bind_eq_some_iff.mp H
  obtain ⟨t214, A70, H⟩ := H
  replace H : (if t214 = 10 then ((option_Intrinsic.f k t179 t180 t181 t182 60).bind fun t215 => (if t215 = 0 then ((option_Intrinsic.f k t179 t180 t181 t182 40).bind fun t216 => (if t216 = 10 then ((option_Ends.f k t175 t176 t177 t178 50).bind fun t217 => (if t217 = true then (some false) else (if t192 = (-1200) then (if t193 = 0 then (if (t210.length : Int) = 8 then (if 0 < (t210.length : Int) then (if (rd t210 0) = 1100 then (some (t211 == 0)) else (some false)) else (none)) else (some false)) else (some false)) else (some false)))) else (some false))) else (some false))) else (some false)) = some r := H
  have A7 := Aside0.mk A70
  clear A70
  by_cases c8 : t214 = 10
  · rw [if_pos c8] at H
    have c8b0 : (t214 == 10) = true := beq_iff_eq.mpr c8
    have c8b1 : (t214 != 10) = false := bne_eq_false_iff_eq.mpr c8
    clear c8
    replace H := Option.bind_eq_some_iff.mp H
    obtain ⟨t215, A90, H⟩ := H
    replace H : (if t215 = 0 then ((option_Intrinsic.f k t179 t180 t181 t182 40).bind fun t216 => (if t216 = 10 then ((option_Ends.f k t175 t176 t177 t178 50).bind fun t217 => (if t217 = true then (some false) else (if t192 = (-1200) then (if t193 = 0 then (if (t210.length : Int) = 8 then (if 0 < (t210.length : Int) then (if (rd t210 0) = 1100 then (some (t211 == 0)) else (some false)) else (none)) else (some false)) else (some false)) else (some false)))) else (some false))) else (some false)) = some r := H
    have A9 := Aside0.mk A90
    clear A90
    by_cases c10 : t215 = 0
    · rw [if_pos c10] at H
      have c10b0 : (t215 == 0) = true := beq_iff_eq.mpr c10
      have c10b1 : (t215 != 0) = false := bne_eq_false_iff_eq.mpr c10
      clear c10
      replace H := Option.bind_eq_some_iff.mp H
      obtain ⟨t216, A110, H⟩ := H
      replace H : (if t216 = 10 then ((option_Ends.f k t175 t176 t177 t178 50).bind fun t217 => (if t217 = true then (some false) else (if t192 = (-1200) then (if t193 = 0 then (if (t210.length : Int) = 8 then (if 0 < (t210.length : Int) then (if (rd t210 0) = 1100 then (some (t211 == 0)) else (some false)) else (none)) else (some false)) else (some false)) else (some false)))) else (some false)) = some r := H
      have A11 := Aside0.mk A110
      clear A110
      by_cases c12 : t216 = 10
      · rw [if_pos c12] at H
        have c12b0 : (t216 == 10) = true := beq_iff_eq.mpr c12
        have c12b1 : (t216 != 10) = false := bne_eq_false_iff_eq.mpr c12
        clear c12
        replace H := Option.bind_eq_some_iff.mp H
        obtain ⟨t217, A130, H⟩ := H
        replace H : (if t217 = true then (some false) else (if t192 = (-1200) then (if t193 = 0 then (if (t210.length : Int) = 8 then (if 0 < (t210.length : Int) then (if (rd t210 0) = 1100 then (some (t211 == 0)) else (some false)) else (none)) else (some false)) else (some false)) else (some false))) = some r := H
        have A13 := Aside0.mk A130
        clear A130
        by_cases c14 : t217 = true
        · subst c14
          have H1 : (some false) = some r := by rw [if_pos rfl] at H; exact H
          clear H
          have H := H1
          clear H1
          exact absurd (H.trans (congrArg some HRT.out)) (by first | simp [] | (simp only []; (repeat' split) <;> simp))
        · replace c14 := Bool.eq_false_iff.mpr c14
          subst c14
          have H1 : (if t192 = (-1200) then (if t193 = 0 then (if (t210.length : Int) = 8 then (if 0 < (t210.length : Int) then (if (rd t210 0) = 1100 then (some (t211 == 0)) else (some false)) else (none)) else (some false)) else (some false)) else (some false)) = some r := by rw [if_neg (show ¬ (false = true) by decide)] at H; exact H
          clear H
          have H := H1
          clear H1
          by_cases c15 : t192 = (-1200)
          · rw [if_pos c15] at H
            have c15b0 : (t192 == (-1200)) = true := beq_iff_eq.mpr c15
            have c15b1 : (t192 != (-1200)) = false := bne_eq_false_iff_eq.mpr c15
            clear c15
            by_cases c16 : t193 = 0
            · rw [if_pos c16] at H
              have c16b0 : (t193 == 0) = true := beq_iff_eq.mpr c16
              have c16b1 : (t193 != 0) = false := bne_eq_false_iff_eq.mpr c16
              clear c16
              by_cases c17 : (t210.length : Int) = 8
              · rw [if_pos c17] at H
                have c17b0 : ((t210.length : Int) == 8) = true := beq_iff_eq.mpr c17
                have c17b1 : ((t210.length : Int) != 8) = false := bne_eq_false_iff_eq.mpr c17
                clear c17
                by_cases c18 : 0 < (t210.length : Int)
                · rw [if_pos c18] at H
                  have c18b0 : decide (0 < (t210.length : Int)) = true := decide_eq_true c18
                  have c18b1 : decide (0 < t210.length) = true := decide_eq_true (by omega)
                  clear c18
                  by_cases c19 : (rd t210 0) = 1100
                  · rw [if_pos c19] at H
                    have c19b0 : ((rd t210 0) == 1100) = true := beq_iff_eq.mpr c19
                    have c19b1 : ((rd t210 0) != 1100) = false := bne_eq_false_iff_eq.mpr c19
                    clear c19
                    obtain rfl := Option.some.inj H
                    go_enter Try.func14, Try.ntmps14
                    try go_wp2_with (first | ((with_reducible refine gate_callee (f := 27) rfl ?_); refine goesL_ (some 7) rfl rfl Try.func27 (by kernel_rfl) rfl #[.int .i64 2] rfl (by (try simp only [List.map_toArray, List.map_cons, List.map_nil]); first | done | rfl | (simp only [List.length_drop, List.length_take]; rfl)) ?_; (with_reducible refine (contangolaw21_of.calls 2 t175 t176 t177 t178 _ A1.out).mono ?_); rintro e w20 ⟨rfl, hb⟩; refine ⟨_, rfl, ?_⟩; have n0_ := Aside0.mk (below_step (by repeat (first | (with_reducible first | exact HB.out | apply below_alloc | apply pw_below_drewN | apply below_drew1) | exact HB.out)) hb); clear HB; have HB := n0_; clear n0_; (try clear hb); (try clear hb2); (try clear hk); (try clear hi)) | ((with_reducible refine gate_callee (f := 27) rfl ?_); refine goesL_ (some 8) rfl rfl Try.func27 (by kernel_rfl) rfl #[.int .i64 3] rfl (by (try simp only [List.map_toArray, List.map_cons, List.map_nil]); first | done | rfl | (simp only [List.length_drop, List.length_take]; rfl)) ?_; (with_reducible refine (contangolaw21_of.calls 3 t179 t180 t181 t182 _ A2.out).mono ?_); rintro e w21 ⟨rfl, hb⟩; refine ⟨_, rfl, ?_⟩; have n0_ := Aside0.mk (below_step (by repeat (first | (with_reducible first | exact HB.out | apply below_alloc | apply pw_below_drewN | apply below_drew1) | exact HB.out)) hb); clear HB; have HB := n0_; clear n0_; (try clear hb); (try clear hb2); (try clear hk); (try clear hi)) | ((with_reducible refine gate_dst (N := 1) rfl ?_); (try (refine gate_guard (by rfl) ?_; dsimp only)); refine box_event ?hg (N := 1) ?hd (cs := #[.string (⟨#[]⟩ : ByteArray), .int .i64 0, .int .i64 0, .int .i64 0]) (t := 23) ?hr ?_; (case hd => rfl); (case hg => rfl); (case hr => first | (go_simp; done) | (go_simp; rfl)); intro gb183 hg w22 hbox hb; have n0_ := Aside0.mk (below_step (by repeat (first | (with_reducible first | exact HB.out | apply below_alloc | apply pw_below_drewN | apply below_drew1) | exact HB.out)) hb); have n1_ := Aside0.mk (hbox); have n2_ := Aside0.mk ((by rw [hg]; exact (below_size (by repeat (first | (with_reducible first | exact HB.out | apply below_alloc | apply pw_below_drewN | apply below_drew1) | exact HB.out))) : w.heap.size ≤ gb183)); have n3_ := Aside0.mk ((by rw [hg]; exact (below_size (by repeat (first | (with_reducible first | exact HB.out | apply below_alloc | apply pw_below_drewN | apply below_drew1) | exact HB.out))) : w.heap.size ≤ gb183)); clear HB; have HB := n0_; have BK183 := n1_; have GW183 := n2_; have GE183 := n3_; clear n0_ n1_ n2_ n3_; clear hb hbox hg) | ((with_reducible refine gate_dst (N := 2) rfl ?_); (try (refine gate_guard (by rfl) ?_; dsimp only)); refine box_event ?hg (N := 2) ?hd (cs := #[.string (⟨#[]⟩ : ByteArray), .int .i64 0, .int .i64 0, .int .i64 0]) (t := 23) ?hr ?_; (case hd => rfl); (case hg => rfl); (case hr => first | (go_simp; done) | (go_simp; rfl)); intro gb184 hg w23 hbox hb; have n0_ := Aside0.mk (blk_below (g := gb183) (o := .cells #[.string (⟨#[]⟩ : ByteArray), .int .i64 0, .int .i64 0, .int .i64 0] 23 (0, 0)) (by (with_reducible repeat (first | refine blk_drewN ?_ _ | refine blk_drew ?_ | refine blk_alloc ?_ _)); exact BK183.out) hb); have n1_ := Aside0.mk (below_step (by repeat (first | (with_reducible first | exact HB.out | apply below_alloc | apply pw_below_drewN | apply below_drew1 | refine below_set ?_ GE183.out) | exact HB.out)) hb); have n2_ := Aside0.mk (hbox); have n3_ := Aside0.mk ((by rw [hg]; exact (below_size (by repeat (first | (with_reducible first | exact HB.out | apply below_alloc | apply pw_below_drewN | apply below_drew1 | refine below_set ?_ GE183.out) | exact HB.out))) : w.heap.size ≤ gb184)); have n4_ := Aside0.mk ((by rw [hg]; exact (below_size (by repeat (first | (with_reducible first | exact HB.out | apply below_alloc | apply pw_below_drewN | apply below_drew1 | refine below_set ?_ GE183.out) | exact HB.out))) : w.heap.size ≤ gb184)); have n5_ := Aside0.mk ((by rw [hg]; exact Nat.ne_of_lt (blk_lt (g := gb183) (o := .cells #[.string (⟨#[]⟩ : ByteArray), .int .i64 0, .int .i64 0, .int .i64 0] 23 (0, 0)) (by (with_reducible repeat (first | refine blk_drewN ?_ _ | refine blk_drew ?_ | refine blk_alloc ?_ _)); exact BK183.out)) : gb183 ≠ gb184)); have n6_ := Aside0.mk ((by rw [hg]; exact Nat.ne_of_gt (blk_lt (g := gb183) (o := .cells #[.string (⟨#[]⟩ : ByteArray), .int .i64 0, .int .i64 0, .int .i64 0] 23 (0, 0)) (by (with_reducible repeat (first | refine blk_drewN ?_ _ | refine blk_drew ?_ | refine blk_alloc ?_ _)); exact BK183.out)) : gb184 ≠ gb183)); clear BK183; clear HB; have BK183 := n0_; have HB := n1_; have BK184 := n2_; have GW184 := n3_; have GE184 := n4_; have NB183_184 := n5_; have NB184_183 := n6_; clear n0_ n1_ n2_ n3_ n4_ n5_ n6_; clear hb hbox hg; have hnb24 := NB183_184.out; have hnc24 := NB184_183.out; have hcz25_0 : w23.cell? ⟨gb183, 0, none⟩ = some (.string (⟨#[]⟩ : ByteArray)) := (blk_cell BK183.out 0).trans rfl; have hcz25_1 : w23.cell? ⟨gb183, 1, none⟩ = some (.int .i64 0) := (blk_cell BK183.out 1).trans rfl; have hcz25_2 : w23.cell? ⟨gb183, 2, none⟩ = some (.int .i64 0) := (blk_cell BK183.out 2).trans rfl; have hcz25_3 : w23.cell? ⟨gb183, 3, none⟩ = some (.int .i64 0) := (blk_cell BK183.out 3).trans rfl; have hfz25_0 := blk_frozen BK183.out 0; have hfz25_1 := blk_frozen BK183.out 1; have hfz25_2 := blk_frozen BK183.out 2; have hfz25_3 := blk_frozen BK183.out 3; have hcz26_0 : w23.cell? ⟨gb184, 0, none⟩ = some (.string (⟨#[]⟩ : ByteArray)) := (blk_cell BK184.out 0).trans rfl; have hcz26_1 : w23.cell? ⟨gb184, 1, none⟩ = some (.int .i64 0) := (blk_cell BK184.out 1).trans rfl; have hcz26_2 : w23.cell? ⟨gb184, 2, none⟩ = some (.int .i64 0) := (blk_cell BK184.out 2).trans rfl; have hcz26_3 : w23.cell? ⟨gb184, 3, none⟩ = some (.int .i64 0) := (blk_cell BK184.out 3).trans rfl; have hfz26_0 := blk_frozen BK184.out 0; have hfz26_1 := blk_frozen BK184.out 1; have hfz26_2 := blk_frozen BK184.out 2; have hfz26_3 := blk_frozen BK184.out 3))
                    have n0_ : Aside0 (((((((((w23.setCell ⟨gb183, 0, none⟩ (.string t175)).setCell ⟨gb183, 1, none⟩ (.int .i64 t176)).setCell ⟨gb183, 2, none⟩ (.int .i64 t177)).setCell ⟨gb183, 3, none⟩ (.int .i64 t178)).setCell ⟨gb184, 0, none⟩ (.string t179)).setCell ⟨gb184, 1, none⟩ (.int .i64 t180)).setCell ⟨gb184, 2, none⟩ (.int .i64 t181)).setCell ⟨gb184, 3, none⟩ (.int .i64 t182)).heap[gb183]? = some (.cells #[.string t175, .int .i64 t176, .int .i64 t177, .int .i64 t178] 23 (0, 0))) := ⟨by (with_reducible repeat (first | refine blk_drewN ?_ _ | refine blk_drew ?_ | refine blk_alloc ?_ _)); refine blk_far ?_ NB183_184.out _; (with_reducible repeat (first | refine blk_drewN ?_ _ | refine blk_drew ?_ | refine blk_alloc ?_ _)); refine blk_far ?_ NB183_184.out _; (with_reducible repeat (first | refine blk_drewN ?_ _ | refine blk_drew ?_ | refine blk_alloc ?_ _)); refine blk_far ?_ NB183_184.out _; (with_reducible repeat (first | refine blk_drewN ?_ _ | refine blk_drew ?_ | refine blk_alloc ?_ _)); refine blk_far ?_ NB183_184.out _; (with_reducible repeat (first | refine blk_drewN ?_ _ | refine blk_drew ?_ | refine blk_alloc ?_ _)); refine blk_put (cs := #[.string t175, .int .i64 t176, .int .i64 t177, .int .i64 0]) ?_ 3 _ rfl; (with_reducible repeat (first | refine blk_drewN ?_ _ | refine blk_drew ?_ | refine blk_alloc ?_ _)); refine blk_put (cs := #[.string t175, .int .i64 t176, .int .i64 0, .int .i64 0]) ?_ 2 _ rfl; (with_reducible repeat (first | refine blk_drewN ?_ _ | refine blk_drew ?_ | refine blk_alloc ?_ _)); refine blk_put (cs := #[.string t175, .int .i64 0, .int .i64 0, .int .i64 0]) ?_ 1 _ rfl; (with_reducible repeat (first | refine blk_drewN ?_ _ | refine blk_drew ?_ | refine blk_alloc ?_ _)); refine blk_put (cs := #[.string (⟨#[]⟩ : ByteArray), .int .i64 0, .int .i64 0, .int .i64 0]) ?_ 0 _ rfl; (with_reducible repeat (first | refine blk_drewN ?_ _ | refine blk_drew ?_ | refine blk_alloc ?_ _)); exact BK183.out⟩
                    have n1_ : Aside0 (((((((((w23.setCell ⟨gb183, 0, none⟩ (.string t175)).setCell ⟨gb183, 1, none⟩ (.int .i64 t176)).setCell ⟨gb183, 2, none⟩ (.int .i64 t177)).setCell ⟨gb183, 3, none⟩ (.int .i64 t178)).setCell ⟨gb184, 0, none⟩ (.string t179)).setCell ⟨gb184, 1, none⟩ (.int .i64 t180)).setCell ⟨gb184, 2, none⟩ (.int .i64 t181)).setCell ⟨gb184, 3, none⟩ (.int .i64 t182)).heap[gb184]? = some (.cells #[.string t179, .int .i64 t180, .int .i64 t181, .int .i64 t182] 23 (0, 0))) := ⟨by (with_reducible repeat (first | refine blk_drewN ?_ _ | refine blk_drew ?_ | refine blk_alloc ?_ _)); refine blk_put (cs := #[.string t179, .int .i64 t180, .int .i64 t181, .int .i64 0]) ?_ 3 _ rfl; (with_reducible repeat (first | refine blk_drewN ?_ _ | refine blk_drew ?_ | refine blk_alloc ?_ _)); refine blk_put (cs := #[.string t179, .int .i64 t180, .int .i64 0, .int .i64 0]) ?_ 2 _ rfl; (with_reducible repeat (first | refine blk_drewN ?_ _ | refine blk_drew ?_ | refine blk_alloc ?_ _)); refine blk_put (cs := #[.string t179, .int .i64 0, .int .i64 0, .int .i64 0]) ?_ 1 _ rfl; (with_reducible repeat (first | refine blk_drewN ?_ _ | refine blk_drew ?_ | refine blk_alloc ?_ _)); refine blk_put (cs := #[.string (⟨#[]⟩ : ByteArray), .int .i64 0, .int .i64 0, .int .i64 0]) ?_ 0 _ rfl; (with_reducible repeat (first | refine blk_drewN ?_ _ | refine blk_drew ?_ | refine blk_alloc ?_ _)); refine blk_far ?_ NB184_183.out _; (with_reducible repeat (first | refine blk_drewN ?_ _ | refine blk_drew ?_ | refine blk_alloc ?_ _)); refine blk_far ?_ NB184_183.out _; (with_reducible repeat (first | refine blk_drewN ?_ _ | refine blk_drew ?_ | refine blk_alloc ?_ _)); refine blk_far ?_ NB184_183.out _; (with_reducible repeat (first | refine blk_drewN ?_ _ | refine blk_drew ?_ | refine blk_alloc ?_ _)); refine blk_far ?_ NB184_183.out _; (with_reducible repeat (first | refine blk_drewN ?_ _ | refine blk_drew ?_ | refine blk_alloc ?_ _)); exact BK184.out⟩
                    have n2_ : Aside0 (Below w.heap.size w ((((((((w23.setCell ⟨gb183, 0, none⟩ (.string t175)).setCell ⟨gb183, 1, none⟩ (.int .i64 t176)).setCell ⟨gb183, 2, none⟩ (.int .i64 t177)).setCell ⟨gb183, 3, none⟩ (.int .i64 t178)).setCell ⟨gb184, 0, none⟩ (.string t179)).setCell ⟨gb184, 1, none⟩ (.int .i64 t180)).setCell ⟨gb184, 2, none⟩ (.int .i64 t181)).setCell ⟨gb184, 3, none⟩ (.int .i64 t182))) := ⟨by repeat (first | (with_reducible first | exact HB.out | apply below_alloc | apply pw_below_drewN | apply below_drew1 | refine below_set ?_ GE183.out | refine below_set ?_ GE184.out) | exact HB.out)⟩
                    (try clear BK183)
                    (try clear BK184)
                    (try clear HB)
                    generalize ((((((((w23.setCell ⟨gb183, 0, none⟩ (.string t175)).setCell ⟨gb183, 1, none⟩ (.int .i64 t176)).setCell ⟨gb183, 2, none⟩ (.int .i64 t177)).setCell ⟨gb183, 3, none⟩ (.int .i64 t178)).setCell ⟨gb184, 0, none⟩ (.string t179)).setCell ⟨gb184, 1, none⟩ (.int .i64 t180)).setCell ⟨gb184, 2, none⟩ (.int .i64 t181)).setCell ⟨gb184, 3, none⟩ (.int .i64 t182)) = w27 at n0_ n1_ n2_ ⊢
                    have BK183 := n0_
                    have BK184 := n1_
                    have HB := n2_
                    clear n0_ n1_ n2_
                    have n0_ := Aside0.mk (blk_drew BK183.out)
                    have n1_ := Aside0.mk (blk_drew BK184.out)
                    have n2_ := Aside0.mk (below_drew1 HB.out)
                    clear BK183
                    clear BK184
                    clear HB
                    have BK183 := n0_
                    have BK184 := n1_
                    have HB := n2_
                    clear n0_ n1_ n2_
                    refine start_ (n := 9) (S := fun w' => w'.cell? ⟨gb183, 0, none⟩ = some (.string t175) ∧ w'.cell? ⟨gb183, 1, none⟩ = some (.int .i64 t176) ∧ w'.cell? ⟨gb183, 2, none⟩ = some (.int .i64 t177) ∧ w'.cell? ⟨gb183, 3, none⟩ = some (.int .i64 t178)) (ds := []) #[false, false, false, false, false, false, false, false, false] (by kernel_rfl) rfl rfl ⟨(blk_cell BK183.out 0).trans rfl, (blk_cell BK183.out 1).trans rfl, (blk_cell BK183.out 2).trans rfl, (blk_cell BK183.out 3).trans rfl⟩ (fun hHeld => ?_); refine with_tabW contangolaw21_goes.tab2 contangolaw21_goes.bits2 (fun HT_ HW_ => ?_)
                    generalize w27.drew = w28 at BK183 BK184 HB hHeld ⊢
                    refine take_ (i := 1) (N := some 11) (v := ?_) (a' := ?_) #[false, true, false, false, false, false, false, false, false] rfl rfl (take_ofW HT_.out HW_.out (by kernel_rfl)) (fun _ _ _ h => h) (Or.inl ⟨by rfl, ?_⟩) hHeld ?_ ?_
                    rotate_left
                    · rintro w' ⟨s0, s1, s2, s3⟩
                      go_simp
                      with_reducible rfl
                    rotate_left
                    · simp only [Act.put, List.setIfInBounds_toArray, List.set_cons_zero, List.set_cons_succ, i64_w, i32_w]
                      rfl
                    refine pure_ (i := 2) (N := some 12) (v := ?_) (a' := ?_) #[false, true, true, false, false, false, false, false, false] rfl rfl (any_of HT_.out (by kernel_rfl)) (fun _ _ _ h => h) (Or.inl ⟨by rfl, ?_⟩) ?_ ?_
                    rotate_left
                    · intro w'
                      go_simp
                      with_reducible rfl
                    rotate_left
                    · simp only [Act.put, List.setIfInBounds_toArray, List.set_cons_zero, List.set_cons_succ, i64_w, i32_w]
                      rfl
                    refine one_ (i := 0) (N := some 10) #[true, true, true, false, false, false, false, false, false] rfl rfl (one_of HT_.out (by kernel_rfl)) (by decide) (fun K hK => ?_)
                    refine goes_ Try.func28 (by kernel_rfl) rfl #[] (by rfl) rfl rfl (by (try simp only [List.map_toArray, List.map_cons, List.map_nil]); first | done | rfl | (simp only [List.length_drop, List.length_take]; rfl)) ?_
                    with_reducible refine (contangolaw21_oil.calls  t185 t186 t187 t188 t189 t190 t191 _ A3.out).mono ?_
                    rintro e w29 ⟨rfl, hb⟩
                    refine ⟨_, rfl, ?_⟩
                    have n0_ := Aside0.mk (blk_below (g := gb183) (o := .cells #[.string t175, .int .i64 t176, .int .i64 t177, .int .i64 t178] 23 (0, 0)) (by (with_reducible repeat (first | refine blk_drewN ?_ _ | refine blk_drew ?_ | refine blk_alloc ?_ _)); exact BK183.out) hb)
                    have n1_ := Aside0.mk (blk_below (g := gb184) (o := .cells #[.string t179, .int .i64 t180, .int .i64 t181, .int .i64 t182] 23 (0, 0)) (by (with_reducible repeat (first | refine blk_drewN ?_ _ | refine blk_drew ?_ | refine blk_alloc ?_ _)); exact BK184.out) hb)
                    have n2_ := Aside0.mk (below_step (by repeat (first | (with_reducible first | exact HB.out | apply below_alloc | apply pw_below_drewN | apply below_drew1 | refine below_set ?_ GE183.out | refine below_set ?_ GE184.out) | exact HB.out)) hb)
                    clear BK183
                    clear BK184
                    clear HB
                    have BK183 := n0_
                    have BK184 := n1_
                    have HB := n2_
                    clear n0_ n1_ n2_
                    (try clear hb)
                    (try clear hb2)
                    (try clear hk)
                    (try clear hi)
                    refine hK.out _ _ ⟨(blk_cell BK183.out 0).trans rfl, (blk_cell BK183.out 1).trans rfl, (blk_cell BK183.out 2).trans rfl, (blk_cell BK183.out 3).trans rfl⟩ (fun hHeld => ?_)
                    clear hK K
                    refine norm_ (a' := ?_) ?_ ?_
                    rotate_left
                    · show Act.put _ (some 10) _ = _
                      simp only [Act.put, List.setIfInBounds_toArray, List.set_cons_zero, List.set_cons_succ, i64_w, i32_w]
                      rfl
                    refine one_ (i := 3) (N := some 13) #[true, true, true, true, false, false, false, false, false] rfl rfl (one_of HT_.out (by kernel_rfl)) (by decide) (fun K hK => ?_)
                    refine goes_ Try.func15 (by kernel_rfl) rfl #[.agg #[.string t185, .int .i64 t186, .int .i64 t187, .int .i64 t188, .int .i64 t189, .int .i64 t190, .bool t191], .agg #[.string (⟨#[]⟩ : ByteArray), .string (⟨#[]⟩ : ByteArray), .string t175, .int .i64 t176, .int .i64 t177, .int .i64 t178, .int .i64 (-3), .int .i64 4, .int .i64 0]] (by rfl) rfl rfl (by (try simp only [List.map_toArray, List.map_cons, List.map_nil]); first | done | rfl | (simp only [List.length_drop, List.length_take]; rfl)) ?_
                    with_reducible refine (option_Premium.calls k t185 t186 t187 t188 t189 t190 t191 (⟨#[]⟩ : ByteArray) (⟨#[]⟩ : ByteArray) t175 t176 t177 t178 (-3) 4 0 t192 t193 _ A4.out).mono ?_
                    rintro e w30 ⟨rfl, hb⟩
                    refine ⟨_, rfl, ?_⟩
                    have n0_ := Aside0.mk (blk_below (g := gb183) (o := .cells #[.string t175, .int .i64 t176, .int .i64 t177, .int .i64 t178] 23 (0, 0)) (by (with_reducible repeat (first | refine blk_drewN ?_ _ | refine blk_drew ?_ | refine blk_alloc ?_ _)); exact BK183.out) hb)
                    have n1_ := Aside0.mk (blk_below (g := gb184) (o := .cells #[.string t179, .int .i64 t180, .int .i64 t181, .int .i64 t182] 23 (0, 0)) (by (with_reducible repeat (first | refine blk_drewN ?_ _ | refine blk_drew ?_ | refine blk_alloc ?_ _)); exact BK184.out) hb)
                    have n2_ := Aside0.mk (below_step (by repeat (first | (with_reducible first | exact HB.out | apply below_alloc | apply pw_below_drewN | apply below_drew1 | refine below_set ?_ GE183.out | refine below_set ?_ GE184.out) | exact HB.out)) hb)
                    clear BK183
                    clear BK184
                    clear HB
                    have BK183 := n0_
                    have BK184 := n1_
                    have HB := n2_
                    clear n0_ n1_ n2_
                    (try clear hb)
                    (try clear hb2)
                    (try clear hk)
                    (try clear hi)
                    refine hK.out _ _ ⟨(blk_cell BK183.out 0).trans rfl, (blk_cell BK183.out 1).trans rfl, (blk_cell BK183.out 2).trans rfl, (blk_cell BK183.out 3).trans rfl⟩ (fun hHeld => ?_)
                    clear hK K
                    refine norm_ (a' := ?_) ?_ ?_
                    rotate_left
                    · show Act.put _ (some 13) _ = _
                      simp only [Act.put, List.setIfInBounds_toArray, List.set_cons_zero, List.set_cons_succ, i64_w, i32_w]
                      rfl
                    refine pure_ (i := 4) (N := some 9) (v := ?_) (a' := ?_) #[true, true, true, true, true, false, false, false, false] rfl rfl (any_of HT_.out (by kernel_rfl)) (fun _ _ _ h => h) (Or.inl ⟨by rfl, ?_⟩) ?_ ?_
                    rotate_left
                    · intro w'
                      go_simp
                      with_reducible rfl
                    rotate_left
                    · simp only [Act.put, List.setIfInBounds_toArray, List.set_cons_zero, List.set_cons_succ, i64_w, i32_w]
                      rfl
                    refine pure_ (i := 5) (N := some 14) (v := ?_) (a' := ?_) #[true, true, true, true, true, true, false, false, false] rfl rfl (any_of HT_.out (by kernel_rfl)) (fun _ _ _ h => h) (Or.inl ⟨by rfl, ?_⟩) ?_ ?_
                    rotate_left
                    · intro w'
                      go_simp
                      with_reducible rfl
                    rotate_left
                    · simp only [Act.put, List.setIfInBounds_toArray, List.set_cons_zero, List.set_cons_succ, i64_w, i32_w]
                      rfl
                    refine pure_ (i := 6) (N := some 15) (v := ?_) (a' := ?_) #[true, true, true, true, true, true, true, false, false] rfl rfl (any_of HT_.out (by kernel_rfl)) (fun _ _ _ h => h) (Or.inl ⟨by rfl, ?_⟩) ?_ ?_
                    rotate_left
                    · intro w'
                      go_simp
                      with_reducible rfl
                    rotate_left
                    · simp only [Act.put, List.setIfInBounds_toArray, List.set_cons_zero, List.set_cons_succ, i64_w, i32_w]
                      rfl
                    refine pure_ (i := 7) (N := some 3) (v := ?_) (a' := ?_) #[true, true, true, true, true, true, true, true, false] rfl rfl (any_of HT_.out (by kernel_rfl)) (fun _ _ _ h => h) (Or.inl ⟨by rfl, ?_⟩) ?_ ?_
                    rotate_left
                    · intro w'
                      go_simp
                      with_reducible rfl
                    rotate_left
                    · simp only [Act.put, List.setIfInBounds_toArray, List.set_cons_zero, List.set_cons_succ, i64_w, i32_w]
                      rfl
                    refine pure_ (i := 8) (N := some 4) (v := ?_) (a' := ?_) #[true, true, true, true, true, true, true, true, true] rfl rfl (any_of HT_.out (by kernel_rfl)) (fun _ _ _ h => h) (Or.inl ⟨by rfl, ?_⟩) ?_ ?_
                    rotate_left
                    · intro w'
                      go_simp
                      with_reducible rfl
                    rotate_left
                    · simp only [Act.put, List.setIfInBounds_toArray, List.set_cons_zero, List.set_cons_succ, i64_w, i32_w]
                      rfl
                    refine done_ (done_of HT_.out (by kernel_rfl)) ?_
                    try go_wp2
                    have n0_ := Aside0.mk (blk_drew BK183.out)
                    have n1_ := Aside0.mk (blk_drew BK184.out)
                    have n2_ := Aside0.mk (below_drew1 HB.out)
                    clear BK183
                    clear BK184
                    clear HB
                    have BK183 := n0_
                    have BK184 := n1_
                    have HB := n2_
                    clear n0_ n1_ n2_
                    refine start_ (n := 18) (S := fun w' => True) (ds := []) #[false, false, false, false, false, false, false, false, false, false, false, false, false, false, false, false, false, false] (by kernel_rfl) rfl rfl trivial (fun hHeld => ?_); refine with_tabW contangolaw21_goes.tab3 contangolaw21_goes.bits3 (fun HT_ HW_ => ?_)
                    generalize w30.drew = w31 at BK183 BK184 HB hHeld ⊢
                    refine inv_at [0, 1, 2, 3, 4, 5, 6, 7, 8, 9, 10, 11, 12, 13, 14, 15, 16, 17] (fun a0_ b a w' => ∃ (v202 : Value) (v205 : Value) (v208 : Value) (v212 : Value) (m12_ : Value) (m13_ : Value) (m14_ : Value) (m16_ : Value), a = putSel a0_ b [(0, 17, .agg #[.string t194, .int .i64 t195, .int .i64 t196, .int .i64 t197, .int .i64 t198, .int .i64 t199, .bool t200]), (1, 18, v202), (2, 19, .agg #[.string t175, .int .i64 t176, .int .i64 t177, .int .i64 t178]), (3, 20, .agg #[.string t175, .int .i64 t176, .int .i64 t177, .int .i64 t178, .int .i64 2, .int .i64 0]), (4, 21, .agg #[.string t179, .int .i64 t180, .int .i64 t181, .int .i64 t182]), (5, 22, .agg #[.string t179, .int .i64 t180, .int .i64 t181, .int .i64 t182, .int .i64 0, .int .i64 1]), (6, 23, v205), (7, 24, .agg #[.string t175, .int .i64 t176, .int .i64 t177, .int .i64 t178]), (8, 25, .agg #[.string t175, .int .i64 t176, .int .i64 t177, .int .i64 t178, .int .i64 7]), (9, 26, .agg #[.string t179, .int .i64 t180, .int .i64 t181, .int .i64 t182]), (10, 27, .agg #[.string t179, .int .i64 t180, .int .i64 t181, .int .i64 t182, .int .i64 3]), (11, 28, v208), (12, 29, m12_), (13, 16, m13_), (14, 30, m14_), (15, 31, .int .i64 t211), (16, 5, m16_), (17, 6, .int .i64 t211)] ∧ (w'.heap[gb183]? = some (.cells #[.string t175, .int .i64 t176, .int .i64 t177, .int .i64 t178] 23 (0, 0))) ∧ (w'.heap[gb184]? = some (.cells #[.string t179, .int .i64 t180, .int .i64 t181, .int .i64 t182] 23 (0, 0))) ∧ (Below w.heap.size w w') ∧ (b 1 = true → Kd.R k29 29 w' w.heap.size (fun _ => True) v202 y201) ∧ (b 6 = true → Kd.R k57 57 w' w.heap.size (fun _ => True) v205 y204) ∧ (b 11 = true → Kd.R k63 63 w' w.heap.size (fun _ => True) v208 y207) ∧ (b 12 = true → Kd.R (Kd.int .i64) 3 w' w.heap.size (fun _ => True) v212 t210) ∧ (b 12 = true → (m12_ : Value) = .tuple #[v212, .int .i64 t211]) ∧ (b 13 = true → (m13_ : Value) = .tuple #[v212, .int .i64 t211]) ∧ (b 14 = true → (m14_ : Value) = v212) ∧ (b 16 = true → (m16_ : Value) = v212)) HT_.out HW_.out (by kernel_rfl) (by kernel_rfl) ?_ ?_ ?_
                    · exact ⟨.bool false, .bool false, .bool false, .bool false, .bool false, .bool false, .bool false, .bool false, by simp only [putSel, Bool.false_eq_true, if_false], BK183.out, BK184.out, HB.out, fun h_ => absurd h_ (by decide), fun h_ => absurd h_ (by decide), fun h_ => absurd h_ (by decide), fun h_ => absurd h_ (by decide), fun h_ => absurd h_ (by decide), fun h_ => absurd h_ (by decide), fun h_ => absurd h_ (by decide), fun h_ => absurd h_ (by decide)⟩
                    · skip
                      clear BK183 BK184 HB
                      refine steps_cons ?_ ?_
                      · rintro b a w' ⟨v202, v205, v208, v212, m12_, m13_, m14_, m16_, ha, Q_BK183, Q_BK184, Q_HB, Q_HO203, Q_HO206, Q_HO209, Q_HO213, Q_X12_, Q_X13_, Q_X14_, Q_X16_⟩ hb_ hon hoff
                        refine ⟨_, rfl, fun K hK => ?_⟩
                        replace ha := Aside0.mk ha
                        have BK183 := Aside0.mk Q_BK183
                        have BK184 := Aside0.mk Q_BK184
                        have HB := Aside0.mk Q_HB
                        refine goes_ Try.func28 (by kernel_rfl) rfl #[] (by rfl) rfl rfl (by first | (simp only [List.map_toArray, List.map_cons, List.map_nil, Act.eval, Array.getD_eq_getD_getElem?, Option.getD_some]; done) | (simp only [List.map_toArray, List.map_cons, List.map_nil, Act.eval, Array.getD_eq_getD_getElem?, Option.getD_some]; rfl)) ?_
                        with_reducible refine (contangolaw21_oil.calls  t194 t195 t196 t197 t198 t199 t200 _ A5.out).mono ?_
                        rintro e w32 ⟨rfl, hb⟩
                        refine ⟨_, rfl, ?_⟩
                        have n0_ := Aside0.mk (blk_below (g := gb183) (o := .cells #[.string t175, .int .i64 t176, .int .i64 t177, .int .i64 t178] 23 (0, 0)) (by (with_reducible repeat (first | refine blk_drewN ?_ _ | refine blk_drew ?_ | refine blk_alloc ?_ _)); exact BK183.out) hb)
                        have n1_ := Aside0.mk (blk_below (g := gb184) (o := .cells #[.string t179, .int .i64 t180, .int .i64 t181, .int .i64 t182] 23 (0, 0)) (by (with_reducible repeat (first | refine blk_drewN ?_ _ | refine blk_drew ?_ | refine blk_alloc ?_ _)); exact BK184.out) hb)
                        have n2_ := Aside0.mk (below_step (by repeat (first | (with_reducible first | exact HB.out | apply below_alloc | apply pw_below_drewN | apply below_drew1 | refine below_set ?_ GE183.out | refine below_set ?_ GE184.out) | exact HB.out)) hb)
                        have z_HO206 := fun (h0_ : b 6 = true) => (show Kd.R k57 57 w32 w.heap.size (fun _ => True) v205 y204 from by first | exact (Kd.R_below (by (with_reducible repeat (first | apply Kd.R_alloc | apply Kd.R_drewN | apply Kd.R_drew)); exact (Q_HO206 h0_)) hb) | exact Kd.R_mono (Kd.R_below (by (with_reducible repeat (first | apply Kd.R_alloc | apply Kd.R_drewN | apply Kd.R_drew)); exact (Q_HO206 h0_)) hb) (fun _ h_ => by first | trivial | exact h_ | exact h_.1))
                        have z_HO209 := fun (h0_ : b 11 = true) => (show Kd.R k63 63 w32 w.heap.size (fun _ => True) v208 y207 from by first | exact (Kd.R_below (by (with_reducible repeat (first | apply Kd.R_alloc | apply Kd.R_drewN | apply Kd.R_drew)); exact (Q_HO209 h0_)) hb) | exact Kd.R_mono (Kd.R_below (by (with_reducible repeat (first | apply Kd.R_alloc | apply Kd.R_drewN | apply Kd.R_drew)); exact (Q_HO209 h0_)) hb) (fun _ h_ => by first | trivial | exact h_ | exact h_.1))
                        clear BK183
                        clear BK184
                        clear HB
                        have BK183 := n0_
                        have BK184 := n1_
                        have HB := n2_
                        clear n0_ n1_ n2_
                        (try clear hb)
                        (try clear hb2)
                        (try clear hk)
                        (try clear hi)
                        refine hK.out _ _ ⟨v202, v205, v208, v212, m12_, m13_, m14_, m16_, (by rw [ha.out]; exact putSel_upk 0 hb_ rfl rfl rfl), (by (with_reducible repeat (first | refine blk_drewN ?_ _ | refine blk_drew ?_ | refine blk_alloc ?_ _)); exact BK183.out), (by (with_reducible repeat (first | refine blk_drewN ?_ _ | refine blk_drew ?_ | refine blk_alloc ?_ _)); exact BK184.out), (by repeat (first | (with_reducible first | exact HB.out | apply below_alloc | apply pw_below_drewN | apply below_drew1 | refine below_set ?_ GE183.out | refine below_set ?_ GE184.out) | exact HB.out)), fun h0_ => absurd ((hoff 1 (by kernel_rfl)).symm.trans h0_) (by decide), z_HO206, z_HO209, fun h0_ => absurd ((hoff 12 (by kernel_rfl)).symm.trans h0_) (by decide), fun h0_ => absurd ((hoff 12 (by kernel_rfl)).symm.trans h0_) (by decide), fun h0_ => absurd ((hoff 13 (by kernel_rfl)).symm.trans h0_) (by decide), fun h0_ => absurd ((hoff 14 (by kernel_rfl)).symm.trans h0_) (by decide), fun h0_ => absurd ((hoff 16 (by kernel_rfl)).symm.trans h0_) (by decide)⟩
                      refine steps_cons ?_ ?_
                      · rintro b a w' ⟨v202, v205, v208, v212, m12_, m13_, m14_, m16_, ha, Q_BK183, Q_BK184, Q_HB, Q_HO203, Q_HO206, Q_HO209, Q_HO213, Q_X12_, Q_X13_, Q_X14_, Q_X16_⟩ hb_ hon hoff
                        refine ⟨_, rfl, fun K hK => ?_⟩
                        have e17 : a.tmps[17]? = some (.agg #[.string t194, .int .i64 t195, .int .i64 t196, .int .i64 t197, .int .i64 t198, .int .i64 t199, .bool t200]) := by rw [ha]; exact putSel_on (e := (0, 17, .agg #[.string t194, .int .i64 t195, .int .i64 t196, .int .i64 t197, .int .i64 t198, .int .i64 t199, .bool t200])) 0 rfl rfl (hon 0 (by kernel_rfl)) rfl
                        replace ha := Aside0.mk ha
                        have BK183 := Aside0.mk Q_BK183
                        have BK184 := Aside0.mk Q_BK184
                        have HB := Aside0.mk Q_HB
                        refine Kd.R_lit_step k29 _ 29 ?hg (N := 18) ?hd (xs := ([(⟨t194, t195, t196, t197, t198, t199, t200⟩ : S29)] : List (S29))) (inner := [.string t194, .int .i64 t195, .int .i64 t196, .int .i64 t197, .int .i64 t198, .int .i64 t199, .bool t200]) (ok := fun _ => True) (okp := fun _ => True) ?hr ?hp (fun _ hk => hk) trivial (Below.refl _ _) (Nat.le_refl _) (by simp) ?_; (case hd => rfl); (case hg => rfl); (case hr => first | (go_simp; done) | (go_simp; rfl)); (case hp => exact (Reps.c7 (show Kd.M k29 _ _ _ (⟨t194, t195, t196, t197, t198, t199, t200⟩ : S29) [.string t194, .int .i64 t195, .int .i64 t196, .int .i64 t197, .int .i64 t198, .int .i64 t199, .bool t200] from (k29_mkM _ _ _ (⟨t194, t195, t196, t197, t198, t199, t200⟩ : S29) )) (Reps.none _ _)))
                        intro v202 w34 ho35 hb hg_ hnew_
                        clear hg_ hnew_
                        (first | rw [← Ny201.out] at ho35 | (simp only [Int.reduceToNat] at ho35; rw [← Ny201.out] at ho35))
                        have n0_ := Aside0.mk (Kd.R_lower ho35 (below_size (by repeat (first | (with_reducible first | exact HB.out | apply below_alloc | apply pw_below_drewN | apply below_drew1 | refine below_set ?_ GE183.out | refine below_set ?_ GE184.out) | exact HB.out))))
                        have n1_ := Aside0.mk (blk_below (g := gb183) (o := .cells #[.string t175, .int .i64 t176, .int .i64 t177, .int .i64 t178] 23 (0, 0)) (by (with_reducible repeat (first | refine blk_drewN ?_ _ | refine blk_drew ?_ | refine blk_alloc ?_ _)); exact BK183.out) hb)
                        have n2_ := Aside0.mk (blk_below (g := gb184) (o := .cells #[.string t179, .int .i64 t180, .int .i64 t181, .int .i64 t182] 23 (0, 0)) (by (with_reducible repeat (first | refine blk_drewN ?_ _ | refine blk_drew ?_ | refine blk_alloc ?_ _)); exact BK184.out) hb)
                        have n3_ := Aside0.mk (below_step (by repeat (first | (with_reducible first | exact HB.out | apply below_alloc | apply pw_below_drewN | apply below_drew1 | refine below_set ?_ GE183.out | refine below_set ?_ GE184.out) | exact HB.out)) hb)
                        have z_HO206 := fun (h0_ : b 6 = true) => (show Kd.R k57 57 w34 w.heap.size (fun _ => True) v205 y204 from by first | exact (Kd.R_below (by (with_reducible repeat (first | apply Kd.R_alloc | apply Kd.R_drewN | apply Kd.R_drew)); exact (Q_HO206 h0_)) hb) | exact Kd.R_mono (Kd.R_below (by (with_reducible repeat (first | apply Kd.R_alloc | apply Kd.R_drewN | apply Kd.R_drew)); exact (Q_HO206 h0_)) hb) (fun _ h_ => by first | trivial | exact h_ | exact h_.1))
                        have z_HO209 := fun (h0_ : b 11 = true) => (show Kd.R k63 63 w34 w.heap.size (fun _ => True) v208 y207 from by first | exact (Kd.R_below (by (with_reducible repeat (first | apply Kd.R_alloc | apply Kd.R_drewN | apply Kd.R_drew)); exact (Q_HO209 h0_)) hb) | exact Kd.R_mono (Kd.R_below (by (with_reducible repeat (first | apply Kd.R_alloc | apply Kd.R_drewN | apply Kd.R_drew)); exact (Q_HO209 h0_)) hb) (fun _ h_ => by first | trivial | exact h_ | exact h_.1))
                        clear BK183
                        clear BK184
                        clear HB
                        have HO203 := n0_
                        have BK183 := n1_
                        have BK184 := n2_
                        have HB := n3_
                        clear n0_ n1_ n2_ n3_
                        clear hb ho35
                        refine hK.out _ _ ⟨v202, v205, v208, v212, m12_, m13_, m14_, m16_, (by rw [ha.out]; exact putSel_upk 1 hb_ rfl rfl rfl), (by (with_reducible repeat (first | refine blk_drewN ?_ _ | refine blk_drew ?_ | refine blk_alloc ?_ _)); exact BK183.out), (by (with_reducible repeat (first | refine blk_drewN ?_ _ | refine blk_drew ?_ | refine blk_alloc ?_ _)); exact BK184.out), (by repeat (first | (with_reducible first | exact HB.out | apply below_alloc | apply pw_below_drewN | apply below_drew1 | refine below_set ?_ GE183.out | refine below_set ?_ GE184.out) | exact HB.out)), fun _ => (by (with_reducible repeat (first | apply Kd.R_alloc | apply Kd.R_drewN | apply Kd.R_drew)); exact HO203.out), z_HO206, z_HO209, fun h0_ => absurd ((hoff 12 (by kernel_rfl)).symm.trans h0_) (by decide), fun h0_ => absurd ((hoff 12 (by kernel_rfl)).symm.trans h0_) (by decide), fun h0_ => absurd ((hoff 13 (by kernel_rfl)).symm.trans h0_) (by decide), fun h0_ => absurd ((hoff 14 (by kernel_rfl)).symm.trans h0_) (by decide), fun h0_ => absurd ((hoff 16 (by kernel_rfl)).symm.trans h0_) (by decide)⟩
                      refine steps_cons ?_ ?_
                      · rintro b a w' ⟨v202, v205, v208, v212, m12_, m13_, m14_, m16_, ha, Q_BK183, Q_BK184, Q_HB, Q_HO203, Q_HO206, Q_HO209, Q_HO213, Q_X12_, Q_X13_, Q_X14_, Q_X16_⟩ hb_ hon hoff
                        refine ⟨_, rfl, fun K hK => ?_⟩
                        have e1 : a.tmps[1]? = some (.pointer (some ⟨gb183, 0, none⟩)) := by rw [ha]; exact (putSel_off rfl).trans rfl
                        replace ha := Aside0.mk ha
                        have BK183 := Aside0.mk Q_BK183
                        have BK184 := Aside0.mk Q_BK184
                        have HB := Aside0.mk Q_HB
                        have hc0_ : w'.cell? ⟨gb183, 0, none⟩ = some (.string t175) := (blk_cell BK183.out 0).trans rfl
                        have hc1_ : w'.cell? ⟨gb183, 1, none⟩ = some (.int .i64 t176) := (blk_cell BK183.out 1).trans rfl
                        have hc2_ : w'.cell? ⟨gb183, 2, none⟩ = some (.int .i64 t177) := (blk_cell BK183.out 2).trans rfl
                        have hc3_ : w'.cell? ⟨gb183, 3, none⟩ = some (.int .i64 t178) := (blk_cell BK183.out 3).trans rfl
                        refine value_ (w1 := w') (v := .agg #[.string t175, .int .i64 t176, .int .i64 t177, .int .i64 t178]) (by rfl) rfl ?_ ?_
                        · go_simp
                          (try simp only [i64_w])
                          try rfl
                        refine hK.out _ _ ⟨v202, v205, v208, v212, m12_, m13_, m14_, m16_, (by rw [ha.out]; exact putSel_upk 2 hb_ rfl rfl rfl), Q_BK183, Q_BK184, Q_HB, Q_HO203, fun h0_ => absurd ((hoff 6 (by kernel_rfl)).symm.trans h0_) (by decide), Q_HO209, fun h0_ => absurd ((hoff 12 (by kernel_rfl)).symm.trans h0_) (by decide), fun h0_ => absurd ((hoff 12 (by kernel_rfl)).symm.trans h0_) (by decide), fun h0_ => absurd ((hoff 13 (by kernel_rfl)).symm.trans h0_) (by decide), fun h0_ => absurd ((hoff 14 (by kernel_rfl)).symm.trans h0_) (by decide), fun h0_ => absurd ((hoff 16 (by kernel_rfl)).symm.trans h0_) (by decide)⟩
                      refine steps_cons ?_ ?_
                      · rintro b a w' ⟨v202, v205, v208, v212, m12_, m13_, m14_, m16_, ha, Q_BK183, Q_BK184, Q_HB, Q_HO203, Q_HO206, Q_HO209, Q_HO213, Q_X12_, Q_X13_, Q_X14_, Q_X16_⟩ hb_ hon hoff
                        refine ⟨_, rfl, fun K hK => ?_⟩
                        have e19 : a.tmps[19]? = some (.agg #[.string t175, .int .i64 t176, .int .i64 t177, .int .i64 t178]) := by rw [ha]; exact putSel_on (e := (2, 19, .agg #[.string t175, .int .i64 t176, .int .i64 t177, .int .i64 t178])) 2 rfl rfl (hon 2 (by kernel_rfl)) rfl
                        replace ha := Aside0.mk ha
                        have BK183 := Aside0.mk Q_BK183
                        have BK184 := Aside0.mk Q_BK184
                        have HB := Aside0.mk Q_HB
                        refine value_ (w1 := w') (v := .agg #[.string t175, .int .i64 t176, .int .i64 t177, .int .i64 t178, .int .i64 2, .int .i64 0]) (by rfl) rfl ?_ ?_
                        · go_simp
                          (try simp only [i64_w])
                          try rfl
                        refine hK.out _ _ ⟨v202, v205, v208, v212, m12_, m13_, m14_, m16_, (by rw [ha.out]; exact putSel_upk 3 hb_ rfl rfl rfl), Q_BK183, Q_BK184, Q_HB, Q_HO203, fun h0_ => absurd ((hoff 6 (by kernel_rfl)).symm.trans h0_) (by decide), Q_HO209, fun h0_ => absurd ((hoff 12 (by kernel_rfl)).symm.trans h0_) (by decide), fun h0_ => absurd ((hoff 12 (by kernel_rfl)).symm.trans h0_) (by decide), fun h0_ => absurd ((hoff 13 (by kernel_rfl)).symm.trans h0_) (by decide), fun h0_ => absurd ((hoff 14 (by kernel_rfl)).symm.trans h0_) (by decide), fun h0_ => absurd ((hoff 16 (by kernel_rfl)).symm.trans h0_) (by decide)⟩
                      refine steps_cons ?_ ?_
                      · rintro b a w' ⟨v202, v205, v208, v212, m12_, m13_, m14_, m16_, ha, Q_BK183, Q_BK184, Q_HB, Q_HO203, Q_HO206, Q_HO209, Q_HO213, Q_X12_, Q_X13_, Q_X14_, Q_X16_⟩ hb_ hon hoff
                        refine ⟨_, rfl, fun K hK => ?_⟩
                        have e2 : a.tmps[2]? = some (.pointer (some ⟨gb184, 0, none⟩)) := by rw [ha]; exact (putSel_off rfl).trans rfl
                        replace ha := Aside0.mk ha
                        have BK183 := Aside0.mk Q_BK183
                        have BK184 := Aside0.mk Q_BK184
                        have HB := Aside0.mk Q_HB
                        have hc0_ : w'.cell? ⟨gb184, 0, none⟩ = some (.string t179) := (blk_cell BK184.out 0).trans rfl
                        have hc1_ : w'.cell? ⟨gb184, 1, none⟩ = some (.int .i64 t180) := (blk_cell BK184.out 1).trans rfl
                        have hc2_ : w'.cell? ⟨gb184, 2, none⟩ = some (.int .i64 t181) := (blk_cell BK184.out 2).trans rfl
                        have hc3_ : w'.cell? ⟨gb184, 3, none⟩ = some (.int .i64 t182) := (blk_cell BK184.out 3).trans rfl
                        refine value_ (w1 := w') (v := .agg #[.string t179, .int .i64 t180, .int .i64 t181, .int .i64 t182]) (by rfl) rfl ?_ ?_
                        · go_simp
                          (try simp only [i64_w])
                          try rfl
                        refine hK.out _ _ ⟨v202, v205, v208, v212, m12_, m13_, m14_, m16_, (by rw [ha.out]; exact putSel_upk 4 hb_ rfl rfl rfl), Q_BK183, Q_BK184, Q_HB, Q_HO203, fun h0_ => absurd ((hoff 6 (by kernel_rfl)).symm.trans h0_) (by decide), Q_HO209, fun h0_ => absurd ((hoff 12 (by kernel_rfl)).symm.trans h0_) (by decide), fun h0_ => absurd ((hoff 12 (by kernel_rfl)).symm.trans h0_) (by decide), fun h0_ => absurd ((hoff 13 (by kernel_rfl)).symm.trans h0_) (by decide), fun h0_ => absurd ((hoff 14 (by kernel_rfl)).symm.trans h0_) (by decide), fun h0_ => absurd ((hoff 16 (by kernel_rfl)).symm.trans h0_) (by decide)⟩
                      refine steps_cons ?_ ?_
                      · rintro b a w' ⟨v202, v205, v208, v212, m12_, m13_, m14_, m16_, ha, Q_BK183, Q_BK184, Q_HB, Q_HO203, Q_HO206, Q_HO209, Q_HO213, Q_X12_, Q_X13_, Q_X14_, Q_X16_⟩ hb_ hon hoff
                        refine ⟨_, rfl, fun K hK => ?_⟩
                        have e21 : a.tmps[21]? = some (.agg #[.string t179, .int .i64 t180, .int .i64 t181, .int .i64 t182]) := by rw [ha]; exact putSel_on (e := (4, 21, .agg #[.string t179, .int .i64 t180, .int .i64 t181, .int .i64 t182])) 4 rfl rfl (hon 4 (by kernel_rfl)) rfl
                        replace ha := Aside0.mk ha
                        have BK183 := Aside0.mk Q_BK183
                        have BK184 := Aside0.mk Q_BK184
                        have HB := Aside0.mk Q_HB
                        refine value_ (w1 := w') (v := .agg #[.string t179, .int .i64 t180, .int .i64 t181, .int .i64 t182, .int .i64 0, .int .i64 1]) (by rfl) rfl ?_ ?_
                        · go_simp
                          (try simp only [i64_w])
                          try rfl
                        refine hK.out _ _ ⟨v202, v205, v208, v212, m12_, m13_, m14_, m16_, (by rw [ha.out]; exact putSel_upk 5 hb_ rfl rfl rfl), Q_BK183, Q_BK184, Q_HB, Q_HO203, fun h0_ => absurd ((hoff 6 (by kernel_rfl)).symm.trans h0_) (by decide), Q_HO209, fun h0_ => absurd ((hoff 12 (by kernel_rfl)).symm.trans h0_) (by decide), fun h0_ => absurd ((hoff 12 (by kernel_rfl)).symm.trans h0_) (by decide), fun h0_ => absurd ((hoff 13 (by kernel_rfl)).symm.trans h0_) (by decide), fun h0_ => absurd ((hoff 14 (by kernel_rfl)).symm.trans h0_) (by decide), fun h0_ => absurd ((hoff 16 (by kernel_rfl)).symm.trans h0_) (by decide)⟩
                      refine steps_cons ?_ ?_
                      · rintro b a w' ⟨v202, v205, v208, v212, m12_, m13_, m14_, m16_, ha, Q_BK183, Q_BK184, Q_HB, Q_HO203, Q_HO206, Q_HO209, Q_HO213, Q_X12_, Q_X13_, Q_X14_, Q_X16_⟩ hb_ hon hoff
                        refine ⟨_, rfl, fun K hK => ?_⟩
                        have e20 : a.tmps[20]? = some (.agg #[.string t175, .int .i64 t176, .int .i64 t177, .int .i64 t178, .int .i64 2, .int .i64 0]) := by rw [ha]; exact putSel_on (e := (3, 20, .agg #[.string t175, .int .i64 t176, .int .i64 t177, .int .i64 t178, .int .i64 2, .int .i64 0])) 3 rfl rfl (hon 3 (by kernel_rfl)) rfl
                        have e22 : a.tmps[22]? = some (.agg #[.string t179, .int .i64 t180, .int .i64 t181, .int .i64 t182, .int .i64 0, .int .i64 1]) := by rw [ha]; exact putSel_on (e := (5, 22, .agg #[.string t179, .int .i64 t180, .int .i64 t181, .int .i64 t182, .int .i64 0, .int .i64 1])) 5 rfl rfl (hon 5 (by kernel_rfl)) rfl
                        replace ha := Aside0.mk ha
                        have BK183 := Aside0.mk Q_BK183
                        have BK184 := Aside0.mk Q_BK184
                        have HB := Aside0.mk Q_HB
                        refine Kd.R_lit_step k57 _ 57 ?hg (N := 23) ?hd (xs := ([(⟨(⟨t175, t176, t177, t178⟩ : S23), 2, 0⟩ : S57), (⟨(⟨t179, t180, t181, t182⟩ : S23), 0, 1⟩ : S57)] : List (S57))) (inner := [.string t175, .int .i64 t176, .int .i64 t177, .int .i64 t178, .int .i64 2, .int .i64 0, .string t179, .int .i64 t180, .int .i64 t181, .int .i64 t182, .int .i64 0, .int .i64 1]) (ok := fun _ => True) (okp := fun _ => True) ?hr ?hp (fun _ hk => hk) trivial (Below.refl _ _) (Nat.le_refl _) (by simp) ?_; (case hd => rfl); (case hg => rfl); (case hr => first | (go_simp; done) | (go_simp; rfl)); (case hp => exact (Reps.c6 (show Kd.M k57 _ _ _ (⟨(⟨t175, t176, t177, t178⟩ : S23), 2, 0⟩ : S57) [.string t175, .int .i64 t176, .int .i64 t177, .int .i64 t178, .int .i64 2, .int .i64 0] from (k57_mkM _ _ _ (⟨(⟨t175, t176, t177, t178⟩ : S23), 2, 0⟩ : S57) )) (Reps.c6 (show Kd.M k57 _ _ _ (⟨(⟨t179, t180, t181, t182⟩ : S23), 0, 1⟩ : S57) [.string t179, .int .i64 t180, .int .i64 t181, .int .i64 t182, .int .i64 0, .int .i64 1] from (k57_mkM _ _ _ (⟨(⟨t179, t180, t181, t182⟩ : S23), 0, 1⟩ : S57) )) (Reps.none _ _))))
                        intro v205 w32 ho33 hb hg_ hnew_
                        clear hg_ hnew_
                        (first | rw [← Ny204.out] at ho33 | (simp only [Int.reduceToNat] at ho33; rw [← Ny204.out] at ho33))
                        have n0_ := Aside0.mk (Kd.R_lower ho33 (below_size (by repeat (first | (with_reducible first | exact HB.out | apply below_alloc | apply pw_below_drewN | apply below_drew1 | refine below_set ?_ GE183.out | refine below_set ?_ GE184.out) | exact HB.out))))
                        have n1_ := Aside0.mk (blk_below (g := gb183) (o := .cells #[.string t175, .int .i64 t176, .int .i64 t177, .int .i64 t178] 23 (0, 0)) (by (with_reducible repeat (first | refine blk_drewN ?_ _ | refine blk_drew ?_ | refine blk_alloc ?_ _)); exact BK183.out) hb)
                        have n2_ := Aside0.mk (blk_below (g := gb184) (o := .cells #[.string t179, .int .i64 t180, .int .i64 t181, .int .i64 t182] 23 (0, 0)) (by (with_reducible repeat (first | refine blk_drewN ?_ _ | refine blk_drew ?_ | refine blk_alloc ?_ _)); exact BK184.out) hb)
                        have n3_ := Aside0.mk (below_step (by repeat (first | (with_reducible first | exact HB.out | apply below_alloc | apply pw_below_drewN | apply below_drew1 | refine below_set ?_ GE183.out | refine below_set ?_ GE184.out) | exact HB.out)) hb)
                        have z_HO203 := fun (h0_ : b 1 = true) => (show Kd.R k29 29 w32 w.heap.size (fun _ => True) v202 y201 from by first | exact (Kd.R_below (by (with_reducible repeat (first | apply Kd.R_alloc | apply Kd.R_drewN | apply Kd.R_drew)); exact (Q_HO203 h0_)) hb) | exact Kd.R_mono (Kd.R_below (by (with_reducible repeat (first | apply Kd.R_alloc | apply Kd.R_drewN | apply Kd.R_drew)); exact (Q_HO203 h0_)) hb) (fun _ h_ => by first | trivial | exact h_ | exact h_.1))
                        have z_HO209 := fun (h0_ : b 11 = true) => (show Kd.R k63 63 w32 w.heap.size (fun _ => True) v208 y207 from by first | exact (Kd.R_below (by (with_reducible repeat (first | apply Kd.R_alloc | apply Kd.R_drewN | apply Kd.R_drew)); exact (Q_HO209 h0_)) hb) | exact Kd.R_mono (Kd.R_below (by (with_reducible repeat (first | apply Kd.R_alloc | apply Kd.R_drewN | apply Kd.R_drew)); exact (Q_HO209 h0_)) hb) (fun _ h_ => by first | trivial | exact h_ | exact h_.1))
                        clear BK183
                        clear BK184
                        clear HB
                        have HO206 := n0_
                        have BK183 := n1_
                        have BK184 := n2_
                        have HB := n3_
                        clear n0_ n1_ n2_ n3_
                        clear hb ho33
                        refine hK.out _ _ ⟨v202, v205, v208, v212, m12_, m13_, m14_, m16_, (by rw [ha.out]; exact putSel_upk 6 hb_ rfl rfl rfl), (by (with_reducible repeat (first | refine blk_drewN ?_ _ | refine blk_drew ?_ | refine blk_alloc ?_ _)); exact BK183.out), (by (with_reducible repeat (first | refine blk_drewN ?_ _ | refine blk_drew ?_ | refine blk_alloc ?_ _)); exact BK184.out), (by repeat (first | (with_reducible first | exact HB.out | apply below_alloc | apply pw_below_drewN | apply below_drew1 | refine below_set ?_ GE183.out | refine below_set ?_ GE184.out) | exact HB.out)), z_HO203, fun _ => (by (with_reducible repeat (first | apply Kd.R_alloc | apply Kd.R_drewN | apply Kd.R_drew)); exact HO206.out), z_HO209, fun h0_ => absurd ((hoff 12 (by kernel_rfl)).symm.trans h0_) (by decide), fun h0_ => absurd ((hoff 12 (by kernel_rfl)).symm.trans h0_) (by decide), fun h0_ => absurd ((hoff 13 (by kernel_rfl)).symm.trans h0_) (by decide), fun h0_ => absurd ((hoff 14 (by kernel_rfl)).symm.trans h0_) (by decide), fun h0_ => absurd ((hoff 16 (by kernel_rfl)).symm.trans h0_) (by decide)⟩
                      refine steps_cons ?_ ?_
                      · rintro b a w' ⟨v202, v205, v208, v212, m12_, m13_, m14_, m16_, ha, Q_BK183, Q_BK184, Q_HB, Q_HO203, Q_HO206, Q_HO209, Q_HO213, Q_X12_, Q_X13_, Q_X14_, Q_X16_⟩ hb_ hon hoff
                        refine ⟨_, rfl, fun K hK => ?_⟩
                        have e1 : a.tmps[1]? = some (.pointer (some ⟨gb183, 0, none⟩)) := by rw [ha]; exact (putSel_off rfl).trans rfl
                        replace ha := Aside0.mk ha
                        have BK183 := Aside0.mk Q_BK183
                        have BK184 := Aside0.mk Q_BK184
                        have HB := Aside0.mk Q_HB
                        have hc0_ : w'.cell? ⟨gb183, 0, none⟩ = some (.string t175) := (blk_cell BK183.out 0).trans rfl
                        have hc1_ : w'.cell? ⟨gb183, 1, none⟩ = some (.int .i64 t176) := (blk_cell BK183.out 1).trans rfl
                        have hc2_ : w'.cell? ⟨gb183, 2, none⟩ = some (.int .i64 t177) := (blk_cell BK183.out 2).trans rfl
                        have hc3_ : w'.cell? ⟨gb183, 3, none⟩ = some (.int .i64 t178) := (blk_cell BK183.out 3).trans rfl
                        refine value_ (w1 := w') (v := .agg #[.string t175, .int .i64 t176, .int .i64 t177, .int .i64 t178]) (by rfl) rfl ?_ ?_
                        · go_simp
                          (try simp only [i64_w])
                          try rfl
                        refine hK.out _ _ ⟨v202, v205, v208, v212, m12_, m13_, m14_, m16_, (by rw [ha.out]; exact putSel_upk 7 hb_ rfl rfl rfl), Q_BK183, Q_BK184, Q_HB, Q_HO203, Q_HO206, fun h0_ => absurd ((hoff 11 (by kernel_rfl)).symm.trans h0_) (by decide), fun h0_ => absurd ((hoff 12 (by kernel_rfl)).symm.trans h0_) (by decide), fun h0_ => absurd ((hoff 12 (by kernel_rfl)).symm.trans h0_) (by decide), fun h0_ => absurd ((hoff 13 (by kernel_rfl)).symm.trans h0_) (by decide), fun h0_ => absurd ((hoff 14 (by kernel_rfl)).symm.trans h0_) (by decide), fun h0_ => absurd ((hoff 16 (by kernel_rfl)).symm.trans h0_) (by decide)⟩
                      refine steps_cons ?_ ?_
                      · rintro b a w' ⟨v202, v205, v208, v212, m12_, m13_, m14_, m16_, ha, Q_BK183, Q_BK184, Q_HB, Q_HO203, Q_HO206, Q_HO209, Q_HO213, Q_X12_, Q_X13_, Q_X14_, Q_X16_⟩ hb_ hon hoff
                        refine ⟨_, rfl, fun K hK => ?_⟩
                        have e24 : a.tmps[24]? = some (.agg #[.string t175, .int .i64 t176, .int .i64 t177, .int .i64 t178]) := by rw [ha]; exact putSel_on (e := (7, 24, .agg #[.string t175, .int .i64 t176, .int .i64 t177, .int .i64 t178])) 7 rfl rfl (hon 7 (by kernel_rfl)) rfl
                        replace ha := Aside0.mk ha
                        have BK183 := Aside0.mk Q_BK183
                        have BK184 := Aside0.mk Q_BK184
                        have HB := Aside0.mk Q_HB
                        refine value_ (w1 := w') (v := .agg #[.string t175, .int .i64 t176, .int .i64 t177, .int .i64 t178, .int .i64 7]) (by rfl) rfl ?_ ?_
                        · go_simp
                          (try simp only [i64_w])
                          try rfl
                        refine hK.out _ _ ⟨v202, v205, v208, v212, m12_, m13_, m14_, m16_, (by rw [ha.out]; exact putSel_upk 8 hb_ rfl rfl rfl), Q_BK183, Q_BK184, Q_HB, Q_HO203, Q_HO206, fun h0_ => absurd ((hoff 11 (by kernel_rfl)).symm.trans h0_) (by decide), fun h0_ => absurd ((hoff 12 (by kernel_rfl)).symm.trans h0_) (by decide), fun h0_ => absurd ((hoff 12 (by kernel_rfl)).symm.trans h0_) (by decide), fun h0_ => absurd ((hoff 13 (by kernel_rfl)).symm.trans h0_) (by decide), fun h0_ => absurd ((hoff 14 (by kernel_rfl)).symm.trans h0_) (by decide), fun h0_ => absurd ((hoff 16 (by kernel_rfl)).symm.trans h0_) (by decide)⟩
                      refine steps_cons ?_ ?_
                      · rintro b a w' ⟨v202, v205, v208, v212, m12_, m13_, m14_, m16_, ha, Q_BK183, Q_BK184, Q_HB, Q_HO203, Q_HO206, Q_HO209, Q_HO213, Q_X12_, Q_X13_, Q_X14_, Q_X16_⟩ hb_ hon hoff
                        refine ⟨_, rfl, fun K hK => ?_⟩
                        have e2 : a.tmps[2]? = some (.pointer (some ⟨gb184, 0, none⟩)) := by rw [ha]; exact (putSel_off rfl).trans rfl
                        replace ha := Aside0.mk ha
                        have BK183 := Aside0.mk Q_BK183
                        have BK184 := Aside0.mk Q_BK184
                        have HB := Aside0.mk Q_HB
                        have hc0_ : w'.cell? ⟨gb184, 0, none⟩ = some (.string t179) := (blk_cell BK184.out 0).trans rfl
                        have hc1_ : w'.cell? ⟨gb184, 1, none⟩ = some (.int .i64 t180) := (blk_cell BK184.out 1).trans rfl
                        have hc2_ : w'.cell? ⟨gb184, 2, none⟩ = some (.int .i64 t181) := (blk_cell BK184.out 2).trans rfl
                        have hc3_ : w'.cell? ⟨gb184, 3, none⟩ = some (.int .i64 t182) := (blk_cell BK184.out 3).trans rfl
                        refine value_ (w1 := w') (v := .agg #[.string t179, .int .i64 t180, .int .i64 t181, .int .i64 t182]) (by rfl) rfl ?_ ?_
                        · go_simp
                          (try simp only [i64_w])
                          try rfl
                        refine hK.out _ _ ⟨v202, v205, v208, v212, m12_, m13_, m14_, m16_, (by rw [ha.out]; exact putSel_upk 9 hb_ rfl rfl rfl), Q_BK183, Q_BK184, Q_HB, Q_HO203, Q_HO206, fun h0_ => absurd ((hoff 11 (by kernel_rfl)).symm.trans h0_) (by decide), fun h0_ => absurd ((hoff 12 (by kernel_rfl)).symm.trans h0_) (by decide), fun h0_ => absurd ((hoff 12 (by kernel_rfl)).symm.trans h0_) (by decide), fun h0_ => absurd ((hoff 13 (by kernel_rfl)).symm.trans h0_) (by decide), fun h0_ => absurd ((hoff 14 (by kernel_rfl)).symm.trans h0_) (by decide), fun h0_ => absurd ((hoff 16 (by kernel_rfl)).symm.trans h0_) (by decide)⟩
                      refine steps_cons ?_ ?_
                      · rintro b a w' ⟨v202, v205, v208, v212, m12_, m13_, m14_, m16_, ha, Q_BK183, Q_BK184, Q_HB, Q_HO203, Q_HO206, Q_HO209, Q_HO213, Q_X12_, Q_X13_, Q_X14_, Q_X16_⟩ hb_ hon hoff
                        refine ⟨_, rfl, fun K hK => ?_⟩
                        have e26 : a.tmps[26]? = some (.agg #[.string t179, .int .i64 t180, .int .i64 t181, .int .i64 t182]) := by rw [ha]; exact putSel_on (e := (9, 26, .agg #[.string t179, .int .i64 t180, .int .i64 t181, .int .i64 t182])) 9 rfl rfl (hon 9 (by kernel_rfl)) rfl
                        replace ha := Aside0.mk ha
                        have BK183 := Aside0.mk Q_BK183
                        have BK184 := Aside0.mk Q_BK184
                        have HB := Aside0.mk Q_HB
                        refine value_ (w1 := w') (v := .agg #[.string t179, .int .i64 t180, .int .i64 t181, .int .i64 t182, .int .i64 3]) (by rfl) rfl ?_ ?_
                        · go_simp
                          (try simp only [i64_w])
                          try rfl
                        refine hK.out _ _ ⟨v202, v205, v208, v212, m12_, m13_, m14_, m16_, (by rw [ha.out]; exact putSel_upk 10 hb_ rfl rfl rfl), Q_BK183, Q_BK184, Q_HB, Q_HO203, Q_HO206, fun h0_ => absurd ((hoff 11 (by kernel_rfl)).symm.trans h0_) (by decide), fun h0_ => absurd ((hoff 12 (by kernel_rfl)).symm.trans h0_) (by decide), fun h0_ => absurd ((hoff 12 (by kernel_rfl)).symm.trans h0_) (by decide), fun h0_ => absurd ((hoff 13 (by kernel_rfl)).symm.trans h0_) (by decide), fun h0_ => absurd ((hoff 14 (by kernel_rfl)).symm.trans h0_) (by decide), fun h0_ => absurd ((hoff 16 (by kernel_rfl)).symm.trans h0_) (by decide)⟩
                      refine steps_cons ?_ ?_
                      · rintro b a w' ⟨v202, v205, v208, v212, m12_, m13_, m14_, m16_, ha, Q_BK183, Q_BK184, Q_HB, Q_HO203, Q_HO206, Q_HO209, Q_HO213, Q_X12_, Q_X13_, Q_X14_, Q_X16_⟩ hb_ hon hoff
                        refine ⟨_, rfl, fun K hK => ?_⟩
                        have e25 : a.tmps[25]? = some (.agg #[.string t175, .int .i64 t176, .int .i64 t177, .int .i64 t178, .int .i64 7]) := by rw [ha]; exact putSel_on (e := (8, 25, .agg #[.string t175, .int .i64 t176, .int .i64 t177, .int .i64 t178, .int .i64 7])) 8 rfl rfl (hon 8 (by kernel_rfl)) rfl
                        have e27 : a.tmps[27]? = some (.agg #[.string t179, .int .i64 t180, .int .i64 t181, .int .i64 t182, .int .i64 3]) := by rw [ha]; exact putSel_on (e := (10, 27, .agg #[.string t179, .int .i64 t180, .int .i64 t181, .int .i64 t182, .int .i64 3])) 10 rfl rfl (hon 10 (by kernel_rfl)) rfl
                        replace ha := Aside0.mk ha
                        have BK183 := Aside0.mk Q_BK183
                        have BK184 := Aside0.mk Q_BK184
                        have HB := Aside0.mk Q_HB
                        refine Kd.R_lit_step k63 _ 63 ?hg (N := 28) ?hd (xs := ([(⟨(⟨t175, t176, t177, t178⟩ : S23), 7⟩ : S63), (⟨(⟨t179, t180, t181, t182⟩ : S23), 3⟩ : S63)] : List (S63))) (inner := [.string t175, .int .i64 t176, .int .i64 t177, .int .i64 t178, .int .i64 7, .string t179, .int .i64 t180, .int .i64 t181, .int .i64 t182, .int .i64 3]) (ok := fun _ => True) (okp := fun _ => True) ?hr ?hp (fun _ hk => hk) trivial (Below.refl _ _) (Nat.le_refl _) (by simp) ?_; (case hd => rfl); (case hg => rfl); (case hr => first | (go_simp; done) | (go_simp; rfl)); (case hp => exact (Reps.c5 (show Kd.M k63 _ _ _ (⟨(⟨t175, t176, t177, t178⟩ : S23), 7⟩ : S63) [.string t175, .int .i64 t176, .int .i64 t177, .int .i64 t178, .int .i64 7] from (k63_mkM _ _ _ (⟨(⟨t175, t176, t177, t178⟩ : S23), 7⟩ : S63) )) (Reps.c5 (show Kd.M k63 _ _ _ (⟨(⟨t179, t180, t181, t182⟩ : S23), 3⟩ : S63) [.string t179, .int .i64 t180, .int .i64 t181, .int .i64 t182, .int .i64 3] from (k63_mkM _ _ _ (⟨(⟨t179, t180, t181, t182⟩ : S23), 3⟩ : S63) )) (Reps.none _ _))))
                        intro v208 w32 ho33 hb hg_ hnew_
                        clear hg_ hnew_
                        (first | rw [← Ny207.out] at ho33 | (simp only [Int.reduceToNat] at ho33; rw [← Ny207.out] at ho33))
                        have n0_ := Aside0.mk (Kd.R_lower ho33 (below_size (by repeat (first | (with_reducible first | exact HB.out | apply below_alloc | apply pw_below_drewN | apply below_drew1 | refine below_set ?_ GE183.out | refine below_set ?_ GE184.out) | exact HB.out))))
                        have n1_ := Aside0.mk (blk_below (g := gb183) (o := .cells #[.string t175, .int .i64 t176, .int .i64 t177, .int .i64 t178] 23 (0, 0)) (by (with_reducible repeat (first | refine blk_drewN ?_ _ | refine blk_drew ?_ | refine blk_alloc ?_ _)); exact BK183.out) hb)
                        have n2_ := Aside0.mk (blk_below (g := gb184) (o := .cells #[.string t179, .int .i64 t180, .int .i64 t181, .int .i64 t182] 23 (0, 0)) (by (with_reducible repeat (first | refine blk_drewN ?_ _ | refine blk_drew ?_ | refine blk_alloc ?_ _)); exact BK184.out) hb)
                        have n3_ := Aside0.mk (below_step (by repeat (first | (with_reducible first | exact HB.out | apply below_alloc | apply pw_below_drewN | apply below_drew1 | refine below_set ?_ GE183.out | refine below_set ?_ GE184.out) | exact HB.out)) hb)
                        have z_HO203 := fun (h0_ : b 1 = true) => (show Kd.R k29 29 w32 w.heap.size (fun _ => True) v202 y201 from by first | exact (Kd.R_below (by (with_reducible repeat (first | apply Kd.R_alloc | apply Kd.R_drewN | apply Kd.R_drew)); exact (Q_HO203 h0_)) hb) | exact Kd.R_mono (Kd.R_below (by (with_reducible repeat (first | apply Kd.R_alloc | apply Kd.R_drewN | apply Kd.R_drew)); exact (Q_HO203 h0_)) hb) (fun _ h_ => by first | trivial | exact h_ | exact h_.1))
                        have z_HO206 := fun (h0_ : b 6 = true) => (show Kd.R k57 57 w32 w.heap.size (fun _ => True) v205 y204 from by first | exact (Kd.R_below (by (with_reducible repeat (first | apply Kd.R_alloc | apply Kd.R_drewN | apply Kd.R_drew)); exact (Q_HO206 h0_)) hb) | exact Kd.R_mono (Kd.R_below (by (with_reducible repeat (first | apply Kd.R_alloc | apply Kd.R_drewN | apply Kd.R_drew)); exact (Q_HO206 h0_)) hb) (fun _ h_ => by first | trivial | exact h_ | exact h_.1))
                        clear BK183
                        clear BK184
                        clear HB
                        have HO209 := n0_
                        have BK183 := n1_
                        have BK184 := n2_
                        have HB := n3_
                        clear n0_ n1_ n2_ n3_
                        clear hb ho33
                        refine hK.out _ _ ⟨v202, v205, v208, v212, m12_, m13_, m14_, m16_, (by rw [ha.out]; exact putSel_upk 11 hb_ rfl rfl rfl), (by (with_reducible repeat (first | refine blk_drewN ?_ _ | refine blk_drew ?_ | refine blk_alloc ?_ _)); exact BK183.out), (by (with_reducible repeat (first | refine blk_drewN ?_ _ | refine blk_drew ?_ | refine blk_alloc ?_ _)); exact BK184.out), (by repeat (first | (with_reducible first | exact HB.out | apply below_alloc | apply pw_below_drewN | apply below_drew1 | refine below_set ?_ GE183.out | refine below_set ?_ GE184.out) | exact HB.out)), z_HO203, z_HO206, fun _ => (by (with_reducible repeat (first | apply Kd.R_alloc | apply Kd.R_drewN | apply Kd.R_drew)); exact HO209.out), fun h0_ => absurd ((hoff 12 (by kernel_rfl)).symm.trans h0_) (by decide), fun h0_ => absurd ((hoff 12 (by kernel_rfl)).symm.trans h0_) (by decide), fun h0_ => absurd ((hoff 13 (by kernel_rfl)).symm.trans h0_) (by decide), fun h0_ => absurd ((hoff 14 (by kernel_rfl)).symm.trans h0_) (by decide), fun h0_ => absurd ((hoff 16 (by kernel_rfl)).symm.trans h0_) (by decide)⟩
                      refine steps_cons ?_ ?_
                      · rintro b a w' ⟨v202, v205, v208, v212, m12_, m13_, m14_, m16_, ha, Q_BK183, Q_BK184, Q_HB, Q_HO203, Q_HO206, Q_HO209, Q_HO213, Q_X12_, Q_X13_, Q_X14_, Q_X16_⟩ hb_ hon hoff
                        refine ⟨_, rfl, fun K hK => ?_⟩
                        have e18 : a.tmps[18]? = some (v202) := by rw [ha]; exact putSel_on (e := (1, 18, v202)) 1 rfl rfl (hon 1 (by kernel_rfl)) rfl
                        have e23 : a.tmps[23]? = some (v205) := by rw [ha]; exact putSel_on (e := (6, 23, v205)) 6 rfl rfl (hon 6 (by kernel_rfl)) rfl
                        have e28 : a.tmps[28]? = some (v208) := by rw [ha]; exact putSel_on (e := (11, 28, v208)) 11 rfl rfl (hon 11 (by kernel_rfl)) rfl
                        replace ha := Aside0.mk ha
                        have BK183 := Aside0.mk Q_BK183
                        have BK184 := Aside0.mk Q_BK184
                        have HB := Aside0.mk Q_HB
                        have HO203 := Aside0.mk (Q_HO203 (hon 1 (by kernel_rfl)))
                        have HO206 := Aside0.mk (Q_HO206 (hon 6 (by kernel_rfl)))
                        have HO209 := Aside0.mk (Q_HO209 (hon 11 (by kernel_rfl)))
                        obtain ⟨Ao40, co40, eo40⟩ := Kd.R_slice HO203.out
                        (first | subst eo40 | (injection eo40 with f1_ f2_ f3_; have f4_ := f1_.symm; have f5_ := f3_.symm; clear f1_ f2_ f3_; subst f4_; subst f5_))
                        obtain ⟨Ao41, co41, eo41⟩ := Kd.R_slice HO206.out
                        (first | subst eo41 | (injection eo41 with f1_ f2_ f3_; have f4_ := f1_.symm; have f5_ := f3_.symm; clear f1_ f2_ f3_; subst f4_; subst f5_))
                        obtain ⟨Ao42, co42, eo42⟩ := Kd.R_slice HO209.out
                        (first | subst eo42 | (injection eo42 with f1_ f2_ f3_; have f4_ := f1_.symm; have f5_ := f3_.symm; clear f1_ f2_ f3_; subst f4_; subst f5_))
                        refine goes_ Try.func19 (by kernel_rfl) rfl #[.slice Ao40 y201.length co40, .slice Ao41 y204.length co41, .slice Ao42 y207.length co42] (by rfl) rfl rfl (by first | (simp only [List.map_toArray, List.map_cons, List.map_nil, Act.eval, Array.getD_eq_getD_getElem?, Option.getD_some, e18, e23, e28]; done) | (simp only [List.map_toArray, List.map_cons, List.map_nil, Act.eval, Array.getD_eq_getD_getElem?, Option.getD_some, e18, e23, e28]; rfl)) ?_
                        with_reducible refine (option_Net.calls k _ _ y201 _ _ y204 _ _ y207 t210 t211 _ ?side1 ?side2 ?side3 ?side4 ?side5 ?side6 A6.out).mono ?_
                        (case side1 => repeat (first | exact (Kd.R_reads' HO203.out).2.2 | (with_reducible refine Kd.C_alloc ?_ _) | (with_reducible refine Kd.C_drewN ?_ _) | (with_reducible refine Kd.C_drew ?_)))
                        (case side2 => exact (Kd.R_reads' HO203.out).2.1)
                        (case side3 => repeat (first | exact (Kd.R_reads' HO206.out).2.2 | (with_reducible refine Kd.C_alloc ?_ _) | (with_reducible refine Kd.C_drewN ?_ _) | (with_reducible refine Kd.C_drew ?_)))
                        (case side4 => exact (Kd.R_reads' HO206.out).2.1)
                        (case side5 => repeat (first | exact (Kd.R_reads' HO209.out).2.2 | (with_reducible refine Kd.C_alloc ?_ _) | (with_reducible refine Kd.C_drewN ?_ _) | (with_reducible refine Kd.C_drew ?_)))
                        (case side6 => exact (Kd.R_reads' HO209.out).2.1)
                        rintro e w43 ⟨v212, rfl, ho0, hb⟩
                        refine ⟨_, rfl, ?_⟩
                        have n0_ := Aside0.mk (Kd.R_below (by (with_reducible repeat (first | apply Kd.R_alloc | apply Kd.R_drewN | apply Kd.R_drew)); exact HO203.out) hb)
                        have n1_ := Aside0.mk (Kd.R_below (by (with_reducible repeat (first | apply Kd.R_alloc | apply Kd.R_drewN | apply Kd.R_drew)); exact HO206.out) hb)
                        have n2_ := Aside0.mk (Kd.R_below (by (with_reducible repeat (first | apply Kd.R_alloc | apply Kd.R_drewN | apply Kd.R_drew)); exact HO209.out) hb)
                        have n3_ := Aside0.mk (Kd.R_lower ho0 (below_size (by repeat (first | (with_reducible first | exact HB.out | apply below_alloc | apply pw_below_drewN | apply below_drew1 | refine below_set ?_ GE183.out | refine below_set ?_ GE184.out) | exact HB.out))))
                        have n4_ := Aside0.mk (blk_below (g := gb183) (o := .cells #[.string t175, .int .i64 t176, .int .i64 t177, .int .i64 t178] 23 (0, 0)) (by (with_reducible repeat (first | refine blk_drewN ?_ _ | refine blk_drew ?_ | refine blk_alloc ?_ _)); exact BK183.out) hb)
                        have n5_ := Aside0.mk (blk_below (g := gb184) (o := .cells #[.string t179, .int .i64 t180, .int .i64 t181, .int .i64 t182] 23 (0, 0)) (by (with_reducible repeat (first | refine blk_drewN ?_ _ | refine blk_drew ?_ | refine blk_alloc ?_ _)); exact BK184.out) hb)
                        have n6_ := Aside0.mk (below_step (by repeat (first | (with_reducible first | exact HB.out | apply below_alloc | apply pw_below_drewN | apply below_drew1 | refine below_set ?_ GE183.out | refine below_set ?_ GE184.out) | exact HB.out)) hb)
                        clear HO203
                        clear HO206
                        clear HO209
                        clear BK183
                        clear BK184
                        clear HB
                        have HO203 := n0_
                        have HO206 := n1_
                        have HO209 := n2_
                        have HO213 := n3_
                        have BK183 := n4_
                        have BK184 := n5_
                        have HB := n6_
                        clear n0_ n1_ n2_ n3_ n4_ n5_ n6_
                        (try clear hb)
                        (try clear hb2)
                        (try clear hk)
                        (try clear hi)
                        (try clear ho0)
                        refine hK.out _ _ ⟨.slice Ao40 y201.length co40, .slice Ao41 y204.length co41, .slice Ao42 y207.length co42, v212, (.tuple #[v212, .int .i64 t211]), m13_, m14_, m16_, (by rw [ha.out]; exact putSel_upk 12 hb_ rfl rfl rfl), (by (with_reducible repeat (first | refine blk_drewN ?_ _ | refine blk_drew ?_ | refine blk_alloc ?_ _)); exact BK183.out), (by (with_reducible repeat (first | refine blk_drewN ?_ _ | refine blk_drew ?_ | refine blk_alloc ?_ _)); exact BK184.out), (by repeat (first | (with_reducible first | exact HB.out | apply below_alloc | apply pw_below_drewN | apply below_drew1 | refine below_set ?_ GE183.out | refine below_set ?_ GE184.out) | exact HB.out)), fun _ => (by (with_reducible repeat (first | apply Kd.R_alloc | apply Kd.R_drewN | apply Kd.R_drew)); exact HO203.out), fun _ => (by (with_reducible repeat (first | apply Kd.R_alloc | apply Kd.R_drewN | apply Kd.R_drew)); exact HO206.out), fun _ => (by (with_reducible repeat (first | apply Kd.R_alloc | apply Kd.R_drewN | apply Kd.R_drew)); exact HO209.out), fun _ => (by (with_reducible repeat (first | apply Kd.R_alloc | apply Kd.R_drewN | apply Kd.R_drew)); exact HO213.out), fun _ => rfl, fun h0_ => absurd ((hoff 13 (by kernel_rfl)).symm.trans h0_) (by decide), fun h0_ => absurd ((hoff 14 (by kernel_rfl)).symm.trans h0_) (by decide), fun h0_ => absurd ((hoff 16 (by kernel_rfl)).symm.trans h0_) (by decide)⟩
                      refine steps_cons ?_ ?_
                      · rintro b a w' ⟨v202, v205, v208, v212, m12_, m13_, m14_, m16_, ha, Q_BK183, Q_BK184, Q_HB, Q_HO203, Q_HO206, Q_HO209, Q_HO213, Q_X12_, Q_X13_, Q_X14_, Q_X16_⟩ hb_ hon hoff
                        refine ⟨_, rfl, fun K hK => ?_⟩
                        have e29 : a.tmps[29]? = some (m12_) := by rw [ha]; exact putSel_on (e := (12, 29, m12_)) 12 rfl rfl (hon 12 (by kernel_rfl)) rfl
                        rw [Q_X12_ (hon 12 (by kernel_rfl))] at e29
                        replace ha := Aside0.mk ha
                        have BK183 := Aside0.mk Q_BK183
                        have BK184 := Aside0.mk Q_BK184
                        have HB := Aside0.mk Q_HB
                        have HO203 := Aside0.mk (Q_HO203 (hon 1 (by kernel_rfl)))
                        have HO206 := Aside0.mk (Q_HO206 (hon 6 (by kernel_rfl)))
                        have HO209 := Aside0.mk (Q_HO209 (hon 11 (by kernel_rfl)))
                        have HO213 := Aside0.mk (Q_HO213 (hon 12 (by kernel_rfl)))
                        refine value_ (w1 := w') (v := .tuple #[v212, .int .i64 t211]) (by rfl) rfl ?_ ?_
                        · go_simp
                          (try simp only [i64_w])
                          try rfl
                        refine hK.out _ _ ⟨v202, v205, v208, v212, m12_, (.tuple #[v212, .int .i64 t211]), m14_, m16_, (by rw [ha.out]; exact putSel_upk 13 hb_ rfl rfl rfl), Q_BK183, Q_BK184, Q_HB, Q_HO203, Q_HO206, Q_HO209, Q_HO213, Q_X12_, fun _ => rfl, fun h0_ => absurd ((hoff 14 (by kernel_rfl)).symm.trans h0_) (by decide), fun h0_ => absurd ((hoff 16 (by kernel_rfl)).symm.trans h0_) (by decide)⟩
                      refine steps_cons ?_ ?_
                      · rintro b a w' ⟨v202, v205, v208, v212, m12_, m13_, m14_, m16_, ha, Q_BK183, Q_BK184, Q_HB, Q_HO203, Q_HO206, Q_HO209, Q_HO213, Q_X12_, Q_X13_, Q_X14_, Q_X16_⟩ hb_ hon hoff
                        refine ⟨_, rfl, fun K hK => ?_⟩
                        have e16 : a.tmps[16]? = some (m13_) := by rw [ha]; exact putSel_on (e := (13, 16, m13_)) 13 rfl rfl (hon 13 (by kernel_rfl)) rfl
                        rw [Q_X13_ (hon 13 (by kernel_rfl))] at e16
                        replace ha := Aside0.mk ha
                        have BK183 := Aside0.mk Q_BK183
                        have BK184 := Aside0.mk Q_BK184
                        have HB := Aside0.mk Q_HB
                        have HO203 := Aside0.mk (Q_HO203 (hon 1 (by kernel_rfl)))
                        have HO206 := Aside0.mk (Q_HO206 (hon 6 (by kernel_rfl)))
                        have HO209 := Aside0.mk (Q_HO209 (hon 11 (by kernel_rfl)))
                        have HO213 := Aside0.mk (Q_HO213 (hon 12 (by kernel_rfl)))
                        obtain ⟨Ao14_0, co14_0, eo_⟩ := Kd.R_slice HO213.out
                        subst eo_
                        refine value_ (w1 := w') (v := .slice Ao14_0 t210.length co14_0) (by rfl) rfl ?_ ?_
                        · go_simp
                          (try simp only [i64_w])
                          try rfl
                        refine hK.out _ _ ⟨v202, v205, v208, .slice Ao14_0 t210.length co14_0, m12_, m13_, (.slice Ao14_0 t210.length co14_0), m16_, (by rw [ha.out]; exact putSel_upk 14 hb_ rfl rfl rfl), Q_BK183, Q_BK184, Q_HB, Q_HO203, Q_HO206, Q_HO209, Q_HO213, Q_X12_, Q_X13_, fun _ => rfl, fun h0_ => absurd ((hoff 16 (by kernel_rfl)).symm.trans h0_) (by decide)⟩
                      refine steps_cons ?_ ?_
                      · rintro b a w' ⟨v202, v205, v208, v212, m12_, m13_, m14_, m16_, ha, Q_BK183, Q_BK184, Q_HB, Q_HO203, Q_HO206, Q_HO209, Q_HO213, Q_X12_, Q_X13_, Q_X14_, Q_X16_⟩ hb_ hon hoff
                        refine ⟨_, rfl, fun K hK => ?_⟩
                        have e16 : a.tmps[16]? = some (m13_) := by rw [ha]; exact putSel_on (e := (13, 16, m13_)) 13 rfl rfl (hon 13 (by kernel_rfl)) rfl
                        rw [Q_X13_ (hon 13 (by kernel_rfl))] at e16
                        replace ha := Aside0.mk ha
                        have BK183 := Aside0.mk Q_BK183
                        have BK184 := Aside0.mk Q_BK184
                        have HB := Aside0.mk Q_HB
                        have HO203 := Aside0.mk (Q_HO203 (hon 1 (by kernel_rfl)))
                        have HO206 := Aside0.mk (Q_HO206 (hon 6 (by kernel_rfl)))
                        have HO209 := Aside0.mk (Q_HO209 (hon 11 (by kernel_rfl)))
                        have HO213 := Aside0.mk (Q_HO213 (hon 12 (by kernel_rfl)))
                        obtain ⟨Ao15_0, co15_0, eo_⟩ := Kd.R_slice HO213.out
                        subst eo_
                        refine value_ (w1 := w') (v := .int .i64 t211) (by rfl) rfl ?_ ?_
                        · go_simp
                          (try simp only [i64_w])
                          try rfl
                        refine hK.out _ _ ⟨v202, v205, v208, .slice Ao15_0 t210.length co15_0, m12_, m13_, m14_, m16_, (by rw [ha.out]; exact putSel_upk 15 hb_ rfl rfl rfl), Q_BK183, Q_BK184, Q_HB, Q_HO203, Q_HO206, Q_HO209, Q_HO213, Q_X12_, Q_X13_, Q_X14_, Q_X16_⟩
                      refine steps_cons ?_ ?_
                      · rintro b a w' ⟨v202, v205, v208, v212, m12_, m13_, m14_, m16_, ha, Q_BK183, Q_BK184, Q_HB, Q_HO203, Q_HO206, Q_HO209, Q_HO213, Q_X12_, Q_X13_, Q_X14_, Q_X16_⟩ hb_ hon hoff
                        refine ⟨_, rfl, fun K hK => ?_⟩
                        have e30 : a.tmps[30]? = some (m14_) := by rw [ha]; exact putSel_on (e := (14, 30, m14_)) 14 rfl rfl (hon 14 (by kernel_rfl)) rfl
                        rw [Q_X14_ (hon 14 (by kernel_rfl))] at e30
                        replace ha := Aside0.mk ha
                        have BK183 := Aside0.mk Q_BK183
                        have BK184 := Aside0.mk Q_BK184
                        have HB := Aside0.mk Q_HB
                        have HO203 := Aside0.mk (Q_HO203 (hon 1 (by kernel_rfl)))
                        have HO206 := Aside0.mk (Q_HO206 (hon 6 (by kernel_rfl)))
                        have HO209 := Aside0.mk (Q_HO209 (hon 11 (by kernel_rfl)))
                        have HO213 := Aside0.mk (Q_HO213 (hon 12 (by kernel_rfl)))
                        refine value_ (w1 := w') (v := v212) (by rfl) rfl ?_ ?_
                        · go_simp
                          (try simp only [i64_w])
                          try rfl
                        refine hK.out _ _ ⟨v202, v205, v208, v212, m12_, m13_, m14_, (v212), (by rw [ha.out]; exact putSel_upk 16 hb_ rfl rfl rfl), Q_BK183, Q_BK184, Q_HB, Q_HO203, Q_HO206, Q_HO209, Q_HO213, Q_X12_, Q_X13_, Q_X14_, fun _ => rfl⟩
                      refine steps_cons ?_ ?_
                      · rintro b a w' ⟨v202, v205, v208, v212, m12_, m13_, m14_, m16_, ha, Q_BK183, Q_BK184, Q_HB, Q_HO203, Q_HO206, Q_HO209, Q_HO213, Q_X12_, Q_X13_, Q_X14_, Q_X16_⟩ hb_ hon hoff
                        refine ⟨_, rfl, fun K hK => ?_⟩
                        have e31 : a.tmps[31]? = some (.int .i64 t211) := by rw [ha]; exact putSel_on (e := (15, 31, .int .i64 t211)) 15 rfl rfl (hon 15 (by kernel_rfl)) rfl
                        replace ha := Aside0.mk ha
                        have BK183 := Aside0.mk Q_BK183
                        have BK184 := Aside0.mk Q_BK184
                        have HB := Aside0.mk Q_HB
                        have HO203 := Aside0.mk (Q_HO203 (hon 1 (by kernel_rfl)))
                        have HO206 := Aside0.mk (Q_HO206 (hon 6 (by kernel_rfl)))
                        have HO209 := Aside0.mk (Q_HO209 (hon 11 (by kernel_rfl)))
                        have HO213 := Aside0.mk (Q_HO213 (hon 12 (by kernel_rfl)))
                        refine value_ (w1 := w') (v := .int .i64 t211) (by rfl) rfl ?_ ?_
                        · go_simp
                          (try simp only [i64_w])
                          try rfl
                        refine hK.out _ _ ⟨v202, v205, v208, v212, m12_, m13_, m14_, m16_, (by rw [ha.out]; exact putSel_upk 17 hb_ rfl rfl rfl), Q_BK183, Q_BK184, Q_HB, Q_HO203, Q_HO206, Q_HO209, Q_HO213, Q_X12_, Q_X13_, Q_X14_, Q_X16_⟩
                      exact steps_nil
                    rintro b a w43 hall ⟨v202, v205, v208, v212, m12_, m13_, m14_, m16_, ha, Q_BK183, Q_BK184, Q_HB, Q_HO203, Q_HO206, Q_HO209, Q_HO213, Q_X12_, Q_X13_, Q_X14_, Q_X16_⟩
                    clear BK183 BK184 HB
                    have hb0_ := hall 0 (by kernel_rfl)
                    have hb1_ := hall 1 (by kernel_rfl)
                    have hb2_ := hall 2 (by kernel_rfl)
                    have hb3_ := hall 3 (by kernel_rfl)
                    have hb4_ := hall 4 (by kernel_rfl)
                    have hb5_ := hall 5 (by kernel_rfl)
                    have hb6_ := hall 6 (by kernel_rfl)
                    have hb7_ := hall 7 (by kernel_rfl)
                    have hb8_ := hall 8 (by kernel_rfl)
                    have hb9_ := hall 9 (by kernel_rfl)
                    have hb10_ := hall 10 (by kernel_rfl)
                    have hb11_ := hall 11 (by kernel_rfl)
                    have hb12_ := hall 12 (by kernel_rfl)
                    have hb13_ := hall 13 (by kernel_rfl)
                    have hb14_ := hall 14 (by kernel_rfl)
                    have hb15_ := hall 15 (by kernel_rfl)
                    have hb16_ := hall 16 (by kernel_rfl)
                    have hb17_ := hall 17 (by kernel_rfl)
                    subst ha
                    obtain rfl := Q_X12_ hb12_
                    obtain rfl := Q_X13_ hb13_
                    obtain rfl := Q_X14_ hb14_
                    obtain rfl := Q_X16_ hb16_
                    simp only [putSel, hb0_, hb1_, hb2_, hb3_, hb4_, hb5_, hb6_, hb7_, hb8_, hb9_, hb10_, hb11_, hb12_, hb13_, hb14_, hb15_, hb16_, hb17_, if_true, Act.put, List.setIfInBounds_toArray, List.set_cons_zero, List.set_cons_succ]
                    have BK183 := Aside0.mk Q_BK183
                    clear Q_BK183
                    have BK184 := Aside0.mk Q_BK184
                    clear Q_BK184
                    have HB := Aside0.mk Q_HB
                    clear Q_HB
                    have HO203 := Aside0.mk (Q_HO203 hb1_)
                    clear Q_HO203
                    have HO206 := Aside0.mk (Q_HO206 hb6_)
                    clear Q_HO206
                    have HO209 := Aside0.mk (Q_HO209 hb11_)
                    clear Q_HO209
                    have HO213 := Aside0.mk (Q_HO213 hb12_)
                    clear Q_HO213
                    clear hall hb0_ hb1_ hb2_ hb3_ hb4_ hb5_ hb6_ hb7_ hb8_ hb9_ hb10_ hb11_ hb12_ hb13_ hb14_ hb15_ hb16_ hb17_
                    have hcz44_0 : w43.cell? ⟨gb183, 0, none⟩ = some (.string t175) := (blk_cell BK183.out 0).trans rfl
                    have hcz44_1 : w43.cell? ⟨gb183, 1, none⟩ = some (.int .i64 t176) := (blk_cell BK183.out 1).trans rfl
                    have hcz44_2 : w43.cell? ⟨gb183, 2, none⟩ = some (.int .i64 t177) := (blk_cell BK183.out 2).trans rfl
                    have hcz44_3 : w43.cell? ⟨gb183, 3, none⟩ = some (.int .i64 t178) := (blk_cell BK183.out 3).trans rfl
                    have hfz44_0 := blk_frozen BK183.out 0
                    have hfz44_1 := blk_frozen BK183.out 1
                    have hfz44_2 := blk_frozen BK183.out 2
                    have hfz44_3 := blk_frozen BK183.out 3
                    try go_wp2_with (first | ((with_reducible refine gate_callee (f := 8) rfl ?_); refine goesL_ (some 33) rfl rfl Try.func8 (by kernel_rfl) rfl #[.agg #[.string t175, .int .i64 t176, .int .i64 t177, .int .i64 t178], .int .i64 60] rfl (by (try simp only [List.map_toArray, List.map_cons, List.map_nil]); first | done | rfl | (simp only [List.length_drop, List.length_take]; rfl)) ?_; (with_reducible refine (option_Intrinsic.calls k t175 t176 t177 t178 60 t214 _ A7.out).mono ?_); rintro e w45 ⟨rfl, hb⟩; refine ⟨_, rfl, ?_⟩; have n0_ := Aside0.mk (Kd.R_below (by (with_reducible repeat (first | apply Kd.R_alloc | apply Kd.R_drewN | apply Kd.R_drew)); exact HO203.out) hb); have n1_ := Aside0.mk (Kd.R_below (by (with_reducible repeat (first | apply Kd.R_alloc | apply Kd.R_drewN | apply Kd.R_drew)); exact HO206.out) hb); have n2_ := Aside0.mk (Kd.R_below (by (with_reducible repeat (first | apply Kd.R_alloc | apply Kd.R_drewN | apply Kd.R_drew)); exact HO209.out) hb); have n3_ := Aside0.mk (Kd.R_below (by (with_reducible repeat (first | apply Kd.R_alloc | apply Kd.R_drewN | apply Kd.R_drew)); exact HO213.out) hb); have n4_ := Aside0.mk (blk_below (g := gb183) (o := .cells #[.string t175, .int .i64 t176, .int .i64 t177, .int .i64 t178] 23 (0, 0)) (by (with_reducible repeat (first | refine blk_drewN ?_ _ | refine blk_drew ?_ | refine blk_alloc ?_ _)); exact BK183.out) hb); have n5_ := Aside0.mk (blk_below (g := gb184) (o := .cells #[.string t179, .int .i64 t180, .int .i64 t181, .int .i64 t182] 23 (0, 0)) (by (with_reducible repeat (first | refine blk_drewN ?_ _ | refine blk_drew ?_ | refine blk_alloc ?_ _)); exact BK184.out) hb); have n6_ := Aside0.mk (below_step (by repeat (first | (with_reducible first | exact HB.out | apply below_alloc | apply pw_below_drewN | apply below_drew1 | refine below_set ?_ GE183.out | refine below_set ?_ GE184.out) | exact HB.out)) hb); clear HO203; clear HO206; clear HO209; clear HO213; clear BK183; clear BK184; clear HB; have HO203 := n0_; have HO206 := n1_; have HO209 := n2_; have HO213 := n3_; have BK183 := n4_; have BK184 := n5_; have HB := n6_; clear n0_ n1_ n2_ n3_ n4_ n5_ n6_; (try clear hb); (try clear hb2); (try clear hk); (try clear hi); have hcz46_0 : w45.cell? ⟨gb184, 0, none⟩ = some (.string t179) := (blk_cell BK184.out 0).trans rfl; have hcz46_1 : w45.cell? ⟨gb184, 1, none⟩ = some (.int .i64 t180) := (blk_cell BK184.out 1).trans rfl; have hcz46_2 : w45.cell? ⟨gb184, 2, none⟩ = some (.int .i64 t181) := (blk_cell BK184.out 2).trans rfl; have hcz46_3 : w45.cell? ⟨gb184, 3, none⟩ = some (.int .i64 t182) := (blk_cell BK184.out 3).trans rfl; have hfz46_0 := blk_frozen BK184.out 0; have hfz46_1 := blk_frozen BK184.out 1; have hfz46_2 := blk_frozen BK184.out 2; have hfz46_3 := blk_frozen BK184.out 3) | (go_at_call 8; (with_reducible refine (option_Intrinsic.calls k t179 t180 t181 t182 60 t215 _ A9.out).mono ?_); rintro e w47 ⟨rfl, hb⟩; have n0_ := Aside0.mk (Kd.R_below (by (with_reducible repeat (first | apply Kd.R_alloc | apply Kd.R_drewN | apply Kd.R_drew)); exact HO203.out) hb); have n1_ := Aside0.mk (Kd.R_below (by (with_reducible repeat (first | apply Kd.R_alloc | apply Kd.R_drewN | apply Kd.R_drew)); exact HO206.out) hb); have n2_ := Aside0.mk (Kd.R_below (by (with_reducible repeat (first | apply Kd.R_alloc | apply Kd.R_drewN | apply Kd.R_drew)); exact HO209.out) hb); have n3_ := Aside0.mk (Kd.R_below (by (with_reducible repeat (first | apply Kd.R_alloc | apply Kd.R_drewN | apply Kd.R_drew)); exact HO213.out) hb); have n4_ := Aside0.mk (blk_below (g := gb183) (o := .cells #[.string t175, .int .i64 t176, .int .i64 t177, .int .i64 t178] 23 (0, 0)) (by (with_reducible repeat (first | refine blk_drewN ?_ _ | refine blk_drew ?_ | refine blk_alloc ?_ _)); exact BK183.out) hb); have n5_ := Aside0.mk (blk_below (g := gb184) (o := .cells #[.string t179, .int .i64 t180, .int .i64 t181, .int .i64 t182] 23 (0, 0)) (by (with_reducible repeat (first | refine blk_drewN ?_ _ | refine blk_drew ?_ | refine blk_alloc ?_ _)); exact BK184.out) hb); have n6_ := Aside0.mk (below_step (by repeat (first | (with_reducible first | exact HB.out | apply below_alloc | apply pw_below_drewN | apply below_drew1 | refine below_set ?_ GE183.out | refine below_set ?_ GE184.out) | exact HB.out)) hb); clear HO203; clear HO206; clear HO209; clear HO213; clear BK183; clear BK184; clear HB; have HO203 := n0_; have HO206 := n1_; have HO209 := n2_; have HO213 := n3_; have BK183 := n4_; have BK184 := n5_; have HB := n6_; clear n0_ n1_ n2_ n3_ n4_ n5_ n6_; (try clear hb); (try clear hb2); (try clear hk); (try clear hi); have hcz48_0 : w47.cell? ⟨gb184, 0, none⟩ = some (.string t179) := (blk_cell BK184.out 0).trans rfl; have hcz48_1 : w47.cell? ⟨gb184, 1, none⟩ = some (.int .i64 t180) := (blk_cell BK184.out 1).trans rfl; have hcz48_2 : w47.cell? ⟨gb184, 2, none⟩ = some (.int .i64 t181) := (blk_cell BK184.out 2).trans rfl; have hcz48_3 : w47.cell? ⟨gb184, 3, none⟩ = some (.int .i64 t182) := (blk_cell BK184.out 3).trans rfl; have hfz48_0 := blk_frozen BK184.out 0; have hfz48_1 := blk_frozen BK184.out 1; have hfz48_2 := blk_frozen BK184.out 2; have hfz48_3 := blk_frozen BK184.out 3) | (go_at_call 8; (with_reducible refine (option_Intrinsic.calls k t179 t180 t181 t182 40 t216 _ A11.out).mono ?_); rintro e w49 ⟨rfl, hb⟩; have n0_ := Aside0.mk (Kd.R_below (by (with_reducible repeat (first | apply Kd.R_alloc | apply Kd.R_drewN | apply Kd.R_drew)); exact HO203.out) hb); have n1_ := Aside0.mk (Kd.R_below (by (with_reducible repeat (first | apply Kd.R_alloc | apply Kd.R_drewN | apply Kd.R_drew)); exact HO206.out) hb); have n2_ := Aside0.mk (Kd.R_below (by (with_reducible repeat (first | apply Kd.R_alloc | apply Kd.R_drewN | apply Kd.R_drew)); exact HO209.out) hb); have n3_ := Aside0.mk (Kd.R_below (by (with_reducible repeat (first | apply Kd.R_alloc | apply Kd.R_drewN | apply Kd.R_drew)); exact HO213.out) hb); have n4_ := Aside0.mk (blk_below (g := gb183) (o := .cells #[.string t175, .int .i64 t176, .int .i64 t177, .int .i64 t178] 23 (0, 0)) (by (with_reducible repeat (first | refine blk_drewN ?_ _ | refine blk_drew ?_ | refine blk_alloc ?_ _)); exact BK183.out) hb); have n5_ := Aside0.mk (blk_below (g := gb184) (o := .cells #[.string t179, .int .i64 t180, .int .i64 t181, .int .i64 t182] 23 (0, 0)) (by (with_reducible repeat (first | refine blk_drewN ?_ _ | refine blk_drew ?_ | refine blk_alloc ?_ _)); exact BK184.out) hb); have n6_ := Aside0.mk (below_step (by repeat (first | (with_reducible first | exact HB.out | apply below_alloc | apply pw_below_drewN | apply below_drew1 | refine below_set ?_ GE183.out | refine below_set ?_ GE184.out) | exact HB.out)) hb); clear HO203; clear HO206; clear HO209; clear HO213; clear BK183; clear BK184; clear HB; have HO203 := n0_; have HO206 := n1_; have HO209 := n2_; have HO213 := n3_; have BK183 := n4_; have BK184 := n5_; have HB := n6_; clear n0_ n1_ n2_ n3_ n4_ n5_ n6_; (try clear hb); (try clear hb2); (try clear hk); (try clear hi); have hcz50_0 : w49.cell? ⟨gb183, 0, none⟩ = some (.string t175) := (blk_cell BK183.out 0).trans rfl; have hcz50_1 : w49.cell? ⟨gb183, 1, none⟩ = some (.int .i64 t176) := (blk_cell BK183.out 1).trans rfl; have hcz50_2 : w49.cell? ⟨gb183, 2, none⟩ = some (.int .i64 t177) := (blk_cell BK183.out 2).trans rfl; have hcz50_3 : w49.cell? ⟨gb183, 3, none⟩ = some (.int .i64 t178) := (blk_cell BK183.out 3).trans rfl; have hfz50_0 := blk_frozen BK183.out 0; have hfz50_1 := blk_frozen BK183.out 1; have hfz50_2 := blk_frozen BK183.out 2; have hfz50_3 := blk_frozen BK183.out 3) | (go_at_call 10; (with_reducible refine (option_Ends.calls k t175 t176 t177 t178 50 false _ A13.out).mono ?_); rintro e w51 ⟨rfl, hb⟩; have n0_ := Aside0.mk (Kd.R_below (by (with_reducible repeat (first | apply Kd.R_alloc | apply Kd.R_drewN | apply Kd.R_drew)); exact HO203.out) hb); have n1_ := Aside0.mk (Kd.R_below (by (with_reducible repeat (first | apply Kd.R_alloc | apply Kd.R_drewN | apply Kd.R_drew)); exact HO206.out) hb); have n2_ := Aside0.mk (Kd.R_below (by (with_reducible repeat (first | apply Kd.R_alloc | apply Kd.R_drewN | apply Kd.R_drew)); exact HO209.out) hb); have n3_ := Aside0.mk (Kd.R_below (by (with_reducible repeat (first | apply Kd.R_alloc | apply Kd.R_drewN | apply Kd.R_drew)); exact HO213.out) hb); have n4_ := Aside0.mk (blk_below (g := gb183) (o := .cells #[.string t175, .int .i64 t176, .int .i64 t177, .int .i64 t178] 23 (0, 0)) (by (with_reducible repeat (first | refine blk_drewN ?_ _ | refine blk_drew ?_ | refine blk_alloc ?_ _)); exact BK183.out) hb); have n5_ := Aside0.mk (blk_below (g := gb184) (o := .cells #[.string t179, .int .i64 t180, .int .i64 t181, .int .i64 t182] 23 (0, 0)) (by (with_reducible repeat (first | refine blk_drewN ?_ _ | refine blk_drew ?_ | refine blk_alloc ?_ _)); exact BK184.out) hb); have n6_ := Aside0.mk (below_step (by repeat (first | (with_reducible first | exact HB.out | apply below_alloc | apply pw_below_drewN | apply below_drew1 | refine below_set ?_ GE183.out | refine below_set ?_ GE184.out) | exact HB.out)) hb); clear HO203; clear HO206; clear HO209; clear HO213; clear BK183; clear BK184; clear HB; have HO203 := n0_; have HO206 := n1_; have HO209 := n2_; have HO213 := n3_; have BK183 := n4_; have BK184 := n5_; have HB := n6_; clear n0_ n1_ n2_ n3_ n4_ n5_ n6_; (try clear hb); (try clear hb2); (try clear hk); (try clear hi); obtain ⟨Ao52, co52, eo52⟩ := Kd.R_slice HO213.out; subst eo52; have p218 : 0 ≤ (0 : Int) := (by omega); have q218 : 0 < (t210.length : Int) := of_decide_eq_true (by first | (with_reducible assumption) | assumption); obtain ⟨ad218, e218, hx218_0⟩ := Kd.at_int (Kd.R_reads' HO213.out).2.2 0 p218 q218; cases e218; have qi218 : (0 < t210.length) = True := eq_true (by omega); (try rw [show ((0 : Int)).toNat = 0 from rfl] at hx218_0); (try rw [Addr.add_zero'] at hx218_0); replace p218 := eq_true p218; replace q218 := eq_true q218))
                    go_ret
                    exact ⟨by first | rfl | (simp [errW_none, errW_some] <;> rfl) | (simp [*, errW_none, errW_some] <;> rfl), by repeat (first | (with_reducible first | exact HB.out | apply below_alloc | apply pw_below_drewN | apply below_drew1 | refine below_set ?_ GE183.out | refine below_set ?_ GE184.out) | exact HB.out)⟩
                  · rw [if_neg c19] at H
                    exact absurd (H.trans (congrArg some HRT.out)) (by first | simp [] | (simp only []; (repeat' split) <;> simp))
                · rw [if_neg c18] at H
                  exact absurd H (by simp)
              · rw [if_neg c17] at H
                exact absurd (H.trans (congrArg some HRT.out)) (by first | simp [] | (simp only []; (repeat' split) <;> simp))
            · rw [if_neg c16] at H
              exact absurd (H.trans (congrArg some HRT.out)) (by first | simp [] | (simp only []; (repeat' split) <;> simp))
          · rw [if_neg c15] at H
            exact absurd (H.trans (congrArg some HRT.out)) (by first | simp [] | (simp only []; (repeat' split) <;> simp))
      · rw [if_neg c12] at H
        exact absurd (H.trans (congrArg some HRT.out)) (by first | simp [] | (simp only []; (repeat' split) <;> simp))
    · rw [if_neg c10] at H
      exact absurd (H.trans (congrArg some HRT.out)) (by first | simp [] | (simp only []; (repeat' split) <;> simp))
  · rw [if_neg c8] at H
    exact absurd (H.trans (congrArg some HRT.out)) (by first | simp [] | (simp only []; (repeat' split) <;> simp))

/-! ### option_Parity: function 17 -/
def option_Parity.l0 : Nat → Int → Int → Int → Int → List Int → Int → Int → Option (Int × Int)
  | 0, _, _, _, _, _, _, _ => none
  | k + 1, x0, x1, x2, x3, x16, x17, x18 => if x18 < x17 then (if 0 ≤ x18 then (if x18 < (x16.length : Int) then (if (rd x16 x18) < (-16777216) then (some (0, 17)) else (if (rd x16 x18) > 16777216 then (some (0, 17)) else (option_Parity.l0 k x0 x1 x2 x3 x16 x17 (wrap64 (x18 + 1))))) else (none)) else (none)) else (some (wrap64 ((wrap64 (x0 - x1)) - (wrap64 (x3 - x2))), 0))
def option_Parity.f (k : Nat) (a0 : Int) (a1 : Int) (a2 : Int) (a3 : Int) : Option (Int × Int) := (some (([a0, a1, a2, a3] : List Int) : List Int)).bind fun y219 => (option_Parity.l0 k a0 a1 a2 a3 y219 (y219.length : Int) 0)
theorem option_Parity.mono_l : ∀ k, (∀ y0 y1 y2 y3 y4 y5 y6, LeO (option_Parity.l0 k y0 y1 y2 y3 y4 y5 y6) (option_Parity.l0 (k + 1) y0 y1 y2 y3 y4 y5 y6))
  | 0 => fun _ _ _ _ _ _ _ r h => by simp [option_Parity.l0] at h
  | k + 1 => by
    have ih0 := option_Parity.mono_l k
    · intro y0 y1 y2 y3 y4 y5 y6
      unfold option_Parity.l0
      repeat' first
      | (with_reducible exact ih0 _ _ _ _ _ _ _)
      | (with_reducible exact LeO.refl _)
      | (with_reducible exact LeO.none _)
      | (with_reducible refine LeO.ite ?_ ?_)
      | (with_reducible refine LeO.bind ?_ (fun _ => ?_))
      | exact ih0 _ _ _ _ _ _ _
      | exact LeO.none _
      | refine LeO.ite ?_ ?_
      | refine LeO.bind ?_ (fun _ => ?_)
theorem option_Parity.mono : ∀ a0 a1 a2 a3 k, LeO (option_Parity.f k a0 a1 a2 a3) (option_Parity.f (k + 1) a0 a1 a2 a3) := by
  intro a0 a1 a2 a3 k
  have ih0 := option_Parity.mono_l k
  unfold option_Parity.f
  repeat' first
      | (with_reducible exact ih0 _ _ _ _ _ _ _)
      | (with_reducible exact LeO.refl _)
      | (with_reducible exact LeO.none _)
      | (with_reducible refine LeO.ite ?_ ?_)
      | (with_reducible refine LeO.bind ?_ (fun _ => ?_))
      | exact ih0 _ _ _ _ _ _ _
      | exact LeO.none _
      | refine LeO.ite ?_ ?_
      | refine LeO.bind ?_ (fun _ => ?_)
set_option maxHeartbeats 8000000 in
set_option maxRecDepth 100000 in
theorem option_Parity.calls (k : Nat) (a0 : Int) (a1 : Int) (a2 : Int) (a3 : Int) (r1 : Int) (r2 : Int) (w : World) (h : option_Parity.f k a0 a1 a2 a3 = some (r1, r2)) :
    Calls Try.prog 17 #[.int .i64 a0, .int .i64 a1, .int .i64 a2, .int .i64 a3] w fun e w' => e = .returned (.tuple #[.int .i64 r1, .int .i64 r2]) ∧ Below w.heap.size w w' := by
  have HB := Aside0.mk (Below.refl w.heap.size w)
  have H : ((some (([a0, a1, a2, a3] : List Int) : List Int)).bind fun y219 => (option_Parity.l0 k a0 a1 a2 a3 y219 (y219.length : Int) 0)) = some (r1, r2) := h
  clear h
  obtain ⟨y219, hy219⟩ : ∃ y_ : List Int, y_ = (([a0, a1, a2, a3] : List Int)) := ⟨_, rfl⟩
  replace H : (option_Parity.l0 k a0 a1 a2 a3 y219 (y219.length : Int) 0) = some (r1, r2) := by first | (rw [hy219]; with_reducible exact H) | (have H2_ := (Option.bind_some _ _).symm.trans H; rw [hy219]; with_reducible exact H2_) | (have H2_ := (Option.bind_some _ _).symm.trans H; with_reducible exact H2_) | with_reducible exact H | (rw [hy219]; exact H) | exact H
  have Ny219 := Aside0.mk hy219
  clear hy219
  have H' := Aside0.mk H
  clear H
  go_enter Try.func17, Try.ntmps17
  go_wp2_with (first | ((with_reducible refine gate_dst (N := 16) rfl ?_); refine Kd.R_lit (Kd.int .i64) _ 3 ?hg (N := 16) ?hd (xs := ([a0, a1, a2, a3] : List Int)) (inner := [.int .i64 a0, .int .i64 a1, .int .i64 a2, .int .i64 a3]) (ok := fun _ => True) (okp := fun _ => True) ?hr ?hp (fun _ hk => hk) trivial (Below.refl _ _) (Nat.le_refl _) (by simp) ?_; (case hd => rfl); (case hg => rfl); (case hr => first | (go_simp; done) | (go_simp; rfl)); (case hp => exact (Reps.one (show Kd.M (Kd.int .i64) _ _ _ a0 [.int .i64 a0] from rfl) (Reps.one (show Kd.M (Kd.int .i64) _ _ _ a1 [.int .i64 a1] from rfl) (Reps.one (show Kd.M (Kd.int .i64) _ _ _ a2 [.int .i64 a2] from rfl) (Reps.one (show Kd.M (Kd.int .i64) _ _ _ a3 [.int .i64 a3] from rfl) (Reps.none _ _)))))); intro v220 w5 ho6 hb hg_ hnew_; clear hg_ hnew_; (first | rw [← Ny219.out] at ho6 | (simp only [Int.reduceToNat] at ho6; rw [← Ny219.out] at ho6)); have n0_ := Aside0.mk (Kd.R_lower ho6 (below_size (by repeat (first | (with_reducible first | exact HB.out | apply below_alloc | apply pw_below_drewN | apply below_drew1) | exact HB.out)))); have n1_ := Aside0.mk (below_step (by repeat (first | (with_reducible first | exact HB.out | apply below_alloc | apply pw_below_drewN | apply below_drew1) | exact HB.out)) hb); clear HB; have HO221 := n0_; have HB := n1_; clear n0_ n1_; clear hb ho6; obtain ⟨Ao7, co7, eo7⟩ := Kd.R_slice HO221.out; subst eo7))
  go_loopg [18] k (fun kq v18 w' => ∃ (x18_1 : Int), v18 = .int .i64 x18_1 ∧ Aside0 (option_Parity.l0 kq a0 a1 a2 a3 y219 (y219.length : Int) x18_1 = some (r1, r2)) ∧ Aside0 (kq ≤ k) ∧ Aside0 (Kd.R (Kd.int .i64) 3 w' w.heap.size (fun _ => True) (.slice Ao7 y219.length co7) y219) ∧ Aside0 (Below w.heap.size w w'))
  case atStart => exact ⟨(0), (by first | rfl | (simp; done) | (simp [*]; done)), H', ⟨Nat.le_refl _⟩, ⟨by (with_reducible repeat (first | apply Kd.R_alloc | apply Kd.R_drewN | apply Kd.R_drew)); exact HO221.out⟩, ⟨by repeat (first | (with_reducible first | exact HB.out | apply below_alloc | apply pw_below_drewN | apply below_drew1) | exact HB.out)⟩⟩
  case round =>
    clear H'
    try clear c1
    try clear p2
    obtain ⟨x18_1, rfl, HA, HK1, HO_16, HB⟩ := hrel
    cases gk with
    | zero => exact absurd HA.out (by simp [option_Parity.l0])
    | succ k1 =>
      have H := HA.out
      clear HA
      simp only [option_Parity.l0] at H
      by_cases c8 : x18_1 < (y219.length : Int)
      · rw [if_pos c8] at H
        have c8b0 : decide (x18_1 < (y219.length : Int)) = true := decide_eq_true c8
        clear c8
        by_cases c9 : 0 ≤ x18_1
        · rw [if_pos c9] at H
          have c9b0 : decide (0 ≤ x18_1) = true := decide_eq_true c9
          clear c9
          by_cases c10 : x18_1 < (y219.length : Int)
          · rw [if_pos c10] at H
            have c10b0 : decide (x18_1 < (y219.length : Int)) = true := decide_eq_true c10
            clear c10
            by_cases c11 : (rd y219 x18_1) < (-16777216)
            · rw [if_pos c11] at H
              have c11b0 : decide ((rd y219 x18_1) < (-16777216)) = true := decide_eq_true c11
              clear c11
              simp only [Option.some.injEq, Prod.mk.injEq] at H
              obtain ⟨rfl, rfl⟩ := H
              have p222 : 0 ≤ (x18_1 : Int) := of_decide_eq_true (by first | (with_reducible assumption) | assumption)
              have q222 : x18_1 < (y219.length : Int) := of_decide_eq_true (by first | (with_reducible assumption) | assumption)
              obtain ⟨ad222, e222, hx222_0⟩ := Kd.at_int (Kd.R_reads' HO_16.out).2.2 x18_1 p222 q222
              cases e222
              replace p222 := eq_true p222
              replace q222 := eq_true q222
              go_wp2
              go_ret2
              exact ⟨by first | rfl | (simp [errW_none, errW_some] <;> rfl) | (simp [*, errW_none, errW_some] <;> rfl), by repeat (first | (with_reducible first | exact HB.out | apply below_alloc | apply pw_below_drewN | apply below_drew1) | exact HB.out)⟩
            · rw [if_neg c11] at H
              have c11b0 : decide ((rd y219 x18_1) < (-16777216)) = false := decide_eq_false c11
              clear c11
              by_cases c12 : (rd y219 x18_1) > 16777216
              · rw [if_pos c12] at H
                have c12b0 : decide (16777216 < (rd y219 x18_1)) = true := decide_eq_true c12
                clear c12
                simp only [Option.some.injEq, Prod.mk.injEq] at H
                obtain ⟨rfl, rfl⟩ := H
                have p222 : 0 ≤ (x18_1 : Int) := of_decide_eq_true (by first | (with_reducible assumption) | assumption)
                have q222 : x18_1 < (y219.length : Int) := of_decide_eq_true (by first | (with_reducible assumption) | assumption)
                obtain ⟨ad222, e222, hx222_0⟩ := Kd.at_int (Kd.R_reads' HO_16.out).2.2 x18_1 p222 q222
                cases e222
                replace p222 := eq_true p222
                replace q222 := eq_true q222
                go_wp2
                go_ret2
                exact ⟨by first | rfl | (simp [errW_none, errW_some] <;> rfl) | (simp [*, errW_none, errW_some] <;> rfl), by repeat (first | (with_reducible first | exact HB.out | apply below_alloc | apply pw_below_drewN | apply below_drew1) | exact HB.out)⟩
              · rw [if_neg c12] at H
                have c12b0 : decide (16777216 < (rd y219 x18_1)) = false := decide_eq_false c12
                clear c12
                have H' := Aside0.mk H
                clear H
                have p222 : 0 ≤ (x18_1 : Int) := of_decide_eq_true (by first | (with_reducible assumption) | assumption)
                have q222 : x18_1 < (y219.length : Int) := of_decide_eq_true (by first | (with_reducible assumption) | assumption)
                obtain ⟨ad222, e222, hx222_0⟩ := Kd.at_int (Kd.R_reads' HO_16.out).2.2 x18_1 p222 q222
                cases e222
                replace p222 := eq_true p222
                replace q222 := eq_true q222
                go_wp2
                go_roundg k1
                case measure => have := HK1.out; omega
                case rel => exact ⟨(wrap64 (x18_1 + 1)), (by first | rfl | (simp; done) | (simp [*]; done)), H', ⟨by have := HK1.out; omega⟩, ⟨by (with_reducible repeat (first | apply Kd.R_alloc | apply Kd.R_drewN | apply Kd.R_drew)); exact HO_16.out⟩, ⟨by repeat (first | (with_reducible first | exact HB.out | apply below_alloc | apply pw_below_drewN | apply below_drew1) | exact HB.out)⟩⟩
          · rw [if_neg c10] at H
            exact absurd H (by simp)
        · rw [if_neg c9] at H
          exact absurd H (by simp)
      · rw [if_neg c8] at H
        have c8b0 : decide (x18_1 < (y219.length : Int)) = false := decide_eq_false c8
        clear c8
        simp only [Option.some.injEq, Prod.mk.injEq] at H
        obtain ⟨rfl, rfl⟩ := H
        go_wp2
        go_ret2
        exact ⟨by first | rfl | (simp [errW_none, errW_some] <;> rfl) | (simp [*, errW_none, errW_some] <;> rfl), by repeat (first | (with_reducible first | exact HB.out | apply below_alloc | apply pw_below_drewN | apply below_drew1) | exact HB.out)⟩

end Go.Proofs.Ytjaokhpbdhefhaa.POptionParity
