-- Written by a program of this session's (a turned copy of the kit's print, with functions proved by hand).
import Derived.Test.YtjaokhpbdhefhaaPOptionNetsx0
import Derived.Test.YtjaokhpbdhefhaaPOptionNetsx4
import Derived.Test.YtjaokhpbdhefhaaPOptionNetsx6
import Derived.Test.YtjaokhpbdhefhaaPOptionNetsx10
namespace Go.Proofs.Ytjaokhpbdhefhaa.POptionNets
open Go.RowKit Go.Proofs.YtjaokhpbdhefhaaW.PrintWords Go.Proofs.YtjaokhpbdhefhaaW.PrintLast Go.Proofs.YtjaokhpbdhefhaaW.PrintMore
attribute [local go_sem] max2_int min2_int max_two min_two max_three min_three max_four min_four Go.Proofs.YtjaokhpbdhefhaaHand.run_leq_str Go.Proofs.YtjaokhpbdhefhaaHand.run_gtr_str Go.Proofs.YtjaokhpbdhefhaaHand.run_geq_str   -- for this text's walks alone
set_option linter.unusedVariables false
set_option linter.unusedSimpArgs false

/-! ### contangolaw21_goes: function 14 -/
def contangolaw21_goes.f (k : Nat)  : Option (Bool) := (contangolaw21_of.f 2).bind fun bt173 => ((contangolaw21_of.f 3).bind fun bt177 => ((contangolaw21_oil.f).bind fun bt183 => ((option_Premium.f k bt183.1 bt183.2.1 bt183.2.2.1 bt183.2.2.2.1 bt183.2.2.2.2.1 bt183.2.2.2.2.2.1 bt183.2.2.2.2.2.2 (⟨#[]⟩ : ByteArray) (⟨#[]⟩ : ByteArray) bt173.1 bt173.2.1 bt173.2.2.1 bt173.2.2.2 (-3) 4 0).bind fun bt190 => ((contangolaw21_oil.f).bind fun bt192 => ((option_Net.f k (([(⟨bt192.1, bt192.2.1, bt192.2.2.1, bt192.2.2.2.1, bt192.2.2.2.2.1, bt192.2.2.2.2.2.1, bt192.2.2.2.2.2.2⟩ : S29)] : List (S29))) (([(⟨(⟨bt173.1, bt173.2.1, bt173.2.2.1, bt173.2.2.2⟩ : S23), 2, 0⟩ : S57), (⟨(⟨bt177.1, bt177.2.1, bt177.2.2.1, bt177.2.2.2⟩ : S23), 0, 1⟩ : S57)] : List (S57))) (([(⟨(⟨bt173.1, bt173.2.1, bt173.2.2.1, bt173.2.2.2⟩ : S23), 7⟩ : S63), (⟨(⟨bt177.1, bt177.2.1, bt177.2.2.1, bt177.2.2.2⟩ : S23), 3⟩ : S63)] : List (S63)))).bind fun bt208 => ((option_Intrinsic.f k bt173.1 bt173.2.1 bt173.2.2.1 bt173.2.2.2 60).bind fun t212 => (if t212 = 10 then ((option_Intrinsic.f k bt177.1 bt177.2.1 bt177.2.2.1 bt177.2.2.2 60).bind fun t213 => (if t213 = 0 then ((option_Intrinsic.f k bt177.1 bt177.2.1 bt177.2.2.1 bt177.2.2.2 40).bind fun t214 => (if t214 = 10 then ((option_Ends.f k bt173.1 bt173.2.1 bt173.2.2.1 bt173.2.2.2 50).bind fun t215 => (if t215 = true then (some false) else (if bt190.1 = (-1200) then (if bt190.2 = 0 then (if (bt208.1.length : Int) = 8 then (if 0 < (bt208.1.length : Int) then (if (rd bt208.1 0) = 1100 then (some (bt208.2 == 0)) else (some false)) else (none)) else (some false)) else (some false)) else (some false)))) else (some false))) else (some false))) else (some false))))))))
theorem contangolaw21_goes.mono : ∀ k, LeO (contangolaw21_goes.f k ) (contangolaw21_goes.f (k + 1) ) := by
  intro  k
  unfold contangolaw21_goes.f
  repeat' first
      | (with_reducible exact option_Ends.mono _ _ _ _ _ _)
      | (with_reducible exact option_Intrinsic.mono _ _ _ _ _ _)
      | (with_reducible exact option_Net.mono _ _ _ _)
      | (with_reducible exact option_Premium.mono _ _ _ _ _ _ _ _ _ _ _ _ _ _ _ _ _)
      | (with_reducible exact LeO.refl _)
      | (with_reducible exact LeO.none _)
      | (with_reducible refine LeO.ite ?_ ?_)
      | (with_reducible refine LeO.bind ?_ (fun _ => ?_))
      | exact option_Ends.mono _ _ _ _ _ _
      | exact option_Intrinsic.mono _ _ _ _ _ _
      | exact option_Net.mono _ _ _ _
      | exact option_Premium.mono _ _ _ _ _ _ _ _ _ _ _ _ _ _ _ _ _
      | exact LeO.none _
      | refine LeO.ite ?_ ?_
      | refine LeO.bind ?_ (fun _ => ?_)
theorem contangolaw21_goes.only (k : Nat) (r : Bool) (h : contangolaw21_goes.f k  = some r) : r = true := by
  exact Option.some.inj ((at_rounds (fun k => contangolaw21_goes.mono k) (Nat.le_max_left k 100) h).symm.trans (at_rounds (fun k => contangolaw21_goes.mono k) (Nat.le_max_right k 100) (by decide +kernel : contangolaw21_goes.f 100 = some true)))
def contangolaw21_goes.T2 : Bool × List (List Nat × List Nat) := (true, [([], []), ([], []), ([1], [1]), ([0, 2, 0], [0, 2]), ([3], [3]), ([4], [4]), ([4], [4]), ([5, 3, 0, 1, 2, 3, 4, 5], [5]), ([6, 7, 0, 1, 2, 3, 4, 5, 6, 7], [6])])
def contangolaw21_goes.B2 : List Nat := [0, 0, 2, 7, 15, 31, 31, 63, 255]
theorem contangolaw21_goes.tab2 : rtab .any (opsOf Try.f14 2) = contangolaw21_goes.T2 := by kernel_rfl
theorem contangolaw21_goes.bits2 : waitsOk contangolaw21_goes.T2.2 contangolaw21_goes.B2 = true := by kernel_rfl
def contangolaw21_goes.T3 : Bool × List (List Nat × List Nat) := (true, [([], []), ([0], [0]), ([], []), ([2], [2]), ([], []), ([4], [4]), ([3, 5], [3, 5]), ([], []), ([7], [7]), ([], []), ([9], [9]), ([8, 10], [8, 10]), ([1, 6, 11, 0], [1, 6, 11]), ([12], [12]), ([13], [13]), ([13], [13]), ([14, 12, 0, 1, 2, 3, 4, 5, 6, 7, 8, 9, 10, 11, 12, 13, 14], [14]), ([15, 16, 0, 1, 2, 3, 4, 5, 6, 7, 8, 9, 10, 11, 12, 13, 14, 15, 16], [15])])
def contangolaw21_goes.B3 : List Nat := [0, 1, 0, 4, 0, 16, 60, 0, 128, 0, 512, 1920, 4095, 8191, 16383, 16383, 32767, 131071]
theorem contangolaw21_goes.tab3 : rtab .any (opsOf Try.f14 3) = contangolaw21_goes.T3 := by kernel_rfl
theorem contangolaw21_goes.bits3 : waitsOk contangolaw21_goes.T3.2 contangolaw21_goes.B3 = true := by kernel_rfl
set_option maxHeartbeats 8000000 in
set_option maxRecDepth 100000 in
theorem contangolaw21_goes.calls (k : Nat)  (r : Bool) (w : World) (h : contangolaw21_goes.f k  = some r) :
    Calls Try.prog 14 #[] w fun e w' => e = .returned (.bool r) ∧ Below w.heap.size w w' := by
 have hu23 := Try.underlying23
 have hu33 := Try.underlying33
 have hu57 := Try.underlying57
 have hu63 := Try.underlying63
 have HB := Aside0.mk (Below.refl w.heap.size w)
 have HRT := Aside0.mk (contangolaw21_goes.only k r h)
 have H : ((contangolaw21_of.f 2).bind fun bt173 => ((contangolaw21_of.f 3).bind fun bt177 => ((contangolaw21_oil.f).bind fun bt183 => ((option_Premium.f k bt183.1 bt183.2.1 bt183.2.2.1 bt183.2.2.2.1 bt183.2.2.2.2.1 bt183.2.2.2.2.2.1 bt183.2.2.2.2.2.2 (⟨#[]⟩ : ByteArray) (⟨#[]⟩ : ByteArray) bt173.1 bt173.2.1 bt173.2.2.1 bt173.2.2.2 (-3) 4 0).bind fun bt190 => ((contangolaw21_oil.f).bind fun bt192 => ((option_Net.f k (([(⟨bt192.1, bt192.2.1, bt192.2.2.1, bt192.2.2.2.1, bt192.2.2.2.2.1, bt192.2.2.2.2.2.1, bt192.2.2.2.2.2.2⟩ : S29)] : List (S29))) (([(⟨(⟨bt173.1, bt173.2.1, bt173.2.2.1, bt173.2.2.2⟩ : S23), 2, 0⟩ : S57), (⟨(⟨bt177.1, bt177.2.1, bt177.2.2.1, bt177.2.2.2⟩ : S23), 0, 1⟩ : S57)] : List (S57))) (([(⟨(⟨bt173.1, bt173.2.1, bt173.2.2.1, bt173.2.2.2⟩ : S23), 7⟩ : S63), (⟨(⟨bt177.1, bt177.2.1, bt177.2.2.1, bt177.2.2.2⟩ : S23), 3⟩ : S63)] : List (S63)))).bind fun bt208 => ((option_Intrinsic.f k bt173.1 bt173.2.1 bt173.2.2.1 bt173.2.2.2 60).bind fun t212 => (if t212 = 10 then ((option_Intrinsic.f k bt177.1 bt177.2.1 bt177.2.2.1 bt177.2.2.2 60).bind fun t213 => (if t213 = 0 then ((option_Intrinsic.f k bt177.1 bt177.2.1 bt177.2.2.1 bt177.2.2.2 40).bind fun t214 => (if t214 = 10 then ((option_Ends.f k bt173.1 bt173.2.1 bt173.2.2.1 bt173.2.2.2 50).bind fun t215 => (if t215 = true then (some false) else (if bt190.1 = (-1200) then (if bt190.2 = 0 then (if (bt208.1.length : Int) = 8 then (if 0 < (bt208.1.length : Int) then (if (rd bt208.1 0) = 1100 then (some (bt208.2 == 0)) else (some false)) else (none)) else (some false)) else (some false)) else (some false)))) else (some false))) else (some false))) else (some false))))))))) = some r := h
 clear h
 replace H := Option.bind_eq_some_iff.mp H
 obtain ⟨⟨t173, t174, t175, t176⟩, A10, H⟩ := H
 replace H : ((contangolaw21_of.f 3).bind fun bt177 => ((contangolaw21_oil.f).bind fun bt183 => ((option_Premium.f k bt183.1 bt183.2.1 bt183.2.2.1 bt183.2.2.2.1 bt183.2.2.2.2.1 bt183.2.2.2.2.2.1 bt183.2.2.2.2.2.2 (⟨#[]⟩ : ByteArray) (⟨#[]⟩ : ByteArray) t173 t174 t175 t176 (-3) 4 0).bind fun bt190 => ((contangolaw21_oil.f).bind fun bt192 => ((option_Net.f k (([(⟨bt192.1, bt192.2.1, bt192.2.2.1, bt192.2.2.2.1, bt192.2.2.2.2.1, bt192.2.2.2.2.2.1, bt192.2.2.2.2.2.2⟩ : S29)] : List (S29))) (([(⟨(⟨t173, t174, t175, t176⟩ : S23), 2, 0⟩ : S57), (⟨(⟨bt177.1, bt177.2.1, bt177.2.2.1, bt177.2.2.2⟩ : S23), 0, 1⟩ : S57)] : List (S57))) (([(⟨(⟨t173, t174, t175, t176⟩ : S23), 7⟩ : S63), (⟨(⟨bt177.1, bt177.2.1, bt177.2.2.1, bt177.2.2.2⟩ : S23), 3⟩ : S63)] : List (S63)))).bind fun bt208 => ((option_Intrinsic.f k t173 t174 t175 t176 60).bind fun t212 => (if t212 = 10 then ((option_Intrinsic.f k bt177.1 bt177.2.1 bt177.2.2.1 bt177.2.2.2 60).bind fun t213 => (if t213 = 0 then ((option_Intrinsic.f k bt177.1 bt177.2.1 bt177.2.2.1 bt177.2.2.2 40).bind fun t214 => (if t214 = 10 then ((option_Ends.f k t173 t174 t175 t176 50).bind fun t215 => (if t215 = true then (some false) else (if bt190.1 = (-1200) then (if bt190.2 = 0 then (if (bt208.1.length : Int) = 8 then (if 0 < (bt208.1.length : Int) then (if (rd bt208.1 0) = 1100 then (some (bt208.2 == 0)) else (some false)) else (none)) else (some false)) else (some false)) else (some false)))) else (some false))) else (some false))) else (some false)))))))) = some r := H
 have A1 := Aside0.mk A10
 clear A10
 replace H := Option.bind_eq_some_iff.mp H
 obtain ⟨⟨t177, t178, t179, t180⟩, A20, H⟩ := H
 replace H : ((contangolaw21_oil.f).bind fun bt183 => ((option_Premium.f k bt183.1 bt183.2.1 bt183.2.2.1 bt183.2.2.2.1 bt183.2.2.2.2.1 bt183.2.2.2.2.2.1 bt183.2.2.2.2.2.2 (⟨#[]⟩ : ByteArray) (⟨#[]⟩ : ByteArray) t173 t174 t175 t176 (-3) 4 0).bind fun bt190 => ((contangolaw21_oil.f).bind fun bt192 => ((option_Net.f k (([(⟨bt192.1, bt192.2.1, bt192.2.2.1, bt192.2.2.2.1, bt192.2.2.2.2.1, bt192.2.2.2.2.2.1, bt192.2.2.2.2.2.2⟩ : S29)] : List (S29))) (([(⟨(⟨t173, t174, t175, t176⟩ : S23), 2, 0⟩ : S57), (⟨(⟨t177, t178, t179, t180⟩ : S23), 0, 1⟩ : S57)] : List (S57))) (([(⟨(⟨t173, t174, t175, t176⟩ : S23), 7⟩ : S63), (⟨(⟨t177, t178, t179, t180⟩ : S23), 3⟩ : S63)] : List (S63)))).bind fun bt208 => ((option_Intrinsic.f k t173 t174 t175 t176 60).bind fun t212 => (if t212 = 10 then ((option_Intrinsic.f k t177 t178 t179 t180 60).bind fun t213 => (if t213 = 0 then ((option_Intrinsic.f k t177 t178 t179 t180 40).bind fun t214 => (if t214 = 10 then ((option_Ends.f k t173 t174 t175 t176 50).bind fun t215 => (if t215 = true then (some false) else (if bt190.1 = (-1200) then (if bt190.2 = 0 then (if (bt208.1.length : Int) = 8 then (if 0 < (bt208.1.length : Int) then (if (rd bt208.1 0) = 1100 then (some (bt208.2 == 0)) else (some false)) else (none)) else (some false)) else (some false)) else (some false)))) else (some false))) else (some false))) else (some false))))))) = some r := H
 have A2 := Aside0.mk A20
 clear A20
 replace H := Option.bind_eq_some_iff.mp H
 obtain ⟨⟨t183, t184, t185, t186, t187, t188, t189⟩, A30, H⟩ := H
 replace H : ((option_Premium.f k t183 t184 t185 t186 t187 t188 t189 (⟨#[]⟩ : ByteArray) (⟨#[]⟩ : ByteArray) t173 t174 t175 t176 (-3) 4 0).bind fun bt190 => ((contangolaw21_oil.f).bind fun bt192 => ((option_Net.f k (([(⟨bt192.1, bt192.2.1, bt192.2.2.1, bt192.2.2.2.1, bt192.2.2.2.2.1, bt192.2.2.2.2.2.1, bt192.2.2.2.2.2.2⟩ : S29)] : List (S29))) (([(⟨(⟨t173, t174, t175, t176⟩ : S23), 2, 0⟩ : S57), (⟨(⟨t177, t178, t179, t180⟩ : S23), 0, 1⟩ : S57)] : List (S57))) (([(⟨(⟨t173, t174, t175, t176⟩ : S23), 7⟩ : S63), (⟨(⟨t177, t178, t179, t180⟩ : S23), 3⟩ : S63)] : List (S63)))).bind fun bt208 => ((option_Intrinsic.f k t173 t174 t175 t176 60).bind fun t212 => (if t212 = 10 then ((option_Intrinsic.f k t177 t178 t179 t180 60).bind fun t213 => (if t213 = 0 then ((option_Intrinsic.f k t177 t178 t179 t180 40).bind fun t214 => (if t214 = 10 then ((option_Ends.f k t173 t174 t175 t176 50).bind fun t215 => (if t215 = true then (some false) else (if bt190.1 = (-1200) then (if bt190.2 = 0 then (if (bt208.1.length : Int) = 8 then (if 0 < (bt208.1.length : Int) then (if (rd bt208.1 0) = 1100 then (some (bt208.2 == 0)) else (some false)) else (none)) else (some false)) else (some false)) else (some false)))) else (some false))) else (some false))) else (some false)))))) = some r := H
 have A3 := Aside0.mk A30
 clear A30
 replace H := Option.bind_eq_some_iff.mp H
 obtain ⟨⟨t190, t191⟩, A40, H⟩ := H
 replace H : ((contangolaw21_oil.f).bind fun bt192 => ((option_Net.f k (([(⟨bt192.1, bt192.2.1, bt192.2.2.1, bt192.2.2.2.1, bt192.2.2.2.2.1, bt192.2.2.2.2.2.1, bt192.2.2.2.2.2.2⟩ : S29)] : List (S29))) (([(⟨(⟨t173, t174, t175, t176⟩ : S23), 2, 0⟩ : S57), (⟨(⟨t177, t178, t179, t180⟩ : S23), 0, 1⟩ : S57)] : List (S57))) (([(⟨(⟨t173, t174, t175, t176⟩ : S23), 7⟩ : S63), (⟨(⟨t177, t178, t179, t180⟩ : S23), 3⟩ : S63)] : List (S63)))).bind fun bt208 => ((option_Intrinsic.f k t173 t174 t175 t176 60).bind fun t212 => (if t212 = 10 then ((option_Intrinsic.f k t177 t178 t179 t180 60).bind fun t213 => (if t213 = 0 then ((option_Intrinsic.f k t177 t178 t179 t180 40).bind fun t214 => (if t214 = 10 then ((option_Ends.f k t173 t174 t175 t176 50).bind fun t215 => (if t215 = true then (some false) else (if t190 = (-1200) then (if t191 = 0 then (if (bt208.1.length : Int) = 8 then (if 0 < (bt208.1.length : Int) then (if (rd bt208.1 0) = 1100 then (some (bt208.2 == 0)) else (some false)) else (none)) else (some false)) else (some false)) else (some false)))) else (some false))) else (some false))) else (some false))))) = some r := H
 have A4 := Aside0.mk A40
 clear A40
 replace H := Option.bind_eq_some_iff.mp H
 obtain ⟨⟨t192, t193, t194, t195, t196, t197, t198⟩, A50, H⟩ := H
 replace H : ((option_Net.f k (([(⟨t192, t193, t194, t195, t196, t197, t198⟩ : S29)] : List (S29))) (([(⟨(⟨t173, t174, t175, t176⟩ : S23), 2, 0⟩ : S57), (⟨(⟨t177, t178, t179, t180⟩ : S23), 0, 1⟩ : S57)] : List (S57))) (([(⟨(⟨t173, t174, t175, t176⟩ : S23), 7⟩ : S63), (⟨(⟨t177, t178, t179, t180⟩ : S23), 3⟩ : S63)] : List (S63)))).bind fun bt208 => ((option_Intrinsic.f k t173 t174 t175 t176 60).bind fun t212 => (if t212 = 10 then ((option_Intrinsic.f k t177 t178 t179 t180 60).bind fun t213 => (if t213 = 0 then ((option_Intrinsic.f k t177 t178 t179 t180 40).bind fun t214 => (if t214 = 10 then ((option_Ends.f k t173 t174 t175 t176 50).bind fun t215 => (if t215 = true then (some false) else (if t190 = (-1200) then (if t191 = 0 then (if (bt208.1.length : Int) = 8 then (if 0 < (bt208.1.length : Int) then (if (rd bt208.1 0) = 1100 then (some (bt208.2 == 0)) else (some false)) else (none)) else (some false)) else (some false)) else (some false)))) else (some false))) else (some false))) else (some false)))) = some r := H
 have A5 := Aside0.mk A50
 clear A50
 obtain ⟨y199, hy199⟩ : ∃ y_ : List (S29), y_ = (([(⟨t192, t193, t194, t195, t196, t197, t198⟩ : S29)] : List (S29))) := ⟨_, rfl⟩
 replace H : ((option_Net.f k y199 (([(⟨(⟨t173, t174, t175, t176⟩ : S23), 2, 0⟩ : S57), (⟨(⟨t177, t178, t179, t180⟩ : S23), 0, 1⟩ : S57)] : List (S57))) (([(⟨(⟨t173, t174, t175, t176⟩ : S23), 7⟩ : S63), (⟨(⟨t177, t178, t179, t180⟩ : S23), 3⟩ : S63)] : List (S63)))).bind fun bt208 => ((option_Intrinsic.f k t173 t174 t175 t176 60).bind fun t212 => (if t212 = 10 then ((option_Intrinsic.f k t177 t178 t179 t180 60).bind fun t213 => (if t213 = 0 then ((option_Intrinsic.f k t177 t178 t179 t180 40).bind fun t214 => (if t214 = 10 then ((option_Ends.f k t173 t174 t175 t176 50).bind fun t215 => (if t215 = true then (some false) else (if t190 = (-1200) then (if t191 = 0 then (if (bt208.1.length : Int) = 8 then (if 0 < (bt208.1.length : Int) then (if (rd bt208.1 0) = 1100 then (some (bt208.2 == 0)) else (some false)) else (none)) else (some false)) else (some false)) else (some false)))) else (some false))) else (some false))) else (some false)))) = some r := by first | (rw [hy199]; with_reducible exact H) | (have H2_ := (Option.bind_some _ _).symm.trans H; rw [hy199]; with_reducible exact H2_) | (have H2_ := (Option.bind_some _ _).symm.trans H; with_reducible exact H2_) | with_reducible exact H | (rw [hy199]; exact H) | exact H
 have Ny199 := Aside0.mk hy199
 clear hy199
 obtain ⟨y202, hy202⟩ : ∃ y_ : List (S57), y_ = (([(⟨(⟨t173, t174, t175, t176⟩ : S23), 2, 0⟩ : S57), (⟨(⟨t177, t178, t179, t180⟩ : S23), 0, 1⟩ : S57)] : List (S57))) := ⟨_, rfl⟩
 replace H : ((option_Net.f k y199 y202 (([(⟨(⟨t173, t174, t175, t176⟩ : S23), 7⟩ : S63), (⟨(⟨t177, t178, t179, t180⟩ : S23), 3⟩ : S63)] : List (S63)))).bind fun bt208 => ((option_Intrinsic.f k t173 t174 t175 t176 60).bind fun t212 => (if t212 = 10 then ((option_Intrinsic.f k t177 t178 t179 t180 60).bind fun t213 => (if t213 = 0 then ((option_Intrinsic.f k t177 t178 t179 t180 40).bind fun t214 => (if t214 = 10 then ((option_Ends.f k t173 t174 t175 t176 50).bind fun t215 => (if t215 = true then (some false) else (if t190 = (-1200) then (if t191 = 0 then (if (bt208.1.length : Int) = 8 then (if 0 < (bt208.1.length : Int) then (if (rd bt208.1 0) = 1100 then (some (bt208.2 == 0)) else (some false)) else (none)) else (some false)) else (some false)) else (some false)))) else (some false))) else (some false))) else (some false)))) = some r := by first | (rw [hy202]; with_reducible exact H) | (have H2_ := (Option.bind_some _ _).symm.trans H; rw [hy202]; with_reducible exact H2_) | (have H2_ := (Option.bind_some _ _).symm.trans H; with_reducible exact H2_) | with_reducible exact H | (rw [hy202]; exact H) | exact H
 have Ny202 := Aside0.mk hy202
 clear hy202
 obtain ⟨y205, hy205⟩ : ∃ y_ : List (S63), y_ = (([(⟨(⟨t173, t174, t175, t176⟩ : S23), 7⟩ : S63), (⟨(⟨t177, t178, t179, t180⟩ : S23), 3⟩ : S63)] : List (S63))) := ⟨_, rfl⟩
 replace H : ((option_Net.f k y199 y202 y205).bind fun bt208 => ((option_Intrinsic.f k t173 t174 t175 t176 60).bind fun t212 => (if t212 = 10 then ((option_Intrinsic.f k t177 t178 t179 t180 60).bind fun t213 => (if t213 = 0 then ((option_Intrinsic.f k t177 t178 t179 t180 40).bind fun t214 => (if t214 = 10 then ((option_Ends.f k t173 t174 t175 t176 50).bind fun t215 => (if t215 = true then (some false) else (if t190 = (-1200) then (if t191 = 0 then (if (bt208.1.length : Int) = 8 then (if 0 < (bt208.1.length : Int) then (if (rd bt208.1 0) = 1100 then (some (bt208.2 == 0)) else (some false)) else (none)) else (some false)) else (some false)) else (some false)))) else (some false))) else (some false))) else (some false)))) = some r := by first | (rw [hy205]; with_reducible exact H) | (have H2_ := (Option.bind_some _ _).symm.trans H; rw [hy205]; with_reducible exact H2_) | (have H2_ := (Option.bind_some _ _).symm.trans H; with_reducible exact H2_) | with_reducible exact H | (rw [hy205]; exact H) | exact H
 have Ny205 := Aside0.mk hy205
 clear hy205
 replace H := Option.bind_eq_some_iff.mp H
 obtain ⟨⟨t208, t209⟩, A60, H⟩ := H
 replace H : ((option_Intrinsic.f k t173 t174 t175 t176 60).bind fun t212 => (if t212 = 10 then ((option_Intrinsic.f k t177 t178 t179 t180 60).bind fun t213 => (if t213 = 0 then ((option_Intrinsic.f k t177 t178 t179 t180 40).bind fun t214 => (if t214 = 10 then ((option_Ends.f k t173 t174 t175 t176 50).bind fun t215 => (if t215 = true then (some false) else (if t190 = (-1200) then (if t191 = 0 then (if (t208.length : Int) = 8 then (if 0 < (t208.length : Int) then (if (rd t208 0) = 1100 then (some (t209 == 0)) else (some false)) else (none)) else (some false)) else (some false)) else (some false)))) else (some false))) else (some false))) else (some false))) = some r := H
 have A6 := Aside0.mk A60
 clear A60
 replace H := Option.bind_eq_some_iff.mp H
 obtain ⟨t212, A70, H⟩ := H
 replace H : (if t212 = 10 then ((option_Intrinsic.f k t177 t178 t179 t180 60).bind fun t213 => (if t213 = 0 then ((option_Intrinsic.f k t177 t178 t179 t180 40).bind fun t214 => (if t214 = 10 then ((option_Ends.f k t173 t174 t175 t176 50).bind fun t215 => (if t215 = true then (some false) else (if t190 = (-1200) then (if t191 = 0 then (if (t208.length : Int) = 8 then (if 0 < (t208.length : Int) then (if (rd t208 0) = 1100 then (some (t209 == 0)) else (some false)) else (none)) else (some false)) else (some false)) else (some false)))) else (some false))) else (some false))) else (some false)) = some r := H
 have A7 := Aside0.mk A70
 clear A70
 by_cases c8 : t212 = 10
 rotate_left
 · rw [if_neg c8] at H
   exact absurd (H.trans (congrArg some HRT.out)) (by first | simp [] | (simp only []; (repeat' split) <;> simp))
 rw [if_pos c8] at H
 have c8b0 : (t212 == 10) = true := beq_iff_eq.mpr c8
 have c8b1 : (t212 != 10) = false := bne_eq_false_iff_eq.mpr c8
 clear c8
 replace H := Option.bind_eq_some_iff.mp H
 obtain ⟨t213, A90, H⟩ := H
 replace H : (if t213 = 0 then ((option_Intrinsic.f k t177 t178 t179 t180 40).bind fun t214 => (if t214 = 10 then ((option_Ends.f k t173 t174 t175 t176 50).bind fun t215 => (if t215 = true then (some false) else (if t190 = (-1200) then (if t191 = 0 then (if (t208.length : Int) = 8 then (if 0 < (t208.length : Int) then (if (rd t208 0) = 1100 then (some (t209 == 0)) else (some false)) else (none)) else (some false)) else (some false)) else (some false)))) else (some false))) else (some false)) = some r := H
 have A9 := Aside0.mk A90
 clear A90
 by_cases c10 : t213 = 0
 rotate_left
 · rw [if_neg c10] at H
   exact absurd (H.trans (congrArg some HRT.out)) (by first | simp [] | (simp only []; (repeat' split) <;> simp))
 rw [if_pos c10] at H
 have c10b0 : (t213 == 0) = true := beq_iff_eq.mpr c10
 have c10b1 : (t213 != 0) = false := bne_eq_false_iff_eq.mpr c10
 clear c10
 replace H := Option.bind_eq_some_iff.mp H
 obtain ⟨t214, A110, H⟩ := H
 replace H : (if t214 = 10 then ((option_Ends.f k t173 t174 t175 t176 50).bind fun t215 => (if t215 = true then (some false) else (if t190 = (-1200) then (if t191 = 0 then (if (t208.length : Int) = 8 then (if 0 < (t208.length : Int) then (if (rd t208 0) = 1100 then (some (t209 == 0)) else (some false)) else (none)) else (some false)) else (some false)) else (some false)))) else (some false)) = some r := H
 have A11 := Aside0.mk A110
 clear A110
 by_cases c12 : t214 = 10
 rotate_left
 · rw [if_neg c12] at H
   exact absurd (H.trans (congrArg some HRT.out)) (by first | simp [] | (simp only []; (repeat' split) <;> simp))
 rw [if_pos c12] at H
 have c12b0 : (t214 == 10) = true := beq_iff_eq.mpr c12
 have c12b1 : (t214 != 10) = false := bne_eq_false_iff_eq.mpr c12
 clear c12
 replace H := Option.bind_eq_some_iff.mp H
 obtain ⟨t215, A130, H⟩ := H
 replace H : (if t215 = true then (some false) else (if t190 = (-1200) then (if t191 = 0 then (if (t208.length : Int) = 8 then (if 0 < (t208.length : Int) then (if (rd t208 0) = 1100 then (some (t209 == 0)) else (some false)) else (none)) else (some false)) else (some false)) else (some false))) = some r := H
 have A13 := Aside0.mk A130
 clear A130
 by_cases c14 : t215 = true
 · subst c14
   have H1 : (some false) = some r := by rw [if_pos rfl] at H; exact H
   clear H
   have H := H1
   clear H1
   exact absurd (H.trans (congrArg some HRT.out)) (by first | simp [] | (simp only []; (repeat' split) <;> simp))
 replace c14 := Bool.eq_false_iff.mpr c14
 subst c14
 have H1 : (if t190 = (-1200) then (if t191 = 0 then (if (t208.length : Int) = 8 then (if 0 < (t208.length : Int) then (if (rd t208 0) = 1100 then (some (t209 == 0)) else (some false)) else (none)) else (some false)) else (some false)) else (some false)) = some r := by rw [if_neg (show ¬ (false = true) by decide)] at H; exact H
 clear H
 have H := H1
 clear H1
 by_cases c15 : t190 = (-1200)
 rotate_left
 · rw [if_neg c15] at H
   exact absurd (H.trans (congrArg some HRT.out)) (by first | simp [] | (simp only []; (repeat' split) <;> simp))
 rw [if_pos c15] at H
 have c15b0 : (t190 == (-1200)) = true := beq_iff_eq.mpr c15
 have c15b1 : (t190 != (-1200)) = false := bne_eq_false_iff_eq.mpr c15
 clear c15
 by_cases c16 : t191 = 0
 rotate_left
 · rw [if_neg c16] at H
   exact absurd (H.trans (congrArg some HRT.out)) (by first | simp [] | (simp only []; (repeat' split) <;> simp))
 rw [if_pos c16] at H
 have c16b0 : (t191 == 0) = true := beq_iff_eq.mpr c16
 have c16b1 : (t191 != 0) = false := bne_eq_false_iff_eq.mpr c16
 clear c16
 by_cases c17 : (t208.length : Int) = 8
 rotate_left
 · rw [if_neg c17] at H
   exact absurd (H.trans (congrArg some HRT.out)) (by first | simp [] | (simp only []; (repeat' split) <;> simp))
 rw [if_pos c17] at H
 have c17b0 : ((t208.length : Int) == 8) = true := beq_iff_eq.mpr c17
 have c17b1 : ((t208.length : Int) != 8) = false := bne_eq_false_iff_eq.mpr c17
 clear c17
 by_cases c18 : 0 < (t208.length : Int)
 rotate_left
 · rw [if_neg c18] at H
   exact absurd H (by simp)
 rw [if_pos c18] at H
 have c18b0 : decide (0 < (t208.length : Int)) = true := decide_eq_true c18
 have c18b1 : decide (0 < t208.length) = true := decide_eq_true (by omega)
 clear c18
 by_cases c19 : (rd t208 0) = 1100
 rotate_left
 · rw [if_neg c19] at H
   exact absurd (H.trans (congrArg some HRT.out)) (by first | simp [] | (simp only []; (repeat' split) <;> simp))
 rw [if_pos c19] at H
 have c19b0 : ((rd t208 0) == 1100) = true := beq_iff_eq.mpr c19
 have c19b1 : ((rd t208 0) != 1100) = false := bne_eq_false_iff_eq.mpr c19
 clear c19
 obtain rfl := Option.some.inj H
 go_enter Try.func14, Try.ntmps14
 try go_wp2_with (first | ((with_reducible refine gate_callee (f := 27) rfl ?_); refine goesL_ (some 7) rfl rfl Try.func27 (by kernel_rfl) rfl #[.int .i64 2] rfl (by (try simp only [List.map_toArray, List.map_cons, List.map_nil]); first | done | rfl | (simp only [List.length_drop, List.length_take]; rfl)) ?_; (with_reducible refine (contangolaw21_of.calls 2 t173 t174 t175 t176 _ A1.out).mono ?_); rintro e w20 ⟨rfl, hb⟩; refine ⟨_, rfl, ?_⟩; have n0_ := Aside0.mk (below_step (by repeat (with_reducible first | exact HB.out | apply below_alloc | apply pw_below_drewN | apply below_drew1)) hb); clear HB; have HB := n0_; clear n0_; (try clear hb); (try clear hb2); (try clear hk); (try clear hi)) | ((with_reducible refine gate_callee (f := 27) rfl ?_); refine goesL_ (some 8) rfl rfl Try.func27 (by kernel_rfl) rfl #[.int .i64 3] rfl (by (try simp only [List.map_toArray, List.map_cons, List.map_nil]); first | done | rfl | (simp only [List.length_drop, List.length_take]; rfl)) ?_; (with_reducible refine (contangolaw21_of.calls 3 t177 t178 t179 t180 _ A2.out).mono ?_); rintro e w21 ⟨rfl, hb⟩; refine ⟨_, rfl, ?_⟩; have n0_ := Aside0.mk (below_step (by repeat (with_reducible first | exact HB.out | apply below_alloc | apply pw_below_drewN | apply below_drew1)) hb); clear HB; have HB := n0_; clear n0_; (try clear hb); (try clear hb2); (try clear hk); (try clear hi)) | ((with_reducible refine gate_dst (N := 1) rfl ?_); (try (refine gate_guard (by rfl) ?_; dsimp only)); refine box_event ?hg (N := 1) ?hd (cs := #[.string (⟨#[]⟩ : ByteArray), .int .i64 0, .int .i64 0, .int .i64 0]) (t := 23) ?hr ?_; (case hd => rfl); (case hg => rfl); (case hr => first | (go_simp; done) | (go_simp; rfl)); intro gb181 hg w22 hbox hb; have n0_ := Aside0.mk (below_step (by repeat (with_reducible first | exact HB.out | apply below_alloc | apply pw_below_drewN | apply below_drew1)) hb); have n1_ := Aside0.mk (hbox); have n2_ := Aside0.mk ((by rw [hg]; exact (below_size (by repeat (with_reducible first | exact HB.out | apply below_alloc | apply pw_below_drewN | apply below_drew1))) : w.heap.size ≤ gb181)); have n3_ := n2_; clear HB; have HB := n0_; have BK181 := n1_; have GW181 := n2_; have GE181 := n3_; clear n0_ n1_ n2_ n3_; clear hb hbox hg) | ((with_reducible refine gate_dst (N := 2) rfl ?_); (try (refine gate_guard (by rfl) ?_; dsimp only)); refine box_event ?hg (N := 2) ?hd (cs := #[.string (⟨#[]⟩ : ByteArray), .int .i64 0, .int .i64 0, .int .i64 0]) (t := 23) ?hr ?_; (case hd => rfl); (case hg => rfl); (case hr => first | (go_simp; done) | (go_simp; rfl)); intro gb182 hg w23 hbox hb; have n0_ := Aside0.mk (blk_below (g := gb181) (o := .cells #[.string (⟨#[]⟩ : ByteArray), .int .i64 0, .int .i64 0, .int .i64 0] 23 (0, 0)) (by (with_reducible repeat (first | refine blk_drewN ?_ _ | refine blk_drew ?_ | refine blk_alloc ?_ _)); exact BK181.out) hb); have n1_ := Aside0.mk (below_step (by repeat (with_reducible first | exact HB.out | apply below_alloc | apply pw_below_drewN | apply below_drew1 | refine below_set ?_ GE181.out)) hb); have n2_ := Aside0.mk (hbox); have n3_ := Aside0.mk ((by rw [hg]; exact (below_size (by repeat (with_reducible first | exact HB.out | apply below_alloc | apply pw_below_drewN | apply below_drew1 | refine below_set ?_ GE181.out))) : w.heap.size ≤ gb182)); have n4_ := n3_; have n5_ := Aside0.mk ((by rw [hg]; exact Nat.ne_of_lt (blk_lt (g := gb181) (o := .cells #[.string (⟨#[]⟩ : ByteArray), .int .i64 0, .int .i64 0, .int .i64 0] 23 (0, 0)) (by (with_reducible repeat (first | refine blk_drewN ?_ _ | refine blk_drew ?_ | refine blk_alloc ?_ _)); exact BK181.out)) : gb181 ≠ gb182)); have n6_ := Aside0.mk ((by rw [hg]; exact Nat.ne_of_gt (blk_lt (g := gb181) (o := .cells #[.string (⟨#[]⟩ : ByteArray), .int .i64 0, .int .i64 0, .int .i64 0] 23 (0, 0)) (by (with_reducible repeat (first | refine blk_drewN ?_ _ | refine blk_drew ?_ | refine blk_alloc ?_ _)); exact BK181.out)) : gb182 ≠ gb181)); clear BK181; clear HB; have BK181 := n0_; have HB := n1_; have BK182 := n2_; have GW182 := n3_; have GE182 := n4_; have NB181_182 := n5_; have NB182_181 := n6_; clear n0_ n1_ n2_ n3_ n4_ n5_ n6_; clear hb hbox hg; have hnb24 := NB181_182.out; have hnc24 := NB182_181.out; have hcz25_0 : w23.cell? ⟨gb181, 0, none⟩ = some (.string (⟨#[]⟩ : ByteArray)) := (blk_cell BK181.out 0).trans rfl; have hcz25_1 : w23.cell? ⟨gb181, 1, none⟩ = some (.int .i64 0) := (blk_cell BK181.out 1).trans rfl; have hcz25_2 : w23.cell? ⟨gb181, 2, none⟩ = some (.int .i64 0) := (blk_cell BK181.out 2).trans rfl; have hcz25_3 : w23.cell? ⟨gb181, 3, none⟩ = some (.int .i64 0) := (blk_cell BK181.out 3).trans rfl; have hfz25_0 := blk_frozen BK181.out 0; have hfz25_1 := blk_frozen BK181.out 1; have hfz25_2 := blk_frozen BK181.out 2; have hfz25_3 := blk_frozen BK181.out 3; have hcz26_0 : w23.cell? ⟨gb182, 0, none⟩ = some (.string (⟨#[]⟩ : ByteArray)) := (blk_cell BK182.out 0).trans rfl; have hcz26_1 : w23.cell? ⟨gb182, 1, none⟩ = some (.int .i64 0) := (blk_cell BK182.out 1).trans rfl; have hcz26_2 : w23.cell? ⟨gb182, 2, none⟩ = some (.int .i64 0) := (blk_cell BK182.out 2).trans rfl; have hcz26_3 : w23.cell? ⟨gb182, 3, none⟩ = some (.int .i64 0) := (blk_cell BK182.out 3).trans rfl; have hfz26_0 := blk_frozen BK182.out 0; have hfz26_1 := blk_frozen BK182.out 1; have hfz26_2 := blk_frozen BK182.out 2; have hfz26_3 := blk_frozen BK182.out 3))
 have n0_ : Aside0 (((((((((w23.setCell ⟨gb181, 0, none⟩ (.string t173)).setCell ⟨gb181, 1, none⟩ (.int .i64 t174)).setCell ⟨gb181, 2, none⟩ (.int .i64 t175)).setCell ⟨gb181, 3, none⟩ (.int .i64 t176)).setCell ⟨gb182, 0, none⟩ (.string t177)).setCell ⟨gb182, 1, none⟩ (.int .i64 t178)).setCell ⟨gb182, 2, none⟩ (.int .i64 t179)).setCell ⟨gb182, 3, none⟩ (.int .i64 t180)).heap[gb181]? = some (.cells #[.string t173, .int .i64 t174, .int .i64 t175, .int .i64 t176] 23 (0, 0))) := ⟨by (with_reducible repeat (first | refine blk_drewN ?_ _ | refine blk_drew ?_ | refine blk_alloc ?_ _)); refine blk_far ?_ NB181_182.out _; (with_reducible repeat (first | refine blk_drewN ?_ _ | refine blk_drew ?_ | refine blk_alloc ?_ _)); refine blk_far ?_ NB181_182.out _; (with_reducible repeat (first | refine blk_drewN ?_ _ | refine blk_drew ?_ | refine blk_alloc ?_ _)); refine blk_far ?_ NB181_182.out _; (with_reducible repeat (first | refine blk_drewN ?_ _ | refine blk_drew ?_ | refine blk_alloc ?_ _)); refine blk_far ?_ NB181_182.out _; (with_reducible repeat (first | refine blk_drewN ?_ _ | refine blk_drew ?_ | refine blk_alloc ?_ _)); refine blk_put (cs := #[.string t173, .int .i64 t174, .int .i64 t175, .int .i64 0]) ?_ 3 _ rfl; (with_reducible repeat (first | refine blk_drewN ?_ _ | refine blk_drew ?_ | refine blk_alloc ?_ _)); refine blk_put (cs := #[.string t173, .int .i64 t174, .int .i64 0, .int .i64 0]) ?_ 2 _ rfl; (with_reducible repeat (first | refine blk_drewN ?_ _ | refine blk_drew ?_ | refine blk_alloc ?_ _)); refine blk_put (cs := #[.string t173, .int .i64 0, .int .i64 0, .int .i64 0]) ?_ 1 _ rfl; (with_reducible repeat (first | refine blk_drewN ?_ _ | refine blk_drew ?_ | refine blk_alloc ?_ _)); refine blk_put (cs := #[.string (⟨#[]⟩ : ByteArray), .int .i64 0, .int .i64 0, .int .i64 0]) ?_ 0 _ rfl; (with_reducible repeat (first | refine blk_drewN ?_ _ | refine blk_drew ?_ | refine blk_alloc ?_ _)); exact BK181.out⟩
 have n1_ : Aside0 (((((((((w23.setCell ⟨gb181, 0, none⟩ (.string t173)).setCell ⟨gb181, 1, none⟩ (.int .i64 t174)).setCell ⟨gb181, 2, none⟩ (.int .i64 t175)).setCell ⟨gb181, 3, none⟩ (.int .i64 t176)).setCell ⟨gb182, 0, none⟩ (.string t177)).setCell ⟨gb182, 1, none⟩ (.int .i64 t178)).setCell ⟨gb182, 2, none⟩ (.int .i64 t179)).setCell ⟨gb182, 3, none⟩ (.int .i64 t180)).heap[gb182]? = some (.cells #[.string t177, .int .i64 t178, .int .i64 t179, .int .i64 t180] 23 (0, 0))) := ⟨by (with_reducible repeat (first | refine blk_drewN ?_ _ | refine blk_drew ?_ | refine blk_alloc ?_ _)); refine blk_put (cs := #[.string t177, .int .i64 t178, .int .i64 t179, .int .i64 0]) ?_ 3 _ rfl; (with_reducible repeat (first | refine blk_drewN ?_ _ | refine blk_drew ?_ | refine blk_alloc ?_ _)); refine blk_put (cs := #[.string t177, .int .i64 t178, .int .i64 0, .int .i64 0]) ?_ 2 _ rfl; (with_reducible repeat (first | refine blk_drewN ?_ _ | refine blk_drew ?_ | refine blk_alloc ?_ _)); refine blk_put (cs := #[.string t177, .int .i64 0, .int .i64 0, .int .i64 0]) ?_ 1 _ rfl; (with_reducible repeat (first | refine blk_drewN ?_ _ | refine blk_drew ?_ | refine blk_alloc ?_ _)); refine blk_put (cs := #[.string (⟨#[]⟩ : ByteArray), .int .i64 0, .int .i64 0, .int .i64 0]) ?_ 0 _ rfl; (with_reducible repeat (first | refine blk_drewN ?_ _ | refine blk_drew ?_ | refine blk_alloc ?_ _)); refine blk_far ?_ NB182_181.out _; (with_reducible repeat (first | refine blk_drewN ?_ _ | refine blk_drew ?_ | refine blk_alloc ?_ _)); refine blk_far ?_ NB182_181.out _; (with_reducible repeat (first | refine blk_drewN ?_ _ | refine blk_drew ?_ | refine blk_alloc ?_ _)); refine blk_far ?_ NB182_181.out _; (with_reducible repeat (first | refine blk_drewN ?_ _ | refine blk_drew ?_ | refine blk_alloc ?_ _)); refine blk_far ?_ NB182_181.out _; (with_reducible repeat (first | refine blk_drewN ?_ _ | refine blk_drew ?_ | refine blk_alloc ?_ _)); exact BK182.out⟩
 have n2_ : Aside0 (Below w.heap.size w ((((((((w23.setCell ⟨gb181, 0, none⟩ (.string t173)).setCell ⟨gb181, 1, none⟩ (.int .i64 t174)).setCell ⟨gb181, 2, none⟩ (.int .i64 t175)).setCell ⟨gb181, 3, none⟩ (.int .i64 t176)).setCell ⟨gb182, 0, none⟩ (.string t177)).setCell ⟨gb182, 1, none⟩ (.int .i64 t178)).setCell ⟨gb182, 2, none⟩ (.int .i64 t179)).setCell ⟨gb182, 3, none⟩ (.int .i64 t180))) := ⟨by repeat (with_reducible first | exact HB.out | apply below_alloc | apply pw_below_drewN | apply below_drew1 | refine below_set ?_ GE181.out | refine below_set ?_ GE182.out)⟩
 (try clear BK181)
 (try clear BK182)
 (try clear HB)
 generalize ((((((((w23.setCell ⟨gb181, 0, none⟩ (.string t173)).setCell ⟨gb181, 1, none⟩ (.int .i64 t174)).setCell ⟨gb181, 2, none⟩ (.int .i64 t175)).setCell ⟨gb181, 3, none⟩ (.int .i64 t176)).setCell ⟨gb182, 0, none⟩ (.string t177)).setCell ⟨gb182, 1, none⟩ (.int .i64 t178)).setCell ⟨gb182, 2, none⟩ (.int .i64 t179)).setCell ⟨gb182, 3, none⟩ (.int .i64 t180)) = w27 at n0_ n1_ n2_ ⊢
 have BK181 := n0_
 have BK182 := n1_
 have HB := n2_
 clear n0_ n1_ n2_
 have n0_ := Aside0.mk (blk_drew BK181.out)
 have n1_ := Aside0.mk (blk_drew BK182.out)
 have n2_ := Aside0.mk (below_drew1 HB.out)
 clear BK181
 clear BK182
 clear HB
 have BK181 := n0_
 have BK182 := n1_
 have HB := n2_
 clear n0_ n1_ n2_
 refine start_ (n := 9) (S := fun w' => w'.cell? ⟨gb181, 0, none⟩ = some (.string t173) ∧ w'.cell? ⟨gb181, 1, none⟩ = some (.int .i64 t174) ∧ w'.cell? ⟨gb181, 2, none⟩ = some (.int .i64 t175) ∧ w'.cell? ⟨gb181, 3, none⟩ = some (.int .i64 t176)) (ds := []) #[false, false, false, false, false, false, false, false, false] (by kernel_rfl) rfl rfl ⟨(blk_cell BK181.out 0).trans rfl, (blk_cell BK181.out 1).trans rfl, (blk_cell BK181.out 2).trans rfl, (blk_cell BK181.out 3).trans rfl⟩ (fun hHeld => ?_); refine with_tabW contangolaw21_goes.tab2 contangolaw21_goes.bits2 (fun HT_ HW_ => ?_)
 generalize w27.drew = w28 at BK181 BK182 HB hHeld ⊢
 refine take_ (i := 1) (N := some 11) (v := ?_) (a' := ?_) #[false, true, false, false, false, false, false, false, false] rfl rfl (take_ofW HT_.out HW_.out (by kernel_rfl)) (fun _ _ _ h => h) (Or.inl ⟨by rfl, ?_⟩) hHeld ?_ ?_
 rotate_left
 · rintro w' ⟨s0, s1, s2, s3⟩
   go_simp
   with_reducible rfl
 rotate_left
 · simp only [Act.put, List.setIfInBounds_toArray, List.set_cons_zero, List.set_cons_succ, i64_w, i32_w]
   rfl
 refine pure_ (i := 2) (N := some 12) (v := ?_) (a' := ?_) #[false, true, true, false, false, false, false, false, false] rfl rfl (any_of HT_.out (by kernel_rfl)) (fun _ _ _ h => h) (Or.inl ⟨by rfl, ?_⟩) ?_ ?_
 rotate_left
 · intro w'
   go_simp
   with_reducible rfl
 rotate_left
 · simp only [Act.put, List.setIfInBounds_toArray, List.set_cons_zero, List.set_cons_succ, i64_w, i32_w]
   rfl
 refine one_ (i := 0) (N := some 10) #[true, true, true, false, false, false, false, false, false] rfl rfl (one_of HT_.out (by kernel_rfl)) (by decide) (fun K hK => ?_)
 refine goes_ Try.func28 (by kernel_rfl) rfl #[] (by rfl) rfl rfl (by (try simp only [List.map_toArray, List.map_cons, List.map_nil]); first | done | rfl | (simp only [List.length_drop, List.length_take]; rfl)) ?_
 with_reducible refine (contangolaw21_oil.calls  t183 t184 t185 t186 t187 t188 t189 _ A3.out).mono ?_
 rintro e w29 ⟨rfl, hb⟩
 refine ⟨_, rfl, ?_⟩
 have n0_ := Aside0.mk (blk_below (g := gb181) (o := .cells #[.string t173, .int .i64 t174, .int .i64 t175, .int .i64 t176] 23 (0, 0)) (by (with_reducible repeat (first | refine blk_drewN ?_ _ | refine blk_drew ?_ | refine blk_alloc ?_ _)); exact BK181.out) hb)
 have n1_ := Aside0.mk (blk_below (g := gb182) (o := .cells #[.string t177, .int .i64 t178, .int .i64 t179, .int .i64 t180] 23 (0, 0)) (by (with_reducible repeat (first | refine blk_drewN ?_ _ | refine blk_drew ?_ | refine blk_alloc ?_ _)); exact BK182.out) hb)
 have n2_ := Aside0.mk (below_step (by repeat (with_reducible first | exact HB.out | apply below_alloc | apply pw_below_drewN | apply below_drew1 | refine below_set ?_ GE181.out | refine below_set ?_ GE182.out)) hb)
 clear BK181
 clear BK182
 clear HB
 have BK181 := n0_
 have BK182 := n1_
 have HB := n2_
 clear n0_ n1_ n2_
 (try clear hb)
 (try clear hb2)
 (try clear hk)
 (try clear hi)
 refine hK.out _ _ ⟨(blk_cell BK181.out 0).trans rfl, (blk_cell BK181.out 1).trans rfl, (blk_cell BK181.out 2).trans rfl, (blk_cell BK181.out 3).trans rfl⟩ (fun hHeld => ?_)
 clear hK K
 refine norm_ (a' := ?_) ?_ ?_
 rotate_left
 · show Act.put _ (some 10) _ = _
   simp only [Act.put, List.setIfInBounds_toArray, List.set_cons_zero, List.set_cons_succ, i64_w, i32_w]
   rfl
 refine one_ (i := 3) (N := some 13) #[true, true, true, true, false, false, false, false, false] rfl rfl (one_of HT_.out (by kernel_rfl)) (by decide) (fun K hK => ?_)
 refine goes_ Try.func15 (by kernel_rfl) rfl #[.agg #[.string t183, .int .i64 t184, .int .i64 t185, .int .i64 t186, .int .i64 t187, .int .i64 t188, .bool t189], .agg #[.string (⟨#[]⟩ : ByteArray), .string (⟨#[]⟩ : ByteArray), .string t173, .int .i64 t174, .int .i64 t175, .int .i64 t176, .int .i64 (-3), .int .i64 4, .int .i64 0]] (by rfl) rfl rfl (by (try simp only [List.map_toArray, List.map_cons, List.map_nil]); first | done | rfl | (simp only [List.length_drop, List.length_take]; rfl)) ?_
 with_reducible refine (option_Premium.calls k t183 t184 t185 t186 t187 t188 t189 (⟨#[]⟩ : ByteArray) (⟨#[]⟩ : ByteArray) t173 t174 t175 t176 (-3) 4 0 t190 t191 _ A4.out).mono ?_
 rintro e w30 ⟨rfl, hb⟩
 refine ⟨_, rfl, ?_⟩
 have n0_ := Aside0.mk (blk_below (g := gb181) (o := .cells #[.string t173, .int .i64 t174, .int .i64 t175, .int .i64 t176] 23 (0, 0)) (by (with_reducible repeat (first | refine blk_drewN ?_ _ | refine blk_drew ?_ | refine blk_alloc ?_ _)); exact BK181.out) hb)
 have n1_ := Aside0.mk (blk_below (g := gb182) (o := .cells #[.string t177, .int .i64 t178, .int .i64 t179, .int .i64 t180] 23 (0, 0)) (by (with_reducible repeat (first | refine blk_drewN ?_ _ | refine blk_drew ?_ | refine blk_alloc ?_ _)); exact BK182.out) hb)
 have n2_ := Aside0.mk (below_step (by repeat (with_reducible first | exact HB.out | apply below_alloc | apply pw_below_drewN | apply below_drew1 | refine below_set ?_ GE181.out | refine below_set ?_ GE182.out)) hb)
 clear BK181
 clear BK182
 clear HB
 have BK181 := n0_
 have BK182 := n1_
 have HB := n2_
 clear n0_ n1_ n2_
 (try clear hb)
 (try clear hb2)
 (try clear hk)
 (try clear hi)
 refine hK.out _ _ ⟨(blk_cell BK181.out 0).trans rfl, (blk_cell BK181.out 1).trans rfl, (blk_cell BK181.out 2).trans rfl, (blk_cell BK181.out 3).trans rfl⟩ (fun hHeld => ?_)
 clear hK K
 refine norm_ (a' := ?_) ?_ ?_
 rotate_left
 · show Act.put _ (some 13) _ = _
   simp only [Act.put, List.setIfInBounds_toArray, List.set_cons_zero, List.set_cons_succ, i64_w, i32_w]
   rfl
 refine pure_ (i := 4) (N := some 9) (v := ?_) (a' := ?_) #[true, true, true, true, true, false, false, false, false] rfl rfl (any_of HT_.out (by kernel_rfl)) (fun _ _ _ h => h) (Or.inl ⟨by rfl, ?_⟩) ?_ ?_
 rotate_left
 · intro w'
   go_simp
   with_reducible rfl
 rotate_left
 · simp only [Act.put, List.setIfInBounds_toArray, List.set_cons_zero, List.set_cons_succ, i64_w, i32_w]
   rfl
 refine pure_ (i := 5) (N := some 14) (v := ?_) (a' := ?_) #[true, true, true, true, true, true, false, false, false] rfl rfl (any_of HT_.out (by kernel_rfl)) (fun _ _ _ h => h) (Or.inl ⟨by rfl, ?_⟩) ?_ ?_
 rotate_left
 · intro w'
   go_simp
   with_reducible rfl
 rotate_left
 · simp only [Act.put, List.setIfInBounds_toArray, List.set_cons_zero, List.set_cons_succ, i64_w, i32_w]
   rfl
 refine pure_ (i := 6) (N := some 15) (v := ?_) (a' := ?_) #[true, true, true, true, true, true, true, false, false] rfl rfl (any_of HT_.out (by kernel_rfl)) (fun _ _ _ h => h) (Or.inl ⟨by rfl, ?_⟩) ?_ ?_
 rotate_left
 · intro w'
   go_simp
   with_reducible rfl
 rotate_left
 · simp only [Act.put, List.setIfInBounds_toArray, List.set_cons_zero, List.set_cons_succ, i64_w, i32_w]
   rfl
 refine pure_ (i := 7) (N := some 3) (v := ?_) (a' := ?_) #[true, true, true, true, true, true, true, true, false] rfl rfl (any_of HT_.out (by kernel_rfl)) (fun _ _ _ h => h) (Or.inl ⟨by rfl, ?_⟩) ?_ ?_
 rotate_left
 · intro w'
   go_simp
   with_reducible rfl
 rotate_left
 · simp only [Act.put, List.setIfInBounds_toArray, List.set_cons_zero, List.set_cons_succ, i64_w, i32_w]
   rfl
 refine pure_ (i := 8) (N := some 4) (v := ?_) (a' := ?_) #[true, true, true, true, true, true, true, true, true] rfl rfl (any_of HT_.out (by kernel_rfl)) (fun _ _ _ h => h) (Or.inl ⟨by rfl, ?_⟩) ?_ ?_
 rotate_left
 · intro w'
   go_simp
   with_reducible rfl
 rotate_left
 · simp only [Act.put, List.setIfInBounds_toArray, List.set_cons_zero, List.set_cons_succ, i64_w, i32_w]
   rfl
 refine done_ (done_of HT_.out (by kernel_rfl)) ?_
 try go_wp2
 have n0_ := Aside0.mk (blk_drew BK181.out)
 have n1_ := Aside0.mk (blk_drew BK182.out)
 have n2_ := Aside0.mk (below_drew1 HB.out)
 clear BK181
 clear BK182
 clear HB
 have BK181 := n0_
 have BK182 := n1_
 have HB := n2_
 clear n0_ n1_ n2_
 refine start_ (n := 18) (S := fun w' => True) (ds := []) #[false, false, false, false, false, false, false, false, false, false, false, false, false, false, false, false, false, false] (by kernel_rfl) rfl rfl trivial (fun hHeld => ?_); refine with_tabW contangolaw21_goes.tab3 contangolaw21_goes.bits3 (fun HT_ HW_ => ?_)
 generalize w30.drew = w31 at BK181 BK182 HB hHeld ⊢
 refine inv_at [0, 1, 2, 3, 4, 5, 6, 7, 8, 9, 10, 11, 12, 13, 14, 15, 16, 17] (fun a0_ b a w' => ∃ (v200 : Value) (v203 : Value) (v206 : Value) (v210 : Value) (m12_ : Value) (m13_ : Value) (m14_ : Value) (m16_ : Value), a = putSel a0_ b [(0, 17, .agg #[.string t192, .int .i64 t193, .int .i64 t194, .int .i64 t195, .int .i64 t196, .int .i64 t197, .bool t198]), (1, 18, v200), (2, 19, .agg #[.string t173, .int .i64 t174, .int .i64 t175, .int .i64 t176]), (3, 20, .agg #[.string t173, .int .i64 t174, .int .i64 t175, .int .i64 t176, .int .i64 2, .int .i64 0]), (4, 21, .agg #[.string t177, .int .i64 t178, .int .i64 t179, .int .i64 t180]), (5, 22, .agg #[.string t177, .int .i64 t178, .int .i64 t179, .int .i64 t180, .int .i64 0, .int .i64 1]), (6, 23, v203), (7, 24, .agg #[.string t173, .int .i64 t174, .int .i64 t175, .int .i64 t176]), (8, 25, .agg #[.string t173, .int .i64 t174, .int .i64 t175, .int .i64 t176, .int .i64 7]), (9, 26, .agg #[.string t177, .int .i64 t178, .int .i64 t179, .int .i64 t180]), (10, 27, .agg #[.string t177, .int .i64 t178, .int .i64 t179, .int .i64 t180, .int .i64 3]), (11, 28, v206), (12, 29, m12_), (13, 16, m13_), (14, 30, m14_), (15, 31, .int .i64 t209), (16, 5, m16_), (17, 6, .int .i64 t209)] ∧ (w'.heap[gb181]? = some (.cells #[.string t173, .int .i64 t174, .int .i64 t175, .int .i64 t176] 23 (0, 0))) ∧ (w'.heap[gb182]? = some (.cells #[.string t177, .int .i64 t178, .int .i64 t179, .int .i64 t180] 23 (0, 0))) ∧ (Below w.heap.size w w') ∧ (b 1 = true → Kd.R k29 29 w' w.heap.size (fun _ => True) v200 y199) ∧ (b 6 = true → Kd.R k57 57 w' w.heap.size (fun _ => True) v203 y202) ∧ (b 11 = true → Kd.R k63 63 w' w.heap.size (fun _ => True) v206 y205) ∧ (b 12 = true → Kd.R (Kd.int .i64) 3 w' w.heap.size (fun _ => True) v210 t208) ∧ (b 12 = true → (m12_ : Value) = .tuple #[v210, .int .i64 t209]) ∧ (b 13 = true → (m13_ : Value) = .tuple #[v210, .int .i64 t209]) ∧ (b 14 = true → (m14_ : Value) = v210) ∧ (b 16 = true → (m16_ : Value) = v210)) HT_.out HW_.out (by kernel_rfl) (by kernel_rfl) ?_ ?_ ?_
 · exact ⟨.bool false, .bool false, .bool false, .bool false, .bool false, .bool false, .bool false, .bool false, by simp only [putSel, Bool.false_eq_true, if_false], BK181.out, BK182.out, HB.out, fun h_ => absurd h_ (by decide), fun h_ => absurd h_ (by decide), fun h_ => absurd h_ (by decide), fun h_ => absurd h_ (by decide), fun h_ => absurd h_ (by decide), fun h_ => absurd h_ (by decide), fun h_ => absurd h_ (by decide), fun h_ => absurd h_ (by decide)⟩
 · skip
   clear BK181 BK182 HB
   refine steps_cons ?_ ?_
   · rintro b a w' ⟨v200, v203, v206, v210, m12_, m13_, m14_, m16_, ha, Q_BK181, Q_BK182, Q_HB, Q_HO201, Q_HO204, Q_HO207, Q_HO211, Q_X12_, Q_X13_, Q_X14_, Q_X16_⟩ hb_ hon hoff
     refine ⟨_, rfl, fun K hK => ?_⟩
     replace ha := Aside0.mk ha
     have BK181 := Aside0.mk Q_BK181
     have BK182 := Aside0.mk Q_BK182
     have HB := Aside0.mk Q_HB
     refine goes_ Try.func28 (by kernel_rfl) rfl #[] (by rfl) rfl rfl (by first | (simp only [List.map_toArray, List.map_cons, List.map_nil, Act.eval, Array.getD_eq_getD_getElem?, Option.getD_some]; done) | (simp only [List.map_toArray, List.map_cons, List.map_nil, Act.eval, Array.getD_eq_getD_getElem?, Option.getD_some]; rfl)) ?_
     with_reducible refine (contangolaw21_oil.calls  t192 t193 t194 t195 t196 t197 t198 _ A5.out).mono ?_
     rintro e w32 ⟨rfl, hb⟩
     refine ⟨_, rfl, ?_⟩
     have n0_ := Aside0.mk (blk_below (g := gb181) (o := .cells #[.string t173, .int .i64 t174, .int .i64 t175, .int .i64 t176] 23 (0, 0)) (by (with_reducible repeat (first | refine blk_drewN ?_ _ | refine blk_drew ?_ | refine blk_alloc ?_ _)); exact BK181.out) hb)
     have n1_ := Aside0.mk (blk_below (g := gb182) (o := .cells #[.string t177, .int .i64 t178, .int .i64 t179, .int .i64 t180] 23 (0, 0)) (by (with_reducible repeat (first | refine blk_drewN ?_ _ | refine blk_drew ?_ | refine blk_alloc ?_ _)); exact BK182.out) hb)
     have n2_ := Aside0.mk (below_step (by repeat (with_reducible first | exact HB.out | apply below_alloc | apply pw_below_drewN | apply below_drew1 | refine below_set ?_ GE181.out | refine below_set ?_ GE182.out)) hb)
     have z_HO204 := fun (h0_ : b 6 = true) => (show Kd.R k57 57 w32 w.heap.size (fun _ => True) v203 y202 from by first | exact (Kd.R_below (by (with_reducible repeat (first | apply Kd.R_alloc | apply Kd.R_drewN | apply Kd.R_drew)); exact (Q_HO204 h0_)) hb) | exact Kd.R_mono (Kd.R_below (by (with_reducible repeat (first | apply Kd.R_alloc | apply Kd.R_drewN | apply Kd.R_drew)); exact (Q_HO204 h0_)) hb) (fun _ h_ => by first | trivial | exact h_ | exact h_.1))
     have z_HO207 := fun (h0_ : b 11 = true) => (show Kd.R k63 63 w32 w.heap.size (fun _ => True) v206 y205 from by first | exact (Kd.R_below (by (with_reducible repeat (first | apply Kd.R_alloc | apply Kd.R_drewN | apply Kd.R_drew)); exact (Q_HO207 h0_)) hb) | exact Kd.R_mono (Kd.R_below (by (with_reducible repeat (first | apply Kd.R_alloc | apply Kd.R_drewN | apply Kd.R_drew)); exact (Q_HO207 h0_)) hb) (fun _ h_ => by first | trivial | exact h_ | exact h_.1))
     clear BK181
     clear BK182
     clear HB
     have BK181 := n0_
     have BK182 := n1_
     have HB := n2_
     clear n0_ n1_ n2_
     (try clear hb)
     (try clear hb2)
     (try clear hk)
     (try clear hi)
     refine hK.out _ _ ⟨v200, v203, v206, v210, m12_, m13_, m14_, m16_, (by rw [ha.out]; exact putSel_upk 0 hb_ rfl rfl rfl), (by (with_reducible repeat (first | refine blk_drewN ?_ _ | refine blk_drew ?_ | refine blk_alloc ?_ _)); exact BK181.out), (by (with_reducible repeat (first | refine blk_drewN ?_ _ | refine blk_drew ?_ | refine blk_alloc ?_ _)); exact BK182.out), (by repeat (with_reducible first | exact HB.out | apply below_alloc | apply pw_below_drewN | apply below_drew1 | refine below_set ?_ GE181.out | refine below_set ?_ GE182.out)), fun h0_ => absurd ((hoff 1 (by kernel_rfl)).symm.trans h0_) (by decide), z_HO204, z_HO207, fun h0_ => absurd ((hoff 12 (by kernel_rfl)).symm.trans h0_) (by decide), fun h0_ => absurd ((hoff 12 (by kernel_rfl)).symm.trans h0_) (by decide), fun h0_ => absurd ((hoff 13 (by kernel_rfl)).symm.trans h0_) (by decide), fun h0_ => absurd ((hoff 14 (by kernel_rfl)).symm.trans h0_) (by decide), fun h0_ => absurd ((hoff 16 (by kernel_rfl)).symm.trans h0_) (by decide)⟩
   refine steps_cons ?_ ?_
   · rintro b a w' ⟨v200, v203, v206, v210, m12_, m13_, m14_, m16_, ha, Q_BK181, Q_BK182, Q_HB, Q_HO201, Q_HO204, Q_HO207, Q_HO211, Q_X12_, Q_X13_, Q_X14_, Q_X16_⟩ hb_ hon hoff
     refine ⟨_, rfl, fun K hK => ?_⟩
     have e17 : a.tmps[17]? = some (.agg #[.string t192, .int .i64 t193, .int .i64 t194, .int .i64 t195, .int .i64 t196, .int .i64 t197, .bool t198]) := by rw [ha]; exact putSel_on (e := (0, 17, .agg #[.string t192, .int .i64 t193, .int .i64 t194, .int .i64 t195, .int .i64 t196, .int .i64 t197, .bool t198])) 0 rfl rfl (hon 0 (by kernel_rfl)) rfl
     replace ha := Aside0.mk ha
     have BK181 := Aside0.mk Q_BK181
     have BK182 := Aside0.mk Q_BK182
     have HB := Aside0.mk Q_HB
     refine Kd.R_lit_step k29 _ 29 ?hg (N := 18) ?hd (xs := ([(⟨t192, t193, t194, t195, t196, t197, t198⟩ : S29)] : List (S29))) (inner := [.string t192, .int .i64 t193, .int .i64 t194, .int .i64 t195, .int .i64 t196, .int .i64 t197, .bool t198]) (ok := fun _ => True) (okp := fun _ => True) ?hr ?hp (fun _ hk => hk) trivial (Below.refl _ _) (Nat.le_refl _) (by simp) ?_; (case hd => rfl); (case hg => rfl); (case hr => first | (go_simp; done) | (go_simp; rfl)); (case hp => exact (Reps.c7 (show Kd.M k29 _ _ _ (⟨t192, t193, t194, t195, t196, t197, t198⟩ : S29) [.string t192, .int .i64 t193, .int .i64 t194, .int .i64 t195, .int .i64 t196, .int .i64 t197, .bool t198] from (k29_mkM _ _ _ (⟨t192, t193, t194, t195, t196, t197, t198⟩ : S29) )) (Reps.none _ _)))
     intro v200 w34 ho35 hb hg_ hnew_
     clear hg_ hnew_
     (first | rw [← Ny199.out] at ho35 | (simp only [Int.reduceToNat] at ho35; rw [← Ny199.out] at ho35))
     have n0_ := Aside0.mk (Kd.R_lower ho35 (below_size (by repeat (with_reducible first | exact HB.out | apply below_alloc | apply pw_below_drewN | apply below_drew1 | refine below_set ?_ GE181.out | refine below_set ?_ GE182.out))))
     have n1_ := Aside0.mk (blk_below (g := gb181) (o := .cells #[.string t173, .int .i64 t174, .int .i64 t175, .int .i64 t176] 23 (0, 0)) (by (with_reducible repeat (first | refine blk_drewN ?_ _ | refine blk_drew ?_ | refine blk_alloc ?_ _)); exact BK181.out) hb)
     have n2_ := Aside0.mk (blk_below (g := gb182) (o := .cells #[.string t177, .int .i64 t178, .int .i64 t179, .int .i64 t180] 23 (0, 0)) (by (with_reducible repeat (first | refine blk_drewN ?_ _ | refine blk_drew ?_ | refine blk_alloc ?_ _)); exact BK182.out) hb)
     have n3_ := Aside0.mk (below_step (by repeat (with_reducible first | exact HB.out | apply below_alloc | apply pw_below_drewN | apply below_drew1 | refine below_set ?_ GE181.out | refine below_set ?_ GE182.out)) hb)
     have z_HO204 := fun (h0_ : b 6 = true) => (show Kd.R k57 57 w34 w.heap.size (fun _ => True) v203 y202 from by first | exact (Kd.R_below (by (with_reducible repeat (first | apply Kd.R_alloc | apply Kd.R_drewN | apply Kd.R_drew)); exact (Q_HO204 h0_)) hb) | exact Kd.R_mono (Kd.R_below (by (with_reducible repeat (first | apply Kd.R_alloc | apply Kd.R_drewN | apply Kd.R_drew)); exact (Q_HO204 h0_)) hb) (fun _ h_ => by first | trivial | exact h_ | exact h_.1))
     have z_HO207 := fun (h0_ : b 11 = true) => (show Kd.R k63 63 w34 w.heap.size (fun _ => True) v206 y205 from by first | exact (Kd.R_below (by (with_reducible repeat (first | apply Kd.R_alloc | apply Kd.R_drewN | apply Kd.R_drew)); exact (Q_HO207 h0_)) hb) | exact Kd.R_mono (Kd.R_below (by (with_reducible repeat (first | apply Kd.R_alloc | apply Kd.R_drewN | apply Kd.R_drew)); exact (Q_HO207 h0_)) hb) (fun _ h_ => by first | trivial | exact h_ | exact h_.1))
     clear BK181
     clear BK182
     clear HB
     have HO201 := n0_
     have BK181 := n1_
     have BK182 := n2_
     have HB := n3_
     clear n0_ n1_ n2_ n3_
     clear hb ho35
     refine hK.out _ _ ⟨v200, v203, v206, v210, m12_, m13_, m14_, m16_, (by rw [ha.out]; exact putSel_upk 1 hb_ rfl rfl rfl), (by (with_reducible repeat (first | refine blk_drewN ?_ _ | refine blk_drew ?_ | refine blk_alloc ?_ _)); exact BK181.out), (by (with_reducible repeat (first | refine blk_drewN ?_ _ | refine blk_drew ?_ | refine blk_alloc ?_ _)); exact BK182.out), (by repeat (with_reducible first | exact HB.out | apply below_alloc | apply pw_below_drewN | apply below_drew1 | refine below_set ?_ GE181.out | refine below_set ?_ GE182.out)), fun _ => (by (with_reducible repeat (first | apply Kd.R_alloc | apply Kd.R_drewN | apply Kd.R_drew)); exact HO201.out), z_HO204, z_HO207, fun h0_ => absurd ((hoff 12 (by kernel_rfl)).symm.trans h0_) (by decide), fun h0_ => absurd ((hoff 12 (by kernel_rfl)).symm.trans h0_) (by decide), fun h0_ => absurd ((hoff 13 (by kernel_rfl)).symm.trans h0_) (by decide), fun h0_ => absurd ((hoff 14 (by kernel_rfl)).symm.trans h0_) (by decide), fun h0_ => absurd ((hoff 16 (by kernel_rfl)).symm.trans h0_) (by decide)⟩
   refine steps_cons ?_ ?_
   · rintro b a w' ⟨v200, v203, v206, v210, m12_, m13_, m14_, m16_, ha, Q_BK181, Q_BK182, Q_HB, Q_HO201, Q_HO204, Q_HO207, Q_HO211, Q_X12_, Q_X13_, Q_X14_, Q_X16_⟩ hb_ hon hoff
     refine ⟨_, rfl, fun K hK => ?_⟩
     have e1 : a.tmps[1]? = some (.pointer (some ⟨gb181, 0, none⟩)) := by rw [ha]; exact (putSel_off rfl).trans rfl
     replace ha := Aside0.mk ha
     have BK181 := Aside0.mk Q_BK181
     have BK182 := Aside0.mk Q_BK182
     have HB := Aside0.mk Q_HB
     have hc0_ : w'.cell? ⟨gb181, 0, none⟩ = some (.string t173) := (blk_cell BK181.out 0).trans rfl
     have hc1_ : w'.cell? ⟨gb181, 1, none⟩ = some (.int .i64 t174) := (blk_cell BK181.out 1).trans rfl
     have hc2_ : w'.cell? ⟨gb181, 2, none⟩ = some (.int .i64 t175) := (blk_cell BK181.out 2).trans rfl
     have hc3_ : w'.cell? ⟨gb181, 3, none⟩ = some (.int .i64 t176) := (blk_cell BK181.out 3).trans rfl
     refine value_ (w1 := w') (v := .agg #[.string t173, .int .i64 t174, .int .i64 t175, .int .i64 t176]) (by rfl) rfl ?_ ?_
     · go_simp
       (try simp only [i64_w])
       try rfl
     refine hK.out _ _ ⟨v200, v203, v206, v210, m12_, m13_, m14_, m16_, (by rw [ha.out]; exact putSel_upk 2 hb_ rfl rfl rfl), Q_BK181, Q_BK182, Q_HB, Q_HO201, fun h0_ => absurd ((hoff 6 (by kernel_rfl)).symm.trans h0_) (by decide), Q_HO207, fun h0_ => absurd ((hoff 12 (by kernel_rfl)).symm.trans h0_) (by decide), fun h0_ => absurd ((hoff 12 (by kernel_rfl)).symm.trans h0_) (by decide), fun h0_ => absurd ((hoff 13 (by kernel_rfl)).symm.trans h0_) (by decide), fun h0_ => absurd ((hoff 14 (by kernel_rfl)).symm.trans h0_) (by decide), fun h0_ => absurd ((hoff 16 (by kernel_rfl)).symm.trans h0_) (by decide)⟩
   refine steps_cons ?_ ?_
   · rintro b a w' ⟨v200, v203, v206, v210, m12_, m13_, m14_, m16_, ha, Q_BK181, Q_BK182, Q_HB, Q_HO201, Q_HO204, Q_HO207, Q_HO211, Q_X12_, Q_X13_, Q_X14_, Q_X16_⟩ hb_ hon hoff
     refine ⟨_, rfl, fun K hK => ?_⟩
     have e19 : a.tmps[19]? = some (.agg #[.string t173, .int .i64 t174, .int .i64 t175, .int .i64 t176]) := by rw [ha]; exact putSel_on (e := (2, 19, .agg #[.string t173, .int .i64 t174, .int .i64 t175, .int .i64 t176])) 2 rfl rfl (hon 2 (by kernel_rfl)) rfl
     replace ha := Aside0.mk ha
     have BK181 := Aside0.mk Q_BK181
     have BK182 := Aside0.mk Q_BK182
     have HB := Aside0.mk Q_HB
     refine value_ (w1 := w') (v := .agg #[.string t173, .int .i64 t174, .int .i64 t175, .int .i64 t176, .int .i64 2, .int .i64 0]) (by rfl) rfl ?_ ?_
     · go_simp
       (try simp only [i64_w])
       try rfl
     refine hK.out _ _ ⟨v200, v203, v206, v210, m12_, m13_, m14_, m16_, (by rw [ha.out]; exact putSel_upk 3 hb_ rfl rfl rfl), Q_BK181, Q_BK182, Q_HB, Q_HO201, fun h0_ => absurd ((hoff 6 (by kernel_rfl)).symm.trans h0_) (by decide), Q_HO207, fun h0_ => absurd ((hoff 12 (by kernel_rfl)).symm.trans h0_) (by decide), fun h0_ => absurd ((hoff 12 (by kernel_rfl)).symm.trans h0_) (by decide), fun h0_ => absurd ((hoff 13 (by kernel_rfl)).symm.trans h0_) (by decide), fun h0_ => absurd ((hoff 14 (by kernel_rfl)).symm.trans h0_) (by decide), fun h0_ => absurd ((hoff 16 (by kernel_rfl)).symm.trans h0_) (by decide)⟩
   refine steps_cons ?_ ?_
   · rintro b a w' ⟨v200, v203, v206, v210, m12_, m13_, m14_, m16_, ha, Q_BK181, Q_BK182, Q_HB, Q_HO201, Q_HO204, Q_HO207, Q_HO211, Q_X12_, Q_X13_, Q_X14_, Q_X16_⟩ hb_ hon hoff
     refine ⟨_, rfl, fun K hK => ?_⟩
     have e2 : a.tmps[2]? = some (.pointer (some ⟨gb182, 0, none⟩)) := by rw [ha]; exact (putSel_off rfl).trans rfl
     replace ha := Aside0.mk ha
     have BK181 := Aside0.mk Q_BK181
     have BK182 := Aside0.mk Q_BK182
     have HB := Aside0.mk Q_HB
     have hc0_ : w'.cell? ⟨gb182, 0, none⟩ = some (.string t177) := (blk_cell BK182.out 0).trans rfl
     have hc1_ : w'.cell? ⟨gb182, 1, none⟩ = some (.int .i64 t178) := (blk_cell BK182.out 1).trans rfl
     have hc2_ : w'.cell? ⟨gb182, 2, none⟩ = some (.int .i64 t179) := (blk_cell BK182.out 2).trans rfl
     have hc3_ : w'.cell? ⟨gb182, 3, none⟩ = some (.int .i64 t180) := (blk_cell BK182.out 3).trans rfl
     refine value_ (w1 := w') (v := .agg #[.string t177, .int .i64 t178, .int .i64 t179, .int .i64 t180]) (by rfl) rfl ?_ ?_
     · go_simp
       (try simp only [i64_w])
       try rfl
     refine hK.out _ _ ⟨v200, v203, v206, v210, m12_, m13_, m14_, m16_, (by rw [ha.out]; exact putSel_upk 4 hb_ rfl rfl rfl), Q_BK181, Q_BK182, Q_HB, Q_HO201, fun h0_ => absurd ((hoff 6 (by kernel_rfl)).symm.trans h0_) (by decide), Q_HO207, fun h0_ => absurd ((hoff 12 (by kernel_rfl)).symm.trans h0_) (by decide), fun h0_ => absurd ((hoff 12 (by kernel_rfl)).symm.trans h0_) (by decide), fun h0_ => absurd ((hoff 13 (by kernel_rfl)).symm.trans h0_) (by decide), fun h0_ => absurd ((hoff 14 (by kernel_rfl)).symm.trans h0_) (by decide), fun h0_ => absurd ((hoff 16 (by kernel_rfl)).symm.trans h0_) (by decide)⟩
   refine steps_cons ?_ ?_
   · rintro b a w' ⟨v200, v203, v206, v210, m12_, m13_, m14_, m16_, ha, Q_BK181, Q_BK182, Q_HB, Q_HO201, Q_HO204, Q_HO207, Q_HO211, Q_X12_, Q_X13_, Q_X14_, Q_X16_⟩ hb_ hon hoff
     refine ⟨_, rfl, fun K hK => ?_⟩
     have e21 : a.tmps[21]? = some (.agg #[.string t177, .int .i64 t178, .int .i64 t179, .int .i64 t180]) := by rw [ha]; exact putSel_on (e := (4, 21, .agg #[.string t177, .int .i64 t178, .int .i64 t179, .int .i64 t180])) 4 rfl rfl (hon 4 (by kernel_rfl)) rfl
     replace ha := Aside0.mk ha
     have BK181 := Aside0.mk Q_BK181
     have BK182 := Aside0.mk Q_BK182
     have HB := Aside0.mk Q_HB
     refine value_ (w1 := w') (v := .agg #[.string t177, .int .i64 t178, .int .i64 t179, .int .i64 t180, .int .i64 0, .int .i64 1]) (by rfl) rfl ?_ ?_
     · go_simp
       (try simp only [i64_w])
       try rfl
     refine hK.out _ _ ⟨v200, v203, v206, v210, m12_, m13_, m14_, m16_, (by rw [ha.out]; exact putSel_upk 5 hb_ rfl rfl rfl), Q_BK181, Q_BK182, Q_HB, Q_HO201, fun h0_ => absurd ((hoff 6 (by kernel_rfl)).symm.trans h0_) (by decide), Q_HO207, fun h0_ => absurd ((hoff 12 (by kernel_rfl)).symm.trans h0_) (by decide), fun h0_ => absurd ((hoff 12 (by kernel_rfl)).symm.trans h0_) (by decide), fun h0_ => absurd ((hoff 13 (by kernel_rfl)).symm.trans h0_) (by decide), fun h0_ => absurd ((hoff 14 (by kernel_rfl)).symm.trans h0_) (by decide), fun h0_ => absurd ((hoff 16 (by kernel_rfl)).symm.trans h0_) (by decide)⟩
   refine steps_cons ?_ ?_
   · rintro b a w' ⟨v200, v203, v206, v210, m12_, m13_, m14_, m16_, ha, Q_BK181, Q_BK182, Q_HB, Q_HO201, Q_HO204, Q_HO207, Q_HO211, Q_X12_, Q_X13_, Q_X14_, Q_X16_⟩ hb_ hon hoff
     refine ⟨_, rfl, fun K hK => ?_⟩
     have e20 : a.tmps[20]? = some (.agg #[.string t173, .int .i64 t174, .int .i64 t175, .int .i64 t176, .int .i64 2, .int .i64 0]) := by rw [ha]; exact putSel_on (e := (3, 20, .agg #[.string t173, .int .i64 t174, .int .i64 t175, .int .i64 t176, .int .i64 2, .int .i64 0])) 3 rfl rfl (hon 3 (by kernel_rfl)) rfl
     have e22 : a.tmps[22]? = some (.agg #[.string t177, .int .i64 t178, .int .i64 t179, .int .i64 t180, .int .i64 0, .int .i64 1]) := by rw [ha]; exact putSel_on (e := (5, 22, .agg #[.string t177, .int .i64 t178, .int .i64 t179, .int .i64 t180, .int .i64 0, .int .i64 1])) 5 rfl rfl (hon 5 (by kernel_rfl)) rfl
     replace ha := Aside0.mk ha
     have BK181 := Aside0.mk Q_BK181
     have BK182 := Aside0.mk Q_BK182
     have HB := Aside0.mk Q_HB
     refine Kd.R_lit_step k57 _ 57 ?hg (N := 23) ?hd (xs := ([(⟨(⟨t173, t174, t175, t176⟩ : S23), 2, 0⟩ : S57), (⟨(⟨t177, t178, t179, t180⟩ : S23), 0, 1⟩ : S57)] : List (S57))) (inner := [.string t173, .int .i64 t174, .int .i64 t175, .int .i64 t176, .int .i64 2, .int .i64 0, .string t177, .int .i64 t178, .int .i64 t179, .int .i64 t180, .int .i64 0, .int .i64 1]) (ok := fun _ => True) (okp := fun _ => True) ?hr ?hp (fun _ hk => hk) trivial (Below.refl _ _) (Nat.le_refl _) (by simp) ?_; (case hd => rfl); (case hg => rfl); (case hr => first | (go_simp; done) | (go_simp; rfl)); (case hp => exact (Reps.c6 (show Kd.M k57 _ _ _ (⟨(⟨t173, t174, t175, t176⟩ : S23), 2, 0⟩ : S57) [.string t173, .int .i64 t174, .int .i64 t175, .int .i64 t176, .int .i64 2, .int .i64 0] from (k57_mkM _ _ _ (⟨(⟨t173, t174, t175, t176⟩ : S23), 2, 0⟩ : S57) )) (Reps.c6 (show Kd.M k57 _ _ _ (⟨(⟨t177, t178, t179, t180⟩ : S23), 0, 1⟩ : S57) [.string t177, .int .i64 t178, .int .i64 t179, .int .i64 t180, .int .i64 0, .int .i64 1] from (k57_mkM _ _ _ (⟨(⟨t177, t178, t179, t180⟩ : S23), 0, 1⟩ : S57) )) (Reps.none _ _))))
     intro v203 w32 ho33 hb hg_ hnew_
     clear hg_ hnew_
     (first | rw [← Ny202.out] at ho33 | (simp only [Int.reduceToNat] at ho33; rw [← Ny202.out] at ho33))
     have n0_ := Aside0.mk (Kd.R_lower ho33 (below_size (by repeat (with_reducible first | exact HB.out | apply below_alloc | apply pw_below_drewN | apply below_drew1 | refine below_set ?_ GE181.out | refine below_set ?_ GE182.out))))
     have n1_ := Aside0.mk (blk_below (g := gb181) (o := .cells #[.string t173, .int .i64 t174, .int .i64 t175, .int .i64 t176] 23 (0, 0)) (by (with_reducible repeat (first | refine blk_drewN ?_ _ | refine blk_drew ?_ | refine blk_alloc ?_ _)); exact BK181.out) hb)
     have n2_ := Aside0.mk (blk_below (g := gb182) (o := .cells #[.string t177, .int .i64 t178, .int .i64 t179, .int .i64 t180] 23 (0, 0)) (by (with_reducible repeat (first | refine blk_drewN ?_ _ | refine blk_drew ?_ | refine blk_alloc ?_ _)); exact BK182.out) hb)
     have n3_ := Aside0.mk (below_step (by repeat (with_reducible first | exact HB.out | apply below_alloc | apply pw_below_drewN | apply below_drew1 | refine below_set ?_ GE181.out | refine below_set ?_ GE182.out)) hb)
     have z_HO201 := fun (h0_ : b 1 = true) => (show Kd.R k29 29 w32 w.heap.size (fun _ => True) v200 y199 from by first | exact (Kd.R_below (by (with_reducible repeat (first | apply Kd.R_alloc | apply Kd.R_drewN | apply Kd.R_drew)); exact (Q_HO201 h0_)) hb) | exact Kd.R_mono (Kd.R_below (by (with_reducible repeat (first | apply Kd.R_alloc | apply Kd.R_drewN | apply Kd.R_drew)); exact (Q_HO201 h0_)) hb) (fun _ h_ => by first | trivial | exact h_ | exact h_.1))
     have z_HO207 := fun (h0_ : b 11 = true) => (show Kd.R k63 63 w32 w.heap.size (fun _ => True) v206 y205 from by first | exact (Kd.R_below (by (with_reducible repeat (first | apply Kd.R_alloc | apply Kd.R_drewN | apply Kd.R_drew)); exact (Q_HO207 h0_)) hb) | exact Kd.R_mono (Kd.R_below (by (with_reducible repeat (first | apply Kd.R_alloc | apply Kd.R_drewN | apply Kd.R_drew)); exact (Q_HO207 h0_)) hb) (fun _ h_ => by first | trivial | exact h_ | exact h_.1))
     clear BK181
     clear BK182
     clear HB
     have HO204 := n0_
     have BK181 := n1_
     have BK182 := n2_
     have HB := n3_
     clear n0_ n1_ n2_ n3_
     clear hb ho33
     refine hK.out _ _ ⟨v200, v203, v206, v210, m12_, m13_, m14_, m16_, (by rw [ha.out]; exact putSel_upk 6 hb_ rfl rfl rfl), (by (with_reducible repeat (first | refine blk_drewN ?_ _ | refine blk_drew ?_ | refine blk_alloc ?_ _)); exact BK181.out), (by (with_reducible repeat (first | refine blk_drewN ?_ _ | refine blk_drew ?_ | refine blk_alloc ?_ _)); exact BK182.out), (by repeat (with_reducible first | exact HB.out | apply below_alloc | apply pw_below_drewN | apply below_drew1 | refine below_set ?_ GE181.out | refine below_set ?_ GE182.out)), z_HO201, fun _ => (by (with_reducible repeat (first | apply Kd.R_alloc | apply Kd.R_drewN | apply Kd.R_drew)); exact HO204.out), z_HO207, fun h0_ => absurd ((hoff 12 (by kernel_rfl)).symm.trans h0_) (by decide), fun h0_ => absurd ((hoff 12 (by kernel_rfl)).symm.trans h0_) (by decide), fun h0_ => absurd ((hoff 13 (by kernel_rfl)).symm.trans h0_) (by decide), fun h0_ => absurd ((hoff 14 (by kernel_rfl)).symm.trans h0_) (by decide), fun h0_ => absurd ((hoff 16 (by kernel_rfl)).symm.trans h0_) (by decide)⟩
   refine steps_cons ?_ ?_
   · rintro b a w' ⟨v200, v203, v206, v210, m12_, m13_, m14_, m16_, ha, Q_BK181, Q_BK182, Q_HB, Q_HO201, Q_HO204, Q_HO207, Q_HO211, Q_X12_, Q_X13_, Q_X14_, Q_X16_⟩ hb_ hon hoff
     refine ⟨_, rfl, fun K hK => ?_⟩
     have e1 : a.tmps[1]? = some (.pointer (some ⟨gb181, 0, none⟩)) := by rw [ha]; exact (putSel_off rfl).trans rfl
     replace ha := Aside0.mk ha
     have BK181 := Aside0.mk Q_BK181
     have BK182 := Aside0.mk Q_BK182
     have HB := Aside0.mk Q_HB
     have hc0_ : w'.cell? ⟨gb181, 0, none⟩ = some (.string t173) := (blk_cell BK181.out 0).trans rfl
     have hc1_ : w'.cell? ⟨gb181, 1, none⟩ = some (.int .i64 t174) := (blk_cell BK181.out 1).trans rfl
     have hc2_ : w'.cell? ⟨gb181, 2, none⟩ = some (.int .i64 t175) := (blk_cell BK181.out 2).trans rfl
     have hc3_ : w'.cell? ⟨gb181, 3, none⟩ = some (.int .i64 t176) := (blk_cell BK181.out 3).trans rfl
     refine value_ (w1 := w') (v := .agg #[.string t173, .int .i64 t174, .int .i64 t175, .int .i64 t176]) (by rfl) rfl ?_ ?_
     · go_simp
       (try simp only [i64_w])
       try rfl
     refine hK.out _ _ ⟨v200, v203, v206, v210, m12_, m13_, m14_, m16_, (by rw [ha.out]; exact putSel_upk 7 hb_ rfl rfl rfl), Q_BK181, Q_BK182, Q_HB, Q_HO201, Q_HO204, fun h0_ => absurd ((hoff 11 (by kernel_rfl)).symm.trans h0_) (by decide), fun h0_ => absurd ((hoff 12 (by kernel_rfl)).symm.trans h0_) (by decide), fun h0_ => absurd ((hoff 12 (by kernel_rfl)).symm.trans h0_) (by decide), fun h0_ => absurd ((hoff 13 (by kernel_rfl)).symm.trans h0_) (by decide), fun h0_ => absurd ((hoff 14 (by kernel_rfl)).symm.trans h0_) (by decide), fun h0_ => absurd ((hoff 16 (by kernel_rfl)).symm.trans h0_) (by decide)⟩
   refine steps_cons ?_ ?_
   · rintro b a w' ⟨v200, v203, v206, v210, m12_, m13_, m14_, m16_, ha, Q_BK181, Q_BK182, Q_HB, Q_HO201, Q_HO204, Q_HO207, Q_HO211, Q_X12_, Q_X13_, Q_X14_, Q_X16_⟩ hb_ hon hoff
     refine ⟨_, rfl, fun K hK => ?_⟩
     have e24 : a.tmps[24]? = some (.agg #[.string t173, .int .i64 t174, .int .i64 t175, .int .i64 t176]) := by rw [ha]; exact putSel_on (e := (7, 24, .agg #[.string t173, .int .i64 t174, .int .i64 t175, .int .i64 t176])) 7 rfl rfl (hon 7 (by kernel_rfl)) rfl
     replace ha := Aside0.mk ha
     have BK181 := Aside0.mk Q_BK181
     have BK182 := Aside0.mk Q_BK182
     have HB := Aside0.mk Q_HB
     refine value_ (w1 := w') (v := .agg #[.string t173, .int .i64 t174, .int .i64 t175, .int .i64 t176, .int .i64 7]) (by rfl) rfl ?_ ?_
     · go_simp
       (try simp only [i64_w])
       try rfl
     refine hK.out _ _ ⟨v200, v203, v206, v210, m12_, m13_, m14_, m16_, (by rw [ha.out]; exact putSel_upk 8 hb_ rfl rfl rfl), Q_BK181, Q_BK182, Q_HB, Q_HO201, Q_HO204, fun h0_ => absurd ((hoff 11 (by kernel_rfl)).symm.trans h0_) (by decide), fun h0_ => absurd ((hoff 12 (by kernel_rfl)).symm.trans h0_) (by decide), fun h0_ => absurd ((hoff 12 (by kernel_rfl)).symm.trans h0_) (by decide), fun h0_ => absurd ((hoff 13 (by kernel_rfl)).symm.trans h0_) (by decide), fun h0_ => absurd ((hoff 14 (by kernel_rfl)).symm.trans h0_) (by decide), fun h0_ => absurd ((hoff 16 (by kernel_rfl)).symm.trans h0_) (by decide)⟩
   refine steps_cons ?_ ?_
   · rintro b a w' ⟨v200, v203, v206, v210, m12_, m13_, m14_, m16_, ha, Q_BK181, Q_BK182, Q_HB, Q_HO201, Q_HO204, Q_HO207, Q_HO211, Q_X12_, Q_X13_, Q_X14_, Q_X16_⟩ hb_ hon hoff
     refine ⟨_, rfl, fun K hK => ?_⟩
     have e2 : a.tmps[2]? = some (.pointer (some ⟨gb182, 0, none⟩)) := by rw [ha]; exact (putSel_off rfl).trans rfl
     replace ha := Aside0.mk ha
     have BK181 := Aside0.mk Q_BK181
     have BK182 := Aside0.mk Q_BK182
     have HB := Aside0.mk Q_HB
     have hc0_ : w'.cell? ⟨gb182, 0, none⟩ = some (.string t177) := (blk_cell BK182.out 0).trans rfl
     have hc1_ : w'.cell? ⟨gb182, 1, none⟩ = some (.int .i64 t178) := (blk_cell BK182.out 1).trans rfl
     have hc2_ : w'.cell? ⟨gb182, 2, none⟩ = some (.int .i64 t179) := (blk_cell BK182.out 2).trans rfl
     have hc3_ : w'.cell? ⟨gb182, 3, none⟩ = some (.int .i64 t180) := (blk_cell BK182.out 3).trans rfl
     refine value_ (w1 := w') (v := .agg #[.string t177, .int .i64 t178, .int .i64 t179, .int .i64 t180]) (by rfl) rfl ?_ ?_
     · go_simp
       (try simp only [i64_w])
       try rfl
     refine hK.out _ _ ⟨v200, v203, v206, v210, m12_, m13_, m14_, m16_, (by rw [ha.out]; exact putSel_upk 9 hb_ rfl rfl rfl), Q_BK181, Q_BK182, Q_HB, Q_HO201, Q_HO204, fun h0_ => absurd ((hoff 11 (by kernel_rfl)).symm.trans h0_) (by decide), fun h0_ => absurd ((hoff 12 (by kernel_rfl)).symm.trans h0_) (by decide), fun h0_ => absurd ((hoff 12 (by kernel_rfl)).symm.trans h0_) (by decide), fun h0_ => absurd ((hoff 13 (by kernel_rfl)).symm.trans h0_) (by decide), fun h0_ => absurd ((hoff 14 (by kernel_rfl)).symm.trans h0_) (by decide), fun h0_ => absurd ((hoff 16 (by kernel_rfl)).symm.trans h0_) (by decide)⟩
   refine steps_cons ?_ ?_
   · rintro b a w' ⟨v200, v203, v206, v210, m12_, m13_, m14_, m16_, ha, Q_BK181, Q_BK182, Q_HB, Q_HO201, Q_HO204, Q_HO207, Q_HO211, Q_X12_, Q_X13_, Q_X14_, Q_X16_⟩ hb_ hon hoff
     refine ⟨_, rfl, fun K hK => ?_⟩
     have e26 : a.tmps[26]? = some (.agg #[.string t177, .int .i64 t178, .int .i64 t179, .int .i64 t180]) := by rw [ha]; exact putSel_on (e := (9, 26, .agg #[.string t177, .int .i64 t178, .int .i64 t179, .int .i64 t180])) 9 rfl rfl (hon 9 (by kernel_rfl)) rfl
     replace ha := Aside0.mk ha
     have BK181 := Aside0.mk Q_BK181
     have BK182 := Aside0.mk Q_BK182
     have HB := Aside0.mk Q_HB
     refine value_ (w1 := w') (v := .agg #[.string t177, .int .i64 t178, .int .i64 t179, .int .i64 t180, .int .i64 3]) (by rfl) rfl ?_ ?_
     · go_simp
       (try simp only [i64_w])
       try rfl
     refine hK.out _ _ ⟨v200, v203, v206, v210, m12_, m13_, m14_, m16_, (by rw [ha.out]; exact putSel_upk 10 hb_ rfl rfl rfl), Q_BK181, Q_BK182, Q_HB, Q_HO201, Q_HO204, fun h0_ => absurd ((hoff 11 (by kernel_rfl)).symm.trans h0_) (by decide), fun h0_ => absurd ((hoff 12 (by kernel_rfl)).symm.trans h0_) (by decide), fun h0_ => absurd ((hoff 12 (by kernel_rfl)).symm.trans h0_) (by decide), fun h0_ => absurd ((hoff 13 (by kernel_rfl)).symm.trans h0_) (by decide), fun h0_ => absurd ((hoff 14 (by kernel_rfl)).symm.trans h0_) (by decide), fun h0_ => absurd ((hoff 16 (by kernel_rfl)).symm.trans h0_) (by decide)⟩
   refine steps_cons ?_ ?_
   · rintro b a w' ⟨v200, v203, v206, v210, m12_, m13_, m14_, m16_, ha, Q_BK181, Q_BK182, Q_HB, Q_HO201, Q_HO204, Q_HO207, Q_HO211, Q_X12_, Q_X13_, Q_X14_, Q_X16_⟩ hb_ hon hoff
     refine ⟨_, rfl, fun K hK => ?_⟩
     have e25 : a.tmps[25]? = some (.agg #[.string t173, .int .i64 t174, .int .i64 t175, .int .i64 t176, .int .i64 7]) := by rw [ha]; exact putSel_on (e := (8, 25, .agg #[.string t173, .int .i64 t174, .int .i64 t175, .int .i64 t176, .int .i64 7])) 8 rfl rfl (hon 8 (by kernel_rfl)) rfl
     have e27 : a.tmps[27]? = some (.agg #[.string t177, .int .i64 t178, .int .i64 t179, .int .i64 t180, .int .i64 3]) := by rw [ha]; exact putSel_on (e := (10, 27, .agg #[.string t177, .int .i64 t178, .int .i64 t179, .int .i64 t180, .int .i64 3])) 10 rfl rfl (hon 10 (by kernel_rfl)) rfl
     replace ha := Aside0.mk ha
     have BK181 := Aside0.mk Q_BK181
     have BK182 := Aside0.mk Q_BK182
     have HB := Aside0.mk Q_HB
     refine Kd.R_lit_step k63 _ 63 ?hg (N := 28) ?hd (xs := ([(⟨(⟨t173, t174, t175, t176⟩ : S23), 7⟩ : S63), (⟨(⟨t177, t178, t179, t180⟩ : S23), 3⟩ : S63)] : List (S63))) (inner := [.string t173, .int .i64 t174, .int .i64 t175, .int .i64 t176, .int .i64 7, .string t177, .int .i64 t178, .int .i64 t179, .int .i64 t180, .int .i64 3]) (ok := fun _ => True) (okp := fun _ => True) ?hr ?hp (fun _ hk => hk) trivial (Below.refl _ _) (Nat.le_refl _) (by simp) ?_; (case hd => rfl); (case hg => rfl); (case hr => first | (go_simp; done) | (go_simp; rfl)); (case hp => exact (Reps.c5 (show Kd.M k63 _ _ _ (⟨(⟨t173, t174, t175, t176⟩ : S23), 7⟩ : S63) [.string t173, .int .i64 t174, .int .i64 t175, .int .i64 t176, .int .i64 7] from (k63_mkM _ _ _ (⟨(⟨t173, t174, t175, t176⟩ : S23), 7⟩ : S63) )) (Reps.c5 (show Kd.M k63 _ _ _ (⟨(⟨t177, t178, t179, t180⟩ : S23), 3⟩ : S63) [.string t177, .int .i64 t178, .int .i64 t179, .int .i64 t180, .int .i64 3] from (k63_mkM _ _ _ (⟨(⟨t177, t178, t179, t180⟩ : S23), 3⟩ : S63) )) (Reps.none _ _))))
     intro v206 w32 ho33 hb hg_ hnew_
     clear hg_ hnew_
     (first | rw [← Ny205.out] at ho33 | (simp only [Int.reduceToNat] at ho33; rw [← Ny205.out] at ho33))
     have n0_ := Aside0.mk (Kd.R_lower ho33 (below_size (by repeat (with_reducible first | exact HB.out | apply below_alloc | apply pw_below_drewN | apply below_drew1 | refine below_set ?_ GE181.out | refine below_set ?_ GE182.out))))
     have n1_ := Aside0.mk (blk_below (g := gb181) (o := .cells #[.string t173, .int .i64 t174, .int .i64 t175, .int .i64 t176] 23 (0, 0)) (by (with_reducible repeat (first | refine blk_drewN ?_ _ | refine blk_drew ?_ | refine blk_alloc ?_ _)); exact BK181.out) hb)
     have n2_ := Aside0.mk (blk_below (g := gb182) (o := .cells #[.string t177, .int .i64 t178, .int .i64 t179, .int .i64 t180] 23 (0, 0)) (by (with_reducible repeat (first | refine blk_drewN ?_ _ | refine blk_drew ?_ | refine blk_alloc ?_ _)); exact BK182.out) hb)
     have n3_ := Aside0.mk (below_step (by repeat (with_reducible first | exact HB.out | apply below_alloc | apply pw_below_drewN | apply below_drew1 | refine below_set ?_ GE181.out | refine below_set ?_ GE182.out)) hb)
     have z_HO201 := fun (h0_ : b 1 = true) => (show Kd.R k29 29 w32 w.heap.size (fun _ => True) v200 y199 from by first | exact (Kd.R_below (by (with_reducible repeat (first | apply Kd.R_alloc | apply Kd.R_drewN | apply Kd.R_drew)); exact (Q_HO201 h0_)) hb) | exact Kd.R_mono (Kd.R_below (by (with_reducible repeat (first | apply Kd.R_alloc | apply Kd.R_drewN | apply Kd.R_drew)); exact (Q_HO201 h0_)) hb) (fun _ h_ => by first | trivial | exact h_ | exact h_.1))
     have z_HO204 := fun (h0_ : b 6 = true) => (show Kd.R k57 57 w32 w.heap.size (fun _ => True) v203 y202 from by first | exact (Kd.R_below (by (with_reducible repeat (first | apply Kd.R_alloc | apply Kd.R_drewN | apply Kd.R_drew)); exact (Q_HO204 h0_)) hb) | exact Kd.R_mono (Kd.R_below (by (with_reducible repeat (first | apply Kd.R_alloc | apply Kd.R_drewN | apply Kd.R_drew)); exact (Q_HO204 h0_)) hb) (fun _ h_ => by first | trivial | exact h_ | exact h_.1))
     clear BK181
     clear BK182
     clear HB
     have HO207 := n0_
     have BK181 := n1_
     have BK182 := n2_
     have HB := n3_
     clear n0_ n1_ n2_ n3_
     clear hb ho33
     refine hK.out _ _ ⟨v200, v203, v206, v210, m12_, m13_, m14_, m16_, (by rw [ha.out]; exact putSel_upk 11 hb_ rfl rfl rfl), (by (with_reducible repeat (first | refine blk_drewN ?_ _ | refine blk_drew ?_ | refine blk_alloc ?_ _)); exact BK181.out), (by (with_reducible repeat (first | refine blk_drewN ?_ _ | refine blk_drew ?_ | refine blk_alloc ?_ _)); exact BK182.out), (by repeat (with_reducible first | exact HB.out | apply below_alloc | apply pw_below_drewN | apply below_drew1 | refine below_set ?_ GE181.out | refine below_set ?_ GE182.out)), z_HO201, z_HO204, fun _ => (by (with_reducible repeat (first | apply Kd.R_alloc | apply Kd.R_drewN | apply Kd.R_drew)); exact HO207.out), fun h0_ => absurd ((hoff 12 (by kernel_rfl)).symm.trans h0_) (by decide), fun h0_ => absurd ((hoff 12 (by kernel_rfl)).symm.trans h0_) (by decide), fun h0_ => absurd ((hoff 13 (by kernel_rfl)).symm.trans h0_) (by decide), fun h0_ => absurd ((hoff 14 (by kernel_rfl)).symm.trans h0_) (by decide), fun h0_ => absurd ((hoff 16 (by kernel_rfl)).symm.trans h0_) (by decide)⟩
   refine steps_cons ?_ ?_
   · rintro b a w' ⟨v200, v203, v206, v210, m12_, m13_, m14_, m16_, ha, Q_BK181, Q_BK182, Q_HB, Q_HO201, Q_HO204, Q_HO207, Q_HO211, Q_X12_, Q_X13_, Q_X14_, Q_X16_⟩ hb_ hon hoff
     refine ⟨_, rfl, fun K hK => ?_⟩
     have e18 : a.tmps[18]? = some (v200) := by rw [ha]; exact putSel_on (e := (1, 18, v200)) 1 rfl rfl (hon 1 (by kernel_rfl)) rfl
     have e23 : a.tmps[23]? = some (v203) := by rw [ha]; exact putSel_on (e := (6, 23, v203)) 6 rfl rfl (hon 6 (by kernel_rfl)) rfl
     have e28 : a.tmps[28]? = some (v206) := by rw [ha]; exact putSel_on (e := (11, 28, v206)) 11 rfl rfl (hon 11 (by kernel_rfl)) rfl
     replace ha := Aside0.mk ha
     have BK181 := Aside0.mk Q_BK181
     have BK182 := Aside0.mk Q_BK182
     have HB := Aside0.mk Q_HB
     have HO201 := Aside0.mk (Q_HO201 (hon 1 (by kernel_rfl)))
     have HO204 := Aside0.mk (Q_HO204 (hon 6 (by kernel_rfl)))
     have HO207 := Aside0.mk (Q_HO207 (hon 11 (by kernel_rfl)))
     obtain ⟨Ao40, co40, eo40⟩ := Kd.R_slice HO201.out
     (first | subst eo40 | (injection eo40 with f1_ f2_ f3_; have f4_ := f1_.symm; have f5_ := f3_.symm; clear f1_ f2_ f3_; subst f4_; subst f5_))
     obtain ⟨Ao41, co41, eo41⟩ := Kd.R_slice HO204.out
     (first | subst eo41 | (injection eo41 with f1_ f2_ f3_; have f4_ := f1_.symm; have f5_ := f3_.symm; clear f1_ f2_ f3_; subst f4_; subst f5_))
     obtain ⟨Ao42, co42, eo42⟩ := Kd.R_slice HO207.out
     (first | subst eo42 | (injection eo42 with f1_ f2_ f3_; have f4_ := f1_.symm; have f5_ := f3_.symm; clear f1_ f2_ f3_; subst f4_; subst f5_))
     refine goes_ Try.func19 (by kernel_rfl) rfl #[.slice Ao40 y199.length co40, .slice Ao41 y202.length co41, .slice Ao42 y205.length co42] (by rfl) rfl rfl (by first | (simp only [List.map_toArray, List.map_cons, List.map_nil, Act.eval, Array.getD_eq_getD_getElem?, Option.getD_some, e18, e23, e28]; done) | (simp only [List.map_toArray, List.map_cons, List.map_nil, Act.eval, Array.getD_eq_getD_getElem?, Option.getD_some, e18, e23, e28]; rfl)) ?_
     with_reducible refine (option_Net.calls k _ _ y199 _ _ y202 _ _ y205 t208 t209 _ ?side1 ?side2 ?side3 ?side4 ?side5 ?side6 A6.out).mono ?_
     (case side1 => repeat (first | exact (Kd.R_reads' HO201.out).2.2 | (with_reducible refine Kd.C_alloc ?_ _) | (with_reducible refine Kd.C_drewN ?_ _) | (with_reducible refine Kd.C_drew ?_)))
     (case side2 => exact (Kd.R_reads' HO201.out).2.1)
     (case side3 => repeat (first | exact (Kd.R_reads' HO204.out).2.2 | (with_reducible refine Kd.C_alloc ?_ _) | (with_reducible refine Kd.C_drewN ?_ _) | (with_reducible refine Kd.C_drew ?_)))
     (case side4 => exact (Kd.R_reads' HO204.out).2.1)
     (case side5 => repeat (first | exact (Kd.R_reads' HO207.out).2.2 | (with_reducible refine Kd.C_alloc ?_ _) | (with_reducible refine Kd.C_drewN ?_ _) | (with_reducible refine Kd.C_drew ?_)))
     (case side6 => exact (Kd.R_reads' HO207.out).2.1)
     rintro e w43 ⟨v210, rfl, ho0, hb⟩
     refine ⟨_, rfl, ?_⟩
     have n0_ := Aside0.mk (Kd.R_below (by (with_reducible repeat (first | apply Kd.R_alloc | apply Kd.R_drewN | apply Kd.R_drew)); exact HO201.out) hb)
     have n1_ := Aside0.mk (Kd.R_below (by (with_reducible repeat (first | apply Kd.R_alloc | apply Kd.R_drewN | apply Kd.R_drew)); exact HO204.out) hb)
     have n2_ := Aside0.mk (Kd.R_below (by (with_reducible repeat (first | apply Kd.R_alloc | apply Kd.R_drewN | apply Kd.R_drew)); exact HO207.out) hb)
     have n3_ := Aside0.mk (Kd.R_lower ho0 (below_size (by repeat (with_reducible first | exact HB.out | apply below_alloc | apply pw_below_drewN | apply below_drew1 | refine below_set ?_ GE181.out | refine below_set ?_ GE182.out))))
     have n4_ := Aside0.mk (blk_below (g := gb181) (o := .cells #[.string t173, .int .i64 t174, .int .i64 t175, .int .i64 t176] 23 (0, 0)) (by (with_reducible repeat (first | refine blk_drewN ?_ _ | refine blk_drew ?_ | refine blk_alloc ?_ _)); exact BK181.out) hb)
     have n5_ := Aside0.mk (blk_below (g := gb182) (o := .cells #[.string t177, .int .i64 t178, .int .i64 t179, .int .i64 t180] 23 (0, 0)) (by (with_reducible repeat (first | refine blk_drewN ?_ _ | refine blk_drew ?_ | refine blk_alloc ?_ _)); exact BK182.out) hb)
     have n6_ := Aside0.mk (below_step (by repeat (with_reducible first | exact HB.out | apply below_alloc | apply pw_below_drewN | apply below_drew1 | refine below_set ?_ GE181.out | refine below_set ?_ GE182.out)) hb)
     clear HO201
     clear HO204
     clear HO207
     clear BK181
     clear BK182
     clear HB
     have HO201 := n0_
     have HO204 := n1_
     have HO207 := n2_
     have HO211 := n3_
     have BK181 := n4_
     have BK182 := n5_
     have HB := n6_
     clear n0_ n1_ n2_ n3_ n4_ n5_ n6_
     (try clear hb)
     (try clear hb2)
     (try clear hk)
     (try clear hi)
     (try clear ho0)
     refine hK.out _ _ ⟨.slice Ao40 y199.length co40, .slice Ao41 y202.length co41, .slice Ao42 y205.length co42, v210, (.tuple #[v210, .int .i64 t209]), m13_, m14_, m16_, (by rw [ha.out]; exact putSel_upk 12 hb_ rfl rfl rfl), (by (with_reducible repeat (first | refine blk_drewN ?_ _ | refine blk_drew ?_ | refine blk_alloc ?_ _)); exact BK181.out), (by (with_reducible repeat (first | refine blk_drewN ?_ _ | refine blk_drew ?_ | refine blk_alloc ?_ _)); exact BK182.out), (by repeat (with_reducible first | exact HB.out | apply below_alloc | apply pw_below_drewN | apply below_drew1 | refine below_set ?_ GE181.out | refine below_set ?_ GE182.out)), fun _ => (by (with_reducible repeat (first | apply Kd.R_alloc | apply Kd.R_drewN | apply Kd.R_drew)); exact HO201.out), fun _ => (by (with_reducible repeat (first | apply Kd.R_alloc | apply Kd.R_drewN | apply Kd.R_drew)); exact HO204.out), fun _ => (by (with_reducible repeat (first | apply Kd.R_alloc | apply Kd.R_drewN | apply Kd.R_drew)); exact HO207.out), fun _ => (by (with_reducible repeat (first | apply Kd.R_alloc | apply Kd.R_drewN | apply Kd.R_drew)); exact HO211.out), fun _ => rfl, fun h0_ => absurd ((hoff 13 (by kernel_rfl)).symm.trans h0_) (by decide), fun h0_ => absurd ((hoff 14 (by kernel_rfl)).symm.trans h0_) (by decide), fun h0_ => absurd ((hoff 16 (by kernel_rfl)).symm.trans h0_) (by decide)⟩
   refine steps_cons ?_ ?_
   · rintro b a w' ⟨v200, v203, v206, v210, m12_, m13_, m14_, m16_, ha, Q_BK181, Q_BK182, Q_HB, Q_HO201, Q_HO204, Q_HO207, Q_HO211, Q_X12_, Q_X13_, Q_X14_, Q_X16_⟩ hb_ hon hoff
     refine ⟨_, rfl, fun K hK => ?_⟩
     have e29 : a.tmps[29]? = some (m12_) := by rw [ha]; exact putSel_on (e := (12, 29, m12_)) 12 rfl rfl (hon 12 (by kernel_rfl)) rfl
     rw [Q_X12_ (hon 12 (by kernel_rfl))] at e29
     replace ha := Aside0.mk ha
     have BK181 := Aside0.mk Q_BK181
     have BK182 := Aside0.mk Q_BK182
     have HB := Aside0.mk Q_HB
     have HO201 := Aside0.mk (Q_HO201 (hon 1 (by kernel_rfl)))
     have HO204 := Aside0.mk (Q_HO204 (hon 6 (by kernel_rfl)))
     have HO207 := Aside0.mk (Q_HO207 (hon 11 (by kernel_rfl)))
     have HO211 := Aside0.mk (Q_HO211 (hon 12 (by kernel_rfl)))
     refine value_ (w1 := w') (v := .tuple #[v210, .int .i64 t209]) (by rfl) rfl ?_ ?_
     · go_simp
       (try simp only [i64_w])
       try rfl
     refine hK.out _ _ ⟨v200, v203, v206, v210, m12_, (.tuple #[v210, .int .i64 t209]), m14_, m16_, (by rw [ha.out]; exact putSel_upk 13 hb_ rfl rfl rfl), Q_BK181, Q_BK182, Q_HB, Q_HO201, Q_HO204, Q_HO207, Q_HO211, Q_X12_, fun _ => rfl, fun h0_ => absurd ((hoff 14 (by kernel_rfl)).symm.trans h0_) (by decide), fun h0_ => absurd ((hoff 16 (by kernel_rfl)).symm.trans h0_) (by decide)⟩
   refine steps_cons ?_ ?_
   · rintro b a w' ⟨v200, v203, v206, v210, m12_, m13_, m14_, m16_, ha, Q_BK181, Q_BK182, Q_HB, Q_HO201, Q_HO204, Q_HO207, Q_HO211, Q_X12_, Q_X13_, Q_X14_, Q_X16_⟩ hb_ hon hoff
     refine ⟨_, rfl, fun K hK => ?_⟩
     have e16 : a.tmps[16]? = some (m13_) := by rw [ha]; exact putSel_on (e := (13, 16, m13_)) 13 rfl rfl (hon 13 (by kernel_rfl)) rfl
     rw [Q_X13_ (hon 13 (by kernel_rfl))] at e16
     replace ha := Aside0.mk ha
     have BK181 := Aside0.mk Q_BK181
     have BK182 := Aside0.mk Q_BK182
     have HB := Aside0.mk Q_HB
     have HO201 := Aside0.mk (Q_HO201 (hon 1 (by kernel_rfl)))
     have HO204 := Aside0.mk (Q_HO204 (hon 6 (by kernel_rfl)))
     have HO207 := Aside0.mk (Q_HO207 (hon 11 (by kernel_rfl)))
     have HO211 := Aside0.mk (Q_HO211 (hon 12 (by kernel_rfl)))
     obtain ⟨Ao14_0, co14_0, eo_⟩ := Kd.R_slice HO211.out
     subst eo_
     refine value_ (w1 := w') (v := .slice Ao14_0 t208.length co14_0) (by rfl) rfl ?_ ?_
     · go_simp
       (try simp only [i64_w])
       try rfl
     refine hK.out _ _ ⟨v200, v203, v206, .slice Ao14_0 t208.length co14_0, m12_, m13_, (.slice Ao14_0 t208.length co14_0), m16_, (by rw [ha.out]; exact putSel_upk 14 hb_ rfl rfl rfl), Q_BK181, Q_BK182, Q_HB, Q_HO201, Q_HO204, Q_HO207, Q_HO211, Q_X12_, Q_X13_, fun _ => rfl, fun h0_ => absurd ((hoff 16 (by kernel_rfl)).symm.trans h0_) (by decide)⟩
   refine steps_cons ?_ ?_
   · rintro b a w' ⟨v200, v203, v206, v210, m12_, m13_, m14_, m16_, ha, Q_BK181, Q_BK182, Q_HB, Q_HO201, Q_HO204, Q_HO207, Q_HO211, Q_X12_, Q_X13_, Q_X14_, Q_X16_⟩ hb_ hon hoff
     refine ⟨_, rfl, fun K hK => ?_⟩
     have e16 : a.tmps[16]? = some (m13_) := by rw [ha]; exact putSel_on (e := (13, 16, m13_)) 13 rfl rfl (hon 13 (by kernel_rfl)) rfl
     rw [Q_X13_ (hon 13 (by kernel_rfl))] at e16
     replace ha := Aside0.mk ha
     have BK181 := Aside0.mk Q_BK181
     have BK182 := Aside0.mk Q_BK182
     have HB := Aside0.mk Q_HB
     have HO201 := Aside0.mk (Q_HO201 (hon 1 (by kernel_rfl)))
     have HO204 := Aside0.mk (Q_HO204 (hon 6 (by kernel_rfl)))
     have HO207 := Aside0.mk (Q_HO207 (hon 11 (by kernel_rfl)))
     have HO211 := Aside0.mk (Q_HO211 (hon 12 (by kernel_rfl)))
     obtain ⟨Ao15_0, co15_0, eo_⟩ := Kd.R_slice HO211.out
     subst eo_
     refine value_ (w1 := w') (v := .int .i64 t209) (by rfl) rfl ?_ ?_
     · go_simp
       (try simp only [i64_w])
       try rfl
     refine hK.out _ _ ⟨v200, v203, v206, .slice Ao15_0 t208.length co15_0, m12_, m13_, m14_, m16_, (by rw [ha.out]; exact putSel_upk 15 hb_ rfl rfl rfl), Q_BK181, Q_BK182, Q_HB, Q_HO201, Q_HO204, Q_HO207, Q_HO211, Q_X12_, Q_X13_, Q_X14_, Q_X16_⟩
   refine steps_cons ?_ ?_
   · rintro b a w' ⟨v200, v203, v206, v210, m12_, m13_, m14_, m16_, ha, Q_BK181, Q_BK182, Q_HB, Q_HO201, Q_HO204, Q_HO207, Q_HO211, Q_X12_, Q_X13_, Q_X14_, Q_X16_⟩ hb_ hon hoff
     refine ⟨_, rfl, fun K hK => ?_⟩
     have e30 : a.tmps[30]? = some (m14_) := by rw [ha]; exact putSel_on (e := (14, 30, m14_)) 14 rfl rfl (hon 14 (by kernel_rfl)) rfl
     rw [Q_X14_ (hon 14 (by kernel_rfl))] at e30
     replace ha := Aside0.mk ha
     have BK181 := Aside0.mk Q_BK181
     have BK182 := Aside0.mk Q_BK182
     have HB := Aside0.mk Q_HB
     have HO201 := Aside0.mk (Q_HO201 (hon 1 (by kernel_rfl)))
     have HO204 := Aside0.mk (Q_HO204 (hon 6 (by kernel_rfl)))
     have HO207 := Aside0.mk (Q_HO207 (hon 11 (by kernel_rfl)))
     have HO211 := Aside0.mk (Q_HO211 (hon 12 (by kernel_rfl)))
     refine value_ (w1 := w') (v := v210) (by rfl) rfl ?_ ?_
     · go_simp
       (try simp only [i64_w])
       try rfl
     refine hK.out _ _ ⟨v200, v203, v206, v210, m12_, m13_, m14_, (v210), (by rw [ha.out]; exact putSel_upk 16 hb_ rfl rfl rfl), Q_BK181, Q_BK182, Q_HB, Q_HO201, Q_HO204, Q_HO207, Q_HO211, Q_X12_, Q_X13_, Q_X14_, fun _ => rfl⟩
   refine steps_cons ?_ ?_
   · rintro b a w' ⟨v200, v203, v206, v210, m12_, m13_, m14_, m16_, ha, Q_BK181, Q_BK182, Q_HB, Q_HO201, Q_HO204, Q_HO207, Q_HO211, Q_X12_, Q_X13_, Q_X14_, Q_X16_⟩ hb_ hon hoff
     refine ⟨_, rfl, fun K hK => ?_⟩
     have e31 : a.tmps[31]? = some (.int .i64 t209) := by rw [ha]; exact putSel_on (e := (15, 31, .int .i64 t209)) 15 rfl rfl (hon 15 (by kernel_rfl)) rfl
     replace ha := Aside0.mk ha
     have BK181 := Aside0.mk Q_BK181
     have BK182 := Aside0.mk Q_BK182
     have HB := Aside0.mk Q_HB
     have HO201 := Aside0.mk (Q_HO201 (hon 1 (by kernel_rfl)))
     have HO204 := Aside0.mk (Q_HO204 (hon 6 (by kernel_rfl)))
     have HO207 := Aside0.mk (Q_HO207 (hon 11 (by kernel_rfl)))
     have HO211 := Aside0.mk (Q_HO211 (hon 12 (by kernel_rfl)))
     refine value_ (w1 := w') (v := .int .i64 t209) (by rfl) rfl ?_ ?_
     · go_simp
       (try simp only [i64_w])
       try rfl
     refine hK.out _ _ ⟨v200, v203, v206, v210, m12_, m13_, m14_, m16_, (by rw [ha.out]; exact putSel_upk 17 hb_ rfl rfl rfl), Q_BK181, Q_BK182, Q_HB, Q_HO201, Q_HO204, Q_HO207, Q_HO211, Q_X12_, Q_X13_, Q_X14_, Q_X16_⟩
   exact steps_nil
 rintro b a w43 hall ⟨v200, v203, v206, v210, m12_, m13_, m14_, m16_, ha, Q_BK181, Q_BK182, Q_HB, Q_HO201, Q_HO204, Q_HO207, Q_HO211, Q_X12_, Q_X13_, Q_X14_, Q_X16_⟩
 clear BK181 BK182 HB
 have hb0_ := hall 0 (by kernel_rfl)
 have hb1_ := hall 1 (by kernel_rfl)
 have hb2_ := hall 2 (by kernel_rfl)
 have hb3_ := hall 3 (by kernel_rfl)
 have hb4_ := hall 4 (by kernel_rfl)
 have hb5_ := hall 5 (by kernel_rfl)
 have hb6_ := hall 6 (by kernel_rfl)
 have hb7_ := hall 7 (by kernel_rfl)
 have hb8_ := hall 8 (by kernel_rfl)
 have hb9_ := hall 9 (by kernel_rfl)
 have hb10_ := hall 10 (by kernel_rfl)
 have hb11_ := hall 11 (by kernel_rfl)
 have hb12_ := hall 12 (by kernel_rfl)
 have hb13_ := hall 13 (by kernel_rfl)
 have hb14_ := hall 14 (by kernel_rfl)
 have hb15_ := hall 15 (by kernel_rfl)
 have hb16_ := hall 16 (by kernel_rfl)
 have hb17_ := hall 17 (by kernel_rfl)
 subst ha
 obtain rfl := Q_X12_ hb12_
 obtain rfl := Q_X13_ hb13_
 obtain rfl := Q_X14_ hb14_
 obtain rfl := Q_X16_ hb16_
 simp only [putSel, hb0_, hb1_, hb2_, hb3_, hb4_, hb5_, hb6_, hb7_, hb8_, hb9_, hb10_, hb11_, hb12_, hb13_, hb14_, hb15_, hb16_, hb17_, if_true, Act.put, List.setIfInBounds_toArray, List.set_cons_zero, List.set_cons_succ]
 have BK181 := Aside0.mk Q_BK181
 clear Q_BK181
 have BK182 := Aside0.mk Q_BK182
 clear Q_BK182
 have HB := Aside0.mk Q_HB
 clear Q_HB
 have HO201 := Aside0.mk (Q_HO201 hb1_)
 clear Q_HO201
 have HO204 := Aside0.mk (Q_HO204 hb6_)
 clear Q_HO204
 have HO207 := Aside0.mk (Q_HO207 hb11_)
 clear Q_HO207
 have HO211 := Aside0.mk (Q_HO211 hb12_)
 clear Q_HO211
 clear hall hb0_ hb1_ hb2_ hb3_ hb4_ hb5_ hb6_ hb7_ hb8_ hb9_ hb10_ hb11_ hb12_ hb13_ hb14_ hb15_ hb16_ hb17_
 have hcz44_0 : w43.cell? ⟨gb181, 0, none⟩ = some (.string t173) := (blk_cell BK181.out 0).trans rfl
 have hcz44_1 : w43.cell? ⟨gb181, 1, none⟩ = some (.int .i64 t174) := (blk_cell BK181.out 1).trans rfl
 have hcz44_2 : w43.cell? ⟨gb181, 2, none⟩ = some (.int .i64 t175) := (blk_cell BK181.out 2).trans rfl
 have hcz44_3 : w43.cell? ⟨gb181, 3, none⟩ = some (.int .i64 t176) := (blk_cell BK181.out 3).trans rfl
 have hfz44_0 := blk_frozen BK181.out 0
 have hfz44_1 := blk_frozen BK181.out 1
 have hfz44_2 := blk_frozen BK181.out 2
 have hfz44_3 := blk_frozen BK181.out 3
 try go_wp2_with (first | ((with_reducible refine gate_callee (f := 8) rfl ?_); refine goesL_ (some 33) rfl rfl Try.func8 (by kernel_rfl) rfl #[.agg #[.string t173, .int .i64 t174, .int .i64 t175, .int .i64 t176], .int .i64 60] rfl (by (try simp only [List.map_toArray, List.map_cons, List.map_nil]); first | done | rfl | (simp only [List.length_drop, List.length_take]; rfl)) ?_; (with_reducible refine (option_Intrinsic.calls k t173 t174 t175 t176 60 t212 _ A7.out).mono ?_); rintro e w45 ⟨rfl, hb⟩; refine ⟨_, rfl, ?_⟩; have n0_ := Aside0.mk (Kd.R_below (by (with_reducible repeat (first | apply Kd.R_alloc | apply Kd.R_drewN | apply Kd.R_drew)); exact HO201.out) hb); have n1_ := Aside0.mk (Kd.R_below (by (with_reducible repeat (first | apply Kd.R_alloc | apply Kd.R_drewN | apply Kd.R_drew)); exact HO204.out) hb); have n2_ := Aside0.mk (Kd.R_below (by (with_reducible repeat (first | apply Kd.R_alloc | apply Kd.R_drewN | apply Kd.R_drew)); exact HO207.out) hb); have n3_ := Aside0.mk (Kd.R_below (by (with_reducible repeat (first | apply Kd.R_alloc | apply Kd.R_drewN | apply Kd.R_drew)); exact HO211.out) hb); have n4_ := Aside0.mk (blk_below (g := gb181) (o := .cells #[.string t173, .int .i64 t174, .int .i64 t175, .int .i64 t176] 23 (0, 0)) (by (with_reducible repeat (first | refine blk_drewN ?_ _ | refine blk_drew ?_ | refine blk_alloc ?_ _)); exact BK181.out) hb); have n5_ := Aside0.mk (blk_below (g := gb182) (o := .cells #[.string t177, .int .i64 t178, .int .i64 t179, .int .i64 t180] 23 (0, 0)) (by (with_reducible repeat (first | refine blk_drewN ?_ _ | refine blk_drew ?_ | refine blk_alloc ?_ _)); exact BK182.out) hb); have n6_ := Aside0.mk (below_step (by repeat (with_reducible first | exact HB.out | apply below_alloc | apply pw_below_drewN | apply below_drew1 | refine below_set ?_ GE181.out | refine below_set ?_ GE182.out)) hb); clear HO201; clear HO204; clear HO207; clear HO211; clear BK181; clear BK182; clear HB; have HO201 := n0_; have HO204 := n1_; have HO207 := n2_; have HO211 := n3_; have BK181 := n4_; have BK182 := n5_; have HB := n6_; clear n0_ n1_ n2_ n3_ n4_ n5_ n6_; (try clear hb); (try clear hb2); (try clear hk); (try clear hi); have hcz46_0 : w45.cell? ⟨gb182, 0, none⟩ = some (.string t177) := (blk_cell BK182.out 0).trans rfl; have hcz46_1 : w45.cell? ⟨gb182, 1, none⟩ = some (.int .i64 t178) := (blk_cell BK182.out 1).trans rfl; have hcz46_2 : w45.cell? ⟨gb182, 2, none⟩ = some (.int .i64 t179) := (blk_cell BK182.out 2).trans rfl; have hcz46_3 : w45.cell? ⟨gb182, 3, none⟩ = some (.int .i64 t180) := (blk_cell BK182.out 3).trans rfl; have hfz46_0 := blk_frozen BK182.out 0; have hfz46_1 := blk_frozen BK182.out 1; have hfz46_2 := blk_frozen BK182.out 2; have hfz46_3 := blk_frozen BK182.out 3) | (go_at_call 8; (with_reducible refine (option_Intrinsic.calls k t177 t178 t179 t180 60 t213 _ A9.out).mono ?_); rintro e w47 ⟨rfl, hb⟩; have n0_ := Aside0.mk (Kd.R_below (by (with_reducible repeat (first | apply Kd.R_alloc | apply Kd.R_drewN | apply Kd.R_drew)); exact HO201.out) hb); have n1_ := Aside0.mk (Kd.R_below (by (with_reducible repeat (first | apply Kd.R_alloc | apply Kd.R_drewN | apply Kd.R_drew)); exact HO204.out) hb); have n2_ := Aside0.mk (Kd.R_below (by (with_reducible repeat (first | apply Kd.R_alloc | apply Kd.R_drewN | apply Kd.R_drew)); exact HO207.out) hb); have n3_ := Aside0.mk (Kd.R_below (by (with_reducible repeat (first | apply Kd.R_alloc | apply Kd.R_drewN | apply Kd.R_drew)); exact HO211.out) hb); have n4_ := Aside0.mk (blk_below (g := gb181) (o := .cells #[.string t173, .int .i64 t174, .int .i64 t175, .int .i64 t176] 23 (0, 0)) (by (with_reducible repeat (first | refine blk_drewN ?_ _ | refine blk_drew ?_ | refine blk_alloc ?_ _)); exact BK181.out) hb); have n5_ := Aside0.mk (blk_below (g := gb182) (o := .cells #[.string t177, .int .i64 t178, .int .i64 t179, .int .i64 t180] 23 (0, 0)) (by (with_reducible repeat (first | refine blk_drewN ?_ _ | refine blk_drew ?_ | refine blk_alloc ?_ _)); exact BK182.out) hb); have n6_ := Aside0.mk (below_step (by repeat (with_reducible first | exact HB.out | apply below_alloc | apply pw_below_drewN | apply below_drew1 | refine below_set ?_ GE181.out | refine below_set ?_ GE182.out)) hb); clear HO201; clear HO204; clear HO207; clear HO211; clear BK181; clear BK182; clear HB; have HO201 := n0_; have HO204 := n1_; have HO207 := n2_; have HO211 := n3_; have BK181 := n4_; have BK182 := n5_; have HB := n6_; clear n0_ n1_ n2_ n3_ n4_ n5_ n6_; (try clear hb); (try clear hb2); (try clear hk); (try clear hi); have hcz48_0 : w47.cell? ⟨gb182, 0, none⟩ = some (.string t177) := (blk_cell BK182.out 0).trans rfl; have hcz48_1 : w47.cell? ⟨gb182, 1, none⟩ = some (.int .i64 t178) := (blk_cell BK182.out 1).trans rfl; have hcz48_2 : w47.cell? ⟨gb182, 2, none⟩ = some (.int .i64 t179) := (blk_cell BK182.out 2).trans rfl; have hcz48_3 : w47.cell? ⟨gb182, 3, none⟩ = some (.int .i64 t180) := (blk_cell BK182.out 3).trans rfl; have hfz48_0 := blk_frozen BK182.out 0; have hfz48_1 := blk_frozen BK182.out 1; have hfz48_2 := blk_frozen BK182.out 2; have hfz48_3 := blk_frozen BK182.out 3) | (go_at_call 8; (with_reducible refine (option_Intrinsic.calls k t177 t178 t179 t180 40 t214 _ A11.out).mono ?_); rintro e w49 ⟨rfl, hb⟩; have n0_ := Aside0.mk (Kd.R_below (by (with_reducible repeat (first | apply Kd.R_alloc | apply Kd.R_drewN | apply Kd.R_drew)); exact HO201.out) hb); have n1_ := Aside0.mk (Kd.R_below (by (with_reducible repeat (first | apply Kd.R_alloc | apply Kd.R_drewN | apply Kd.R_drew)); exact HO204.out) hb); have n2_ := Aside0.mk (Kd.R_below (by (with_reducible repeat (first | apply Kd.R_alloc | apply Kd.R_drewN | apply Kd.R_drew)); exact HO207.out) hb); have n3_ := Aside0.mk (Kd.R_below (by (with_reducible repeat (first | apply Kd.R_alloc | apply Kd.R_drewN | apply Kd.R_drew)); exact HO211.out) hb); have n4_ := Aside0.mk (blk_below (g := gb181) (o := .cells #[.string t173, .int .i64 t174, .int .i64 t175, .int .i64 t176] 23 (0, 0)) (by (with_reducible repeat (first | refine blk_drewN ?_ _ | refine blk_drew ?_ | refine blk_alloc ?_ _)); exact BK181.out) hb); have n5_ := Aside0.mk (blk_below (g := gb182) (o := .cells #[.string t177, .int .i64 t178, .int .i64 t179, .int .i64 t180] 23 (0, 0)) (by (with_reducible repeat (first | refine blk_drewN ?_ _ | refine blk_drew ?_ | refine blk_alloc ?_ _)); exact BK182.out) hb); have n6_ := Aside0.mk (below_step (by repeat (with_reducible first | exact HB.out | apply below_alloc | apply pw_below_drewN | apply below_drew1 | refine below_set ?_ GE181.out | refine below_set ?_ GE182.out)) hb); clear HO201; clear HO204; clear HO207; clear HO211; clear BK181; clear BK182; clear HB; have HO201 := n0_; have HO204 := n1_; have HO207 := n2_; have HO211 := n3_; have BK181 := n4_; have BK182 := n5_; have HB := n6_; clear n0_ n1_ n2_ n3_ n4_ n5_ n6_; (try clear hb); (try clear hb2); (try clear hk); (try clear hi); have hcz50_0 : w49.cell? ⟨gb181, 0, none⟩ = some (.string t173) := (blk_cell BK181.out 0).trans rfl; have hcz50_1 : w49.cell? ⟨gb181, 1, none⟩ = some (.int .i64 t174) := (blk_cell BK181.out 1).trans rfl; have hcz50_2 : w49.cell? ⟨gb181, 2, none⟩ = some (.int .i64 t175) := (blk_cell BK181.out 2).trans rfl; have hcz50_3 : w49.cell? ⟨gb181, 3, none⟩ = some (.int .i64 t176) := (blk_cell BK181.out 3).trans rfl; have hfz50_0 := blk_frozen BK181.out 0; have hfz50_1 := blk_frozen BK181.out 1; have hfz50_2 := blk_frozen BK181.out 2; have hfz50_3 := blk_frozen BK181.out 3) | (go_at_call 10; (with_reducible refine (option_Ends.calls k t173 t174 t175 t176 50 false _ A13.out).mono ?_); rintro e w51 ⟨rfl, hb⟩; have n0_ := Aside0.mk (Kd.R_below (by (with_reducible repeat (first | apply Kd.R_alloc | apply Kd.R_drewN | apply Kd.R_drew)); exact HO201.out) hb); have n1_ := Aside0.mk (Kd.R_below (by (with_reducible repeat (first | apply Kd.R_alloc | apply Kd.R_drewN | apply Kd.R_drew)); exact HO204.out) hb); have n2_ := Aside0.mk (Kd.R_below (by (with_reducible repeat (first | apply Kd.R_alloc | apply Kd.R_drewN | apply Kd.R_drew)); exact HO207.out) hb); have n3_ := Aside0.mk (Kd.R_below (by (with_reducible repeat (first | apply Kd.R_alloc | apply Kd.R_drewN | apply Kd.R_drew)); exact HO211.out) hb); have n4_ := Aside0.mk (blk_below (g := gb181) (o := .cells #[.string t173, .int .i64 t174, .int .i64 t175, .int .i64 t176] 23 (0, 0)) (by (with_reducible repeat (first | refine blk_drewN ?_ _ | refine blk_drew ?_ | refine blk_alloc ?_ _)); exact BK181.out) hb); have n5_ := Aside0.mk (blk_below (g := gb182) (o := .cells #[.string t177, .int .i64 t178, .int .i64 t179, .int .i64 t180] 23 (0, 0)) (by (with_reducible repeat (first | refine blk_drewN ?_ _ | refine blk_drew ?_ | refine blk_alloc ?_ _)); exact BK182.out) hb); have n6_ := Aside0.mk (below_step (by repeat (with_reducible first | exact HB.out | apply below_alloc | apply pw_below_drewN | apply below_drew1 | refine below_set ?_ GE181.out | refine below_set ?_ GE182.out)) hb); clear HO201; clear HO204; clear HO207; clear HO211; clear BK181; clear BK182; clear HB; have HO201 := n0_; have HO204 := n1_; have HO207 := n2_; have HO211 := n3_; have BK181 := n4_; have BK182 := n5_; have HB := n6_; clear n0_ n1_ n2_ n3_ n4_ n5_ n6_; (try clear hb); (try clear hb2); (try clear hk); (try clear hi); obtain ⟨Ao52, co52, eo52⟩ := Kd.R_slice HO211.out; subst eo52; have p216 : 0 ≤ (0 : Int) := (by omega); have q216 : 0 < (t208.length : Int) := of_decide_eq_true (by first | (with_reducible assumption) | assumption); obtain ⟨ad216, e216, hx216_0⟩ := Kd.at_int (Kd.R_reads' HO211.out).2.2 0 p216 q216; cases e216; have qi216 : (0 < t208.length) = True := eq_true (by omega); (try rw [show ((0 : Int)).toNat = 0 from rfl] at hx216_0); (try rw [Addr.add_zero'] at hx216_0); replace p216 := eq_true p216; replace q216 := eq_true q216))
 go_ret
 exact ⟨by first | rfl | (simp [errW_none, errW_some] <;> rfl) | (simp [*, errW_none, errW_some] <;> rfl), by repeat (with_reducible first | exact HB.out | apply below_alloc | apply pw_below_drewN | apply below_drew1 | refine below_set ?_ GE181.out | refine below_set ?_ GE182.out)⟩

/-! ### contangoref09_within: function 49 -/
def contangoref09_within.f (a0 : Int) (a1 : Int) (a2 : Int) : Option (Bool) := if a0 ≥ a1 then (some (decide (a0 ≤ a2))) else (some false)
set_option maxHeartbeats 8000000 in
set_option maxRecDepth 100000 in
theorem contangoref09_within.calls (a0 : Int) (a1 : Int) (a2 : Int) (r : Bool) (w : World) (h : contangoref09_within.f a0 a1 a2 = some r) :
    Calls Try.prog 49 #[.int .i64 a0, .int .i64 a1, .int .i64 a2] w fun e w' => e = .returned (.bool r) ∧ Drawn0 w w' := by
 have H : (if a0 ≥ a1 then (some (decide (a0 ≤ a2))) else (some false)) = some r := h
 clear h
 by_cases c4 : a0 ≥ a1
 · rw [if_pos c4] at H
   have c4b0 : decide (a1 ≤ a0) = true := decide_eq_true c4
   clear c4
   obtain rfl := Option.some.inj H
   go_enter Try.func49, Try.ntmps49
   go_wp2
   go_ret
   exact ⟨by first | rfl | (simp; done) | (simp [*]; done), by repeat (first | exact Drawn0.refl _ | apply Drawn0.step)⟩
 rw [if_neg c4] at H
 have c4b0 : decide (a1 ≤ a0) = false := decide_eq_false c4
 clear c4
 obtain rfl := Option.some.inj H
 go_enter Try.func49, Try.ntmps49
 go_wp2
 go_ret
 exact ⟨by first | rfl | (simp; done) | (simp [*]; done), by repeat (first | exact Drawn0.refl _ | apply Drawn0.step)⟩

end Go.Proofs.Ytjaokhpbdhefhaa.POptionNets
