-- Written by a program of this session's (a turned copy of the kit's print, with functions proved by hand).
import Derived.Test.YtaookghbppimnaaPStressMostx0
import Derived.Test.YtaookghbppimnaaPStressMostx1
import Derived.Test.YtaookghbppimnaaPStressMostx4
import Derived.Test.YtaookghbppimnaaPStressMostx5
import Derived.Test.YtaookghbppimnaaPStressMostx6
namespace Go.Proofs.Ytaookghbppimnaa.PStressMost
open Go.RowKit Go.Proofs.YtaookghbppimnaaW.PrintWords Go.Proofs.YtaookghbppimnaaW.PrintLast Go.Proofs.YtaookghbppimnaaW.PrintMore
attribute [local go_sem] max2_int min2_int max_two min_two max_three min_three max_four min_four Go.Proofs.YtaookghbppimnaaHand.run_leq_str Go.Proofs.YtaookghbppimnaaHand.run_gtr_str Go.Proofs.YtaookghbppimnaaHand.run_geq_str   -- for this text's walks alone
set_option linter.unusedVariables false
set_option linter.unusedSimpArgs false

/-! ### contangolaw39_StressMost: function 5 -/
mutual
def contangolaw39_StressMost.l0 : Nat → List (S49) → Int → Int → List ByteArray → Int → Int → Int → Int → Option (Bool)
  | 0, _, _, _, _, _, _, _, _ => none
  | k + 1, x0, x3, x4, x5, x7, x8, x49, x50 => if x50 < x49 then (if 0 ≤ x50 then (if x50 < (x0.length : Int) then ((stress_Worst.f k x0 ((rd_T49 x0 x50).f1)).bind fun bt197 => (if bt197.2.2 = 0 then (if bt197.1 > x3 then (contangolaw39_StressMost.j1 k x0 x3 x4 x5 x7 x8 x50 bt197.1 x49 x50 true) else (contangolaw39_StressMost.j1 k x0 x3 x4 x5 x7 x8 x50 bt197.1 x49 x50 (decide (bt197.1 < 0)))) else (contangolaw39_StressMost.j1 k x0 x3 x4 x5 x7 x8 x50 bt197.1 x49 x50 true))) else (none)) else (none)) else ((stress_Bare.f k x0 x4).bind fun bt202 => (contangolaw39_StressMost.l2 k x3 x5 x7 x8 bt202.1 bt202.2.1 bt202.2.2 0 (bt202.1.length : Int) 0))
def contangolaw39_StressMost.j1 : Nat → List (S49) → Int → Int → List ByteArray → Int → Int → Int → Int → Int → Int → Bool → Option (Bool)
  | 0, _, _, _, _, _, _, _, _, _, _, _ => none
  | k + 1, x0, x3, x4, x5, x7, x8, x9, x10, x49, x50, x74 => if x74 = true then (some false) else (contangolaw39_StressMost.l1 k x0 x3 x4 x5 x7 x8 x9 x10 false x49 x50 x9 0)
def contangolaw39_StressMost.l1 : Nat → List (S49) → Int → Int → List ByteArray → Int → Int → Int → Int → Bool → Int → Int → Int → Int → Option (Bool)
  | 0, _, _, _, _, _, _, _, _, _, _, _, _, _ => none
  | k + 1, x0, x3, x4, x5, x7, x8, x9, x10, x13, x49, x50, x75, x76 => if x76 < x75 then (if x13 = true then (contangolaw39_StressMost.l1 k x0 x3 x4 x5 x7 x8 x9 x10 true x49 x50 x75 (wrap64 (x76 + 1))) else (if 0 ≤ x76 then (if x76 < (x0.length : Int) then (if 0 ≤ x9 then (if x9 < (x0.length : Int) then (contangolaw39_StressMost.l1 k x0 x3 x4 x5 x7 x8 x9 x10 (((rd_T49 x0 x76).f1).toList == ((rd_T49 x0 x9).f1).toList) x49 x50 x75 (wrap64 (x76 + 1))) else (none)) else (none)) else (none)) else (none))) else (if x13 = true then (contangolaw39_StressMost.l0 k x0 x3 x4 x5 x7 x8 x49 (wrap64 (x50 + 1))) else (if x10 > x7 then (contangolaw39_StressMost.l0 k x0 x3 x4 x5 x10 x7 x49 (wrap64 (x50 + 1))) else (if x10 > x8 then (contangolaw39_StressMost.l0 k x0 x3 x4 x5 x7 x10 x49 (wrap64 (x50 + 1))) else (contangolaw39_StressMost.l0 k x0 x3 x4 x5 x7 x8 x49 (wrap64 (x50 + 1))))))
def contangolaw39_StressMost.l2 : Nat → Int → List ByteArray → Int → Int → List ByteArray → List Int → Int → Int → Int → Int → Option (Bool)
  | 0, _, _, _, _, _, _, _, _, _, _ => none
  | k + 1, x3, x5, x7, x8, x15, x16, x17, x18, x113, x114 => if x114 < x113 then (contangolaw39_StressMost.l3 k x3 x5 x7 x8 x15 x16 x17 x18 x114 x113 x114 (x5.length : Int) 0) else (if x17 = 0 then (if (wrap64 (x3 - x7)) ≤ x8 then (if x18 = x3 then (if (x5.length : Int) = (mn (x15.length : Int) 2) then ((contangolaw39_goes.f k).bind fun t209 => (some t209)) else (some false)) else (some false)) else (some false)) else (some false))
def contangolaw39_StressMost.l3 : Nat → Int → List ByteArray → Int → Int → List ByteArray → List Int → Int → Int → Int → Int → Int → Int → Int → Option (Bool)
  | 0, _, _, _, _, _, _, _, _, _, _, _, _, _ => none
  | k + 1, x3, x5, x7, x8, x15, x16, x17, x18, x19, x113, x114, x118, x119 => if x119 < x118 then (if 0 ≤ x19 then (if x19 < (x15.length : Int) then (if 0 ≤ x119 then (if x119 < (x5.length : Int) then (if (rdOf ByteArray.empty x15 x19).toList = (rdOf ByteArray.empty x5 x119).toList then (if x19 < (x16.length : Int) then (contangolaw39_StressMost.l3 k x3 x5 x7 x8 x15 x16 x17 (wrap64 (x18 + (rd x16 x19))) x19 x113 x114 x118 (wrap64 (x119 + 1))) else (none)) else (contangolaw39_StressMost.l3 k x3 x5 x7 x8 x15 x16 x17 x18 x19 x113 x114 x118 (wrap64 (x119 + 1)))) else (none)) else (none)) else (none)) else (none)) else (contangolaw39_StressMost.l2 k x3 x5 x7 x8 x15 x16 x17 x18 x113 (wrap64 (x114 + 1)))
end
def contangolaw39_StressMost.f (k : Nat) (l0 : List (S49)) : Option (Bool) := (contangolaw39_few.f k l0).bind fun t187 => (if t187 = true then ((stress_Two.f k l0).bind fun bt189 => (if bt189.2.2.2 = 0 then (contangolaw39_StressMost.l0 k l0 bt189.1 bt189.2.1 bt189.2.2.1 0 0 (l0.length : Int) 0) else (if bt189.1 = 0 then (if bt189.2.1 = 0 then (if (bt189.2.2.1.length : Int) = 0 then ((contangolaw39_goes.f k).bind fun t195 => (some t195)) else (some false)) else (some false)) else (some false)))) else ((contangolaw39_goes.f k).bind fun t188 => (some t188)))
theorem contangolaw39_StressMost.mono_l : ∀ k, (∀ y0 y1 y2 y3 y4 y5 y6 y7, LeO (contangolaw39_StressMost.l0 k y0 y1 y2 y3 y4 y5 y6 y7) (contangolaw39_StressMost.l0 (k + 1) y0 y1 y2 y3 y4 y5 y6 y7)) ∧ (∀ y0 y1 y2 y3 y4 y5 y6 y7 y8 y9 y10, LeO (contangolaw39_StressMost.j1 k y0 y1 y2 y3 y4 y5 y6 y7 y8 y9 y10) (contangolaw39_StressMost.j1 (k + 1) y0 y1 y2 y3 y4 y5 y6 y7 y8 y9 y10)) ∧ (∀ y0 y1 y2 y3 y4 y5 y6 y7 y8 y9 y10 y11 y12, LeO (contangolaw39_StressMost.l1 k y0 y1 y2 y3 y4 y5 y6 y7 y8 y9 y10 y11 y12) (contangolaw39_StressMost.l1 (k + 1) y0 y1 y2 y3 y4 y5 y6 y7 y8 y9 y10 y11 y12)) ∧ (∀ y0 y1 y2 y3 y4 y5 y6 y7 y8 y9, LeO (contangolaw39_StressMost.l2 k y0 y1 y2 y3 y4 y5 y6 y7 y8 y9) (contangolaw39_StressMost.l2 (k + 1) y0 y1 y2 y3 y4 y5 y6 y7 y8 y9)) ∧ (∀ y0 y1 y2 y3 y4 y5 y6 y7 y8 y9 y10 y11 y12, LeO (contangolaw39_StressMost.l3 k y0 y1 y2 y3 y4 y5 y6 y7 y8 y9 y10 y11 y12) (contangolaw39_StressMost.l3 (k + 1) y0 y1 y2 y3 y4 y5 y6 y7 y8 y9 y10 y11 y12))
  | 0 => ⟨fun _ _ _ _ _ _ _ _ r h => by simp [contangolaw39_StressMost.l0] at h, fun _ _ _ _ _ _ _ _ _ _ _ r h => by simp [contangolaw39_StressMost.j1] at h, fun _ _ _ _ _ _ _ _ _ _ _ _ _ r h => by simp [contangolaw39_StressMost.l1] at h, fun _ _ _ _ _ _ _ _ _ _ r h => by simp [contangolaw39_StressMost.l2] at h, fun _ _ _ _ _ _ _ _ _ _ _ _ _ r h => by simp [contangolaw39_StressMost.l3] at h⟩
  | k + 1 => by
    obtain ⟨ih0, ih1, ih2, ih3, ih4⟩ := contangolaw39_StressMost.mono_l k
    refine ⟨?_, ?_, ?_, ?_, ?_⟩
    · intro y0 y1 y2 y3 y4 y5 y6 y7
      unfold contangolaw39_StressMost.l0
      repeat' first
      | (with_reducible exact ih0 _ _ _ _ _ _ _ _)
      | (with_reducible exact ih1 _ _ _ _ _ _ _ _ _ _ _)
      | (with_reducible exact ih2 _ _ _ _ _ _ _ _ _ _ _ _ _)
      | (with_reducible exact ih3 _ _ _ _ _ _ _ _ _ _)
      | (with_reducible exact ih4 _ _ _ _ _ _ _ _ _ _ _ _ _)
      | (with_reducible exact contangolaw39_few.mono _ _)
      | (with_reducible exact contangolaw39_goes.mono _)
      | (with_reducible exact stress_Bare.mono _ _ _)
      | (with_reducible exact stress_Two.mono _ _)
      | (with_reducible exact stress_Worst.mono _ _ _)
      | (with_reducible exact LeO.refl _)
      | (with_reducible exact LeO.none _)
      | (with_reducible refine LeO.ite ?_ ?_)
      | (with_reducible refine LeO.bind ?_ (fun _ => ?_))
      | exact ih0 _ _ _ _ _ _ _ _
      | exact ih1 _ _ _ _ _ _ _ _ _ _ _
      | exact ih2 _ _ _ _ _ _ _ _ _ _ _ _ _
      | exact ih3 _ _ _ _ _ _ _ _ _ _
      | exact ih4 _ _ _ _ _ _ _ _ _ _ _ _ _
      | exact contangolaw39_few.mono _ _
      | exact contangolaw39_goes.mono _
      | exact stress_Bare.mono _ _ _
      | exact stress_Two.mono _ _
      | exact stress_Worst.mono _ _ _
      | exact LeO.none _
      | refine LeO.ite ?_ ?_
      | refine LeO.bind ?_ (fun _ => ?_)
    · intro y0 y1 y2 y3 y4 y5 y6 y7 y8 y9 y10
      unfold contangolaw39_StressMost.j1
      repeat' first
      | (with_reducible exact ih0 _ _ _ _ _ _ _ _)
      | (with_reducible exact ih1 _ _ _ _ _ _ _ _ _ _ _)
      | (with_reducible exact ih2 _ _ _ _ _ _ _ _ _ _ _ _ _)
      | (with_reducible exact ih3 _ _ _ _ _ _ _ _ _ _)
      | (with_reducible exact ih4 _ _ _ _ _ _ _ _ _ _ _ _ _)
      | (with_reducible exact contangolaw39_few.mono _ _)
      | (with_reducible exact contangolaw39_goes.mono _)
      | (with_reducible exact stress_Bare.mono _ _ _)
      | (with_reducible exact stress_Two.mono _ _)
      | (with_reducible exact stress_Worst.mono _ _ _)
      | (with_reducible exact LeO.refl _)
      | (with_reducible exact LeO.none _)
      | (with_reducible refine LeO.ite ?_ ?_)
      | (with_reducible refine LeO.bind ?_ (fun _ => ?_))
      | exact ih0 _ _ _ _ _ _ _ _
      | exact ih1 _ _ _ _ _ _ _ _ _ _ _
      | exact ih2 _ _ _ _ _ _ _ _ _ _ _ _ _
      | exact ih3 _ _ _ _ _ _ _ _ _ _
      | exact ih4 _ _ _ _ _ _ _ _ _ _ _ _ _
      | exact contangolaw39_few.mono _ _
      | exact contangolaw39_goes.mono _
      | exact stress_Bare.mono _ _ _
      | exact stress_Two.mono _ _
      | exact stress_Worst.mono _ _ _
      | exact LeO.none _
      | refine LeO.ite ?_ ?_
      | refine LeO.bind ?_ (fun _ => ?_)
    · intro y0 y1 y2 y3 y4 y5 y6 y7 y8 y9 y10 y11 y12
      unfold contangolaw39_StressMost.l1
      repeat' first
      | (with_reducible exact ih0 _ _ _ _ _ _ _ _)
      | (with_reducible exact ih1 _ _ _ _ _ _ _ _ _ _ _)
      | (with_reducible exact ih2 _ _ _ _ _ _ _ _ _ _ _ _ _)
      | (with_reducible exact ih3 _ _ _ _ _ _ _ _ _ _)
      | (with_reducible exact ih4 _ _ _ _ _ _ _ _ _ _ _ _ _)
      | (with_reducible exact contangolaw39_few.mono _ _)
      | (with_reducible exact contangolaw39_goes.mono _)
      | (with_reducible exact stress_Bare.mono _ _ _)
      | (with_reducible exact stress_Two.mono _ _)
      | (with_reducible exact stress_Worst.mono _ _ _)
      | (with_reducible exact LeO.refl _)
      | (with_reducible exact LeO.none _)
      | (with_reducible refine LeO.ite ?_ ?_)
      | (with_reducible refine LeO.bind ?_ (fun _ => ?_))
      | exact ih0 _ _ _ _ _ _ _ _
      | exact ih1 _ _ _ _ _ _ _ _ _ _ _
      | exact ih2 _ _ _ _ _ _ _ _ _ _ _ _ _
      | exact ih3 _ _ _ _ _ _ _ _ _ _
      | exact ih4 _ _ _ _ _ _ _ _ _ _ _ _ _
      | exact contangolaw39_few.mono _ _
      | exact contangolaw39_goes.mono _
      | exact stress_Bare.mono _ _ _
      | exact stress_Two.mono _ _
      | exact stress_Worst.mono _ _ _
      | exact LeO.none _
      | refine LeO.ite ?_ ?_
      | refine LeO.bind ?_ (fun _ => ?_)
    · intro y0 y1 y2 y3 y4 y5 y6 y7 y8 y9
      unfold contangolaw39_StressMost.l2
      repeat' first
      | (with_reducible exact ih0 _ _ _ _ _ _ _ _)
      | (with_reducible exact ih1 _ _ _ _ _ _ _ _ _ _ _)
      | (with_reducible exact ih2 _ _ _ _ _ _ _ _ _ _ _ _ _)
      | (with_reducible exact ih3 _ _ _ _ _ _ _ _ _ _)
      | (with_reducible exact ih4 _ _ _ _ _ _ _ _ _ _ _ _ _)
      | (with_reducible exact contangolaw39_few.mono _ _)
      | (with_reducible exact contangolaw39_goes.mono _)
      | (with_reducible exact stress_Bare.mono _ _ _)
      | (with_reducible exact stress_Two.mono _ _)
      | (with_reducible exact stress_Worst.mono _ _ _)
      | (with_reducible exact LeO.refl _)
      | (with_reducible exact LeO.none _)
      | (with_reducible refine LeO.ite ?_ ?_)
      | (with_reducible refine LeO.bind ?_ (fun _ => ?_))
      | exact ih0 _ _ _ _ _ _ _ _
      | exact ih1 _ _ _ _ _ _ _ _ _ _ _
      | exact ih2 _ _ _ _ _ _ _ _ _ _ _ _ _
      | exact ih3 _ _ _ _ _ _ _ _ _ _
      | exact ih4 _ _ _ _ _ _ _ _ _ _ _ _ _
      | exact contangolaw39_few.mono _ _
      | exact contangolaw39_goes.mono _
      | exact stress_Bare.mono _ _ _
      | exact stress_Two.mono _ _
      | exact stress_Worst.mono _ _ _
      | exact LeO.none _
      | refine LeO.ite ?_ ?_
      | refine LeO.bind ?_ (fun _ => ?_)
    · intro y0 y1 y2 y3 y4 y5 y6 y7 y8 y9 y10 y11 y12
      unfold contangolaw39_StressMost.l3
      repeat' first
      | (with_reducible exact ih0 _ _ _ _ _ _ _ _)
      | (with_reducible exact ih1 _ _ _ _ _ _ _ _ _ _ _)
      | (with_reducible exact ih2 _ _ _ _ _ _ _ _ _ _ _ _ _)
      | (with_reducible exact ih3 _ _ _ _ _ _ _ _ _ _)
      | (with_reducible exact ih4 _ _ _ _ _ _ _ _ _ _ _ _ _)
      | (with_reducible exact contangolaw39_few.mono _ _)
      | (with_reducible exact contangolaw39_goes.mono _)
      | (with_reducible exact stress_Bare.mono _ _ _)
      | (with_reducible exact stress_Two.mono _ _)
      | (with_reducible exact stress_Worst.mono _ _ _)
      | (with_reducible exact LeO.refl _)
      | (with_reducible exact LeO.none _)
      | (with_reducible refine LeO.ite ?_ ?_)
      | (with_reducible refine LeO.bind ?_ (fun _ => ?_))
      | exact ih0 _ _ _ _ _ _ _ _
      | exact ih1 _ _ _ _ _ _ _ _ _ _ _
      | exact ih2 _ _ _ _ _ _ _ _ _ _ _ _ _
      | exact ih3 _ _ _ _ _ _ _ _ _ _
      | exact ih4 _ _ _ _ _ _ _ _ _ _ _ _ _
      | exact contangolaw39_few.mono _ _
      | exact contangolaw39_goes.mono _
      | exact stress_Bare.mono _ _ _
      | exact stress_Two.mono _ _
      | exact stress_Worst.mono _ _ _
      | exact LeO.none _
      | refine LeO.ite ?_ ?_
      | refine LeO.bind ?_ (fun _ => ?_)
theorem contangolaw39_StressMost.mono : ∀ a0 k, LeO (contangolaw39_StressMost.f k a0) (contangolaw39_StressMost.f (k + 1) a0) := by
  intro a0 k
  obtain ⟨ih0, ih1, ih2, ih3, ih4⟩ := contangolaw39_StressMost.mono_l k
  unfold contangolaw39_StressMost.f
  repeat' first
      | (with_reducible exact ih0 _ _ _ _ _ _ _ _)
      | (with_reducible exact ih1 _ _ _ _ _ _ _ _ _ _ _)
      | (with_reducible exact ih2 _ _ _ _ _ _ _ _ _ _ _ _ _)
      | (with_reducible exact ih3 _ _ _ _ _ _ _ _ _ _)
      | (with_reducible exact ih4 _ _ _ _ _ _ _ _ _ _ _ _ _)
      | (with_reducible exact contangolaw39_few.mono _ _)
      | (with_reducible exact contangolaw39_goes.mono _)
      | (with_reducible exact stress_Bare.mono _ _ _)
      | (with_reducible exact stress_Two.mono _ _)
      | (with_reducible exact stress_Worst.mono _ _ _)
      | (with_reducible exact LeO.refl _)
      | (with_reducible exact LeO.none _)
      | (with_reducible refine LeO.ite ?_ ?_)
      | (with_reducible refine LeO.bind ?_ (fun _ => ?_))
      | exact ih0 _ _ _ _ _ _ _ _
      | exact ih1 _ _ _ _ _ _ _ _ _ _ _
      | exact ih2 _ _ _ _ _ _ _ _ _ _ _ _ _
      | exact ih3 _ _ _ _ _ _ _ _ _ _
      | exact ih4 _ _ _ _ _ _ _ _ _ _ _ _ _
      | exact contangolaw39_few.mono _ _
      | exact contangolaw39_goes.mono _
      | exact stress_Bare.mono _ _ _
      | exact stress_Two.mono _ _
      | exact stress_Worst.mono _ _ _
      | exact LeO.none _
      | refine LeO.ite ?_ ?_
      | refine LeO.bind ?_ (fun _ => ?_)
set_option maxHeartbeats 8000000 in
set_option maxRecDepth 100000 in
theorem contangolaw39_StressMost.calls (k : Nat) (A0 : Option Addr) (c0 : Nat) (l0 : List (S49)) (r : Bool) (hrt : r = true) (w : World) (hr0 : Kd.C k49 w A0 l0.length l0) (hc0 : l0.length ≤ c0) (h : contangolaw39_StressMost.f k l0 = some r) :
    Calls Try.prog 5 #[.slice A0 l0.length c0] w fun e w' => e = .returned (.bool r) ∧ Below w.heap.size w w' := by
  have HR0 := Aside0.mk hr0
  have HC0 := Aside0.mk hc0
  clear hr0 hc0
  have HB := Aside0.mk (Below.refl w.heap.size w)
  have HRT := Aside0.mk hrt
  clear hrt
  have H : ((contangolaw39_few.f k l0).bind fun t187 => (if t187 = true then ((stress_Two.f k l0).bind fun bt189 => (if bt189.2.2.2 = 0 then (contangolaw39_StressMost.l0 k l0 bt189.1 bt189.2.1 bt189.2.2.1 0 0 (l0.length : Int) 0) else (if bt189.1 = 0 then (if bt189.2.1 = 0 then (if (bt189.2.2.1.length : Int) = 0 then ((contangolaw39_goes.f k).bind fun t195 => (some t195)) else (some false)) else (some false)) else (some false)))) else ((contangolaw39_goes.f k).bind fun t188 => (some t188)))) = some r := h
  clear h
  replace H := Option.bind_eq_some_iff.mp H
  obtain ⟨t187, A20, H⟩ := H
  replace H : (if t187 = true then ((stress_Two.f k l0).bind fun bt189 => (if bt189.2.2.2 = 0 then (contangolaw39_StressMost.l0 k l0 bt189.1 bt189.2.1 bt189.2.2.1 0 0 (l0.length : Int) 0) else (if bt189.1 = 0 then (if bt189.2.1 = 0 then (if (bt189.2.2.1.length : Int) = 0 then ((contangolaw39_goes.f k).bind fun t195 => (some t195)) else (some false)) else (some false)) else (some false)))) else ((contangolaw39_goes.f k).bind fun t188 => (some t188))) = some r := H
  have A2 := Aside0.mk A20
  clear A20
  by_cases c3 : t187 = true
  · subst c3
    have H1 : ((stress_Two.f k l0).bind fun bt189 => (if bt189.2.2.2 = 0 then (contangolaw39_StressMost.l0 k l0 bt189.1 bt189.2.1 bt189.2.2.1 0 0 (l0.length : Int) 0) else (if bt189.1 = 0 then (if bt189.2.1 = 0 then (if (bt189.2.2.1.length : Int) = 0 then ((contangolaw39_goes.f k).bind fun t195 => (some t195)) else (some false)) else (some false)) else (some false)))) = some r := by rw [if_pos rfl] at H; exact H
    clear H
    have H := H1
    clear H1
    replace H := Option.bind_eq_some_iff.mp H
    obtain ⟨⟨t189, t190, t191, t192⟩, A40, H⟩ := H
    replace H : (if t192 = 0 then (contangolaw39_StressMost.l0 k l0 t189 t190 t191 0 0 (l0.length : Int) 0) else (if t189 = 0 then (if t190 = 0 then (if (t191.length : Int) = 0 then ((contangolaw39_goes.f k).bind fun t195 => (some t195)) else (some false)) else (some false)) else (some false))) = some r := H
    have A4 := Aside0.mk A40
    clear A40
    by_cases c5 : t192 = 0
    · rw [if_pos c5] at H
      have c5b0 : (t192 == 0) = true := beq_iff_eq.mpr c5
      have c5b1 : (t192 != 0) = false := bne_eq_false_iff_eq.mpr c5
      clear c5
      have H' := Aside0.mk H
      clear H
      go_enter Try.func5, Try.ntmps5
      go_wp2_with (first | (go_at_call 8; (with_reducible refine (contangolaw39_few.calls k _ _ l0 true _ ?side1 ?side2 A2.out).mono ?_); (case side1 => repeat (first | exact HR0.out | (with_reducible refine Kd.C_alloc ?_ _) | (with_reducible refine Kd.C_drewN ?_ _) | (with_reducible refine Kd.C_drew ?_))); (case side2 => exact HC0.out); rintro e w' ⟨rfl, ⟨nd, rfl⟩⟩; (try first | exact ⟨rfl, _, World.drewN_drewN _ _ _⟩ | exact ⟨rfl, _, Eq.trans (World.drewN_drewN _ _ _) (congrArg (World.drewN _) (Nat.add_assoc _ _ _))⟩)) | (go_at_call 18; (with_reducible refine (stress_Two.calls k _ _ l0 t189 t190 t191 t192 _ ?side1 ?side2 A4.out).mono ?_); (case side1 => repeat (first | exact HR0.out | (with_reducible refine Kd.C_alloc ?_ _) | (with_reducible refine Kd.C_drewN ?_ _) | (with_reducible refine Kd.C_drew ?_))); (case side2 => exact HC0.out); rintro e w6 ⟨v193, rfl, ho0, hb⟩; have n0_ := Aside0.mk (Kd.R_lower ho0 (below_size (by repeat (first | (with_reducible first | exact HB.out | apply below_alloc | apply pw_below_drewN | apply below_drew1) | exact HB.out)))); have n1_ := Aside0.mk (below_step (by repeat (first | (with_reducible first | exact HB.out | apply below_alloc | apply pw_below_drewN | apply below_drew1) | exact HB.out)) hb); clear HB; have HO194 := n0_; have HB := n1_; clear n0_ n1_; (try clear hb); (try clear hb2); (try clear hk); (try clear hi); (try clear ho0)))
      repeat (go_quiet (first | (go_at_call 8; (with_reducible refine (contangolaw39_few.calls k _ _ l0 true _ ?side1 ?side2 A2.out).mono ?_); (case side1 => repeat (first | exact HR0.out | (with_reducible refine Kd.C_alloc ?_ _) | (with_reducible refine Kd.C_drewN ?_ _) | (with_reducible refine Kd.C_drew ?_))); (case side2 => exact HC0.out); rintro e w' ⟨rfl, ⟨nd, rfl⟩⟩; (try first | exact ⟨rfl, _, World.drewN_drewN _ _ _⟩ | exact ⟨rfl, _, Eq.trans (World.drewN_drewN _ _ _) (congrArg (World.drewN _) (Nat.add_assoc _ _ _))⟩)) | (go_at_call 18; (with_reducible refine (stress_Two.calls k _ _ l0 t189 t190 t191 t192 _ ?side1 ?side2 A4.out).mono ?_); (case side1 => repeat (first | exact HR0.out | (with_reducible refine Kd.C_alloc ?_ _) | (with_reducible refine Kd.C_drewN ?_ _) | (with_reducible refine Kd.C_drew ?_))); (case side2 => exact HC0.out); rintro e w6 ⟨v193, rfl, ho0, hb⟩; have n0_ := Aside0.mk (Kd.R_lower ho0 (below_size (by repeat (first | (with_reducible first | exact HB.out | apply below_alloc | apply pw_below_drewN | apply below_drew1) | exact HB.out)))); have n1_ := Aside0.mk (below_step (by repeat (first | (with_reducible first | exact HB.out | apply below_alloc | apply pw_below_drewN | apply below_drew1) | exact HB.out)) hb); clear HB; have HO194 := n0_; have HB := n1_; clear n0_ n1_; (try clear hb); (try clear hb2); (try clear hk); (try clear hi); (try clear ho0))); try go_wp2_with (first | (go_at_call 8; (with_reducible refine (contangolaw39_few.calls k _ _ l0 true _ ?side1 ?side2 A2.out).mono ?_); (case side1 => repeat (first | exact HR0.out | (with_reducible refine Kd.C_alloc ?_ _) | (with_reducible refine Kd.C_drewN ?_ _) | (with_reducible refine Kd.C_drew ?_))); (case side2 => exact HC0.out); rintro e w' ⟨rfl, ⟨nd, rfl⟩⟩; (try first | exact ⟨rfl, _, World.drewN_drewN _ _ _⟩ | exact ⟨rfl, _, Eq.trans (World.drewN_drewN _ _ _) (congrArg (World.drewN _) (Nat.add_assoc _ _ _))⟩)) | (go_at_call 18; (with_reducible refine (stress_Two.calls k _ _ l0 t189 t190 t191 t192 _ ?side1 ?side2 A4.out).mono ?_); (case side1 => repeat (first | exact HR0.out | (with_reducible refine Kd.C_alloc ?_ _) | (with_reducible refine Kd.C_drewN ?_ _) | (with_reducible refine Kd.C_drew ?_))); (case side2 => exact HC0.out); rintro e w6 ⟨v193, rfl, ho0, hb⟩; have n0_ := Aside0.mk (Kd.R_lower ho0 (below_size (by repeat (first | (with_reducible first | exact HB.out | apply below_alloc | apply pw_below_drewN | apply below_drew1) | exact HB.out)))); have n1_ := Aside0.mk (below_step (by repeat (first | (with_reducible first | exact HB.out | apply below_alloc | apply pw_below_drewN | apply below_drew1) | exact HB.out)) hb); clear HB; have HO194 := n0_; have HB := n1_; clear n0_ n1_; (try clear hb); (try clear hb2); (try clear hk); (try clear hi); (try clear ho0))))
      go_loopg [7, 8, 50] k (fun kq v7 v8 v50 w' => ∃ (x7_1 : Int) (x8_1 : Int) (x50_1 : Int), v7 = .int .i64 x7_1 ∧ v8 = .int .i64 x8_1 ∧ v50 = .int .i64 x50_1 ∧ Aside0 (contangolaw39_StressMost.l0 kq l0 t189 t190 t191 x7_1 x8_1 (l0.length : Int) x50_1 = some r) ∧ Aside0 (kq ≤ k) ∧ Aside0 (Kd.R Kd.string 9 w' w.heap.size (fun _ => True) v193 t191) ∧ Aside0 (Below w.heap.size w w'))
      case atStart => exact ⟨(0), (0), (0), (by first | rfl | (simp; done) | (simp [*]; done)), (by first | rfl | (simp; done) | (simp [*]; done)), (by first | rfl | (simp; done) | (simp [*]; done)), H', ⟨Nat.le_refl _⟩, ⟨by (with_reducible repeat (first | apply Kd.R_alloc | apply Kd.R_drewN | apply Kd.R_drew)); exact HO194.out⟩, ⟨by repeat (first | (with_reducible first | exact HB.out | apply below_alloc | apply pw_below_drewN | apply below_drew1) | exact HB.out)⟩⟩
      case round =>
        clear H'
        try clear p2
        try clear c3
        try clear c5
        try clear c5b0
        try clear c5b1
        obtain ⟨x7_1, x8_1, x50_1, rfl, rfl, rfl, HA, HK1, HO_5, HB⟩ := hrel
        cases gk with
        | zero => exact absurd HA.out (by simp [contangolaw39_StressMost.l0])
        | succ k1 =>
          have H := HA.out
          clear HA
          simp only [contangolaw39_StressMost.l0] at H
          by_cases c7 : x50_1 < (l0.length : Int)
          · rw [if_pos c7] at H
            have c7b0 : decide (x50_1 < (l0.length : Int)) = true := decide_eq_true c7
            clear c7
            by_cases c8 : 0 ≤ x50_1
            · rw [if_pos c8] at H
              have c8b0 : decide (0 ≤ x50_1) = true := decide_eq_true c8
              clear c8
              by_cases c9 : x50_1 < (l0.length : Int)
              · rw [if_pos c9] at H
                have c9b0 : decide (x50_1 < (l0.length : Int)) = true := decide_eq_true c9
                clear c9
                replace H := Option.bind_eq_some_iff.mp H
                obtain ⟨⟨t197, t198, t199⟩, A100, H⟩ := H
                replace H : (if t199 = 0 then (if t197 > t189 then (contangolaw39_StressMost.j1 k1 l0 t189 t190 t191 x7_1 x8_1 x50_1 t197 (l0.length : Int) x50_1 true) else (contangolaw39_StressMost.j1 k1 l0 t189 t190 t191 x7_1 x8_1 x50_1 t197 (l0.length : Int) x50_1 (decide (t197 < 0)))) else (contangolaw39_StressMost.j1 k1 l0 t189 t190 t191 x7_1 x8_1 x50_1 t197 (l0.length : Int) x50_1 true)) = some r := H
                have A10 := Aside0.mk A100
                clear A100
                have HC11 := Aside0.mk H
                clear H
                have p196 : 0 ≤ (x50_1 : Int) := of_decide_eq_true (by first | (with_reducible assumption) | assumption)
                have q196 : x50_1 < (l0.length : Int) := of_decide_eq_true (by first | (with_reducible assumption) | assumption)
                obtain ⟨ad196, A196_2, c196_2, e196, hx196_0, hx196_1, hx196_2, hx196_3, hl196_2, hi196_2⟩ := at_T49 HR0.out x50_1 p196 q196
                cases e196
                replace hx196_0 := (HB.out.cell (World.block_lt_of_cell? w _ hx196_0)).trans hx196_0
                replace hx196_1 := (HB.out.cell (World.block_lt_of_cell? w _ hx196_1)).trans hx196_1
                replace hx196_2 := (HB.out.cell (World.block_lt_of_cell? w _ hx196_2)).trans hx196_2
                replace hx196_3 := (HB.out.cell (World.block_lt_of_cell? w _ hx196_3)).trans hx196_3
                have HR196_2 := Aside0.mk hi196_2
                have HC196_2 := Aside0.mk hl196_2
                clear hi196_2 hl196_2
                replace p196 := eq_true p196
                replace q196 := eq_true q196
                go_upto_region 11 with (first | (go_at_call 20; (with_reducible refine (stress_Worst.calls k1 _ _ l0 ((rd_T49 l0 x50_1).f1) t197 t198 t199 _ ?side1 ?side2 A10.out).mono ?_); (case side1 => repeat (first | exact (Kd.C_below HR0.out HB.out) | (with_reducible refine Kd.C_alloc ?_ _) | (with_reducible refine Kd.C_drewN ?_ _) | (with_reducible refine Kd.C_drew ?_))); (case side2 => exact HC0.out); rintro e w12 ⟨rfl, hb⟩; have n0_ := Aside0.mk (Kd.R_below (by (with_reducible repeat (first | apply Kd.R_alloc | apply Kd.R_drewN | apply Kd.R_drew)); exact HO_5.out) hb); have n1_ := Aside0.mk (below_step (by repeat (first | (with_reducible first | exact HB.out | apply below_alloc | apply pw_below_drewN | apply below_drew1) | exact HB.out)) hb); clear HO_5; clear HB; have HO_5 := n0_; have HB := n1_; clear n0_ n1_; (try clear hb); (try clear hb2); (try clear hk); (try clear hi)))
                repeat (go_quiet (first | (go_at_call 20; (with_reducible refine (stress_Worst.calls k1 _ _ l0 ((rd_T49 l0 x50_1).f1) t197 t198 t199 _ ?side1 ?side2 A10.out).mono ?_); (case side1 => repeat (first | exact (Kd.C_below HR0.out HB.out) | (with_reducible refine Kd.C_alloc ?_ _) | (with_reducible refine Kd.C_drewN ?_ _) | (with_reducible refine Kd.C_drew ?_))); (case side2 => exact HC0.out); rintro e w12 ⟨rfl, hb⟩; have n0_ := Aside0.mk (Kd.R_below (by (with_reducible repeat (first | apply Kd.R_alloc | apply Kd.R_drewN | apply Kd.R_drew)); exact HO_5.out) hb); have n1_ := Aside0.mk (below_step (by repeat (first | (with_reducible first | exact HB.out | apply below_alloc | apply pw_below_drewN | apply below_drew1) | exact HB.out)) hb); clear HO_5; clear HB; have HO_5 := n0_; have HB := n1_; clear n0_ n1_; (try clear hb); (try clear hb2); (try clear hk); (try clear hi))); go_upto_region 11 with (first | (go_at_call 20; (with_reducible refine (stress_Worst.calls k1 _ _ l0 ((rd_T49 l0 x50_1).f1) t197 t198 t199 _ ?side1 ?side2 A10.out).mono ?_); (case side1 => repeat (first | exact (Kd.C_below HR0.out HB.out) | (with_reducible refine Kd.C_alloc ?_ _) | (with_reducible refine Kd.C_drewN ?_ _) | (with_reducible refine Kd.C_drew ?_))); (case side2 => exact HC0.out); rintro e w12 ⟨rfl, hb⟩; have n0_ := Aside0.mk (Kd.R_below (by (with_reducible repeat (first | apply Kd.R_alloc | apply Kd.R_drewN | apply Kd.R_drew)); exact HO_5.out) hb); have n1_ := Aside0.mk (below_step (by repeat (first | (with_reducible first | exact HB.out | apply below_alloc | apply pw_below_drewN | apply below_drew1) | exact HB.out)) hb); clear HO_5; clear HB; have HO_5 := n0_; have HB := n1_; clear n0_ n1_; (try clear hb); (try clear hb2); (try clear hk); (try clear hi))))
                (try simp only [Act.put, List.setIfInBounds_toArray, List.set_cons_zero, List.set_cons_succ])
                go_cut [74] (fun v74 wc => ∃ (kq : Nat) (x74_10 : Bool), v74 = .bool x74_10 ∧ Aside0 (contangolaw39_StressMost.j1 kq l0 t189 t190 t191 x7_1 x8_1 x50_1 t197 (l0.length : Int) x50_1 x74_10 = some r) ∧ Aside0 (kq ≤ k1) ∧ Aside0 (Kd.R Kd.string 9 wc w.heap.size (fun _ => True) v193 t191) ∧ Aside0 (Below w.heap.size w wc))
                case first =>
                  have H := HC11.out
                  clear HC11
                  by_cases c13 : t199 = 0
                  · rw [if_pos c13] at H
                    have c13b0 : (t199 == 0) = true := beq_iff_eq.mpr c13
                    have c13b1 : (t199 != 0) = false := bne_eq_false_iff_eq.mpr c13
                    clear c13
                    (first | rw [c13b0] | (simp only [i64_w, i32_w]; rw [c13b0]) | skip)
                    by_cases c14 : t197 > t189
                    · rw [if_pos c14] at H
                      (rcases k1 with _ | k1 <;> exact absurd (H.trans (congrArg some HRT.out)) (by first | simp [contangolaw39_StressMost.j1] | (simp only [contangolaw39_StressMost.j1]; (repeat' split) <;> simp)))
                    · rw [if_neg c14] at H
                      have c14b0 : decide (t189 < t197) = false := decide_eq_false c14
                      clear c14
                      have H' := Aside0.mk H
                      clear H
                      go_wp2
                      repeat (go_quiet (fail); try go_wp2)
                      go_meet
                      case rel => exact ⟨_, (decide (t197 < 0)), (by first | rfl | (simp; done) | (simp [*]; done)), H', ⟨by have := HK1.out; first | omega | exact Nat.le_refl _⟩, ⟨by (with_reducible repeat (first | apply Kd.R_alloc | apply Kd.R_drewN | apply Kd.R_drew)); exact HO_5.out⟩, ⟨by repeat (first | (with_reducible first | exact HB.out | apply below_alloc | apply pw_below_drewN | apply below_drew1) | exact HB.out)⟩⟩
                  · rw [if_neg c13] at H
                    (rcases k1 with _ | k1 <;> exact absurd (H.trans (congrArg some HRT.out)) (by first | simp [contangolaw39_StressMost.j1] | (simp only [contangolaw39_StressMost.j1]; (repeat' split) <;> simp)))
                case rest =>
                  clear HC11
                  try clear c1
                  try clear p1
                  try clear q1
                  try clear hx1
                  try clear p2
                  try clear c3
                  try clear c5
                  try clear c5b0
                  try clear c5b1
                  try clear c7
                  try clear c7b0
                  try clear c8
                  try clear c8b0
                  try clear c9
                  try clear c9b0
                  try clear c13
                  try clear c13b0
                  try clear c13b1
                  try clear c14
                  try clear c14b0
                  try clear hx196_0
                  try clear hx196_1
                  try clear hx196_2
                  try clear hx196_3
                  try clear p196
                  try clear p2
                  try clear q196
                  obtain ⟨kq, x74_10, rfl, HA, HJ10, HO_5, HB⟩ := hcut
                  cases kq with
                  | zero => exact absurd HA.out (by simp [contangolaw39_StressMost.j1])
                  | succ kj10 =>
                    have H := HA.out
                    clear HA
                    simp only [contangolaw39_StressMost.j1] at H
                    by_cases c15 : x74_10 = true
                    · subst c15
                      have H1 : (some false) = some r := by rw [if_pos rfl] at H; exact H
                      clear H
                      have H := H1
                      clear H1
                      exact absurd (H.trans (congrArg some HRT.out)) (by first | simp [contangolaw39_StressMost.j1] | (simp only [contangolaw39_StressMost.j1]; (repeat' split) <;> simp))
                    · replace c15 := Bool.eq_false_iff.mpr c15
                      subst c15
                      have H1 : (contangolaw39_StressMost.l1 kj10 l0 t189 t190 t191 x7_1 x8_1 x50_1 t197 false (l0.length : Int) x50_1 x50_1 0) = some r := by rw [if_neg (show ¬ (false = true) by decide)] at H; exact H
                      clear H
                      have H := H1
                      clear H1
                      have H' := Aside0.mk H
                      clear H
                      go_wp2
                      repeat (go_quiet (fail); try go_wp2)
                      go_loopg [13, 76] kj10 (fun kq v13 v76 w' => ∃ (x13_3 : Bool) (x76_3 : Int), v13 = .bool x13_3 ∧ v76 = .int .i64 x76_3 ∧ Aside0 (contangolaw39_StressMost.l1 kq l0 t189 t190 t191 x7_1 x8_1 x50_1 t197 x13_3 (l0.length : Int) x50_1 x50_1 x76_3 = some r) ∧ Aside0 (kq ≤ kj10) ∧ Aside0 (Kd.R Kd.string 9 w' w.heap.size (fun _ => True) v193 t191) ∧ Aside0 (Below w.heap.size w w'))
                      case atStart => exact ⟨(false), (0), (by first | rfl | (simp; done) | (simp [*]; done)), (by first | rfl | (simp; done) | (simp [*]; done)), H', ⟨Nat.le_refl _⟩, ⟨by (with_reducible repeat (first | apply Kd.R_alloc | apply Kd.R_drewN | apply Kd.R_drew)); exact HO_5.out⟩, ⟨by repeat (first | (with_reducible first | exact HB.out | apply below_alloc | apply pw_below_drewN | apply below_drew1) | exact HB.out)⟩⟩
                      case round =>
                        clear H'
                        try clear c1
                        try clear p1
                        try clear q1
                        try clear hx1
                        try clear p2
                        try clear c3
                        try clear c5
                        try clear c5b0
                        try clear c5b1
                        try clear c7
                        try clear c7b0
                        try clear c8
                        try clear c8b0
                        try clear c9
                        try clear c9b0
                        try clear c13
                        try clear c13b0
                        try clear c13b1
                        try clear c14
                        try clear c14b0
                        try clear c15
                        try clear hx196_0
                        try clear hx196_1
                        try clear hx196_2
                        try clear hx196_3
                        try clear p1
                        try clear p196
                        try clear p2
                        try clear q1
                        try clear q196
                        obtain ⟨x13_3, x76_3, rfl, rfl, HA, HK3, HO_5, HB⟩ := hrel
                        cases gk with
                        | zero => exact absurd HA.out (by simp [contangolaw39_StressMost.l1])
                        | succ k3 =>
                          have H := HA.out
                          clear HA
                          simp only [contangolaw39_StressMost.l1] at H
                          by_cases c16 : x76_3 < x50_1
                          · rw [if_pos c16] at H
                            have c16b0 : decide (x76_3 < x50_1) = true := decide_eq_true c16
                            clear c16
                            by_cases c17 : x13_3 = true
                            · subst c17
                              have H1 : (contangolaw39_StressMost.l1 k3 l0 t189 t190 t191 x7_1 x8_1 x50_1 t197 true (l0.length : Int) x50_1 x50_1 (wrap64 (x76_3 + 1))) = some r := by rw [if_pos rfl] at H; exact H
                              clear H
                              have H := H1
                              clear H1
                              have H' := Aside0.mk H
                              clear H
                              go_wp2
                              repeat (go_quiet (fail); try go_wp2)
                              go_roundg k3
                              case measure => have := HK1.out; have := HJ10.out; have := HK3.out; omega
                              case rel => exact ⟨(true), (wrap64 (x76_3 + 1)), (by first | rfl | (simp; done) | (simp [*]; done)), (by first | rfl | (simp; done) | (simp [*]; done)), H', ⟨by have := HK1.out; have := HJ10.out; have := HK3.out; omega⟩, ⟨by (with_reducible repeat (first | apply Kd.R_alloc | apply Kd.R_drewN | apply Kd.R_drew)); exact HO_5.out⟩, ⟨by repeat (first | (with_reducible first | exact HB.out | apply below_alloc | apply pw_below_drewN | apply below_drew1) | exact HB.out)⟩⟩
                            · replace c17 := Bool.eq_false_iff.mpr c17
                              subst c17
                              have H1 : (if 0 ≤ x76_3 then (if x76_3 < (l0.length : Int) then (if 0 ≤ x50_1 then (if x50_1 < (l0.length : Int) then (contangolaw39_StressMost.l1 k3 l0 t189 t190 t191 x7_1 x8_1 x50_1 t197 (((rd_T49 l0 x76_3).f1).toList == ((rd_T49 l0 x50_1).f1).toList) (l0.length : Int) x50_1 x50_1 (wrap64 (x76_3 + 1))) else (none)) else (none)) else (none)) else (none)) = some r := by rw [if_neg (show ¬ (false = true) by decide)] at H; exact H
                              clear H
                              have H := H1
                              clear H1
                              by_cases c18 : 0 ≤ x76_3
                              · rw [if_pos c18] at H
                                have c18b0 : decide (0 ≤ x76_3) = true := decide_eq_true c18
                                clear c18
                                by_cases c19 : x76_3 < (l0.length : Int)
                                · rw [if_pos c19] at H
                                  have c19b0 : decide (x76_3 < (l0.length : Int)) = true := decide_eq_true c19
                                  clear c19
                                  by_cases c20 : 0 ≤ x50_1
                                  · rw [if_pos c20] at H
                                    have c20b0 : decide (0 ≤ x50_1) = true := decide_eq_true c20
                                    clear c20
                                    by_cases c21 : x50_1 < (l0.length : Int)
                                    · rw [if_pos c21] at H
                                      have c21b0 : decide (x50_1 < (l0.length : Int)) = true := decide_eq_true c21
                                      clear c21
                                      have H' := Aside0.mk H
                                      clear H
                                      have p200 : 0 ≤ (x76_3 : Int) := of_decide_eq_true (by first | (with_reducible assumption) | assumption)
                                      have q200 : x76_3 < (l0.length : Int) := of_decide_eq_true (by first | (with_reducible assumption) | assumption)
                                      obtain ⟨ad200, A200_2, c200_2, e200, hx200_0, hx200_1, hx200_2, hx200_3, hl200_2, hi200_2⟩ := at_T49 HR0.out x76_3 p200 q200
                                      obtain rfl : ad196 = ad200 := (by injection e200)
                                      replace hx200_0 := (HB.out.cell (World.block_lt_of_cell? w _ hx200_0)).trans hx200_0
                                      replace hx200_1 := (HB.out.cell (World.block_lt_of_cell? w _ hx200_1)).trans hx200_1
                                      replace hx200_2 := (HB.out.cell (World.block_lt_of_cell? w _ hx200_2)).trans hx200_2
                                      replace hx200_3 := (HB.out.cell (World.block_lt_of_cell? w _ hx200_3)).trans hx200_3
                                      have HR200_2 := Aside0.mk hi200_2
                                      have HC200_2 := Aside0.mk hl200_2
                                      clear hi200_2 hl200_2
                                      replace p200 := eq_true p200
                                      replace q200 := eq_true q200
                                      have p201 : 0 ≤ (x50_1 : Int) := of_decide_eq_true (by first | (with_reducible assumption) | assumption)
                                      have q201 : x50_1 < (l0.length : Int) := of_decide_eq_true (by first | (with_reducible assumption) | assumption)
                                      obtain ⟨ad201, A201_2, c201_2, e201, hx201_0, hx201_1, hx201_2, hx201_3, hl201_2, hi201_2⟩ := at_T49 HR0.out x50_1 p201 q201
                                      obtain rfl : ad196 = ad201 := (by injection e201)
                                      replace hx201_0 := (HB.out.cell (World.block_lt_of_cell? w _ hx201_0)).trans hx201_0
                                      replace hx201_1 := (HB.out.cell (World.block_lt_of_cell? w _ hx201_1)).trans hx201_1
                                      replace hx201_2 := (HB.out.cell (World.block_lt_of_cell? w _ hx201_2)).trans hx201_2
                                      replace hx201_3 := (HB.out.cell (World.block_lt_of_cell? w _ hx201_3)).trans hx201_3
                                      have HR201_2 := Aside0.mk hi201_2
                                      have HC201_2 := Aside0.mk hl201_2
                                      clear hi201_2 hl201_2
                                      replace p201 := eq_true p201
                                      replace q201 := eq_true q201
                                      go_wp2
                                      repeat (go_quiet (fail); try go_wp2)
                                      go_roundg k3
                                      case measure => have := HK1.out; have := HJ10.out; have := HK3.out; omega
                                      case rel => exact ⟨((((rd_T49 l0 x76_3).f1).toList == ((rd_T49 l0 x50_1).f1).toList)), (wrap64 (x76_3 + 1)), (by first | rfl | (simp; done) | (simp [*]; done)), (by first | rfl | (simp; done) | (simp [*]; done)), H', ⟨by have := HK1.out; have := HJ10.out; have := HK3.out; omega⟩, ⟨by (with_reducible repeat (first | apply Kd.R_alloc | apply Kd.R_drewN | apply Kd.R_drew)); exact HO_5.out⟩, ⟨by repeat (first | (with_reducible first | exact HB.out | apply below_alloc | apply pw_below_drewN | apply below_drew1) | exact HB.out)⟩⟩
                                    · rw [if_neg c21] at H
                                      exact absurd H (by simp)
                                  · rw [if_neg c20] at H
                                    exact absurd H (by simp)
                                · rw [if_neg c19] at H
                                  exact absurd H (by simp)
                              · rw [if_neg c18] at H
                                exact absurd H (by simp)
                          · rw [if_neg c16] at H
                            have c16b0 : decide (x76_3 < x50_1) = false := decide_eq_false c16
                            clear c16
                            by_cases c22 : x13_3 = true
                            · subst c22
                              have H1 : (contangolaw39_StressMost.l0 k3 l0 t189 t190 t191 x7_1 x8_1 (l0.length : Int) (wrap64 (x50_1 + 1))) = some r := by rw [if_pos rfl] at H; exact H
                              clear H
                              have H := H1
                              clear H1
                              have H' := Aside0.mk H
                              clear H
                              go_wp2
                              repeat (go_quiet (fail); try go_wp2)
                              go_roundg k3
                              case measure => have := HK1.out; have := HJ10.out; have := HK3.out; omega
                              case rel => exact ⟨(x7_1), (x8_1), (wrap64 (x50_1 + 1)), (by first | rfl | (simp; done) | (simp [*]; done)), (by first | rfl | (simp; done) | (simp [*]; done)), (by first | rfl | (simp; done) | (simp [*]; done)), H', ⟨by have := HK1.out; have := HJ10.out; have := HK3.out; omega⟩, ⟨by (with_reducible repeat (first | apply Kd.R_alloc | apply Kd.R_drewN | apply Kd.R_drew)); exact HO_5.out⟩, ⟨by repeat (first | (with_reducible first | exact HB.out | apply below_alloc | apply pw_below_drewN | apply below_drew1) | exact HB.out)⟩⟩
                            · replace c22 := Bool.eq_false_iff.mpr c22
                              subst c22
                              have H1 : (if t197 > x7_1 then (contangolaw39_StressMost.l0 k3 l0 t189 t190 t191 t197 x7_1 (l0.length : Int) (wrap64 (x50_1 + 1))) else (if t197 > x8_1 then (contangolaw39_StressMost.l0 k3 l0 t189 t190 t191 x7_1 t197 (l0.length : Int) (wrap64 (x50_1 + 1))) else (contangolaw39_StressMost.l0 k3 l0 t189 t190 t191 x7_1 x8_1 (l0.length : Int) (wrap64 (x50_1 + 1))))) = some r := by rw [if_neg (show ¬ (false = true) by decide)] at H; exact H
                              clear H
                              have H := H1
                              clear H1
                              by_cases c23 : t197 > x7_1
                              · rw [if_pos c23] at H
                                have c23b0 : decide (x7_1 < t197) = true := decide_eq_true c23
                                clear c23
                                have H' := Aside0.mk H
                                clear H
                                go_wp2
                                repeat (go_quiet (fail); try go_wp2)
                                go_roundg k3
                                case measure => have := HK1.out; have := HJ10.out; have := HK3.out; omega
                                case rel => exact ⟨(t197), (x7_1), (wrap64 (x50_1 + 1)), (by first | rfl | (simp; done) | (simp [*]; done)), (by first | rfl | (simp; done) | (simp [*]; done)), (by first | rfl | (simp; done) | (simp [*]; done)), H', ⟨by have := HK1.out; have := HJ10.out; have := HK3.out; omega⟩, ⟨by (with_reducible repeat (first | apply Kd.R_alloc | apply Kd.R_drewN | apply Kd.R_drew)); exact HO_5.out⟩, ⟨by repeat (first | (with_reducible first | exact HB.out | apply below_alloc | apply pw_below_drewN | apply below_drew1) | exact HB.out)⟩⟩
                              · rw [if_neg c23] at H
                                have c23b0 : decide (x7_1 < t197) = false := decide_eq_false c23
                                clear c23
                                by_cases c24 : t197 > x8_1
                                · rw [if_pos c24] at H
                                  have c24b0 : decide (x8_1 < t197) = true := decide_eq_true c24
                                  clear c24
                                  have H' := Aside0.mk H
                                  clear H
                                  go_wp2
                                  repeat (go_quiet (fail); try go_wp2)
                                  go_roundg k3
                                  case measure => have := HK1.out; have := HJ10.out; have := HK3.out; omega
                                  case rel => exact ⟨(x7_1), (t197), (wrap64 (x50_1 + 1)), (by first | rfl | (simp; done) | (simp [*]; done)), (by first | rfl | (simp; done) | (simp [*]; done)), (by first | rfl | (simp; done) | (simp [*]; done)), H', ⟨by have := HK1.out; have := HJ10.out; have := HK3.out; omega⟩, ⟨by (with_reducible repeat (first | apply Kd.R_alloc | apply Kd.R_drewN | apply Kd.R_drew)); exact HO_5.out⟩, ⟨by repeat (first | (with_reducible first | exact HB.out | apply below_alloc | apply pw_below_drewN | apply below_drew1) | exact HB.out)⟩⟩
                                · rw [if_neg c24] at H
                                  have c24b0 : decide (x8_1 < t197) = false := decide_eq_false c24
                                  clear c24
                                  have H' := Aside0.mk H
                                  clear H
                                  go_wp2
                                  repeat (go_quiet (fail); try go_wp2)
                                  go_roundg k3
                                  case measure => have := HK1.out; have := HJ10.out; have := HK3.out; omega
                                  case rel => exact ⟨(x7_1), (x8_1), (wrap64 (x50_1 + 1)), (by first | rfl | (simp; done) | (simp [*]; done)), (by first | rfl | (simp; done) | (simp [*]; done)), (by first | rfl | (simp; done) | (simp [*]; done)), H', ⟨by have := HK1.out; have := HJ10.out; have := HK3.out; omega⟩, ⟨by (with_reducible repeat (first | apply Kd.R_alloc | apply Kd.R_drewN | apply Kd.R_drew)); exact HO_5.out⟩, ⟨by repeat (first | (with_reducible first | exact HB.out | apply below_alloc | apply pw_below_drewN | apply below_drew1) | exact HB.out)⟩⟩
              · rw [if_neg c9] at H
                exact absurd H (by simp)
            · rw [if_neg c8] at H
              exact absurd H (by simp)
          · rw [if_neg c7] at H
            have c7b0 : decide (x50_1 < (l0.length : Int)) = false := decide_eq_false c7
            clear c7
            replace H := Option.bind_eq_some_iff.mp H
            obtain ⟨⟨t202, t203, t204⟩, A250, H⟩ := H
            replace H : (contangolaw39_StressMost.l2 k1 t189 t191 x7_1 x8_1 t202 t203 t204 0 (t202.length : Int) 0) = some r := H
            have A25 := Aside0.mk A250
            clear A250
            have H' := Aside0.mk H
            clear H
            go_wp2_with (first | (go_at_call 11; (with_reducible refine (stress_Bare.calls k1 _ _ l0 t190 t202 t203 t204 _ ?side1 ?side2 A25.out).mono ?_); (case side1 => repeat (first | exact (Kd.C_below HR0.out HB.out) | (with_reducible refine Kd.C_alloc ?_ _) | (with_reducible refine Kd.C_drewN ?_ _) | (with_reducible refine Kd.C_drew ?_))); (case side2 => exact HC0.out); rintro e w26 ⟨v205, v207, rfl, ho0, ho1, hb⟩; have n0_ := Aside0.mk (Kd.R_elder' (by (with_reducible repeat (first | apply Kd.R_alloc | apply Kd.R_drewN | apply Kd.R_drew)); exact HO_5.out) (Kd.R_base ho0) hb); have n1_ := Aside0.mk (Kd.R_lower (Kd.R_new' ho0 (Kd.R_lt (by (with_reducible repeat (first | apply Kd.R_alloc | apply Kd.R_drewN | apply Kd.R_drew)); exact HO_5.out))) (below_size (by repeat (first | (with_reducible first | exact HB.out | apply below_alloc | apply pw_below_drewN | apply below_drew1) | exact HB.out)))); have n2_ := Aside0.mk (Kd.R_lower ho1 (below_size (by repeat (first | (with_reducible first | exact HB.out | apply below_alloc | apply pw_below_drewN | apply below_drew1) | exact HB.out)))); have n3_ := Aside0.mk (below_step (by repeat (first | (with_reducible first | exact HB.out | apply below_alloc | apply pw_below_drewN | apply below_drew1) | exact HB.out)) hb); clear HO_5; clear HB; have HO_5 := n0_; have HO206 := n1_; have HO208 := n2_; have HB := n3_; clear n0_ n1_ n2_ n3_; (try clear hb); (try clear hb2); (try clear hk); (try clear hi); (try clear ho0); (try clear ho1); obtain ⟨Ao27, co27, eo27⟩ := Kd.R_slice HO206.out; subst eo27))
            repeat (go_quiet (first | (go_at_call 11; (with_reducible refine (stress_Bare.calls k1 _ _ l0 t190 t202 t203 t204 _ ?side1 ?side2 A25.out).mono ?_); (case side1 => repeat (first | exact (Kd.C_below HR0.out HB.out) | (with_reducible refine Kd.C_alloc ?_ _) | (with_reducible refine Kd.C_drewN ?_ _) | (with_reducible refine Kd.C_drew ?_))); (case side2 => exact HC0.out); rintro e w26 ⟨v205, v207, rfl, ho0, ho1, hb⟩; have n0_ := Aside0.mk (Kd.R_elder' (by (with_reducible repeat (first | apply Kd.R_alloc | apply Kd.R_drewN | apply Kd.R_drew)); exact HO_5.out) (Kd.R_base ho0) hb); have n1_ := Aside0.mk (Kd.R_lower (Kd.R_new' ho0 (Kd.R_lt (by (with_reducible repeat (first | apply Kd.R_alloc | apply Kd.R_drewN | apply Kd.R_drew)); exact HO_5.out))) (below_size (by repeat (first | (with_reducible first | exact HB.out | apply below_alloc | apply pw_below_drewN | apply below_drew1) | exact HB.out)))); have n2_ := Aside0.mk (Kd.R_lower ho1 (below_size (by repeat (first | (with_reducible first | exact HB.out | apply below_alloc | apply pw_below_drewN | apply below_drew1) | exact HB.out)))); have n3_ := Aside0.mk (below_step (by repeat (first | (with_reducible first | exact HB.out | apply below_alloc | apply pw_below_drewN | apply below_drew1) | exact HB.out)) hb); clear HO_5; clear HB; have HO_5 := n0_; have HO206 := n1_; have HO208 := n2_; have HB := n3_; clear n0_ n1_ n2_ n3_; (try clear hb); (try clear hb2); (try clear hk); (try clear hi); (try clear ho0); (try clear ho1); obtain ⟨Ao27, co27, eo27⟩ := Kd.R_slice HO206.out; subst eo27)); try go_wp2_with (first | (go_at_call 11; (with_reducible refine (stress_Bare.calls k1 _ _ l0 t190 t202 t203 t204 _ ?side1 ?side2 A25.out).mono ?_); (case side1 => repeat (first | exact (Kd.C_below HR0.out HB.out) | (with_reducible refine Kd.C_alloc ?_ _) | (with_reducible refine Kd.C_drewN ?_ _) | (with_reducible refine Kd.C_drew ?_))); (case side2 => exact HC0.out); rintro e w26 ⟨v205, v207, rfl, ho0, ho1, hb⟩; have n0_ := Aside0.mk (Kd.R_elder' (by (with_reducible repeat (first | apply Kd.R_alloc | apply Kd.R_drewN | apply Kd.R_drew)); exact HO_5.out) (Kd.R_base ho0) hb); have n1_ := Aside0.mk (Kd.R_lower (Kd.R_new' ho0 (Kd.R_lt (by (with_reducible repeat (first | apply Kd.R_alloc | apply Kd.R_drewN | apply Kd.R_drew)); exact HO_5.out))) (below_size (by repeat (first | (with_reducible first | exact HB.out | apply below_alloc | apply pw_below_drewN | apply below_drew1) | exact HB.out)))); have n2_ := Aside0.mk (Kd.R_lower ho1 (below_size (by repeat (first | (with_reducible first | exact HB.out | apply below_alloc | apply pw_below_drewN | apply below_drew1) | exact HB.out)))); have n3_ := Aside0.mk (below_step (by repeat (first | (with_reducible first | exact HB.out | apply below_alloc | apply pw_below_drewN | apply below_drew1) | exact HB.out)) hb); clear HO_5; clear HB; have HO_5 := n0_; have HO206 := n1_; have HO208 := n2_; have HB := n3_; clear n0_ n1_ n2_ n3_; (try clear hb); (try clear hb2); (try clear hk); (try clear hi); (try clear ho0); (try clear ho1); obtain ⟨Ao27, co27, eo27⟩ := Kd.R_slice HO206.out; subst eo27)))
            go_loopg [18, 114] k1 (fun kq v18 v114 w' => ∃ (x18_2 : Int) (x114_2 : Int), v18 = .int .i64 x18_2 ∧ v114 = .int .i64 x114_2 ∧ Aside0 (contangolaw39_StressMost.l2 kq t189 t191 x7_1 x8_1 t202 t203 t204 x18_2 (t202.length : Int) x114_2 = some r) ∧ Aside0 (kq ≤ k1) ∧ Aside0 (Kd.R Kd.string 9 w' w.heap.size (fun k_ => some k_ ≠ ((.slice Ao27 t202.length co27) : Value).ownBlock) v193 t191) ∧ Aside0 (Kd.R Kd.string 9 w' w.heap.size (fun k_ => some k_ ≠ (v193 : Value).ownBlock) (.slice Ao27 t202.length co27) t202) ∧ Aside0 (Kd.R (Kd.int .i64) 3 w' w.heap.size (fun _ => True) v207 t203) ∧ Aside0 (Below w.heap.size w w'))
            case atStart => exact ⟨(0), (0), (by first | rfl | (simp; done) | (simp [*]; done)), (by first | rfl | (simp; done) | (simp [*]; done)), H', ⟨Nat.le_refl _⟩, ⟨by (with_reducible repeat (first | apply Kd.R_alloc | apply Kd.R_drewN | apply Kd.R_drew)); exact Kd.R_mono HO_5.out (fun _ hk => hk.2)⟩, ⟨by (with_reducible repeat (first | apply Kd.R_alloc | apply Kd.R_drewN | apply Kd.R_drew)); exact Kd.R_mono HO206.out (fun _ hk => hk.2)⟩, ⟨by (with_reducible repeat (first | apply Kd.R_alloc | apply Kd.R_drewN | apply Kd.R_drew)); exact HO208.out⟩, ⟨by repeat (first | (with_reducible first | exact HB.out | apply below_alloc | apply pw_below_drewN | apply below_drew1) | exact HB.out)⟩⟩
            case round =>
              clear H'
              try clear c1
              try clear p1
              try clear q1
              try clear hx1
              try clear c2
              try clear p2
              try clear q2
              try clear hx2
              try clear c3
              try clear c5
              try clear c5b0
              try clear c5b1
              try clear p6
              try clear c7
              try clear c7b0
              try clear c8
              try clear c8b0
              try clear c9
              try clear c9b0
              try clear c13
              try clear c13b0
              try clear c13b1
              try clear c14
              try clear c14b0
              try clear c15
              try clear c16
              try clear c16b0
              try clear c17
              try clear c18
              try clear c18b0
              try clear c19
              try clear c19b0
              try clear p19
              try clear q19
              try clear hx19
              try clear c20
              try clear c20b0
              try clear p20
              try clear q20
              try clear hx20
              try clear c21
              try clear c21b0
              try clear c22
              try clear c23
              try clear c23b0
              try clear c24
              try clear c24b0
              try clear hx196_0
              try clear hx196_1
              try clear hx196_2
              try clear hx196_3
              try clear hx200_0
              try clear hx200_1
              try clear hx200_2
              try clear hx200_3
              try clear hx201_0
              try clear hx201_1
              try clear hx201_2
              try clear hx201_3
              try clear p1
              try clear p196
              try clear p2
              try clear p200
              try clear p201
              try clear q1
              try clear q196
              try clear q200
              try clear q201
              obtain ⟨x18_2, x114_2, rfl, rfl, HA, HK2, HO_5, HO_15, HO_16, HB⟩ := hrel
              cases gk with
              | zero => exact absurd HA.out (by simp [contangolaw39_StressMost.l2])
              | succ k2 =>
                have H := HA.out
                clear HA
                simp only [contangolaw39_StressMost.l2] at H
                by_cases c28 : x114_2 < (t202.length : Int)
                · rw [if_pos c28] at H
                  have c28b0 : decide (x114_2 < (t202.length : Int)) = true := decide_eq_true c28
                  clear c28
                  have H' := Aside0.mk H
                  clear H
                  obtain ⟨Ao29, co29, eo29⟩ := Kd.R_slice HO_5.out
                  subst eo29
                  go_wp2
                  repeat (go_quiet (fail); try go_wp2)
                  go_loopg [18, 119] k2 (fun kq v18 v119 w' => ∃ (x18_3 : Int) (x119_3 : Int), v18 = .int .i64 x18_3 ∧ v119 = .int .i64 x119_3 ∧ Aside0 (contangolaw39_StressMost.l3 kq t189 t191 x7_1 x8_1 t202 t203 t204 x18_3 x114_2 (t202.length : Int) x114_2 (t191.length : Int) x119_3 = some r) ∧ Aside0 (kq ≤ k2) ∧ Aside0 (Kd.R Kd.string 9 w' w.heap.size (fun k_ => some k_ ≠ ((.slice Ao27 t202.length co27) : Value).ownBlock) (.slice Ao29 t191.length co29) t191) ∧ Aside0 (Kd.R Kd.string 9 w' w.heap.size (fun k_ => some k_ ≠ ((.slice Ao29 t191.length co29) : Value).ownBlock) (.slice Ao27 t202.length co27) t202) ∧ Aside0 (Kd.R (Kd.int .i64) 3 w' w.heap.size (fun _ => True) v207 t203) ∧ Aside0 (Below w.heap.size w w'))
                  case atStart => exact ⟨(x18_2), (0), (by first | rfl | (simp; done) | (simp [*]; done)), (by first | rfl | (simp; done) | (simp [*]; done)), H', ⟨Nat.le_refl _⟩, ⟨by (with_reducible repeat (first | apply Kd.R_alloc | apply Kd.R_drewN | apply Kd.R_drew)); exact HO_5.out⟩, ⟨by (with_reducible repeat (first | apply Kd.R_alloc | apply Kd.R_drewN | apply Kd.R_drew)); exact HO_15.out⟩, ⟨by (with_reducible repeat (first | apply Kd.R_alloc | apply Kd.R_drewN | apply Kd.R_drew)); exact HO_16.out⟩, ⟨by repeat (first | (with_reducible first | exact HB.out | apply below_alloc | apply pw_below_drewN | apply below_drew1) | exact HB.out)⟩⟩
                  case round =>
                    clear H'
                    try clear c1
                    try clear p1
                    try clear q1
                    try clear hx1
                    try clear c2
                    try clear p2
                    try clear q2
                    try clear hx2
                    try clear c3
                    try clear c5
                    try clear c5b0
                    try clear c5b1
                    try clear p6
                    try clear c7
                    try clear c7b0
                    try clear c8
                    try clear c8b0
                    try clear c9
                    try clear c9b0
                    try clear c13
                    try clear c13b0
                    try clear c13b1
                    try clear c14
                    try clear c14b0
                    try clear c15
                    try clear c16
                    try clear c16b0
                    try clear c17
                    try clear c18
                    try clear c18b0
                    try clear c19
                    try clear c19b0
                    try clear p19
                    try clear q19
                    try clear hx19
                    try clear c20
                    try clear c20b0
                    try clear p20
                    try clear q20
                    try clear hx20
                    try clear c21
                    try clear c21b0
                    try clear c22
                    try clear c23
                    try clear c23b0
                    try clear c24
                    try clear c24b0
                    try clear c28
                    try clear c28b0
                    try clear hx196_0
                    try clear hx196_1
                    try clear hx196_2
                    try clear hx196_3
                    try clear hx200_0
                    try clear hx200_1
                    try clear hx200_2
                    try clear hx200_3
                    try clear hx201_0
                    try clear hx201_1
                    try clear hx201_2
                    try clear hx201_3
                    try clear p1
                    try clear p19
                    try clear p196
                    try clear p2
                    try clear p20
                    try clear p200
                    try clear p201
                    try clear p6
                    try clear q1
                    try clear q19
                    try clear q196
                    try clear q2
                    try clear q20
                    try clear q200
                    try clear q201
                    obtain ⟨x18_3, x119_3, rfl, rfl, HA, HK3, HO_5, HO_15, HO_16, HB⟩ := hrel
                    cases gk with
                    | zero => exact absurd HA.out (by simp [contangolaw39_StressMost.l3])
                    | succ k3 =>
                      have H := HA.out
                      clear HA
                      simp only [contangolaw39_StressMost.l3] at H
                      by_cases c30 : x119_3 < (t191.length : Int)
                      · rw [if_pos c30] at H
                        have c30b0 : decide (x119_3 < (t191.length : Int)) = true := decide_eq_true c30
                        clear c30
                        by_cases c31 : 0 ≤ x114_2
                        · rw [if_pos c31] at H
                          have c31b0 : decide (0 ≤ x114_2) = true := decide_eq_true c31
                          clear c31
                          by_cases c32 : x114_2 < (t202.length : Int)
                          · rw [if_pos c32] at H
                            have c32b0 : decide (x114_2 < (t202.length : Int)) = true := decide_eq_true c32
                            clear c32
                            by_cases c33 : 0 ≤ x119_3
                            · rw [if_pos c33] at H
                              have c33b0 : decide (0 ≤ x119_3) = true := decide_eq_true c33
                              clear c33
                              by_cases c34 : x119_3 < (t191.length : Int)
                              · rw [if_pos c34] at H
                                have c34b0 : decide (x119_3 < (t191.length : Int)) = true := decide_eq_true c34
                                clear c34
                                by_cases c35 : (rdOf ByteArray.empty t202 x114_2).toList = (rdOf ByteArray.empty t191 x119_3).toList
                                · rw [if_pos c35] at H
                                  have c35b0 : ((rdOf ByteArray.empty t202 x114_2).toList == (rdOf ByteArray.empty t191 x119_3).toList) = true := beq_iff_eq.mpr c35
                                  have c35b1 : ((rdOf ByteArray.empty t202 x114_2).toList != (rdOf ByteArray.empty t191 x119_3).toList) = false := bne_eq_false_iff_eq.mpr c35
                                  clear c35
                                  by_cases c36 : x114_2 < (t203.length : Int)
                                  · rw [if_pos c36] at H
                                    have c36b0 : decide (x114_2 < (t203.length : Int)) = true := decide_eq_true c36
                                    clear c36
                                    have H' := Aside0.mk H
                                    clear H
                                    have p210 : 0 ≤ (x114_2 : Int) := of_decide_eq_true (by first | (with_reducible assumption) | assumption)
                                    have q210 : x114_2 < (t202.length : Int) := of_decide_eq_true (by first | (with_reducible assumption) | assumption)
                                    obtain ⟨ad210, e210, hx210_0⟩ := Kd.at_string (Kd.R_reads' HO_15.out).2.2 x114_2 p210 q210
                                    cases e210
                                    replace p210 := eq_true p210
                                    replace q210 := eq_true q210
                                    have p211 : 0 ≤ (x119_3 : Int) := of_decide_eq_true (by first | (with_reducible assumption) | assumption)
                                    have q211 : x119_3 < (t191.length : Int) := of_decide_eq_true (by first | (with_reducible assumption) | assumption)
                                    obtain ⟨ad211, e211, hx211_0⟩ := Kd.at_string (Kd.R_reads' HO_5.out).2.2 x119_3 p211 q211
                                    cases e211
                                    replace p211 := eq_true p211
                                    replace q211 := eq_true q211
                                    obtain ⟨Ao37, co37, eo37⟩ := Kd.R_slice HO_16.out
                                    subst eo37
                                    have p212 : 0 ≤ (x114_2 : Int) := of_decide_eq_true (by first | (with_reducible assumption) | assumption)
                                    have q212 : x114_2 < (t203.length : Int) := of_decide_eq_true (by first | (with_reducible assumption) | assumption)
                                    obtain ⟨ad212, e212, hx212_0⟩ := Kd.at_int (Kd.R_reads' HO_16.out).2.2 x114_2 p212 q212
                                    cases e212
                                    replace p212 := eq_true p212
                                    replace q212 := eq_true q212
                                    go_wp2
                                    repeat (go_quiet (fail); try go_wp2)
                                    go_roundg k3
                                    case measure => have := HK1.out; have := HK2.out; have := HK3.out; omega
                                    case rel => exact ⟨(wrap64 (x18_3 + (rd t203 x114_2))), (wrap64 (x119_3 + 1)), (by first | rfl | (simp; done) | (simp [i64_w]; done) | (simp [*]; done)), (by first | rfl | (simp; done) | (simp [i64_w]; done) | (simp [*]; done)), H', ⟨by have := HK1.out; have := HK2.out; have := HK3.out; omega⟩, ⟨by (with_reducible repeat (first | apply Kd.R_alloc | apply Kd.R_drewN | apply Kd.R_drew)); exact HO_5.out⟩, ⟨by (with_reducible repeat (first | apply Kd.R_alloc | apply Kd.R_drewN | apply Kd.R_drew)); exact HO_15.out⟩, ⟨by (with_reducible repeat (first | apply Kd.R_alloc | apply Kd.R_drewN | apply Kd.R_drew)); exact HO_16.out⟩, ⟨by repeat (first | (with_reducible first | exact HB.out | apply below_alloc | apply pw_below_drewN | apply below_drew1) | exact HB.out)⟩⟩
                                  · rw [if_neg c36] at H
                                    exact absurd H (by simp)
                                · rw [if_neg c35] at H
                                  have c35b0 : ((rdOf ByteArray.empty t202 x114_2).toList == (rdOf ByteArray.empty t191 x119_3).toList) = false := beq_eq_false_iff_ne.mpr c35
                                  have c35b1 : ((rdOf ByteArray.empty t202 x114_2).toList != (rdOf ByteArray.empty t191 x119_3).toList) = true := bne_iff_ne.mpr c35
                                  have H' := Aside0.mk H
                                  clear H
                                  have p210 : 0 ≤ (x114_2 : Int) := of_decide_eq_true (by first | (with_reducible assumption) | assumption)
                                  have q210 : x114_2 < (t202.length : Int) := of_decide_eq_true (by first | (with_reducible assumption) | assumption)
                                  obtain ⟨ad210, e210, hx210_0⟩ := Kd.at_string (Kd.R_reads' HO_15.out).2.2 x114_2 p210 q210
                                  cases e210
                                  replace p210 := eq_true p210
                                  replace q210 := eq_true q210
                                  have p211 : 0 ≤ (x119_3 : Int) := of_decide_eq_true (by first | (with_reducible assumption) | assumption)
                                  have q211 : x119_3 < (t191.length : Int) := of_decide_eq_true (by first | (with_reducible assumption) | assumption)
                                  obtain ⟨ad211, e211, hx211_0⟩ := Kd.at_string (Kd.R_reads' HO_5.out).2.2 x119_3 p211 q211
                                  cases e211
                                  replace p211 := eq_true p211
                                  replace q211 := eq_true q211
                                  go_wp2
                                  repeat (go_quiet (fail); try go_wp2)
                                  go_roundg k3
                                  case measure => have := HK1.out; have := HK2.out; have := HK3.out; omega
                                  case rel => exact ⟨(x18_3), (wrap64 (x119_3 + 1)), (by first | rfl | (simp; done) | (simp [*]; done)), (by first | rfl | (simp; done) | (simp [*]; done)), H', ⟨by have := HK1.out; have := HK2.out; have := HK3.out; omega⟩, ⟨by (with_reducible repeat (first | apply Kd.R_alloc | apply Kd.R_drewN | apply Kd.R_drew)); exact HO_5.out⟩, ⟨by (with_reducible repeat (first | apply Kd.R_alloc | apply Kd.R_drewN | apply Kd.R_drew)); exact HO_15.out⟩, ⟨by (with_reducible repeat (first | apply Kd.R_alloc | apply Kd.R_drewN | apply Kd.R_drew)); exact HO_16.out⟩, ⟨by repeat (first | (with_reducible first | exact HB.out | apply below_alloc | apply pw_below_drewN | apply below_drew1) | exact HB.out)⟩⟩
                              · rw [if_neg c34] at H
                                exact absurd H (by simp)
                            · rw [if_neg c33] at H
                              exact absurd H (by simp)
                          · rw [if_neg c32] at H
                            exact absurd H (by simp)
                        · rw [if_neg c31] at H
                          exact absurd H (by simp)
                      · rw [if_neg c30] at H
                        have c30b0 : decide (x119_3 < (t191.length : Int)) = false := decide_eq_false c30
                        clear c30
                        have H' := Aside0.mk H
                        clear H
                        go_wp2
                        repeat (go_quiet (fail); try go_wp2)
                        go_roundg k3
                        case measure => have := HK1.out; have := HK2.out; have := HK3.out; omega
                        case rel => exact ⟨(x18_3), (wrap64 (x114_2 + 1)), (by first | rfl | (simp; done) | (simp [*]; done)), (by first | rfl | (simp; done) | (simp [*]; done)), H', ⟨by have := HK1.out; have := HK2.out; have := HK3.out; omega⟩, ⟨by (with_reducible repeat (first | apply Kd.R_alloc | apply Kd.R_drewN | apply Kd.R_drew)); exact HO_5.out⟩, ⟨by (with_reducible repeat (first | apply Kd.R_alloc | apply Kd.R_drewN | apply Kd.R_drew)); exact HO_15.out⟩, ⟨by (with_reducible repeat (first | apply Kd.R_alloc | apply Kd.R_drewN | apply Kd.R_drew)); exact HO_16.out⟩, ⟨by repeat (first | (with_reducible first | exact HB.out | apply below_alloc | apply pw_below_drewN | apply below_drew1) | exact HB.out)⟩⟩
                · rw [if_neg c28] at H
                  have c28b0 : decide (x114_2 < (t202.length : Int)) = false := decide_eq_false c28
                  clear c28
                  by_cases c38 : t204 = 0
                  · rw [if_pos c38] at H
                    have c38b0 : (t204 == 0) = true := beq_iff_eq.mpr c38
                    have c38b1 : (t204 != 0) = false := bne_eq_false_iff_eq.mpr c38
                    clear c38
                    by_cases c39 : (wrap64 (t189 - x7_1)) ≤ x8_1
                    · rw [if_pos c39] at H
                      have c39b0 : decide ((wrap64 (t189 - x7_1)) ≤ x8_1) = true := decide_eq_true c39
                      clear c39
                      by_cases c40 : x18_2 = t189
                      · rw [if_pos c40] at H
                        have c40b0 : (x18_2 == t189) = true := beq_iff_eq.mpr c40
                        have c40b1 : (x18_2 != t189) = false := bne_eq_false_iff_eq.mpr c40
                        clear c40
                        obtain ⟨ji41, hji41⟩ : ∃ j_ : Int, (mn (t202.length : Int) 2) = j_ := ⟨_, rfl⟩
                        replace H : (if (t191.length : Int) = (ji41) then ((contangolaw39_goes.f k2).bind fun t209 => (some t209)) else (some false)) = some r := by first | (rw [hji41] at H; exact H) | (simp only [hji41] at H ⊢; exact H)
                        have hji41_ : (if 2 < (t202.length : Int) then 2 else (t202.length : Int)) = ji41 := hji41
                        by_cases c42 : (t191.length : Int) = (ji41)
                        · rw [if_pos c42] at H
                          have c42b0 : ((t191.length : Int) == (ji41)) = true := beq_iff_eq.mpr c42
                          have c42b1 : ((t191.length : Int) != (ji41)) = false := bne_eq_false_iff_eq.mpr c42
                          clear c42
                          replace H := Option.bind_eq_some_iff.mp H
                          obtain ⟨t209, A430, H⟩ := H
                          replace H : (some t209) = some r := H
                          have A43 := Aside0.mk A430
                          clear A430
                          obtain rfl := Option.some.inj H
                          obtain ⟨Ao44, co44, eo44⟩ := Kd.R_slice HO_5.out
                          subst eo44
                          go_wp2_with (first | (go_at_call 9; (with_reducible refine (contangolaw39_goes.calls k2  t209 _ A43.out).mono ?_); rintro e w45 ⟨rfl, hb⟩; have n0_ := Aside0.mk (Kd.R_below (by (with_reducible repeat (first | apply Kd.R_alloc | apply Kd.R_drewN | apply Kd.R_drew)); exact HO_5.out) hb); have n1_ := Aside0.mk (Kd.R_below (by (with_reducible repeat (first | apply Kd.R_alloc | apply Kd.R_drewN | apply Kd.R_drew)); exact HO_15.out) hb); have n2_ := Aside0.mk (Kd.R_below (by (with_reducible repeat (first | apply Kd.R_alloc | apply Kd.R_drewN | apply Kd.R_drew)); exact HO_16.out) hb); have n3_ := Aside0.mk (below_step (by repeat (first | (with_reducible first | exact HB.out | apply below_alloc | apply pw_below_drewN | apply below_drew1) | exact HB.out)) hb); clear HO_5; clear HO_15; clear HO_16; clear HB; have HO_5 := n0_; have HO_15 := n1_; have HO_16 := n2_; have HB := n3_; clear n0_ n1_ n2_ n3_; (try clear hb); (try clear hb2); (try clear hk); (try clear hi)))
                          repeat (go_quiet (first | (go_at_call 9; (with_reducible refine (contangolaw39_goes.calls k2  t209 _ A43.out).mono ?_); rintro e w45 ⟨rfl, hb⟩; have n0_ := Aside0.mk (Kd.R_below (by (with_reducible repeat (first | apply Kd.R_alloc | apply Kd.R_drewN | apply Kd.R_drew)); exact HO_5.out) hb); have n1_ := Aside0.mk (Kd.R_below (by (with_reducible repeat (first | apply Kd.R_alloc | apply Kd.R_drewN | apply Kd.R_drew)); exact HO_15.out) hb); have n2_ := Aside0.mk (Kd.R_below (by (with_reducible repeat (first | apply Kd.R_alloc | apply Kd.R_drewN | apply Kd.R_drew)); exact HO_16.out) hb); have n3_ := Aside0.mk (below_step (by repeat (first | (with_reducible first | exact HB.out | apply below_alloc | apply pw_below_drewN | apply below_drew1) | exact HB.out)) hb); clear HO_5; clear HO_15; clear HO_16; clear HB; have HO_5 := n0_; have HO_15 := n1_; have HO_16 := n2_; have HB := n3_; clear n0_ n1_ n2_ n3_; (try clear hb); (try clear hb2); (try clear hk); (try clear hi))); try go_wp2_with (first | (go_at_call 9; (with_reducible refine (contangolaw39_goes.calls k2  t209 _ A43.out).mono ?_); rintro e w45 ⟨rfl, hb⟩; have n0_ := Aside0.mk (Kd.R_below (by (with_reducible repeat (first | apply Kd.R_alloc | apply Kd.R_drewN | apply Kd.R_drew)); exact HO_5.out) hb); have n1_ := Aside0.mk (Kd.R_below (by (with_reducible repeat (first | apply Kd.R_alloc | apply Kd.R_drewN | apply Kd.R_drew)); exact HO_15.out) hb); have n2_ := Aside0.mk (Kd.R_below (by (with_reducible repeat (first | apply Kd.R_alloc | apply Kd.R_drewN | apply Kd.R_drew)); exact HO_16.out) hb); have n3_ := Aside0.mk (below_step (by repeat (first | (with_reducible first | exact HB.out | apply below_alloc | apply pw_below_drewN | apply below_drew1) | exact HB.out)) hb); clear HO_5; clear HO_15; clear HO_16; clear HB; have HO_5 := n0_; have HO_15 := n1_; have HO_16 := n2_; have HB := n3_; clear n0_ n1_ n2_ n3_; (try clear hb); (try clear hb2); (try clear hk); (try clear hi))))
                          go_ret
                          exact ⟨by first | rfl | (simp [errW_none, errW_some] <;> rfl) | (simp only [← hji41]; first | rfl | (simp [errW_none, errW_some] <;> rfl)) | (simp [*, errW_none, errW_some] <;> rfl), by repeat (first | (with_reducible first | exact HB.out | apply below_alloc | apply pw_below_drewN | apply below_drew1) | exact HB.out)⟩
                        · rw [if_neg c42] at H
                          exact absurd (H.trans (congrArg some HRT.out)) (by first | simp [contangolaw39_StressMost.j1] | (simp only [contangolaw39_StressMost.j1]; (repeat' split) <;> simp))
                      · rw [if_neg c40] at H
                        exact absurd (H.trans (congrArg some HRT.out)) (by first | simp [contangolaw39_StressMost.j1] | (simp only [contangolaw39_StressMost.j1]; (repeat' split) <;> simp))
                    · rw [if_neg c39] at H
                      exact absurd (H.trans (congrArg some HRT.out)) (by first | simp [contangolaw39_StressMost.j1] | (simp only [contangolaw39_StressMost.j1]; (repeat' split) <;> simp))
                  · rw [if_neg c38] at H
                    exact absurd (H.trans (congrArg some HRT.out)) (by first | simp [contangolaw39_StressMost.j1] | (simp only [contangolaw39_StressMost.j1]; (repeat' split) <;> simp))
    · rw [if_neg c5] at H
      have c5b0 : (t192 == 0) = false := beq_eq_false_iff_ne.mpr c5
      have c5b1 : (t192 != 0) = true := bne_iff_ne.mpr c5
      by_cases c46 : t189 = 0
      · rw [if_pos c46] at H
        have c46b0 : (t189 == 0) = true := beq_iff_eq.mpr c46
        have c46b1 : (t189 != 0) = false := bne_eq_false_iff_eq.mpr c46
        clear c46
        by_cases c47 : t190 = 0
        · rw [if_pos c47] at H
          have c47b0 : (t190 == 0) = true := beq_iff_eq.mpr c47
          have c47b1 : (t190 != 0) = false := bne_eq_false_iff_eq.mpr c47
          clear c47
          by_cases c48 : (t191.length : Int) = 0
          · rw [if_pos c48] at H
            have c48b0 : ((t191.length : Int) == 0) = true := beq_iff_eq.mpr c48
            have c48b1 : ((t191.length : Int) != 0) = false := bne_eq_false_iff_eq.mpr c48
            clear c48
            replace H := Option.bind_eq_some_iff.mp H
            obtain ⟨t195, A490, H⟩ := H
            replace H : (some t195) = some r := H
            have A49 := Aside0.mk A490
            clear A490
            obtain rfl := Option.some.inj H
            go_enter Try.func5, Try.ntmps5
            go_wp2_with (first | (go_at_call 8; (with_reducible refine (contangolaw39_few.calls k _ _ l0 true _ ?side1 ?side2 A2.out).mono ?_); (case side1 => repeat (first | exact HR0.out | (with_reducible refine Kd.C_alloc ?_ _) | (with_reducible refine Kd.C_drewN ?_ _) | (with_reducible refine Kd.C_drew ?_))); (case side2 => exact HC0.out); rintro e w' ⟨rfl, ⟨nd, rfl⟩⟩; (try first | exact ⟨rfl, _, World.drewN_drewN _ _ _⟩ | exact ⟨rfl, _, Eq.trans (World.drewN_drewN _ _ _) (congrArg (World.drewN _) (Nat.add_assoc _ _ _))⟩)) | (go_at_call 18; (with_reducible refine (stress_Two.calls k _ _ l0 t189 t190 t191 t192 _ ?side1 ?side2 A4.out).mono ?_); (case side1 => repeat (first | exact HR0.out | (with_reducible refine Kd.C_alloc ?_ _) | (with_reducible refine Kd.C_drewN ?_ _) | (with_reducible refine Kd.C_drew ?_))); (case side2 => exact HC0.out); rintro e w50 ⟨v193, rfl, ho0, hb⟩; have n0_ := Aside0.mk (Kd.R_lower ho0 (below_size (by repeat (first | (with_reducible first | exact HB.out | apply below_alloc | apply pw_below_drewN | apply below_drew1) | exact HB.out)))); have n1_ := Aside0.mk (below_step (by repeat (first | (with_reducible first | exact HB.out | apply below_alloc | apply pw_below_drewN | apply below_drew1) | exact HB.out)) hb); clear HB; have HO194 := n0_; have HB := n1_; clear n0_ n1_; (try clear hb); (try clear hb2); (try clear hk); (try clear hi); (try clear ho0); obtain ⟨Ao51, co51, eo51⟩ := Kd.R_slice HO194.out; subst eo51) | (go_at_call 9; (with_reducible refine (contangolaw39_goes.calls k  t195 _ A49.out).mono ?_); rintro e w52 ⟨rfl, hb⟩; have n0_ := Aside0.mk (Kd.R_below (by (with_reducible repeat (first | apply Kd.R_alloc | apply Kd.R_drewN | apply Kd.R_drew)); exact HO194.out) hb); have n1_ := Aside0.mk (below_step (by repeat (first | (with_reducible first | exact HB.out | apply below_alloc | apply pw_below_drewN | apply below_drew1) | exact HB.out)) hb); clear HO194; clear HB; have HO194 := n0_; have HB := n1_; clear n0_ n1_; (try clear hb); (try clear hb2); (try clear hk); (try clear hi)))
            repeat (go_quiet (first | (go_at_call 8; (with_reducible refine (contangolaw39_few.calls k _ _ l0 true _ ?side1 ?side2 A2.out).mono ?_); (case side1 => repeat (first | exact HR0.out | (with_reducible refine Kd.C_alloc ?_ _) | (with_reducible refine Kd.C_drewN ?_ _) | (with_reducible refine Kd.C_drew ?_))); (case side2 => exact HC0.out); rintro e w' ⟨rfl, ⟨nd, rfl⟩⟩; (try first | exact ⟨rfl, _, World.drewN_drewN _ _ _⟩ | exact ⟨rfl, _, Eq.trans (World.drewN_drewN _ _ _) (congrArg (World.drewN _) (Nat.add_assoc _ _ _))⟩)) | (go_at_call 18; (with_reducible refine (stress_Two.calls k _ _ l0 t189 t190 t191 t192 _ ?side1 ?side2 A4.out).mono ?_); (case side1 => repeat (first | exact HR0.out | (with_reducible refine Kd.C_alloc ?_ _) | (with_reducible refine Kd.C_drewN ?_ _) | (with_reducible refine Kd.C_drew ?_))); (case side2 => exact HC0.out); rintro e w50 ⟨v193, rfl, ho0, hb⟩; have n0_ := Aside0.mk (Kd.R_lower ho0 (below_size (by repeat (first | (with_reducible first | exact HB.out | apply below_alloc | apply pw_below_drewN | apply below_drew1) | exact HB.out)))); have n1_ := Aside0.mk (below_step (by repeat (first | (with_reducible first | exact HB.out | apply below_alloc | apply pw_below_drewN | apply below_drew1) | exact HB.out)) hb); clear HB; have HO194 := n0_; have HB := n1_; clear n0_ n1_; (try clear hb); (try clear hb2); (try clear hk); (try clear hi); (try clear ho0); obtain ⟨Ao51, co51, eo51⟩ := Kd.R_slice HO194.out; subst eo51) | (go_at_call 9; (with_reducible refine (contangolaw39_goes.calls k  t195 _ A49.out).mono ?_); rintro e w52 ⟨rfl, hb⟩; have n0_ := Aside0.mk (Kd.R_below (by (with_reducible repeat (first | apply Kd.R_alloc | apply Kd.R_drewN | apply Kd.R_drew)); exact HO194.out) hb); have n1_ := Aside0.mk (below_step (by repeat (first | (with_reducible first | exact HB.out | apply below_alloc | apply pw_below_drewN | apply below_drew1) | exact HB.out)) hb); clear HO194; clear HB; have HO194 := n0_; have HB := n1_; clear n0_ n1_; (try clear hb); (try clear hb2); (try clear hk); (try clear hi))); try go_wp2_with (first | (go_at_call 8; (with_reducible refine (contangolaw39_few.calls k _ _ l0 true _ ?side1 ?side2 A2.out).mono ?_); (case side1 => repeat (first | exact HR0.out | (with_reducible refine Kd.C_alloc ?_ _) | (with_reducible refine Kd.C_drewN ?_ _) | (with_reducible refine Kd.C_drew ?_))); (case side2 => exact HC0.out); rintro e w' ⟨rfl, ⟨nd, rfl⟩⟩; (try first | exact ⟨rfl, _, World.drewN_drewN _ _ _⟩ | exact ⟨rfl, _, Eq.trans (World.drewN_drewN _ _ _) (congrArg (World.drewN _) (Nat.add_assoc _ _ _))⟩)) | (go_at_call 18; (with_reducible refine (stress_Two.calls k _ _ l0 t189 t190 t191 t192 _ ?side1 ?side2 A4.out).mono ?_); (case side1 => repeat (first | exact HR0.out | (with_reducible refine Kd.C_alloc ?_ _) | (with_reducible refine Kd.C_drewN ?_ _) | (with_reducible refine Kd.C_drew ?_))); (case side2 => exact HC0.out); rintro e w50 ⟨v193, rfl, ho0, hb⟩; have n0_ := Aside0.mk (Kd.R_lower ho0 (below_size (by repeat (first | (with_reducible first | exact HB.out | apply below_alloc | apply pw_below_drewN | apply below_drew1) | exact HB.out)))); have n1_ := Aside0.mk (below_step (by repeat (first | (with_reducible first | exact HB.out | apply below_alloc | apply pw_below_drewN | apply below_drew1) | exact HB.out)) hb); clear HB; have HO194 := n0_; have HB := n1_; clear n0_ n1_; (try clear hb); (try clear hb2); (try clear hk); (try clear hi); (try clear ho0); obtain ⟨Ao51, co51, eo51⟩ := Kd.R_slice HO194.out; subst eo51) | (go_at_call 9; (with_reducible refine (contangolaw39_goes.calls k  t195 _ A49.out).mono ?_); rintro e w52 ⟨rfl, hb⟩; have n0_ := Aside0.mk (Kd.R_below (by (with_reducible repeat (first | apply Kd.R_alloc | apply Kd.R_drewN | apply Kd.R_drew)); exact HO194.out) hb); have n1_ := Aside0.mk (below_step (by repeat (first | (with_reducible first | exact HB.out | apply below_alloc | apply pw_below_drewN | apply below_drew1) | exact HB.out)) hb); clear HO194; clear HB; have HO194 := n0_; have HB := n1_; clear n0_ n1_; (try clear hb); (try clear hb2); (try clear hk); (try clear hi))))
            go_ret
            exact ⟨by first | rfl | (simp [errW_none, errW_some] <;> rfl) | (simp [*, errW_none, errW_some] <;> rfl), by repeat (first | (with_reducible first | exact HB.out | apply below_alloc | apply pw_below_drewN | apply below_drew1) | exact HB.out)⟩
          · rw [if_neg c48] at H
            exact absurd (H.trans (congrArg some HRT.out)) (by first | simp [contangolaw39_StressMost.j1] | (simp only [contangolaw39_StressMost.j1]; (repeat' split) <;> simp))
        · rw [if_neg c47] at H
          exact absurd (H.trans (congrArg some HRT.out)) (by first | simp [contangolaw39_StressMost.j1] | (simp only [contangolaw39_StressMost.j1]; (repeat' split) <;> simp))
      · rw [if_neg c46] at H
        exact absurd (H.trans (congrArg some HRT.out)) (by first | simp [contangolaw39_StressMost.j1] | (simp only [contangolaw39_StressMost.j1]; (repeat' split) <;> simp))
  · replace c3 := Bool.eq_false_iff.mpr c3
    subst c3
    have H1 : ((contangolaw39_goes.f k).bind fun t188 => (some t188)) = some r := by rw [if_neg (show ¬ (false = true) by decide)] at H; exact H
    clear H
    have H := H1
    clear H1
    replace H := Option.bind_eq_some_iff.mp H
    obtain ⟨t188, A530, H⟩ := H
    replace H : (some t188) = some r := H
    have A53 := Aside0.mk A530
    clear A530
    obtain rfl := Option.some.inj H
    go_enter Try.func5, Try.ntmps5
    go_wp2_with (first | (go_at_call 8; (with_reducible refine (contangolaw39_few.calls k _ _ l0 false _ ?side1 ?side2 A2.out).mono ?_); (case side1 => repeat (first | exact HR0.out | (with_reducible refine Kd.C_alloc ?_ _) | (with_reducible refine Kd.C_drewN ?_ _) | (with_reducible refine Kd.C_drew ?_))); (case side2 => exact HC0.out); rintro e w' ⟨rfl, ⟨nd, rfl⟩⟩; (try first | exact ⟨rfl, _, World.drewN_drewN _ _ _⟩ | exact ⟨rfl, _, Eq.trans (World.drewN_drewN _ _ _) (congrArg (World.drewN _) (Nat.add_assoc _ _ _))⟩)) | (go_at_call 9; (with_reducible refine (contangolaw39_goes.calls k  t188 _ A53.out).mono ?_); rintro e w54 ⟨rfl, hb⟩; have n0_ := Aside0.mk (below_step (by repeat (first | (with_reducible first | exact HB.out | apply below_alloc | apply pw_below_drewN | apply below_drew1) | exact HB.out)) hb); clear HB; have HB := n0_; clear n0_; (try clear hb); (try clear hb2); (try clear hk); (try clear hi)))
    repeat (go_quiet (first | (go_at_call 8; (with_reducible refine (contangolaw39_few.calls k _ _ l0 false _ ?side1 ?side2 A2.out).mono ?_); (case side1 => repeat (first | exact HR0.out | (with_reducible refine Kd.C_alloc ?_ _) | (with_reducible refine Kd.C_drewN ?_ _) | (with_reducible refine Kd.C_drew ?_))); (case side2 => exact HC0.out); rintro e w' ⟨rfl, ⟨nd, rfl⟩⟩; (try first | exact ⟨rfl, _, World.drewN_drewN _ _ _⟩ | exact ⟨rfl, _, Eq.trans (World.drewN_drewN _ _ _) (congrArg (World.drewN _) (Nat.add_assoc _ _ _))⟩)) | (go_at_call 9; (with_reducible refine (contangolaw39_goes.calls k  t188 _ A53.out).mono ?_); rintro e w54 ⟨rfl, hb⟩; have n0_ := Aside0.mk (below_step (by repeat (first | (with_reducible first | exact HB.out | apply below_alloc | apply pw_below_drewN | apply below_drew1) | exact HB.out)) hb); clear HB; have HB := n0_; clear n0_; (try clear hb); (try clear hb2); (try clear hk); (try clear hi))); try go_wp2_with (first | (go_at_call 8; (with_reducible refine (contangolaw39_few.calls k _ _ l0 false _ ?side1 ?side2 A2.out).mono ?_); (case side1 => repeat (first | exact HR0.out | (with_reducible refine Kd.C_alloc ?_ _) | (with_reducible refine Kd.C_drewN ?_ _) | (with_reducible refine Kd.C_drew ?_))); (case side2 => exact HC0.out); rintro e w' ⟨rfl, ⟨nd, rfl⟩⟩; (try first | exact ⟨rfl, _, World.drewN_drewN _ _ _⟩ | exact ⟨rfl, _, Eq.trans (World.drewN_drewN _ _ _) (congrArg (World.drewN _) (Nat.add_assoc _ _ _))⟩)) | (go_at_call 9; (with_reducible refine (contangolaw39_goes.calls k  t188 _ A53.out).mono ?_); rintro e w54 ⟨rfl, hb⟩; have n0_ := Aside0.mk (below_step (by repeat (first | (with_reducible first | exact HB.out | apply below_alloc | apply pw_below_drewN | apply below_drew1) | exact HB.out)) hb); clear HB; have HB := n0_; clear n0_; (try clear hb); (try clear hb2); (try clear hk); (try clear hi))))
    go_ret
    exact ⟨by first | rfl | (simp [errW_none, errW_some] <;> rfl) | (simp [*, errW_none, errW_some] <;> rfl), by repeat (first | (with_reducible first | exact HB.out | apply below_alloc | apply pw_below_drewN | apply below_drew1) | exact HB.out)⟩

end Go.Proofs.Ytaookghbppimnaa.PStressMost
