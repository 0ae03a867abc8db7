-- Written by a program of this session's (a turned copy of the kit's print, with functions proved by hand).
import Derived.Test.YtaookghbppimnaaPStressMarginx0
import Derived.Test.YtaookghbppimnaaPStressMarginx1
import Derived.Test.YtaookghbppimnaaPStressMarginx2
import Derived.Test.YtaookghbppimnaaPStressMarginx3
import Derived.Test.YtaookghbppimnaaPStressMarginx4
namespace Go.Proofs.Ytaookghbppimnaa.PStressMargin
open Go.RowKit Go.Proofs.YtaookghbppimnaaW.PrintWords Go.Proofs.YtaookghbppimnaaW.PrintLast Go.Proofs.YtaookghbppimnaaW.PrintMore
attribute [local go_sem] max2_int min2_int max_two min_two max_three min_three max_four min_four Go.Proofs.YtaookghbppimnaaHand.run_leq_str Go.Proofs.YtaookghbppimnaaHand.run_gtr_str Go.Proofs.YtaookghbppimnaaHand.run_geq_str   -- for this text's walks alone
set_option linter.unusedVariables false
set_option linter.unusedSimpArgs false

/-! ### contangoref39_Texts: function 15 -/
def contangoref39_Texts.l0 : Nat → List ByteArray → List ByteArray → Int → Option (Bool)
  | 0, _, _, _ => none
  | k + 1, x0, x1, x5 => if x5 < (x0.length : Int) then (if 0 ≤ x5 then (if x5 < (x1.length : Int) then (if (rdOf ByteArray.empty x0 x5).toList = (rdOf ByteArray.empty x1 x5).toList then (contangoref39_Texts.l0 k x0 x1 (wrap64 (x5 + 1))) else (some false)) else (none)) else (none)) else (some true)
def contangoref39_Texts.f (k : Nat) (l0 : List ByteArray) (l1 : List ByteArray) : Option (Bool) := if (l0.length : Int) = (l1.length : Int) then (contangoref39_Texts.l0 k l0 l1 0) else (some false)
theorem contangoref39_Texts.mono_l : ∀ k, (∀ y0 y1 y2, LeO (contangoref39_Texts.l0 k y0 y1 y2) (contangoref39_Texts.l0 (k + 1) y0 y1 y2))
  | 0 => fun _ _ _ r h => by simp [contangoref39_Texts.l0] at h
  | k + 1 => by
    have ih0 := contangoref39_Texts.mono_l k
    · intro y0 y1 y2
      unfold contangoref39_Texts.l0
      repeat' first
      | (with_reducible exact ih0 _ _ _)
      | (with_reducible exact LeO.refl _)
      | (with_reducible exact LeO.none _)
      | (with_reducible refine LeO.ite ?_ ?_)
      | (with_reducible refine LeO.bind ?_ (fun _ => ?_))
      | exact ih0 _ _ _
      | exact LeO.none _
      | refine LeO.ite ?_ ?_
      | refine LeO.bind ?_ (fun _ => ?_)
theorem contangoref39_Texts.mono : ∀ a0 a1 k, LeO (contangoref39_Texts.f k a0 a1) (contangoref39_Texts.f (k + 1) a0 a1) := by
  intro a0 a1 k
  have ih0 := contangoref39_Texts.mono_l k
  unfold contangoref39_Texts.f
  repeat' first
      | (with_reducible exact ih0 _ _ _)
      | (with_reducible exact LeO.refl _)
      | (with_reducible exact LeO.none _)
      | (with_reducible refine LeO.ite ?_ ?_)
      | (with_reducible refine LeO.bind ?_ (fun _ => ?_))
      | exact ih0 _ _ _
      | exact LeO.none _
      | refine LeO.ite ?_ ?_
      | refine LeO.bind ?_ (fun _ => ?_)
set_option maxHeartbeats 8000000 in
set_option maxRecDepth 100000 in
theorem contangoref39_Texts.calls (k : Nat) (A0 : Option Addr) (c0 : Nat) (l0 : List ByteArray) (A1 : Option Addr) (c1 : Nat) (l1 : List ByteArray) (r : Bool) (w : World) (hr0 : Kd.C Kd.string w A0 l0.length l0) (hc0 : l0.length ≤ c0) (hr1 : Kd.C Kd.string w A1 l1.length l1) (hc1 : l1.length ≤ c1) (h : contangoref39_Texts.f k l0 l1 = some r) :
    Calls Try.prog 15 #[.slice A0 l0.length c0, .slice A1 l1.length c1] w fun e w' => e = .returned (.bool r) ∧ Drawn0 w w' := by
  have HR0 := Aside0.mk hr0
  have HC0 := Aside0.mk hc0
  clear hr0 hc0
  have HR1 := Aside0.mk hr1
  have HC1 := Aside0.mk hc1
  clear hr1 hc1
  have H : (if (l0.length : Int) = (l1.length : Int) then (contangoref39_Texts.l0 k l0 l1 0) else (some false)) = some r := h
  clear h
  by_cases c3 : (l0.length : Int) = (l1.length : Int)
  · rw [if_pos c3] at H
    have c3b0 : ((l0.length : Int) == (l1.length : Int)) = true := beq_iff_eq.mpr c3
    have c3b1 : ((l0.length : Int) != (l1.length : Int)) = false := bne_eq_false_iff_eq.mpr c3
    have c3b2 : (l0.length == l1.length) = true := by first | simpa using c3 | (simp at c3 ⊢; omega)
    clear c3
    have H' := Aside0.mk H
    clear H
    go_enter Try.func15, Try.ntmps15
    go_wp2
    repeat (go_quiet (fail); try go_wp2)
    go_loopg [5] k (fun kq v5 w' => ∃ (x5_1 : Int), v5 = .int .i64 x5_1 ∧ Aside0 (contangoref39_Texts.l0 kq l0 l1 x5_1 = some r) ∧ Aside0 (kq ≤ k) ∧ Drawn0 w w')
    case atStart => exact ⟨(0), (by first | rfl | (simp; done) | (simp [*]; done)), H', ⟨Nat.le_refl _⟩, by repeat (first | exact Drawn0.refl _ | apply Drawn0.step)⟩
    case round =>
      clear H'
      try clear c1
      try clear p2
      try clear c3
      try clear c3b0
      try clear c3b1
      try clear c3b2
      obtain ⟨x5_1, rfl, HA, HK1, ⟨m1, rfl⟩⟩ := hrel
      cases gk with
      | zero => exact absurd HA.out (by simp [contangoref39_Texts.l0])
      | succ k1 =>
        have H := HA.out
        clear HA
        simp only [contangoref39_Texts.l0] at H
        by_cases c4 : x5_1 < (l0.length : Int)
        · rw [if_pos c4] at H
          have c4b0 : decide (x5_1 < (l0.length : Int)) = true := decide_eq_true c4
          clear c4
          by_cases c5 : 0 ≤ x5_1
          · rw [if_pos c5] at H
            have c5b0 : decide (0 ≤ x5_1) = true := decide_eq_true c5
            clear c5
            by_cases c6 : x5_1 < (l1.length : Int)
            · rw [if_pos c6] at H
              have c6b0 : decide (x5_1 < (l1.length : Int)) = true := decide_eq_true c6
              clear c6
              by_cases c7 : (rdOf ByteArray.empty l0 x5_1).toList = (rdOf ByteArray.empty l1 x5_1).toList
              · rw [if_pos c7] at H
                have c7b0 : ((rdOf ByteArray.empty l0 x5_1).toList == (rdOf ByteArray.empty l1 x5_1).toList) = true := beq_iff_eq.mpr c7
                have c7b1 : ((rdOf ByteArray.empty l0 x5_1).toList != (rdOf ByteArray.empty l1 x5_1).toList) = false := bne_eq_false_iff_eq.mpr c7
                clear c7
                have H' := Aside0.mk H
                clear H
                have p122 : 0 ≤ (x5_1 : Int) := of_decide_eq_true (by first | (with_reducible assumption) | assumption)
                have q122 : x5_1 < (l0.length : Int) := of_decide_eq_true (by first | (with_reducible assumption) | assumption)
                obtain ⟨ad122, e122, hx122_0⟩ := Kd.at_string HR0.out x5_1 p122 q122
                cases e122
                replace p122 := eq_true p122
                replace q122 := eq_true q122
                have p123 : 0 ≤ (x5_1 : Int) := of_decide_eq_true (by first | (with_reducible assumption) | assumption)
                have q123 : x5_1 < (l1.length : Int) := of_decide_eq_true (by first | (with_reducible assumption) | assumption)
                obtain ⟨ad123, e123, hx123_0⟩ := Kd.at_string HR1.out x5_1 p123 q123
                cases e123
                replace p123 := eq_true p123
                replace q123 := eq_true q123
                go_wp2
                repeat (go_quiet (fail); try go_wp2)
                go_roundg k1
                case measure => have := HK1.out; omega
                case rel => exact ⟨(wrap64 (x5_1 + 1)), (by first | rfl | (simp; done) | (simp [*]; done)), H', ⟨by have := HK1.out; omega⟩, by repeat (first | exact Drawn0.refl _ | apply Drawn0.step)⟩
              · rw [if_neg c7] at H
                have c7b0 : ((rdOf ByteArray.empty l0 x5_1).toList == (rdOf ByteArray.empty l1 x5_1).toList) = false := beq_eq_false_iff_ne.mpr c7
                have c7b1 : ((rdOf ByteArray.empty l0 x5_1).toList != (rdOf ByteArray.empty l1 x5_1).toList) = true := bne_iff_ne.mpr c7
                obtain rfl := Option.some.inj H
                have p122 : 0 ≤ (x5_1 : Int) := of_decide_eq_true (by first | (with_reducible assumption) | assumption)
                have q122 : x5_1 < (l0.length : Int) := of_decide_eq_true (by first | (with_reducible assumption) | assumption)
                obtain ⟨ad122, e122, hx122_0⟩ := Kd.at_string HR0.out x5_1 p122 q122
                cases e122
                replace p122 := eq_true p122
                replace q122 := eq_true q122
                have p123 : 0 ≤ (x5_1 : Int) := of_decide_eq_true (by first | (with_reducible assumption) | assumption)
                have q123 : x5_1 < (l1.length : Int) := of_decide_eq_true (by first | (with_reducible assumption) | assumption)
                obtain ⟨ad123, e123, hx123_0⟩ := Kd.at_string HR1.out x5_1 p123 q123
                cases e123
                replace p123 := eq_true p123
                replace q123 := eq_true q123
                go_wp2
                repeat (go_quiet (fail); try go_wp2)
                go_ret
                exact ⟨by first | rfl | (simp; done) | (simp [*]; done), by repeat (first | exact Drawn0.refl _ | apply Drawn0.step)⟩
            · rw [if_neg c6] at H
              exact absurd H (by simp)
          · rw [if_neg c5] at H
            exact absurd H (by simp)
        · rw [if_neg c4] at H
          have c4b0 : decide (x5_1 < (l0.length : Int)) = false := decide_eq_false c4
          clear c4
          obtain rfl := Option.some.inj H
          go_wp2
          repeat (go_quiet (fail); try go_wp2)
          go_ret
          exact ⟨by first | rfl | (simp; done) | (simp [*]; done), by repeat (first | exact Drawn0.refl _ | apply Drawn0.step)⟩
  · rw [if_neg c3] at H
    have c3b0 : ((l0.length : Int) == (l1.length : Int)) = false := beq_eq_false_iff_ne.mpr c3
    have c3b1 : ((l0.length : Int) != (l1.length : Int)) = true := bne_iff_ne.mpr c3
    have c3b2 : (l0.length == l1.length) = false := by first | simpa using c3 | (simp at c3 ⊢; omega)
    obtain rfl := Option.some.inj H
    go_enter Try.func15, Try.ntmps15
    go_wp2
    repeat (go_quiet (fail); try go_wp2)
    go_ret
    exact ⟨by first | rfl | (simp; done) | (simp [*]; done), by repeat (first | exact Drawn0.refl _ | apply Drawn0.step)⟩

/-! ### contangoref39_Ints: function 16 -/
def contangoref39_Ints.l0 : Nat → List Int → List Int → Int → Option (Bool)
  | 0, _, _, _ => none
  | k + 1, x0, x1, x5 => if x5 < (x0.length : Int) then (if 0 ≤ x5 then (if x5 < (x1.length : Int) then (if (rd x0 x5) = (rd x1 x5) then (contangoref39_Ints.l0 k x0 x1 (wrap64 (x5 + 1))) else (some false)) else (none)) else (none)) else (some true)
def contangoref39_Ints.f (k : Nat) (l0 : List Int) (l1 : List Int) : Option (Bool) := if (l0.length : Int) = (l1.length : Int) then (contangoref39_Ints.l0 k l0 l1 0) else (some false)
theorem contangoref39_Ints.mono_l : ∀ k, (∀ y0 y1 y2, LeO (contangoref39_Ints.l0 k y0 y1 y2) (contangoref39_Ints.l0 (k + 1) y0 y1 y2))
  | 0 => fun _ _ _ r h => by simp [contangoref39_Ints.l0] at h
  | k + 1 => by
    have ih0 := contangoref39_Ints.mono_l k
    · intro y0 y1 y2
      unfold contangoref39_Ints.l0
      repeat' first
      | (with_reducible exact ih0 _ _ _)
      | (with_reducible exact LeO.refl _)
      | (with_reducible exact LeO.none _)
      | (with_reducible refine LeO.ite ?_ ?_)
      | (with_reducible refine LeO.bind ?_ (fun _ => ?_))
      | exact ih0 _ _ _
      | exact LeO.none _
      | refine LeO.ite ?_ ?_
      | refine LeO.bind ?_ (fun _ => ?_)
theorem contangoref39_Ints.mono : ∀ a0 a1 k, LeO (contangoref39_Ints.f k a0 a1) (contangoref39_Ints.f (k + 1) a0 a1) := by
  intro a0 a1 k
  have ih0 := contangoref39_Ints.mono_l k
  unfold contangoref39_Ints.f
  repeat' first
      | (with_reducible exact ih0 _ _ _)
      | (with_reducible exact LeO.refl _)
      | (with_reducible exact LeO.none _)
      | (with_reducible refine LeO.ite ?_ ?_)
      | (with_reducible refine LeO.bind ?_ (fun _ => ?_))
      | exact ih0 _ _ _
      | exact LeO.none _
      | refine LeO.ite ?_ ?_
      | refine LeO.bind ?_ (fun _ => ?_)
set_option maxHeartbeats 8000000 in
set_option maxRecDepth 100000 in
theorem contangoref39_Ints.calls (k : Nat) (A0 : Option Addr) (c0 : Nat) (l0 : List Int) (A1 : Option Addr) (c1 : Nat) (l1 : List Int) (r : Bool) (w : World) (hr0 : Kd.C (Kd.int .i64) w A0 l0.length l0) (hc0 : l0.length ≤ c0) (hr1 : Kd.C (Kd.int .i64) w A1 l1.length l1) (hc1 : l1.length ≤ c1) (h : contangoref39_Ints.f k l0 l1 = some r) :
    Calls Try.prog 16 #[.slice A0 l0.length c0, .slice A1 l1.length c1] w fun e w' => e = .returned (.bool r) ∧ Drawn0 w w' := by
  have HR0 := Aside0.mk hr0
  have HC0 := Aside0.mk hc0
  clear hr0 hc0
  have HR1 := Aside0.mk hr1
  have HC1 := Aside0.mk hc1
  clear hr1 hc1
  have H : (if (l0.length : Int) = (l1.length : Int) then (contangoref39_Ints.l0 k l0 l1 0) else (some false)) = some r := h
  clear h
  by_cases c3 : (l0.length : Int) = (l1.length : Int)
  · rw [if_pos c3] at H
    have c3b0 : ((l0.length : Int) == (l1.length : Int)) = true := beq_iff_eq.mpr c3
    have c3b1 : ((l0.length : Int) != (l1.length : Int)) = false := bne_eq_false_iff_eq.mpr c3
    have c3b2 : (l0.length == l1.length) = true := by first | simpa using c3 | (simp at c3 ⊢; omega)
    clear c3
    have H' := Aside0.mk H
    clear H
    go_enter Try.func16, Try.ntmps16
    go_wp2
    repeat (go_quiet (fail); try go_wp2)
    go_loopg [5] k (fun kq v5 w' => ∃ (x5_1 : Int), v5 = .int .i64 x5_1 ∧ Aside0 (contangoref39_Ints.l0 kq l0 l1 x5_1 = some r) ∧ Aside0 (kq ≤ k) ∧ Drawn0 w w')
    case atStart => exact ⟨(0), (by first | rfl | (simp; done) | (simp [*]; done)), H', ⟨Nat.le_refl _⟩, by repeat (first | exact Drawn0.refl _ | apply Drawn0.step)⟩
    case round =>
      clear H'
      try clear c1
      try clear p2
      try clear c3
      try clear c3b0
      try clear c3b1
      try clear c3b2
      obtain ⟨x5_1, rfl, HA, HK1, ⟨m1, rfl⟩⟩ := hrel
      cases gk with
      | zero => exact absurd HA.out (by simp [contangoref39_Ints.l0])
      | succ k1 =>
        have H := HA.out
        clear HA
        simp only [contangoref39_Ints.l0] at H
        by_cases c4 : x5_1 < (l0.length : Int)
        · rw [if_pos c4] at H
          have c4b0 : decide (x5_1 < (l0.length : Int)) = true := decide_eq_true c4
          clear c4
          by_cases c5 : 0 ≤ x5_1
          · rw [if_pos c5] at H
            have c5b0 : decide (0 ≤ x5_1) = true := decide_eq_true c5
            clear c5
            by_cases c6 : x5_1 < (l1.length : Int)
            · rw [if_pos c6] at H
              have c6b0 : decide (x5_1 < (l1.length : Int)) = true := decide_eq_true c6
              clear c6
              by_cases c7 : (rd l0 x5_1) = (rd l1 x5_1)
              · rw [if_pos c7] at H
                have c7b0 : ((rd l0 x5_1) == (rd l1 x5_1)) = true := beq_iff_eq.mpr c7
                have c7b1 : ((rd l0 x5_1) != (rd l1 x5_1)) = false := bne_eq_false_iff_eq.mpr c7
                clear c7
                have H' := Aside0.mk H
                clear H
                have p124 : 0 ≤ (x5_1 : Int) := of_decide_eq_true (by first | (with_reducible assumption) | assumption)
                have q124 : x5_1 < (l0.length : Int) := of_decide_eq_true (by first | (with_reducible assumption) | assumption)
                obtain ⟨ad124, e124, hx124_0⟩ := Kd.at_int HR0.out x5_1 p124 q124
                cases e124
                replace p124 := eq_true p124
                replace q124 := eq_true q124
                have p125 : 0 ≤ (x5_1 : Int) := of_decide_eq_true (by first | (with_reducible assumption) | assumption)
                have q125 : x5_1 < (l1.length : Int) := of_decide_eq_true (by first | (with_reducible assumption) | assumption)
                obtain ⟨ad125, e125, hx125_0⟩ := Kd.at_int HR1.out x5_1 p125 q125
                cases e125
                replace p125 := eq_true p125
                replace q125 := eq_true q125
                go_wp2
                repeat (go_quiet (fail); try go_wp2)
                go_roundg k1
                case measure => have := HK1.out; omega
                case rel => exact ⟨(wrap64 (x5_1 + 1)), (by first | rfl | (simp; done) | (simp [*]; done)), H', ⟨by have := HK1.out; omega⟩, by repeat (first | exact Drawn0.refl _ | apply Drawn0.step)⟩
              · rw [if_neg c7] at H
                have c7b0 : ((rd l0 x5_1) == (rd l1 x5_1)) = false := beq_eq_false_iff_ne.mpr c7
                have c7b1 : ((rd l0 x5_1) != (rd l1 x5_1)) = true := bne_iff_ne.mpr c7
                obtain rfl := Option.some.inj H
                have p124 : 0 ≤ (x5_1 : Int) := of_decide_eq_true (by first | (with_reducible assumption) | assumption)
                have q124 : x5_1 < (l0.length : Int) := of_decide_eq_true (by first | (with_reducible assumption) | assumption)
                obtain ⟨ad124, e124, hx124_0⟩ := Kd.at_int HR0.out x5_1 p124 q124
                cases e124
                replace p124 := eq_true p124
                replace q124 := eq_true q124
                have p125 : 0 ≤ (x5_1 : Int) := of_decide_eq_true (by first | (with_reducible assumption) | assumption)
                have q125 : x5_1 < (l1.length : Int) := of_decide_eq_true (by first | (with_reducible assumption) | assumption)
                obtain ⟨ad125, e125, hx125_0⟩ := Kd.at_int HR1.out x5_1 p125 q125
                cases e125
                replace p125 := eq_true p125
                replace q125 := eq_true q125
                go_wp2
                repeat (go_quiet (fail); try go_wp2)
                go_ret
                exact ⟨by first | rfl | (simp; done) | (simp [*]; done), by repeat (first | exact Drawn0.refl _ | apply Drawn0.step)⟩
            · rw [if_neg c6] at H
              exact absurd H (by simp)
          · rw [if_neg c5] at H
            exact absurd H (by simp)
        · rw [if_neg c4] at H
          have c4b0 : decide (x5_1 < (l0.length : Int)) = false := decide_eq_false c4
          clear c4
          obtain rfl := Option.some.inj H
          go_wp2
          repeat (go_quiet (fail); try go_wp2)
          go_ret
          exact ⟨by first | rfl | (simp; done) | (simp [*]; done), by repeat (first | exact Drawn0.refl _ | apply Drawn0.step)⟩
  · rw [if_neg c3] at H
    have c3b0 : ((l0.length : Int) == (l1.length : Int)) = false := beq_eq_false_iff_ne.mpr c3
    have c3b1 : ((l0.length : Int) != (l1.length : Int)) = true := bne_iff_ne.mpr c3
    have c3b2 : (l0.length == l1.length) = false := by first | simpa using c3 | (simp at c3 ⊢; omega)
    obtain rfl := Option.some.inj H
    go_enter Try.func16, Try.ntmps16
    go_wp2
    repeat (go_quiet (fail); try go_wp2)
    go_ret
    exact ⟨by first | rfl | (simp; done) | (simp [*]; done), by repeat (first | exact Drawn0.refl _ | apply Drawn0.step)⟩

/-! ### cents_Add: function 32 -/
def cents_Add.f (a0 : Int) (a1 : Int) : Option (Int × Int) := (cents_Fits.f a0).bind fun t126 => (if t126 = true then ((cents_Fits.f a1).bind fun t127 => (if t127 = true then ((cents_fitting.f (wrap64 (a0 + a1))).bind fun bt128 => (some (bt128.1, bt128.2))) else (some (0, 2)))) else (some (0, 2)))
set_option maxHeartbeats 8000000 in
set_option maxRecDepth 100000 in
theorem cents_Add.calls (a0 : Int) (a1 : Int) (r1 : Int) (r2 : Int) (w : World) (h : cents_Add.f a0 a1 = some (r1, r2)) :
    Calls Try.prog 32 #[.int .i64 a0, .int .i64 a1] w fun e w' => e = .returned (.tuple #[.int .i64 r1, .int .i64 r2]) ∧ Drawn0 w w' := by
  have H : ((cents_Fits.f a0).bind fun t126 => (if t126 = true then ((cents_Fits.f a1).bind fun t127 => (if t127 = true then ((cents_fitting.f (wrap64 (a0 + a1))).bind fun bt128 => (some (bt128.1, bt128.2))) else (some (0, 2)))) else (some (0, 2)))) = some (r1, r2) := h
  clear h
  replace H := Option.bind_eq_some_iff.mp H
  obtain ⟨t126, A30, H⟩ := H
  replace H : (if t126 = true then ((cents_Fits.f a1).bind fun t127 => (if t127 = true then ((cents_fitting.f (wrap64 (a0 + a1))).bind fun bt128 => (some (bt128.1, bt128.2))) else (some (0, 2)))) else (some (0, 2))) = some (r1, r2) := H
  have A3 := Aside0.mk A30
  clear A30
  by_cases c4 : t126 = true
  · subst c4
    have H1 : ((cents_Fits.f a1).bind fun t127 => (if t127 = true then ((cents_fitting.f (wrap64 (a0 + a1))).bind fun bt128 => (some (bt128.1, bt128.2))) else (some (0, 2)))) = some (r1, r2) := by rw [if_pos rfl] at H; exact H
    clear H
    have H := H1
    clear H1
    replace H := Option.bind_eq_some_iff.mp H
    obtain ⟨t127, A50, H⟩ := H
    replace H : (if t127 = true then ((cents_fitting.f (wrap64 (a0 + a1))).bind fun bt128 => (some (bt128.1, bt128.2))) else (some (0, 2))) = some (r1, r2) := H
    have A5 := Aside0.mk A50
    clear A50
    by_cases c6 : t127 = true
    · subst c6
      have H1 : ((cents_fitting.f (wrap64 (a0 + a1))).bind fun bt128 => (some (bt128.1, bt128.2))) = some (r1, r2) := by rw [if_pos rfl] at H; exact H
      clear H
      have H := H1
      clear H1
      replace H := Option.bind_eq_some_iff.mp H
      obtain ⟨⟨t128, t129⟩, A70, H⟩ := H
      replace H : (some (t128, t129)) = some (r1, r2) := H
      have A7 := Aside0.mk A70
      clear A70
      simp only [Option.some.injEq, Prod.mk.injEq] at H
      obtain ⟨rfl, rfl⟩ := H
      go_enter Try.func32, Try.ntmps32
      go_wp2_with (first | ((with_reducible refine gate_callee (f := 40) rfl ?_); refine goesL_ (some 7) rfl rfl Try.func40 (by kernel_rfl) rfl #[.int .i64 a0] rfl (by (try simp only [List.map_toArray, List.map_cons, List.map_nil]); first | done | rfl | (simp only [List.length_drop, List.length_take]; rfl)) ?_; (with_reducible refine (cents_Fits.calls a0 true _ A3.out).mono ?_); rintro e w' ⟨rfl, ⟨nd, rfl⟩⟩; refine ⟨_, rfl, ?_⟩) | (go_at_call 40; (with_reducible refine (cents_Fits.calls a1 true _ A5.out).mono ?_); rintro e w' ⟨rfl, ⟨nd, rfl⟩⟩) | ((with_reducible refine gate_callee (f := 41) rfl ?_); refine goesL_ (some 17) rfl rfl Try.func41 (by kernel_rfl) rfl #[.int .i64 (wrap64 (a0 + a1))] rfl (by (try simp only [List.map_toArray, List.map_cons, List.map_nil]); first | done | rfl | (simp only [List.length_drop, List.length_take]; rfl)) ?_; (with_reducible refine (cents_fitting.calls (wrap64 (a0 + a1)) t128 t129 _ A7.out).mono ?_); rintro e w' ⟨rfl, ⟨nd, rfl⟩⟩; refine ⟨_, rfl, ?_⟩))
      go_ret2
      exact ⟨by first | rfl | (simp; done) | (simp [*]; done), by repeat (first | exact Drawn0.refl _ | apply Drawn0.step)⟩
    · replace c6 := Bool.eq_false_iff.mpr c6
      subst c6
      have H1 : (some (0, 2)) = some (r1, r2) := by rw [if_neg (show ¬ (false = true) by decide)] at H; exact H
      clear H
      have H := H1
      clear H1
      simp only [Option.some.injEq, Prod.mk.injEq] at H
      obtain ⟨rfl, rfl⟩ := H
      go_enter Try.func32, Try.ntmps32
      go_wp2_with (first | ((with_reducible refine gate_callee (f := 40) rfl ?_); refine goesL_ (some 7) rfl rfl Try.func40 (by kernel_rfl) rfl #[.int .i64 a0] rfl (by (try simp only [List.map_toArray, List.map_cons, List.map_nil]); first | done | rfl | (simp only [List.length_drop, List.length_take]; rfl)) ?_; (with_reducible refine (cents_Fits.calls a0 true _ A3.out).mono ?_); rintro e w' ⟨rfl, ⟨nd, rfl⟩⟩; refine ⟨_, rfl, ?_⟩) | (go_at_call 40; (with_reducible refine (cents_Fits.calls a1 false _ A5.out).mono ?_); rintro e w' ⟨rfl, ⟨nd, rfl⟩⟩))
      go_ret2
      exact ⟨by first | rfl | (simp; done) | (simp [*]; done), by repeat (first | exact Drawn0.refl _ | apply Drawn0.step)⟩
  · replace c4 := Bool.eq_false_iff.mpr c4
    subst c4
    have H1 : (some (0, 2)) = some (r1, r2) := by rw [if_neg (show ¬ (false = true) by decide)] at H; exact H
    clear H
    have H := H1
    clear H1
    simp only [Option.some.injEq, Prod.mk.injEq] at H
    obtain ⟨rfl, rfl⟩ := H
    go_enter Try.func32, Try.ntmps32
    go_wp2_with (first | ((with_reducible refine gate_callee (f := 40) rfl ?_); refine goesL_ (some 7) rfl rfl Try.func40 (by kernel_rfl) rfl #[.int .i64 a0] rfl (by (try simp only [List.map_toArray, List.map_cons, List.map_nil]); first | done | rfl | (simp only [List.length_drop, List.length_take]; rfl)) ?_; (with_reducible refine (cents_Fits.calls a0 false _ A3.out).mono ?_); rintro e w' ⟨rfl, ⟨nd, rfl⟩⟩; refine ⟨_, rfl, ?_⟩))
    go_ret2
    exact ⟨by first | rfl | (simp; done) | (simp [*]; done), by repeat (first | exact Drawn0.refl _ | apply Drawn0.step)⟩

/-! ### stress_Two: function 18 -/
def stress_greatest.go : List ByteArray → List Int → ByteArray → Int → ByteArray → Int → Nat → Option (ByteArray × Int × ByteArray × Int × Nat)
  | [], _, s0, n0, s1, n1, k => some (s0, n0, s1, n1, k)
  | _ :: _, [], _, _, _, _, _ => none
  | s :: r, n :: q, s0, n0, _, _, 0 => stress_greatest.go r q s n s0 n0 1
  | s :: r, n :: q, s0, n0, s1, n1, k + 1 => if n0 < n then stress_greatest.go r q s n s0 n0 2 else if k = 0 then stress_greatest.go r q s0 n0 s n 2 else if n1 < n then stress_greatest.go r q s0 n0 s n 2 else stress_greatest.go r q s0 n0 s1 n1 2
set_option maxHeartbeats 3200000 in
set_option maxRecDepth 100000 in
theorem stress_greatest.calls (A0 : Option Addr) (c0 : Nat) (l0 : List ByteArray) (A1 : Option Addr) (c1 : Nat) (l1 : List Int) (s0 : ByteArray) (n0 : Int) (s1 : ByteArray) (n1 : Int) (k : Nat) (w : World) (hr0 : Kd.C Kd.string w A0 l0.length l0) (hc0 : l0.length ≤ c0) (hr1 : Kd.C (Kd.int .i64) w A1 l1.length l1) (hc1 : l1.length ≤ c1) (h : stress_greatest.go l0 l1 ⟨#[]⟩ 0 ⟨#[]⟩ 0 0 = some (s0, n0, s1, n1, k)) :
    Calls Try.prog 31 #[.slice A0 l0.length c0, .slice A1 l1.length c1] w fun e w' => e = .returned (.tuple #[.agg #[.string s0, .int .i64 n0, .string s1, .int .i64 n1], .int .i64 (k : Int)]) ∧ Below w.heap.size w w' := by
  have HR0 := Aside0.mk hr0
  have hl0 := hr0.2.1
  have HC0 := Aside0.mk hc0
  have HR1 := Aside0.mk hr1
  have hl1 := hr1.2.1
  have HC1 := Aside0.mk hc1
  have HH := Aside0.mk h
  clear hr0 hc0 hr1 hc1 h
  go_enter Try.func31, Try.ntmps31
  go_wp2
  go_loopg [5, 11] l0.length (fun kq v5 v11 w' => ∃ (x j : Nat) (t0 : ByteArray) (m0 : Int) (t1 : ByteArray) (m1 : Int), v5 = .int .i64 (j : Int) ∧ j ≤ 2 ∧ v11 = .int .i64 (x : Int) ∧ kq + x = l0.length ∧ Aside0 (stress_greatest.go (l0.drop x) (l1.drop x) t0 m0 t1 m1 j = some (s0, n0, s1, n1, k)) ∧ Aside0 (w'.heap[w.heap.size]? = some (.cells #[.string t0, .int .i64 m0, .string t1, .int .i64 m1] 65 (0, 0))) ∧ Aside0 (Below w.heap.size w w'))
  case atStart => exact ⟨0, 0, ⟨#[]⟩, 0, ⟨#[]⟩, 0, rfl, by omega, rfl, by omega, HH, ⟨blk_new _ _⟩, ⟨(Below.refl _ _).alloc (Nat.le_refl _) _⟩⟩
  case round =>
    clear HH
    obtain ⟨x, j, t0, m0, t1, m1, rfl, hj, rfl, hx, HA, HK, HB⟩ := hrel
    have hsz := HB.out.size
    have hltK := blk_lt HK.out
    have hA := HA.out
    have c0_ : wr.cell? ⟨w.heap.size, 0, none⟩ = some (.string t0) := (blk_cell HK.out 0).trans rfl
    have c1_ : wr.cell? ⟨w.heap.size, 1, none⟩ = some (.int .i64 m0) := (blk_cell HK.out 1).trans rfl
    have c2_ : wr.cell? ⟨w.heap.size, 2, none⟩ = some (.string t1) := (blk_cell HK.out 2).trans rfl
    have c3_ : wr.cell? ⟨w.heap.size, 3, none⟩ = some (.int .i64 m1) := (blk_cell HK.out 3).trans rfl
    have f0_ : wr.frozen? ⟨w.heap.size, 0, none⟩ = false := blk_frozen HK.out 0
    have f1_ : wr.frozen? ⟨w.heap.size, 1, none⟩ = false := blk_frozen HK.out 1
    have f2_ : wr.frozen? ⟨w.heap.size, 2, none⟩ = false := blk_frozen HK.out 2
    have f3_ : wr.frozen? ⟨w.heap.size, 3, none⟩ = false := blk_frozen HK.out 3
    by_cases hlt : x < l0.length
    · by_cases hx1 : x < l1.length
      case neg => rw [List.drop_eq_getElem_cons hlt, List.drop_eq_nil_of_le (by omega : l1.length ≤ x), stress_greatest.go] at hA; cases hA
      obtain ⟨a0, ea0, h0⟩ := Kd.at_string HR0.out (x : Int) (by omega) (by omega)
      obtain ⟨a1, ea1, h1⟩ := Kd.at_int HR1.out (x : Int) (by omega) (by omega)
      cases ea0
      cases ea1
      simp only [Int.toNat_natCast] at h0 h1
      have e0 : l0.drop x = rdOf ByteArray.empty l0 x :: l0.drop (x + 1) := by
        rw [List.drop_eq_getElem_cons hlt]
        simp [rdOf, hlt]
      have e1 : l1.drop x = rd l1 x :: l1.drop (x + 1) := by
        rw [List.drop_eq_getElem_cons hx1]
        simp [rd, hx1]
      rw [e0, e1] at hA
      clear e0 e1
      generalize rdOf ByteArray.empty l0 x = s at *
      generalize rd l1 x = n at *
      have h0 := pw_cell_below HB.out h0
      have h1 := pw_cell_below HB.out h1
      have hd1 : decide ((x : Int) < (l0.length : Int)) = true := decide_eq_true (by omega)
      have hltA0 := World.block_lt_of_cell? _ _ h0
      have hltA1 := World.block_lt_of_cell? _ _ h1
      match j, hj, hA with
      | 0, _, hA =>
        rw [stress_greatest.go] at hA
        have HA2 := Aside0.mk hA
        clear hA HA
        go_wp2
        go_roundg (l0.length - (x + 1))
        case measure => omega
        case rel => exact ⟨x + 1, 1, s, n, t0, m0, rfl, by omega, by go_num, by omega, HA2, ⟨by
          refine blk_alloc ?_ _
          refine blk_put (cs := #[.string s, .int .i64 n, .string t0, .int .i64 m1]) ?_ 3 _ rfl
          refine blk_put (cs := #[.string s, .int .i64 n, .string t1, .int .i64 m1]) ?_ 2 _ rfl
          refine blk_put (cs := #[.string s, .int .i64 m0, .string t1, .int .i64 m1]) ?_ 1 _ rfl
          refine blk_put (cs := #[.string t0, .int .i64 m0, .string t1, .int .i64 m1]) ?_ 0 _ rfl
          exact HK.out⟩, ⟨below_alloc (below_set (below_set (below_set (below_set HB.out (Nat.le_refl _)) (Nat.le_refl _)) (Nat.le_refl _)) (Nat.le_refl _)) _⟩⟩
      | 1, _, hA =>
        rw [stress_greatest.go] at hA
        by_cases hn : m0 < n
        · rw [if_pos hn] at hA
          have HA2 := Aside0.mk hA
          clear hA HA
          go_wp2
          go_roundg (l0.length - (x + 1))
          case measure => omega
          case rel => exact ⟨x + 1, 2, s, n, t0, m0, rfl, by omega, by go_num, by omega, HA2, ⟨by
            refine blk_alloc ?_ _
            refine blk_put (cs := #[.string s, .int .i64 n, .string t0, .int .i64 m1]) ?_ 3 _ rfl
            refine blk_put (cs := #[.string s, .int .i64 n, .string t1, .int .i64 m1]) ?_ 2 _ rfl
            refine blk_put (cs := #[.string s, .int .i64 m0, .string t1, .int .i64 m1]) ?_ 1 _ rfl
            refine blk_put (cs := #[.string t0, .int .i64 m0, .string t1, .int .i64 m1]) ?_ 0 _ rfl
            exact HK.out⟩, ⟨below_alloc (below_set (below_set (below_set (below_set HB.out (Nat.le_refl _)) (Nat.le_refl _)) (Nat.le_refl _)) (Nat.le_refl _)) _⟩⟩
        · rw [if_neg hn, if_pos rfl] at hA
          have HA2 := Aside0.mk hA
          clear hA HA
          go_wp2
          go_roundg (l0.length - (x + 1))
          case measure => omega
          case rel => exact ⟨x + 1, 2, t0, m0, s, n, rfl, by omega, by go_num, by omega, HA2, ⟨by
            refine blk_alloc ?_ _
            refine blk_put (cs := #[.string t0, .int .i64 m0, .string s, .int .i64 m1]) ?_ 3 _ rfl
            refine blk_put (cs := #[.string t0, .int .i64 m0, .string t1, .int .i64 m1]) ?_ 2 _ rfl
            exact HK.out⟩, ⟨below_alloc (below_set (below_set HB.out (Nat.le_refl _)) (Nat.le_refl _)) _⟩⟩
      | 2, _, hA =>
        rw [stress_greatest.go] at hA
        by_cases hn : m0 < n
        · rw [if_pos hn] at hA
          have HA2 := Aside0.mk hA
          clear hA HA
          go_wp2
          go_roundg (l0.length - (x + 1))
          case measure => omega
          case rel => exact ⟨x + 1, 2, s, n, t0, m0, rfl, by omega, by go_num, by omega, HA2, ⟨by
            refine blk_alloc ?_ _
            refine blk_put (cs := #[.string s, .int .i64 n, .string t0, .int .i64 m1]) ?_ 3 _ rfl
            refine blk_put (cs := #[.string s, .int .i64 n, .string t1, .int .i64 m1]) ?_ 2 _ rfl
            refine blk_put (cs := #[.string s, .int .i64 m0, .string t1, .int .i64 m1]) ?_ 1 _ rfl
            refine blk_put (cs := #[.string t0, .int .i64 m0, .string t1, .int .i64 m1]) ?_ 0 _ rfl
            exact HK.out⟩, ⟨below_alloc (below_set (below_set (below_set (below_set HB.out (Nat.le_refl _)) (Nat.le_refl _)) (Nat.le_refl _)) (Nat.le_refl _)) _⟩⟩
        · rw [if_neg hn, if_neg (by decide)] at hA
          by_cases hn2 : m1 < n
          · rw [if_pos hn2] at hA
            have HA2 := Aside0.mk hA
            clear hA HA
            go_wp2
            go_roundg (l0.length - (x + 1))
            case measure => omega
            case rel => exact ⟨x + 1, 2, t0, m0, s, n, rfl, by omega, by go_num, by omega, HA2, ⟨by
              refine blk_alloc ?_ _
              refine blk_put (cs := #[.string t0, .int .i64 m0, .string s, .int .i64 m1]) ?_ 3 _ rfl
              refine blk_put (cs := #[.string t0, .int .i64 m0, .string t1, .int .i64 m1]) ?_ 2 _ rfl
              exact HK.out⟩, ⟨below_alloc (below_set (below_set HB.out (Nat.le_refl _)) (Nat.le_refl _)) _⟩⟩
          · rw [if_neg hn2] at hA
            have HA2 := Aside0.mk hA
            clear hA HA
            go_wp2
            go_roundg (l0.length - (x + 1))
            case measure => omega
            case rel => exact ⟨x + 1, 2, t0, m0, t1, m1, rfl, by omega, by go_num, by omega, HA2, ⟨blk_alloc HK.out _⟩, ⟨(HB.out.alloc HB.out.size _)⟩⟩
    · have hxe : x = l0.length := by omega
      rw [List.drop_eq_nil_of_le (by omega), stress_greatest.go] at hA
      have hA2 := Option.some.inj hA
      simp only [Prod.mk.injEq] at hA2
      obtain ⟨rfl, rfl, rfl, rfl, rfl⟩ := hA2
      have hd : decide ((x : Int) < (l0.length : Int)) = false := decide_eq_false (by omega)
      clear hA HA hxe
      go_wp2
      refine bodyPost_ret (results_ct rfl _ _ w.heap.size 65 #[.string t0, .int .i64 m0, .string t1, .int .i64 m1] (0, 0) _ rfl ?_ Try.underlying65 rfl (by kernel_rfl)) rfl ?_
      · refine blk_put (cs := #[.string t0, .int .i64 m0, .string t1, .int .i64 m1]) ?_ 3 _ rfl
        refine blk_put (cs := #[.string t0, .int .i64 m0, .string t1, .int .i64 m1]) ?_ 2 _ rfl
        refine blk_put (cs := #[.string t0, .int .i64 m0, .string t1, .int .i64 m1]) ?_ 1 _ rfl
        refine blk_put (cs := #[.string t0, .int .i64 m0, .string t1, .int .i64 m1]) ?_ 0 _ rfl
        exact HK.out
      · exact ⟨rfl, below_set (below_set (below_set (below_set HB.out (Nat.le_refl _)) (Nat.le_refl _)) (Nat.le_refl _)) (Nat.le_refl _)⟩
theorem two_len : Try.prog.arrayLen 65 = 2 := by kernel_rfl
theorem two_elem : Try.prog.elem 65 = 64 := by kernel_rfl
theorem two_size (w : World) : (Go.sizeOf 64).run Try.prog w = Result.ok 2 w := by kernel_rfl
theorem two_slice (g : Nat) (hg : g ≤ 2) (b : Nat) (w : World) : (Instr.sliceAt 65 (.pointer (some ⟨b, 0, none⟩)) none (some (.int .i64 (g : Int))) none).run Try.prog w = .ok (.slice (some ⟨b, 0, none⟩) g 2) w := by
  rw [run_sliceAt_array_h (P := Try.prog) w 65 ⟨b, 0, none⟩ (by rw [two_len, two_elem]; exact Try.underlying65) .i64 (g : Int) (by omega) (by rw [two_len]; omega)]
  rw [two_elem, two_size, two_len]
  simp only [Result.andThen, slicedAt, Int.toNat_natCast, Nat.sub_zero]
  simp [Addr.add]

def stress_Two.go (k : Nat) (l0 : List S49) : Nat → Int → Int → Int → List ByteArray → Option (Int × Int × List ByteArray × Int)
  | 0, _, size, sc, gr => some (size, sc, gr, 0)
  | j + 1, y, size, sc, gr => (stress_Bare.f k l0 y).bind fun b => if b.2.2 = 0 then ((stress_greatest.go b.1 b.2.1 ⟨#[]⟩ 0 ⟨#[]⟩ 0 0).bind fun g => (cents_Add.f g.2.1 g.2.2.2.1).bind fun a => if a.2 = 0 then
      (if y = 0 ∨ size < a.1 then stress_Two.go k l0 j (y + 1) a.1 y ([g.1, g.2.2.1].take g.2.2.2.2) else stress_Two.go k l0 j (y + 1) size sc gr) else some (0, 0, [], a.2)) else some (0, 0, [], b.2.2)
def stress_Two.f (k : Nat) (l0 : List S49) : Option (Int × Int × List ByteArray × Int) :=
  (stress_Check.f k l0).bind fun e0 => if e0 = 0 then (if 0 < (l0.length : Int) then stress_Two.go k l0 (rd_T49 l0 0).f2.length 0 0 0 [] else none) else some (0, 0, [], e0)
theorem stress_Two.mono_go (k : Nat) (l0 : List S49) (j : Nat) : ∀ y size sc gr, LeO (stress_Two.go k l0 j y size sc gr) (stress_Two.go (k + 1) l0 j y size sc gr) := by
  induction j with
  | zero => intro y size sc gr; exact LeO.refl _
  | succ j ih =>
    intro y size sc gr
    unfold stress_Two.go
    exact LeO.bind (stress_Bare.mono _ _ _) (fun b => LeO.ite (LeO.bind (LeO.refl _) (fun g => LeO.bind (LeO.refl _) (fun a => LeO.ite (LeO.ite (ih _ _ _ _) (ih _ _ _ _)) (LeO.refl _)))) (LeO.refl _))
theorem stress_Two.mono : ∀ a0 k, LeO (stress_Two.f k a0) (stress_Two.f (k + 1) a0) := by
  intro a0 k
  unfold stress_Two.f
  exact LeO.bind (stress_Check.mono _ _) (fun e0 => LeO.ite (LeO.ite (stress_Two.mono_go _ _ _ _ _ _ _) (LeO.refl _)) (LeO.refl _))
theorem stress_greatest.le2 : ∀ (l : List ByteArray) (q : List Int) (s0 : ByteArray) (n0 : Int) (s1 : ByteArray) (n1 : Int) (j : Nat) (r : ByteArray × Int × ByteArray × Int × Nat), j ≤ 2 → stress_greatest.go l q s0 n0 s1 n1 j = some r → r.2.2.2.2 ≤ 2 := by
  intro l
  induction l with
  | nil =>
    intro q s0 n0 s1 n1 j r hj h
    rw [stress_greatest.go] at h
    obtain rfl := Option.some.inj h
    exact hj
  | cons s l ih =>
    intro q s0 n0 s1 n1 j r hj h
    cases q with
    | nil => rw [stress_greatest.go] at h; cases h
    | cons n q =>
      cases j with
      | zero =>
        rw [stress_greatest.go] at h
        exact ih _ _ _ _ _ _ _ (by omega) h
      | succ j =>
        rw [stress_greatest.go] at h
        split at h
        · exact ih _ _ _ _ _ _ _ (by omega) h
        · split at h
          · exact ih _ _ _ _ _ _ _ (by omega) h
          · split at h
            · exact ih _ _ _ _ _ _ _ (by omega) h
            · exact ih _ _ _ _ _ _ _ (by omega) h
set_option maxHeartbeats 3200000 in
set_option maxRecDepth 100000 in
theorem stress_Two.calls (k : Nat) (A0 : Option Addr) (c0 : Nat) (l0 : List (S49)) (r1 : Int) (r2 : Int) (r3 : List ByteArray) (r4 : Int) (w : World) (hr0 : Kd.C k49 w A0 l0.length l0) (hc0 : l0.length ≤ c0) (h : stress_Two.f k l0 = some (r1, r2, r3, r4)) :
    Calls Try.prog 18 #[.slice A0 l0.length c0] w fun e w' => ∃ v2_ : Value, e = .returned (.tuple #[.int .i64 r1, .int .i64 r2, v2_, .int .i64 r4]) ∧ Kd.R Kd.string 9 w' w.heap.size (fun _ => True) v2_ r3 ∧ Below w.heap.size w w' := by
  obtain ⟨e0, hC0, h⟩ := Option.bind_eq_some_iff.mp h
  have HR0 := Aside0.mk hr0
  have hl1 := hr0.2.1
  have HC0 := Aside0.mk hc0
  have HE0 := Aside0.mk hC0
  have HH := Aside0.mk h
  clear hr0 hc0 hC0 h
  by_cases he : e0 = 0
  case neg =>
    have hh := HH.out
    rw [if_neg he] at hh
    have hh2 := Option.some.inj hh
    simp only [Prod.mk.injEq] at hh2
    obtain ⟨rfl, rfl, rfl, rfl⟩ := hh2
    have h0b : (e0 == 0) = false := beq_eq_false_iff_ne.mpr he
    have h1b : (e0 != 0) = true := bne_iff_ne.mpr he
    clear he hh HH
    go_enter Try.func18, Try.ntmps18
    go_wp2_with (go_at_call 13; refine (stress_Check.calls k A0 c0 l0 e0 _ HR0.out HC0.out HE0.out).mono ?_; rintro _ w1 ⟨rfl, hb⟩; have HB := Aside0.mk hb; clear hb)
    first | go_end0 | ((try simp only [Exit.inBlock, Exit.then]); refine bodyPost_ret (results_list (rs := [.tmp 2, .tmp 3, .tmp 4, .tmp 5]) rfl (by simp) (.tmp (.tmp (.tmp (.tmp .nil))))) rfl ?_)
    exact ⟨_, rfl, Kd.R_nil _ _ _ _ _, HB.out⟩
  subst he
  have hh := HH.out
  rw [if_pos rfl] at hh
  by_cases hl : 0 < (l0.length : Int)
  case neg => rw [if_neg hl] at hh; cases hh
  rw [if_pos hl] at hh
  obtain ⟨ad, A2, c2, ead, hz0, hz1, hz2, hz3, hz4, hz5⟩ := at_T49 HR0.out 0 (Int.le_refl _) hl
  cases ead
  have HZ2 : Aside0 (w.cell? ⟨ad.block, ad.off + 2, none⟩ = some (.slice A2 (rd_T49 l0 0).f2.length c2)) := ⟨hz2⟩
  have hzl := hz5.2.1
  clear hz0 hz1 hz2 hz3 hz4 hz5 HH
  have HG := Aside0.mk hh
  clear hh
  generalize hN : (rd_T49 l0 0).f2.length = N at *
  clear hN
  go_enter Try.func18, Try.ntmps18
  go_wp2_with (go_at_call 13; refine (stress_Check.calls k (some ad) c0 l0 0 _ HR0.out HC0.out HE0.out).mono ?_; rintro _ w1 ⟨rfl, hb⟩; have HB := Aside0.mk hb; have hz := pw_cell_below hb HZ2.out; clear hb)
  clear hz HZ2 HE0
  go_loopg [2, 3, 4, 5, 25] N (fun kq v2 v3 v4 v5 v25 w' => ∃ (y : Nat) (size sc : Int) (gr : List ByteArray), v2 = .int .i64 size ∧ v3 = .int .i64 sc ∧ v5 = .int .i64 0 ∧ v25 = .int .i64 (y : Int) ∧ kq + y = N ∧ Aside0 (stress_Two.go k l0 kq y size sc gr = some (r1, r2, r3, r4)) ∧ Aside0 (Kd.R Kd.string 9 w' w.heap.size (fun _ => True) v4 gr) ∧ Aside0 (Below w.heap.size w w'))
  case atStart => exact ⟨0, 0, 0, [], rfl, rfl, rfl, rfl, by omega, HG, ⟨Kd.R_nil _ _ _ _ _⟩, HB⟩
  case round =>
    clear HG HB
    obtain ⟨y, size, sc, gr, rfl, rfl, rfl, rfl, hy, HA, HR4, HB⟩ := hrel
    have hsz := HB.out.size
    cases gk with
    | zero =>
      have hA := HA.out
      rw [stress_Two.go] at hA
      have hA2 := Option.some.inj hA
      simp only [Prod.mk.injEq] at hA2
      obtain ⟨rfl, rfl, rfl, rfl⟩ := hA2
      have hd2 : decide ((y : Int) < (N : Int)) = false := decide_eq_false (by omega)
      clear hA HA
      go_wp2
      first | go_end0 | ((try simp only [Exit.inBlock, Exit.then]); refine bodyPost_ret (results_list (rs := [.tmp 2, .tmp 3, .tmp 4, .tmp 5]) rfl (by simp) (.tmp (.tmp (.tmp (.tmp .nil))))) rfl ?_)
      exact ⟨_, rfl, HR4.out, HB.out⟩
    | succ j =>
      have hd2 : decide ((y : Int) < (N : Int)) = true := decide_eq_true (by omega)
      have hA := HA.out
      rw [stress_Two.go] at hA
      obtain ⟨⟨bn, bl, be⟩, hBA, hA⟩ := Option.bind_eq_some_iff.mp hA
      simp only at hA
      have HBA := Aside0.mk hBA
      clear HA hBA
      by_cases he : be = 0
      case neg =>
        rw [if_neg he] at hA
        have hA2 := Option.some.inj hA
        simp only [Prod.mk.injEq] at hA2
        obtain ⟨rfl, rfl, rfl, rfl⟩ := hA2
        have h0b : (be == 0) = false := beq_eq_false_iff_ne.mpr he
        have h1b : (be != 0) = true := bne_iff_ne.mpr he
        clear he hA
        go_wp2_with ((go_at_call 11; refine (stress_Bare.calls k (some ad) c0 l0 (y : Int) bn bl be _ (Kd.C_below HR0.out HB.out) HC0.out HBA.out).mono ?_; rintro _ w1 ⟨vn, vl, rfl, ho1, ho2, hb⟩; have HRN := Aside0.mk ho1; have HRL := Aside0.mk ho2; have HB1 := Aside0.mk (below_step HB.out hb); have HR41 := Aside0.mk (Kd.R_below HR4.out hb); obtain ⟨An, cn, en⟩ := Kd.R_slice ho1; subst en; obtain ⟨Al, cl, el⟩ := Kd.R_slice ho2; subst el; clear hb ho1 ho2))
        first | go_end0 | ((try simp only [Exit.inBlock, Exit.then]); refine bodyPost_ret (results_list (rs := [.tmp 2, .tmp 3, .tmp 4, .tmp 5]) rfl (by simp) (.tmp (.tmp (.tmp (.tmp .nil))))) rfl ?_)
        exact ⟨_, rfl, Kd.R_nil _ _ _ _ _, HB1.out⟩
      subst he
      rw [if_pos rfl] at hA
      obtain ⟨⟨s0, n0, s1, n1, g⟩, hGR, hA⟩ := Option.bind_eq_some_iff.mp hA
      simp only at hA
      obtain ⟨⟨a, ae⟩, hAD, hA⟩ := Option.bind_eq_some_iff.mp hA
      simp only at hA
      have hg2 : g ≤ 2 := stress_greatest.le2 _ _ _ _ _ _ _ _ (by omega) hGR
      have HGR := Aside0.mk hGR
      have HAD := Aside0.mk hAD
      clear hGR hAD
      by_cases he : ae = 0
      case neg =>
        rw [if_neg he] at hA
        have hA2 := Option.some.inj hA
        simp only [Prod.mk.injEq] at hA2
        obtain ⟨rfl, rfl, rfl, rfl⟩ := hA2
        have h0b : (ae == 0) = false := beq_eq_false_iff_ne.mpr he
        have h1b : (ae != 0) = true := bne_iff_ne.mpr he
        clear he hA
        go_wp2_with (first | (go_at_call 11; refine (stress_Bare.calls k (some ad) c0 l0 (y : Int) bn bl 0 _ (Kd.C_below HR0.out HB.out) HC0.out HBA.out).mono ?_; rintro _ w1 ⟨vn, vl, rfl, ho1, ho2, hb⟩; have HRN := Aside0.mk ho1; have HRL := Aside0.mk ho2; have HB1 := Aside0.mk (below_step HB.out hb); have HR41 := Aside0.mk (Kd.R_below HR4.out hb); obtain ⟨An, cn, en⟩ := Kd.R_slice ho1; subst en; obtain ⟨Al, cl, el⟩ := Kd.R_slice ho2; subst el; clear hb ho1 ho2) | (go_at_call 31; refine (stress_greatest.calls An cn bn Al cl bl s0 n0 s1 n1 g _ (Kd.R_reads' HRN.out).2.2 (Kd.R_reads' HRN.out).2.1 (Kd.R_reads' HRL.out).2.2 (Kd.R_reads' HRL.out).2.1 HGR.out).mono ?_; rintro _ w2 ⟨rfl, hb⟩; have HB2 := Aside0.mk (below_step HB1.out hb); have HR42 := Aside0.mk (Kd.R_below HR41.out hb); clear hb) | (go_at_call 32; refine (cents_Add.calls n0 n1 a ae _ HAD.out).mono ?_; rintro _ w3 ⟨rfl, hb⟩; have BX := Aside0.mk (blk_below (blk_new w2 (.cells #[.string s0, .int .i64 n0, .string s1, .int .i64 n1] 65 (0, 0))) hb.below); have HB3 := Aside0.mk (below_step (below_alloc HB2.out _) hb.below); have HR43 := Aside0.mk (Kd.R_below (Kd.R_alloc HR42.out _) hb.below); clear hb))
        first | go_end0 | ((try simp only [Exit.inBlock, Exit.then]); refine bodyPost_ret (results_list (rs := [.tmp 2, .tmp 3, .tmp 4, .tmp 5]) rfl (by simp) (.tmp (.tmp (.tmp (.tmp .nil))))) rfl ?_)
        exact ⟨_, rfl, Kd.R_nil _ _ _ _ _, HB3.out⟩
      subst he
      rw [if_pos rfl] at hA
      by_cases hc : (y : Int) = 0 ∨ size < a
      case neg =>
        rw [if_neg hc] at hA
        have HA2 := Aside0.mk hA
        have hy0 : ((y : Int) == 0) = false := beq_eq_false_iff_ne.mpr (fun e => hc (.inl e))
        have hyd : decide (size < a) = false := decide_eq_false (fun e => hc (.inr e))
        clear hA hc
        go_wp2_with (first | (go_at_call 11; refine (stress_Bare.calls k (some ad) c0 l0 (y : Int) bn bl 0 _ (Kd.C_below HR0.out HB.out) HC0.out HBA.out).mono ?_; rintro _ w1 ⟨vn, vl, rfl, ho1, ho2, hb⟩; have HRN := Aside0.mk ho1; have HRL := Aside0.mk ho2; have HB1 := Aside0.mk (below_step HB.out hb); have HR41 := Aside0.mk (Kd.R_below HR4.out hb); obtain ⟨An, cn, en⟩ := Kd.R_slice ho1; subst en; obtain ⟨Al, cl, el⟩ := Kd.R_slice ho2; subst el; clear hb ho1 ho2) | (go_at_call 31; refine (stress_greatest.calls An cn bn Al cl bl s0 n0 s1 n1 g _ (Kd.R_reads' HRN.out).2.2 (Kd.R_reads' HRN.out).2.1 (Kd.R_reads' HRL.out).2.2 (Kd.R_reads' HRL.out).2.1 HGR.out).mono ?_; rintro _ w2 ⟨rfl, hb⟩; have HB2 := Aside0.mk (below_step HB1.out hb); have HR42 := Aside0.mk (Kd.R_below HR41.out hb); clear hb) | (go_at_call 32; refine (cents_Add.calls n0 n1 a 0 _ HAD.out).mono ?_; rintro _ w3 ⟨rfl, hb⟩; have BX := Aside0.mk (blk_below (blk_new w2 (.cells #[.string s0, .int .i64 n0, .string s1, .int .i64 n1] 65 (0, 0))) hb.below); have HB3 := Aside0.mk (below_step (below_alloc HB2.out _) hb.below); have HR43 := Aside0.mk (Kd.R_below (Kd.R_alloc HR42.out _) hb.below); clear hb))
        go_roundg j
        case measure => omega
        case rel => exact ⟨y + 1, size, sc, gr, rfl, rfl, rfl, by go_num, by omega, HA2, HR43, HB3⟩
      rw [if_pos hc] at hA
      have HA2 := Aside0.mk hA
      have hyN : (y : Int) ≤ N := by omega
      have hsl := fun b W => two_slice g hg2 b W
      by_cases hy0 : (y : Int) = 0
      · have hy0b : ((y : Int) == 0) = true := beq_iff_eq.mpr hy0
        clear hy0
        clear hA hc
        go_wp2_with (first | (go_at_call 11; refine (stress_Bare.calls k (some ad) c0 l0 (y : Int) bn bl 0 _ (Kd.C_below HR0.out HB.out) HC0.out HBA.out).mono ?_; rintro _ w1 ⟨vn, vl, rfl, ho1, ho2, hb⟩; have HRN := Aside0.mk ho1; have HRL := Aside0.mk ho2; have HB1 := Aside0.mk (below_step HB.out hb); have HR41 := Aside0.mk (Kd.R_below HR4.out hb); obtain ⟨An, cn, en⟩ := Kd.R_slice ho1; subst en; obtain ⟨Al, cl, el⟩ := Kd.R_slice ho2; subst el; clear hb ho1 ho2) | (go_at_call 31; refine (stress_greatest.calls An cn bn Al cl bl s0 n0 s1 n1 g _ (Kd.R_reads' HRN.out).2.2 (Kd.R_reads' HRN.out).2.1 (Kd.R_reads' HRL.out).2.2 (Kd.R_reads' HRL.out).2.1 HGR.out).mono ?_; rintro _ w2 ⟨rfl, hb⟩; have HB2 := Aside0.mk (below_step HB1.out hb); have HR42 := Aside0.mk (Kd.R_below HR41.out hb); clear hb) | (go_at_call 32; refine (cents_Add.calls n0 n1 a 0 _ HAD.out).mono ?_; rintro _ w3 ⟨rfl, hb⟩; have BX := Aside0.mk (blk_below (blk_new w2 (.cells #[.string s0, .int .i64 n0, .string s1, .int .i64 n1] 65 (0, 0))) hb.below); have HB3 := Aside0.mk (below_step (below_alloc HB2.out _) hb.below); have HR43 := Aside0.mk (Kd.R_below (Kd.R_alloc HR42.out _) hb.below); clear hb))
        have HNIL := Aside0.mk (Kd.R_nil Kd.string 9 w3 w.heap.size (fun _ => True))
        go_loopg [4, 69] g (fun kq2 v4 v69 w' => ∃ (z : Nat), v69 = .int .i64 (z : Int) ∧ kq2 + z = g ∧ Aside0 (Kd.R Kd.string 9 w' w.heap.size (fun _ => True) v4 ([s0, s1].take z)) ∧ Aside0 (w'.heap[w2.heap.size]? = some (.cells #[.string s0, .int .i64 n0, .string s1, .int .i64 n1] 65 (0, 0))) ∧ Aside0 (Below w.heap.size w w'))
        case atStart => exact ⟨0, rfl, by omega, HNIL, BX, HB3⟩
        case round =>
          clear HR43 HR42 HR41 HR4 HB3 HB2 HB1 HB BX HNIL
          obtain ⟨z, rfl, hz, HR4, BX, HB⟩ := hrel
          have hsz3 := HB.out.size
          have hltB := blk_lt BX.out
          have q0 : wr.cell? ⟨w2.heap.size, 0, none⟩ = some (.string s0) := (blk_cell BX.out 0).trans rfl
          have q1 : wr.cell? ⟨w2.heap.size, 1, none⟩ = some (.int .i64 n0) := (blk_cell BX.out 1).trans rfl
          have q2 : wr.cell? ⟨w2.heap.size, 2, none⟩ = some (.string s1) := (blk_cell BX.out 2).trans rfl
          have q3 : wr.cell? ⟨w2.heap.size, 3, none⟩ = some (.int .i64 n1) := (blk_cell BX.out 3).trans rfl
          by_cases hzl : z < g
          · have hd3 : decide ((z : Int) < (g : Int)) = true := decide_eq_true (by omega)
            match z, hzl, hz, HR4, hd3 with
            | 0, hzl, hz, HR4, hd3 =>
              go_wp2_with ((with_reducible refine gate_builtin (b := .append) (xs := #[.tmp 73, .tmp 76]) rfl ?_); at_builtin; refine Kd.R_append Kd.string (w0 := w) w.heap.size rfl (.tmp 73) (.tmp 76) 26 9 (.string ⟨#[]⟩) 16 rfl Try.underlying26 info9 rfl (by decide) (by decide) u4 ([s0, s1].take 0) s0 [.string s0] (fun _ => True) (fun _ => False) rfl ?aX ?aP (fun _ hk => hk.elim) (fun _ _ => trivial) (Kd.R_alloc HR4.out _) (HB.out.alloc HB.out.size _) (HB.out.alloc HB.out.size _).size ?aL ?_; (case aX => (rw [World.size_alloc]; rfl)); (case aP => rfl); (case aL => simp); intro v6 w6 ho hb6 hg6 _; have HR6 := Aside0.mk ho; have HB6 := Aside0.mk hb6; have BX6 := Aside0.mk (blk_kept (blk_alloc BX.out _) (Kd.R_alloc HR4.out (.cells #[.string s0, .int .i64 n0] 64 (0, 0))) (by decide) hg6); clear ho hb6 hg6)
              go_roundg (g - 1)
              case measure => omega
              case rel => exact ⟨1, by go_num, by omega, HR6, BX6, HB6⟩
            | 1, hzl, hz, HR4, hd3 =>
              go_wp2_with ((with_reducible refine gate_builtin (b := .append) (xs := #[.tmp 73, .tmp 76]) rfl ?_); at_builtin; refine Kd.R_append Kd.string (w0 := w) w.heap.size rfl (.tmp 73) (.tmp 76) 26 9 (.string ⟨#[]⟩) 16 rfl Try.underlying26 info9 rfl (by decide) (by decide) u4 ([s0, s1].take 1) s1 [.string s1] (fun _ => True) (fun _ => False) rfl ?aX ?aP (fun _ hk => hk.elim) (fun _ _ => trivial) (Kd.R_alloc HR4.out _) (HB.out.alloc HB.out.size _) (HB.out.alloc HB.out.size _).size ?aL ?_; (case aX => (rw [World.size_alloc]; rfl)); (case aP => rfl); (case aL => simp); intro v6 w6 ho hb6 hg6 _; have HR6 := Aside0.mk ho; have HB6 := Aside0.mk hb6; have BX6 := Aside0.mk (blk_kept (blk_alloc BX.out _) (Kd.R_alloc HR4.out (.cells #[.string s1, .int .i64 n1] 64 (0, 0))) (by decide) hg6); clear ho hb6 hg6)
              go_roundg (g - 2)
              case measure => omega
              case rel => exact ⟨2, by go_num, by omega, HR6, BX6, HB6⟩
            | z + 2, hzl, hz, HR4, hd3 => exact absurd hzl (by omega)
          · have hze : z = g := by omega
            subst hze
            have hd3 : decide ((z : Int) < (z : Int)) = false := decide_eq_false (by omega)
            go_wp2
            go_roundg j
            case measure => omega
            case rel => exact ⟨y + 1, a, (y : Int), [s0, s1].take z, rfl, rfl, rfl, by go_num, by omega, HA2, HR4, HB⟩
      · have hy0b : ((y : Int) == 0) = false := beq_eq_false_iff_ne.mpr hy0
        have hyd : decide (size < a) = true := decide_eq_true (hc.resolve_left hy0)
        clear hy0
        clear hA hc
        go_wp2_with (first | (go_at_call 11; refine (stress_Bare.calls k (some ad) c0 l0 (y : Int) bn bl 0 _ (Kd.C_below HR0.out HB.out) HC0.out HBA.out).mono ?_; rintro _ w1 ⟨vn, vl, rfl, ho1, ho2, hb⟩; have HRN := Aside0.mk ho1; have HRL := Aside0.mk ho2; have HB1 := Aside0.mk (below_step HB.out hb); have HR41 := Aside0.mk (Kd.R_below HR4.out hb); obtain ⟨An, cn, en⟩ := Kd.R_slice ho1; subst en; obtain ⟨Al, cl, el⟩ := Kd.R_slice ho2; subst el; clear hb ho1 ho2) | (go_at_call 31; refine (stress_greatest.calls An cn bn Al cl bl s0 n0 s1 n1 g _ (Kd.R_reads' HRN.out).2.2 (Kd.R_reads' HRN.out).2.1 (Kd.R_reads' HRL.out).2.2 (Kd.R_reads' HRL.out).2.1 HGR.out).mono ?_; rintro _ w2 ⟨rfl, hb⟩; have HB2 := Aside0.mk (below_step HB1.out hb); have HR42 := Aside0.mk (Kd.R_below HR41.out hb); clear hb) | (go_at_call 32; refine (cents_Add.calls n0 n1 a 0 _ HAD.out).mono ?_; rintro _ w3 ⟨rfl, hb⟩; have BX := Aside0.mk (blk_below (blk_new w2 (.cells #[.string s0, .int .i64 n0, .string s1, .int .i64 n1] 65 (0, 0))) hb.below); have HB3 := Aside0.mk (below_step (below_alloc HB2.out _) hb.below); have HR43 := Aside0.mk (Kd.R_below (Kd.R_alloc HR42.out _) hb.below); clear hb))
        have HNIL := Aside0.mk (Kd.R_nil Kd.string 9 w3 w.heap.size (fun _ => True))
        go_loopg [4, 69] g (fun kq2 v4 v69 w' => ∃ (z : Nat), v69 = .int .i64 (z : Int) ∧ kq2 + z = g ∧ Aside0 (Kd.R Kd.string 9 w' w.heap.size (fun _ => True) v4 ([s0, s1].take z)) ∧ Aside0 (w'.heap[w2.heap.size]? = some (.cells #[.string s0, .int .i64 n0, .string s1, .int .i64 n1] 65 (0, 0))) ∧ Aside0 (Below w.heap.size w w'))
        case atStart => exact ⟨0, rfl, by omega, HNIL, BX, HB3⟩
        case round =>
          clear HR43 HR42 HR41 HR4 HB3 HB2 HB1 HB BX HNIL
          obtain ⟨z, rfl, hz, HR4, BX, HB⟩ := hrel
          have hsz3 := HB.out.size
          have hltB := blk_lt BX.out
          have q0 : wr.cell? ⟨w2.heap.size, 0, none⟩ = some (.string s0) := (blk_cell BX.out 0).trans rfl
          have q1 : wr.cell? ⟨w2.heap.size, 1, none⟩ = some (.int .i64 n0) := (blk_cell BX.out 1).trans rfl
          have q2 : wr.cell? ⟨w2.heap.size, 2, none⟩ = some (.string s1) := (blk_cell BX.out 2).trans rfl
          have q3 : wr.cell? ⟨w2.heap.size, 3, none⟩ = some (.int .i64 n1) := (blk_cell BX.out 3).trans rfl
          by_cases hzl : z < g
          · have hd3 : decide ((z : Int) < (g : Int)) = true := decide_eq_true (by omega)
            match z, hzl, hz, HR4, hd3 with
            | 0, hzl, hz, HR4, hd3 =>
              go_wp2_with ((with_reducible refine gate_builtin (b := .append) (xs := #[.tmp 73, .tmp 76]) rfl ?_); at_builtin; refine Kd.R_append Kd.string (w0 := w) w.heap.size rfl (.tmp 73) (.tmp 76) 26 9 (.string ⟨#[]⟩) 16 rfl Try.underlying26 info9 rfl (by decide) (by decide) u4 ([s0, s1].take 0) s0 [.string s0] (fun _ => True) (fun _ => False) rfl ?aX ?aP (fun _ hk => hk.elim) (fun _ _ => trivial) (Kd.R_alloc HR4.out _) (HB.out.alloc HB.out.size _) (HB.out.alloc HB.out.size _).size ?aL ?_; (case aX => (rw [World.size_alloc]; rfl)); (case aP => rfl); (case aL => simp); intro v6 w6 ho hb6 hg6 _; have HR6 := Aside0.mk ho; have HB6 := Aside0.mk hb6; have BX6 := Aside0.mk (blk_kept (blk_alloc BX.out _) (Kd.R_alloc HR4.out (.cells #[.string s0, .int .i64 n0] 64 (0, 0))) (by decide) hg6); clear ho hb6 hg6)
              go_roundg (g - 1)
              case measure => omega
              case rel => exact ⟨1, by go_num, by omega, HR6, BX6, HB6⟩
            | 1, hzl, hz, HR4, hd3 =>
              go_wp2_with ((with_reducible refine gate_builtin (b := .append) (xs := #[.tmp 73, .tmp 76]) rfl ?_); at_builtin; refine Kd.R_append Kd.string (w0 := w) w.heap.size rfl (.tmp 73) (.tmp 76) 26 9 (.string ⟨#[]⟩) 16 rfl Try.underlying26 info9 rfl (by decide) (by decide) u4 ([s0, s1].take 1) s1 [.string s1] (fun _ => True) (fun _ => False) rfl ?aX ?aP (fun _ hk => hk.elim) (fun _ _ => trivial) (Kd.R_alloc HR4.out _) (HB.out.alloc HB.out.size _) (HB.out.alloc HB.out.size _).size ?aL ?_; (case aX => (rw [World.size_alloc]; rfl)); (case aP => rfl); (case aL => simp); intro v6 w6 ho hb6 hg6 _; have HR6 := Aside0.mk ho; have HB6 := Aside0.mk hb6; have BX6 := Aside0.mk (blk_kept (blk_alloc BX.out _) (Kd.R_alloc HR4.out (.cells #[.string s1, .int .i64 n1] 64 (0, 0))) (by decide) hg6); clear ho hb6 hg6)
              go_roundg (g - 2)
              case measure => omega
              case rel => exact ⟨2, by go_num, by omega, HR6, BX6, HB6⟩
            | z + 2, hzl, hz, HR4, hd3 => exact absurd hzl (by omega)
          · have hze : z = g := by omega
            subst hze
            have hd3 : decide ((z : Int) < (z : Int)) = false := decide_eq_false (by omega)
            go_wp2
            go_roundg j
            case measure => omega
            case rel => exact ⟨y + 1, a, (y : Int), [s0, s1].take z, rfl, rfl, rfl, by go_num, by omega, HA2, HR4, HB⟩

/-! ### cmp_isNaN_string: function 57 -/
def cmp_isNaN_string.f (a0 : ByteArray) : Option (Bool) := some (a0.toList != a0.toList)
set_option maxHeartbeats 8000000 in
set_option maxRecDepth 100000 in
theorem cmp_isNaN_string.calls (a0 : ByteArray) (r : Bool) (w : World) (h : cmp_isNaN_string.f a0 = some r) :
    Calls Try.prog 57 #[.string a0] w fun e w' => e = .returned (.bool r) ∧ Drawn0 w w' := by
  have H : (some (a0.toList != a0.toList)) = some r := h
  clear h
  obtain rfl := Option.some.inj H
  go_enter Try.func57, Try.ntmps57
  go_wp2
  go_ret
  exact ⟨by first | rfl | (simp; done) | (simp [*]; done), by repeat (first | exact Drawn0.refl _ | apply Drawn0.step)⟩

/-! ### cmp_Less_string: function 45 -/
def cmp_Less_string.f (a0 : ByteArray) (a1 : ByteArray) : Option (Bool) := (cmp_isNaN_string.f a0).bind fun t130 => (if t130 = true then ((cmp_isNaN_string.f a1).bind fun t131 => (if t131 = true then (some (Op.bytesLess a0.toList a1.toList)) else (some true))) else (some (Op.bytesLess a0.toList a1.toList)))
set_option maxHeartbeats 8000000 in
set_option maxRecDepth 100000 in
theorem cmp_Less_string.calls (a0 : ByteArray) (a1 : ByteArray) (r : Bool) (w : World) (h : cmp_Less_string.f a0 a1 = some r) :
    Calls Try.prog 45 #[.string a0, .string a1] w fun e w' => e = .returned (.bool r) ∧ Drawn0 w w' := by
  have H : ((cmp_isNaN_string.f a0).bind fun t130 => (if t130 = true then ((cmp_isNaN_string.f a1).bind fun t131 => (if t131 = true then (some (Op.bytesLess a0.toList a1.toList)) else (some true))) else (some (Op.bytesLess a0.toList a1.toList)))) = some r := h
  clear h
  replace H := Option.bind_eq_some_iff.mp H
  obtain ⟨t130, A30, H⟩ := H
  replace H : (if t130 = true then ((cmp_isNaN_string.f a1).bind fun t131 => (if t131 = true then (some (Op.bytesLess a0.toList a1.toList)) else (some true))) else (some (Op.bytesLess a0.toList a1.toList))) = some r := H
  have A3 := Aside0.mk A30
  clear A30
  by_cases c4 : t130 = true
  · subst c4
    have H1 : ((cmp_isNaN_string.f a1).bind fun t131 => (if t131 = true then (some (Op.bytesLess a0.toList a1.toList)) else (some true))) = some r := by rw [if_pos rfl] at H; exact H
    clear H
    have H := H1
    clear H1
    replace H := Option.bind_eq_some_iff.mp H
    obtain ⟨t131, A50, H⟩ := H
    replace H : (if t131 = true then (some (Op.bytesLess a0.toList a1.toList)) else (some true)) = some r := H
    have A5 := Aside0.mk A50
    clear A50
    by_cases c6 : t131 = true
    · subst c6
      have H1 : (some (Op.bytesLess a0.toList a1.toList)) = some r := by rw [if_pos rfl] at H; exact H
      clear H
      have H := H1
      clear H1
      obtain rfl := Option.some.inj H
      go_enter Try.func45, Try.ntmps45
      go_wp2_with (first | ((with_reducible refine gate_callee (f := 57) rfl ?_); refine goesL_ (some 6) rfl rfl Try.func57 (by kernel_rfl) rfl #[.string a0] rfl (by (try simp only [List.map_toArray, List.map_cons, List.map_nil]); first | done | rfl | (simp only [List.length_drop, List.length_take]; rfl)) ?_; (with_reducible refine (cmp_isNaN_string.calls a0 true _ A3.out).mono ?_); rintro e w' ⟨rfl, ⟨nd, rfl⟩⟩; refine ⟨_, rfl, ?_⟩) | (go_at_call 57; (with_reducible refine (cmp_isNaN_string.calls a1 true _ A5.out).mono ?_); rintro e w' ⟨rfl, ⟨nd, rfl⟩⟩))
      go_ret
      exact ⟨by first | rfl | (simp; done) | (simp [*]; done), by repeat (first | exact Drawn0.refl _ | apply Drawn0.step)⟩
    · replace c6 := Bool.eq_false_iff.mpr c6
      subst c6
      have H1 : (some true) = some r := by rw [if_neg (show ¬ (false = true) by decide)] at H; exact H
      clear H
      have H := H1
      clear H1
      obtain rfl := Option.some.inj H
      go_enter Try.func45, Try.ntmps45
      go_wp2_with (first | ((with_reducible refine gate_callee (f := 57) rfl ?_); refine goesL_ (some 6) rfl rfl Try.func57 (by kernel_rfl) rfl #[.string a0] rfl (by (try simp only [List.map_toArray, List.map_cons, List.map_nil]); first | done | rfl | (simp only [List.length_drop, List.length_take]; rfl)) ?_; (with_reducible refine (cmp_isNaN_string.calls a0 true _ A3.out).mono ?_); rintro e w' ⟨rfl, ⟨nd, rfl⟩⟩; refine ⟨_, rfl, ?_⟩) | (go_at_call 57; (with_reducible refine (cmp_isNaN_string.calls a1 false _ A5.out).mono ?_); rintro e w' ⟨rfl, ⟨nd, rfl⟩⟩))
      go_ret
      exact ⟨by first | rfl | (simp; done) | (simp [*]; done), by repeat (first | exact Drawn0.refl _ | apply Drawn0.step)⟩
  · replace c4 := Bool.eq_false_iff.mpr c4
    subst c4
    have H1 : (some (Op.bytesLess a0.toList a1.toList)) = some r := by rw [if_neg (show ¬ (false = true) by decide)] at H; exact H
    clear H
    have H := H1
    clear H1
    obtain rfl := Option.some.inj H
    go_enter Try.func45, Try.ntmps45
    go_wp2_with (first | ((with_reducible refine gate_callee (f := 57) rfl ?_); refine goesL_ (some 6) rfl rfl Try.func57 (by kernel_rfl) rfl #[.string a0] rfl (by (try simp only [List.map_toArray, List.map_cons, List.map_nil]); first | done | rfl | (simp only [List.length_drop, List.length_take]; rfl)) ?_; (with_reducible refine (cmp_isNaN_string.calls a0 false _ A3.out).mono ?_); rintro e w' ⟨rfl, ⟨nd, rfl⟩⟩; refine ⟨_, rfl, ?_⟩))
    go_ret
    exact ⟨by first | rfl | (simp; done) | (simp [*]; done), by repeat (first | exact Drawn0.refl _ | apply Drawn0.step)⟩

/-! ### slices_isNaN_string: function 46 -/
def slices_isNaN_string.f (a0 : ByteArray) : Option (Bool) := some (a0.toList != a0.toList)
set_option maxHeartbeats 8000000 in
set_option maxRecDepth 100000 in
theorem slices_isNaN_string.calls (a0 : ByteArray) (r : Bool) (w : World) (h : slices_isNaN_string.f a0 = some r) :
    Calls Try.prog 46 #[.string a0] w fun e w' => e = .returned (.bool r) ∧ Drawn0 w w' := by
  have H : (some (a0.toList != a0.toList)) = some r := h
  clear h
  obtain rfl := Option.some.inj H
  go_enter Try.func46, Try.ntmps46
  go_wp2
  go_ret
  exact ⟨by first | rfl | (simp; done) | (simp [*]; done), by repeat (first | exact Drawn0.refl _ | apply Drawn0.step)⟩

end Go.Proofs.Ytaookghbppimnaa.PStressMargin
