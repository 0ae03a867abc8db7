import Derived.Test.YtjmkdmbgldcleaaPTearAppliesx0
import Derived.Test.YtjmkdmbgldcleaaPTearAppliesx3
import Derived.Test.YtjmkdmbgldcleaaPTearAppliesx4
import Derived.Test.YtjmkdmbgldcleaaPTearAppliesx5
import Derived.Test.YtjmkdmbgldcleaaPTearAppliesx9
import Derived.Test.YtjmkdmbgldcleaaPTearAppliesx12
import Derived.Test.YtjmkdmbgldcleaaPTearAppliesx17
namespace Go.Proofs.Ytjmkdmbgldcleaa.PTearApplies
open Go.RowKit Go.Proofs.YtjmkdmbgldcleaaW.PrintWords Go.Proofs.YtjmkdmbgldcleaaW.PrintLast Go.Proofs.YtjmkdmbgldcleaaW.PrintMore
attribute [local go_sem] max2_int min2_int max_two min_two max_three min_three max_four min_four Go.Proofs.YtjmkdmbgldcleaaHand.run_leq_str Go.Proofs.YtjmkdmbgldcleaaHand.run_gtr_str Go.Proofs.YtjmkdmbgldcleaaHand.run_geq_str   -- for this text's walks alone
set_option linter.unusedVariables false
set_option linter.unusedSimpArgs false

attribute [local go_sem high] eqA52 eqA55
/-! ### contangoref15_Same: function 21 -/
mutual
def contangoref15_Same.l0 : Nat → List (S52) → List (S52) → Int → Option (Bool)
  | 0, _, _, _ => none
  | k + 1, x0, x1, x5 => if x5 < (x0.length : Int) then (contangoref15_Same.j1 k x0 x1 x5 (decide (x5 < (x1.length : Int)))) else (contangoref15_Same.j1 k x0 x1 x5 false)
def contangoref15_Same.j1 : Nat → List (S52) → List (S52) → Int → Bool → Option (Bool)
  | 0, _, _, _, _ => none
  | k + 1, x0, x1, x5, x15 => if x15 = true then (if 0 ≤ x5 then (if x5 < (x0.length : Int) then (if x5 < (x1.length : Int) then (if ((eqD52 ((rd_T52 x0 x5).f0.f0) ((rd_T52 x1 x5).f0.f0) ((rd_T52 x0 x5).f0.f1) ((rd_T52 x1 x5).f0.f1) ((rd_T52 x0 x5).f0.f2) ((rd_T52 x1 x5).f0.f2) ((rd_T52 x0 x5).f0.f3) ((rd_T52 x1 x5).f0.f3) ((rd_T52 x0 x5).f1) ((rd_T52 x1 x5).f1) ((rd_T52 x0 x5).f2) ((rd_T52 x1 x5).f2)) = true) then (contangoref15_Same.l0 k x0 x1 (wrap64 (x5 + 1))) else (some false)) else (none)) else (none)) else (none)) else (some ((x0.length : Int) == (x1.length : Int)))
end
def contangoref15_Same.f (k : Nat) (l0 : List (S52)) (l1 : List (S52)) : Option (Bool) := contangoref15_Same.l0 k l0 l1 0
theorem contangoref15_Same.mono_l : ∀ k, (∀ y0 y1 y2, LeO (contangoref15_Same.l0 k y0 y1 y2) (contangoref15_Same.l0 (k + 1) y0 y1 y2)) ∧ (∀ y0 y1 y2 y3, LeO (contangoref15_Same.j1 k y0 y1 y2 y3) (contangoref15_Same.j1 (k + 1) y0 y1 y2 y3))
  | 0 => ⟨fun _ _ _ r h => by simp [contangoref15_Same.l0] at h, fun _ _ _ _ r h => by simp [contangoref15_Same.j1] at h⟩
  | k + 1 => by
    obtain ⟨ih0, ih1⟩ := contangoref15_Same.mono_l k
    refine ⟨?_, ?_⟩
    · intro y0 y1 y2
      unfold contangoref15_Same.l0
      repeat' first
      | (with_reducible exact ih0 _ _ _)
      | (with_reducible exact ih1 _ _ _ _)
      | (with_reducible exact LeO.refl _)
      | (with_reducible exact LeO.none _)
      | (with_reducible refine LeO.ite ?_ ?_)
      | (with_reducible refine LeO.bind ?_ (fun _ => ?_))
      | exact LeO.none _
      | refine LeO.ite ?_ ?_
      | refine LeO.bind ?_ (fun _ => ?_)
    · intro y0 y1 y2 y3
      unfold contangoref15_Same.j1
      repeat' first
      | (with_reducible exact ih0 _ _ _)
      | (with_reducible exact ih1 _ _ _ _)
      | (with_reducible exact LeO.refl _)
      | (with_reducible exact LeO.none _)
      | (with_reducible refine LeO.ite ?_ ?_)
      | (with_reducible refine LeO.bind ?_ (fun _ => ?_))
      | exact LeO.none _
      | refine LeO.ite ?_ ?_
      | refine LeO.bind ?_ (fun _ => ?_)
theorem contangoref15_Same.mono : ∀ a0 a1 k, LeO (contangoref15_Same.f k a0 a1) (contangoref15_Same.f (k + 1) a0 a1) := by
  intro a0 a1 k
  obtain ⟨ih0, ih1⟩ := contangoref15_Same.mono_l k
  unfold contangoref15_Same.f
  repeat' first
      | (with_reducible exact ih0 _ _ _)
      | (with_reducible exact ih1 _ _ _ _)
      | (with_reducible exact LeO.refl _)
      | (with_reducible exact LeO.none _)
      | (with_reducible refine LeO.ite ?_ ?_)
      | (with_reducible refine LeO.bind ?_ (fun _ => ?_))
      | exact LeO.none _
      | refine LeO.ite ?_ ?_
      | refine LeO.bind ?_ (fun _ => ?_)
set_option maxHeartbeats 8000000 in
set_option maxRecDepth 100000 in
theorem contangoref15_Same.calls (k : Nat) (A0 : Option Addr) (c0 : Nat) (l0 : List (S52)) (A1 : Option Addr) (c1 : Nat) (l1 : List (S52)) (r : Bool) (w : World) (hr0 : Kd.C k52 w A0 l0.length l0) (hc0 : l0.length ≤ c0) (hr1 : Kd.C k52 w A1 l1.length l1) (hc1 : l1.length ≤ c1) (h : contangoref15_Same.f k l0 l1 = some r) :
    Calls Try.prog 21 #[.slice A0 l0.length c0, .slice A1 l1.length c1] w fun e w' => e = .returned (.bool r) ∧ Drawn0 w w' := by
  have hu52 := Try.underlying52
  have HR0 := Aside0.mk hr0
  have HC0 := Aside0.mk hc0
  clear hr0 hc0
  have HR1 := Aside0.mk hr1
  have HC1 := Aside0.mk hc1
  clear hr1 hc1
  have H : (contangoref15_Same.l0 k l0 l1 0) = some r := h
  clear h
  have H' := Aside0.mk H
  clear H
  go_enter Try.func21, Try.ntmps21
  go_wp2
  repeat (go_quiet (fail); try go_wp2)
  go_loopg [5] k (fun kq v5 w' => ∃ (x5_1 : Int), v5 = .int .i64 x5_1 ∧ Aside0 (contangoref15_Same.l0 kq l0 l1 x5_1 = some r) ∧ Aside0 (kq ≤ k) ∧ Drawn0 w w')
  case atStart => exact ⟨(0), rf_, H', ⟨Nat.le_refl _⟩, by repeat (first | exact Drawn0.refl _ | apply Drawn0.step)⟩
  case round =>
    clear H'
    try clear c1
    try clear c2
    try clear p2
    obtain ⟨x5_1, rfl, HA, HK1, ⟨m1, rfl⟩⟩ := hrel
    cases gk with
    | zero => exact absurd HA.out (by simp [contangoref15_Same.l0])
    | succ k1 =>
      have H := HA.out
      clear HA
      simp only [contangoref15_Same.l0] at H
      have HC3 := Aside0.mk H
      clear H
      go_upto_region 2 with (fail)
      repeat (go_quiet (fail); go_upto_region 2 with (fail))
      go_cut [15] (fun v15 wc => ∃ (kq : Nat) (x15_2 : Bool), v15 = .bool x15_2 ∧ Aside0 (contangoref15_Same.j1 kq l0 l1 x5_1 x15_2 = some r) ∧ Aside0 (kq ≤ k1) ∧ Drawn0 w wc)
      case first =>
        have H := HC3.out
        clear HC3
        by_cases c4 : x5_1 < (l0.length : Int)
        · rw [if_pos c4] at H
          have c4b0 : decide (x5_1 < (l0.length : Int)) = true := decide_eq_true c4
          clear c4
          (first | rw [c4b0] | (simp only [i64_w, i32_w]; rw [c4b0]) | skip)
          have H' := Aside0.mk H
          clear H
          go_wp2
          repeat (go_quiet (fail); try go_wp2)
          go_meet
          case rel => exact ⟨_, (decide (x5_1 < (l1.length : Int))), rf_, H', ⟨by have := HK1.out; first | omega | exact Nat.le_refl _⟩, by repeat (first | exact Drawn0.refl _ | apply Drawn0.step)⟩
        · rw [if_neg c4] at H
          have c4b0 : decide (x5_1 < (l0.length : Int)) = false := decide_eq_false c4
          clear c4
          (first | rw [c4b0] | (simp only [i64_w, i32_w]; rw [c4b0]) | skip)
          have H' := Aside0.mk H
          clear H
          go_wp2
          repeat (go_quiet (fail); try go_wp2)
          go_meet
          case rel => exact ⟨_, (false), rf_, H', ⟨by have := HK1.out; first | omega | exact Nat.le_refl _⟩, by repeat (first | exact Drawn0.refl _ | apply Drawn0.step)⟩
      case rest =>
        clear HC3
        try clear c1
        try clear c2
        try clear p2
        try clear c4
        try clear c4b0
        try clear p2
        obtain ⟨kq, x15_2, rfl, HA, HJ2, ⟨mc2, rfl⟩⟩ := hcut
        cases kq with
        | zero => exact absurd HA.out (by simp [contangoref15_Same.j1])
        | succ kj2 =>
          have H := HA.out
          clear HA
          simp only [contangoref15_Same.j1] at H
          by_cases c5 : x15_2 = true
          · subst c5
            have H1 : (if 0 ≤ x5_1 then (if x5_1 < (l0.length : Int) then (if x5_1 < (l1.length : Int) then (if ((eqD52 ((rd_T52 l0 x5_1).f0.f0) ((rd_T52 l1 x5_1).f0.f0) ((rd_T52 l0 x5_1).f0.f1) ((rd_T52 l1 x5_1).f0.f1) ((rd_T52 l0 x5_1).f0.f2) ((rd_T52 l1 x5_1).f0.f2) ((rd_T52 l0 x5_1).f0.f3) ((rd_T52 l1 x5_1).f0.f3) ((rd_T52 l0 x5_1).f1) ((rd_T52 l1 x5_1).f1) ((rd_T52 l0 x5_1).f2) ((rd_T52 l1 x5_1).f2)) = true) then (contangoref15_Same.l0 kj2 l0 l1 (wrap64 (x5_1 + 1))) else (some false)) else (none)) else (none)) else (none)) = some r := by rw [if_pos rfl] at H; exact H
            clear H
            have H := H1
            clear H1
            by_cases c6 : 0 ≤ x5_1
            · rw [if_pos c6] at H
              have c6b0 : decide (0 ≤ x5_1) = true := decide_eq_true c6
              clear c6
              by_cases c7 : x5_1 < (l0.length : Int)
              · rw [if_pos c7] at H
                have c7b0 : decide (x5_1 < (l0.length : Int)) = true := decide_eq_true c7
                clear c7
                by_cases c8 : x5_1 < (l1.length : Int)
                · rw [if_pos c8] at H
                  have c8b0 : decide (x5_1 < (l1.length : Int)) = true := decide_eq_true c8
                  clear c8
                  by_cases c9 : ((eqD52 ((rd_T52 l0 x5_1).f0.f0) ((rd_T52 l1 x5_1).f0.f0) ((rd_T52 l0 x5_1).f0.f1) ((rd_T52 l1 x5_1).f0.f1) ((rd_T52 l0 x5_1).f0.f2) ((rd_T52 l1 x5_1).f0.f2) ((rd_T52 l0 x5_1).f0.f3) ((rd_T52 l1 x5_1).f0.f3) ((rd_T52 l0 x5_1).f1) ((rd_T52 l1 x5_1).f1) ((rd_T52 l0 x5_1).f2) ((rd_T52 l1 x5_1).f2)) = true)
                  · rw [if_pos c9] at H
                    have c9b0 : (eqD52 ((rd_T52 l0 x5_1).f0.f0) ((rd_T52 l1 x5_1).f0.f0) ((rd_T52 l0 x5_1).f0.f1) ((rd_T52 l1 x5_1).f0.f1) ((rd_T52 l0 x5_1).f0.f2) ((rd_T52 l1 x5_1).f0.f2) ((rd_T52 l0 x5_1).f0.f3) ((rd_T52 l1 x5_1).f0.f3) ((rd_T52 l0 x5_1).f1) ((rd_T52 l1 x5_1).f1) ((rd_T52 l0 x5_1).f2) ((rd_T52 l1 x5_1).f2)) = true := c9
                    clear c9
                    have H' := Aside0.mk H
                    clear H
                    have p247 : 0 ≤ (x5_1 : Int) := od_
                    have q247 : x5_1 < (l0.length : Int) := od_
                    obtain ⟨ad247, e247, hx247_0, hx247_1, hx247_2, hx247_3, hx247_4, hx247_5⟩ := at_T52 HR0.out x5_1 p247 q247
                    cases e247
                    replace p247 := eq_true p247
                    replace q247 := eq_true q247
                    have p248 : 0 ≤ (x5_1 : Int) := od_
                    have q248 : x5_1 < (l1.length : Int) := od_
                    obtain ⟨ad248, e248, hx248_0, hx248_1, hx248_2, hx248_3, hx248_4, hx248_5⟩ := at_T52 HR1.out x5_1 p248 q248
                    cases e248
                    replace p248 := eq_true p248
                    replace q248 := eq_true q248
                    go_wp2
                    repeat (go_quiet (fail); try go_wp2)
                    go_roundg kj2
                    case measure => have := HK1.out; have := HJ2.out; omega
                    case rel => exact ⟨(wrap64 (x5_1 + 1)), rf_, H', ⟨by have := HK1.out; have := HJ2.out; omega⟩, by repeat (first | exact Drawn0.refl _ | apply Drawn0.step)⟩
                  · rw [if_neg c9] at H
                    have c9b0 : (eqD52 ((rd_T52 l0 x5_1).f0.f0) ((rd_T52 l1 x5_1).f0.f0) ((rd_T52 l0 x5_1).f0.f1) ((rd_T52 l1 x5_1).f0.f1) ((rd_T52 l0 x5_1).f0.f2) ((rd_T52 l1 x5_1).f0.f2) ((rd_T52 l0 x5_1).f0.f3) ((rd_T52 l1 x5_1).f0.f3) ((rd_T52 l0 x5_1).f1) ((rd_T52 l1 x5_1).f1) ((rd_T52 l0 x5_1).f2) ((rd_T52 l1 x5_1).f2)) = false := by simpa using c9
                    clear c9
                    obtain rfl := Option.some.inj H
                    have p247 : 0 ≤ (x5_1 : Int) := od_
                    have q247 : x5_1 < (l0.length : Int) := od_
                    obtain ⟨ad247, e247, hx247_0, hx247_1, hx247_2, hx247_3, hx247_4, hx247_5⟩ := at_T52 HR0.out x5_1 p247 q247
                    cases e247
                    replace p247 := eq_true p247
                    replace q247 := eq_true q247
                    have p248 : 0 ≤ (x5_1 : Int) := od_
                    have q248 : x5_1 < (l1.length : Int) := od_
                    obtain ⟨ad248, e248, hx248_0, hx248_1, hx248_2, hx248_3, hx248_4, hx248_5⟩ := at_T52 HR1.out x5_1 p248 q248
                    cases e248
                    replace p248 := eq_true p248
                    replace q248 := eq_true q248
                    go_wp2
                    repeat (go_quiet (fail); try go_wp2)
                    go_ret
                    exact ⟨by first | rfl | (simp; done) | (simp [*]; done), by repeat (first | exact Drawn0.refl _ | apply Drawn0.step)⟩
                · rw [if_neg c8] at H
                  exact absurd H (by simp)
              · rw [if_neg c7] at H
                exact absurd H (by simp)
            · rw [if_neg c6] at H
              exact absurd H (by simp)
          · replace c5 := Bool.eq_false_iff.mpr c5
            subst c5
            have H1 : (some ((l0.length : Int) == (l1.length : Int))) = some r := by rw [if_neg (show ¬ (false = true) by decide)] at H; exact H
            clear H
            have H := H1
            clear H1
            obtain rfl := Option.some.inj H
            go_wp2
            repeat (go_quiet (fail); try go_wp2)
            go_ret
            exact ⟨by first | rfl | (simp; done) | (simp [*]; done), by repeat (first | exact Drawn0.refl _ | apply Drawn0.step)⟩

/-! ### contangoref50_Same: function 15 -/
def contangoref50_Same.l0 : Nat → List (S58) → List (S58) → Int → Option (Bool)
  | 0, _, _, _ => none
  | k + 1, x0, x1, x5 => if x5 < (x0.length : Int) then (if 0 ≤ x5 then (if x5 < (x1.length : Int) then (if ((eqD55 ((rd_T58 x0 x5).f0.f0) ((rd_T58 x1 x5).f0.f0) ((rd_T58 x0 x5).f0.f1) ((rd_T58 x1 x5).f0.f1)) = true) then ((contangoref15_Same.f k ((rd_T58 x0 x5).f1) ((rd_T58 x1 x5).f1)).bind fun t253 => (if t253 = true then (contangoref50_Same.l0 k x0 x1 (wrap64 (x5 + 1))) else (some false))) else (some false)) else (none)) else (none)) else (some true)
def contangoref50_Same.f (k : Nat) (l0 : List (S58)) (l1 : List (S58)) : Option (Bool) := if (l0.length : Int) = (l1.length : Int) then (contangoref50_Same.l0 k l0 l1 0) else (some false)
theorem contangoref50_Same.mono_l : ∀ k, (∀ y0 y1 y2, LeO (contangoref50_Same.l0 k y0 y1 y2) (contangoref50_Same.l0 (k + 1) y0 y1 y2))
  | 0 => fun _ _ _ r h => by simp [contangoref50_Same.l0] at h
  | k + 1 => by
    have ih0 := contangoref50_Same.mono_l k
    · intro y0 y1 y2
      unfold contangoref50_Same.l0
      repeat' first
      | (with_reducible exact ih0 _ _ _)
      | (with_reducible exact contangoref15_Same.mono _ _ _)
      | (with_reducible exact LeO.refl _)
      | (with_reducible exact LeO.none _)
      | (with_reducible refine LeO.ite ?_ ?_)
      | (with_reducible refine LeO.bind ?_ (fun _ => ?_))
      | exact LeO.none _
      | refine LeO.ite ?_ ?_
      | refine LeO.bind ?_ (fun _ => ?_)
theorem contangoref50_Same.mono : ∀ a0 a1 k, LeO (contangoref50_Same.f k a0 a1) (contangoref50_Same.f (k + 1) a0 a1) := by
  intro a0 a1 k
  have ih0 := contangoref50_Same.mono_l k
  unfold contangoref50_Same.f
  repeat' first
      | (with_reducible exact ih0 _ _ _)
      | (with_reducible exact contangoref15_Same.mono _ _ _)
      | (with_reducible exact LeO.refl _)
      | (with_reducible exact LeO.none _)
      | (with_reducible refine LeO.ite ?_ ?_)
      | (with_reducible refine LeO.bind ?_ (fun _ => ?_))
      | exact LeO.none _
      | refine LeO.ite ?_ ?_
      | refine LeO.bind ?_ (fun _ => ?_)
set_option maxHeartbeats 8000000 in
set_option maxRecDepth 100000 in
theorem contangoref50_Same.calls (k : Nat) (A0 : Option Addr) (c0 : Nat) (l0 : List (S58)) (A1 : Option Addr) (c1 : Nat) (l1 : List (S58)) (r : Bool) (w : World) (hr0 : Kd.C k58 w A0 l0.length l0) (hc0 : l0.length ≤ c0) (hr1 : Kd.C k58 w A1 l1.length l1) (hc1 : l1.length ≤ c1) (h : contangoref50_Same.f k l0 l1 = some r) :
    Calls Try.prog 15 #[.slice A0 l0.length c0, .slice A1 l1.length c1] w fun e w' => e = .returned (.bool r) ∧ Drawn0 w w' := by
  have hu55 := Try.underlying55
  have HR0 := Aside0.mk hr0
  have HC0 := Aside0.mk hc0
  clear hr0 hc0
  have HR1 := Aside0.mk hr1
  have HC1 := Aside0.mk hc1
  clear hr1 hc1
  have H : (if (l0.length : Int) = (l1.length : Int) then (contangoref50_Same.l0 k l0 l1 0) else (some false)) = some r := h
  clear h
  by_cases c3 : (l0.length : Int) = (l1.length : Int)
  · rw [if_pos c3] at H
    have c3b0 : ((l0.length : Int) == (l1.length : Int)) = true := beq_iff_eq.mpr c3
    have c3b1 : ((l0.length : Int) != (l1.length : Int)) = false := bne_eq_false_iff_eq.mpr c3
    have c3b2 : (l0.length == l1.length) = true := by first | simpa using c3 | (simp at c3 ⊢; omega)
    clear c3
    have H' := Aside0.mk H
    clear H
    go_enter Try.func15, Try.ntmps15
    go_wp2
    repeat (go_quiet (fail); try go_wp2)
    go_loopg [5] k (fun kq v5 w' => ∃ (x5_1 : Int), v5 = .int .i64 x5_1 ∧ Aside0 (contangoref50_Same.l0 kq l0 l1 x5_1 = some r) ∧ Aside0 (kq ≤ k) ∧ Drawn0 w w')
    case atStart => exact ⟨(0), rf_, H', ⟨Nat.le_refl _⟩, by repeat (first | exact Drawn0.refl _ | apply Drawn0.step)⟩
    case round =>
      clear H'
      try clear c1
      try clear p2
      try clear c3
      try clear c3b0
      try clear c3b1
      try clear c3b2
      obtain ⟨x5_1, rfl, HA, HK1, ⟨m1, rfl⟩⟩ := hrel
      cases gk with
      | zero => exact absurd HA.out (by simp [contangoref50_Same.l0])
      | succ k1 =>
        have H := HA.out
        clear HA
        simp only [contangoref50_Same.l0] at H
        by_cases c4 : x5_1 < (l0.length : Int)
        · rw [if_pos c4] at H
          have c4b0 : decide (x5_1 < (l0.length : Int)) = true := decide_eq_true c4
          clear c4
          by_cases c5 : 0 ≤ x5_1
          · rw [if_pos c5] at H
            have c5b0 : decide (0 ≤ x5_1) = true := decide_eq_true c5
            clear c5
            by_cases c6 : x5_1 < (l1.length : Int)
            · rw [if_pos c6] at H
              have c6b0 : decide (x5_1 < (l1.length : Int)) = true := decide_eq_true c6
              clear c6
              by_cases c7 : ((eqD55 ((rd_T58 l0 x5_1).f0.f0) ((rd_T58 l1 x5_1).f0.f0) ((rd_T58 l0 x5_1).f0.f1) ((rd_T58 l1 x5_1).f0.f1)) = true)
              · rw [if_pos c7] at H
                have c7b0 : (eqD55 ((rd_T58 l0 x5_1).f0.f0) ((rd_T58 l1 x5_1).f0.f0) ((rd_T58 l0 x5_1).f0.f1) ((rd_T58 l1 x5_1).f0.f1)) = true := c7
                clear c7
                replace H := Option.bind_eq_some_iff.mp H
                obtain ⟨t253, A80, H⟩ := H
                replace H : (if t253 = true then (contangoref50_Same.l0 k1 l0 l1 (wrap64 (x5_1 + 1))) else (some false)) = some r := H
                have A8 := Aside0.mk A80
                clear A80
                by_cases c9 : t253 = true
                · subst c9
                  have H1 : (contangoref50_Same.l0 k1 l0 l1 (wrap64 (x5_1 + 1))) = some r := by rw [if_pos rfl] at H; exact H
                  clear H
                  have H := H1
                  clear H1
                  have H' := Aside0.mk H
                  clear H
                  have p249 : 0 ≤ (x5_1 : Int) := od_
                  have q249 : x5_1 < (l0.length : Int) := od_
                  obtain ⟨ad249, A249_2, c249_2, e249, hx249_0, hx249_1, hx249_2, hl249_2, hi249_2⟩ := at_T58 HR0.out x5_1 p249 q249
                  cases e249
                  have HR249_2 := Aside0.mk hi249_2
                  have HC249_2 := Aside0.mk hl249_2
                  clear hi249_2 hl249_2
                  replace p249 := eq_true p249
                  replace q249 := eq_true q249
                  have p250 : 0 ≤ (x5_1 : Int) := od_
                  have q250 : x5_1 < (l1.length : Int) := od_
                  obtain ⟨ad250, A250_2, c250_2, e250, hx250_0, hx250_1, hx250_2, hl250_2, hi250_2⟩ := at_T58 HR1.out x5_1 p250 q250
                  cases e250
                  have HR250_2 := Aside0.mk hi250_2
                  have HC250_2 := Aside0.mk hl250_2
                  clear hi250_2 hl250_2
                  replace p250 := eq_true p250
                  replace q250 := eq_true q250
                  have p251 : 0 ≤ (x5_1 : Int) := od_
                  have q251 : x5_1 < (l0.length : Int) := od_
                  obtain ⟨ad251, A251_2, c251_2, e251, hx251_0, hx251_1, hx251_2, hl251_2, hi251_2⟩ := at_T58 HR0.out x5_1 p251 q251
                  obtain rfl : ad249 = ad251 := (by injection e251)
                  have HR251_2 := Aside0.mk hi251_2
                  have HC251_2 := Aside0.mk hl251_2
                  clear hi251_2 hl251_2
                  replace p251 := eq_true p251
                  replace q251 := eq_true q251
                  have ea_ := Option.some.inj (hx249_2.symm.trans hx251_2)
                  injection ea_ with ea_ en_ ec_
                  subst ea_
                  subst ec_
                  clear en_
                  have p252 : 0 ≤ (x5_1 : Int) := od_
                  have q252 : x5_1 < (l1.length : Int) := od_
                  obtain ⟨ad252, A252_2, c252_2, e252, hx252_0, hx252_1, hx252_2, hl252_2, hi252_2⟩ := at_T58 HR1.out x5_1 p252 q252
                  obtain rfl : ad250 = ad252 := (by injection e252)
                  have HR252_2 := Aside0.mk hi252_2
                  have HC252_2 := Aside0.mk hl252_2
                  clear hi252_2 hl252_2
                  replace p252 := eq_true p252
                  replace q252 := eq_true q252
                  have ea_ := Option.some.inj (hx250_2.symm.trans hx252_2)
                  injection ea_ with ea_ en_ ec_
                  subst ea_
                  subst ec_
                  clear en_
                  go_wp2_with (first | (go_at_call 21; (with_reducible refine (contangoref15_Same.calls k1 _ _ ((rd_T58 l0 x5_1).f1) _ _ ((rd_T58 l1 x5_1).f1) true _ ?side1 ?side2 ?side3 ?side4 A8.out).mono ?_); (case side1 => repeat (first | exact HR251_2.out | (with_reducible refine Kd.C_alloc ?_ _) | (with_reducible refine Kd.C_drewN ?_ _) | (with_reducible refine Kd.C_drew ?_))); (case side2 => exact HC251_2.out); (case side3 => repeat (first | exact HR252_2.out | (with_reducible refine Kd.C_alloc ?_ _) | (with_reducible refine Kd.C_drewN ?_ _) | (with_reducible refine Kd.C_drew ?_))); (case side4 => exact HC252_2.out); rintro e w' ⟨rfl, ⟨nd, rfl⟩⟩; (try first | exact ⟨rfl, _, World.drewN_drewN _ _ _⟩ | exact ⟨rfl, _, Eq.trans (World.drewN_drewN _ _ _) (congrArg (World.drewN _) (Nat.add_assoc _ _ _))⟩)))
                  repeat (go_quiet (first | (go_at_call 21; (with_reducible refine (contangoref15_Same.calls k1 _ _ ((rd_T58 l0 x5_1).f1) _ _ ((rd_T58 l1 x5_1).f1) true _ ?side1 ?side2 ?side3 ?side4 A8.out).mono ?_); (case side1 => repeat (first | exact HR251_2.out | (with_reducible refine Kd.C_alloc ?_ _) | (with_reducible refine Kd.C_drewN ?_ _) | (with_reducible refine Kd.C_drew ?_))); (case side2 => exact HC251_2.out); (case side3 => repeat (first | exact HR252_2.out | (with_reducible refine Kd.C_alloc ?_ _) | (with_reducible refine Kd.C_drewN ?_ _) | (with_reducible refine Kd.C_drew ?_))); (case side4 => exact HC252_2.out); rintro e w' ⟨rfl, ⟨nd, rfl⟩⟩; (try first | exact ⟨rfl, _, World.drewN_drewN _ _ _⟩ | exact ⟨rfl, _, Eq.trans (World.drewN_drewN _ _ _) (congrArg (World.drewN _) (Nat.add_assoc _ _ _))⟩))); try go_wp2_with (first | (go_at_call 21; (with_reducible refine (contangoref15_Same.calls k1 _ _ ((rd_T58 l0 x5_1).f1) _ _ ((rd_T58 l1 x5_1).f1) true _ ?side1 ?side2 ?side3 ?side4 A8.out).mono ?_); (case side1 => repeat (first | exact HR251_2.out | (with_reducible refine Kd.C_alloc ?_ _) | (with_reducible refine Kd.C_drewN ?_ _) | (with_reducible refine Kd.C_drew ?_))); (case side2 => exact HC251_2.out); (case side3 => repeat (first | exact HR252_2.out | (with_reducible refine Kd.C_alloc ?_ _) | (with_reducible refine Kd.C_drewN ?_ _) | (with_reducible refine Kd.C_drew ?_))); (case side4 => exact HC252_2.out); rintro e w' ⟨rfl, ⟨nd, rfl⟩⟩; (try first | exact ⟨rfl, _, World.drewN_drewN _ _ _⟩ | exact ⟨rfl, _, Eq.trans (World.drewN_drewN _ _ _) (congrArg (World.drewN _) (Nat.add_assoc _ _ _))⟩))))
                  go_roundg k1
                  case measure => have := HK1.out; omega
                  case rel => exact ⟨(wrap64 (x5_1 + 1)), rf_, H', ⟨by have := HK1.out; omega⟩, by repeat (first | exact Drawn0.refl _ | apply Drawn0.step)⟩
                · replace c9 := Bool.eq_false_iff.mpr c9
                  subst c9
                  have H1 : (some false) = some r := by rw [if_neg (show ¬ (false = true) by decide)] at H; exact H
                  clear H
                  have H := H1
                  clear H1
                  obtain rfl := Option.some.inj H
                  have p249 : 0 ≤ (x5_1 : Int) := od_
                  have q249 : x5_1 < (l0.length : Int) := od_
                  obtain ⟨ad249, A249_2, c249_2, e249, hx249_0, hx249_1, hx249_2, hl249_2, hi249_2⟩ := at_T58 HR0.out x5_1 p249 q249
                  cases e249
                  have HR249_2 := Aside0.mk hi249_2
                  have HC249_2 := Aside0.mk hl249_2
                  clear hi249_2 hl249_2
                  replace p249 := eq_true p249
                  replace q249 := eq_true q249
                  have p250 : 0 ≤ (x5_1 : Int) := od_
                  have q250 : x5_1 < (l1.length : Int) := od_
                  obtain ⟨ad250, A250_2, c250_2, e250, hx250_0, hx250_1, hx250_2, hl250_2, hi250_2⟩ := at_T58 HR1.out x5_1 p250 q250
                  cases e250
                  have HR250_2 := Aside0.mk hi250_2
                  have HC250_2 := Aside0.mk hl250_2
                  clear hi250_2 hl250_2
                  replace p250 := eq_true p250
                  replace q250 := eq_true q250
                  have p251 : 0 ≤ (x5_1 : Int) := od_
                  have q251 : x5_1 < (l0.length : Int) := od_
                  obtain ⟨ad251, A251_2, c251_2, e251, hx251_0, hx251_1, hx251_2, hl251_2, hi251_2⟩ := at_T58 HR0.out x5_1 p251 q251
                  obtain rfl : ad249 = ad251 := (by injection e251)
                  have HR251_2 := Aside0.mk hi251_2
                  have HC251_2 := Aside0.mk hl251_2
                  clear hi251_2 hl251_2
                  replace p251 := eq_true p251
                  replace q251 := eq_true q251
                  have ea_ := Option.some.inj (hx249_2.symm.trans hx251_2)
                  injection ea_ with ea_ en_ ec_
                  subst ea_
                  subst ec_
                  clear en_
                  have p252 : 0 ≤ (x5_1 : Int) := od_
                  have q252 : x5_1 < (l1.length : Int) := od_
                  obtain ⟨ad252, A252_2, c252_2, e252, hx252_0, hx252_1, hx252_2, hl252_2, hi252_2⟩ := at_T58 HR1.out x5_1 p252 q252
                  obtain rfl : ad250 = ad252 := (by injection e252)
                  have HR252_2 := Aside0.mk hi252_2
                  have HC252_2 := Aside0.mk hl252_2
                  clear hi252_2 hl252_2
                  replace p252 := eq_true p252
                  replace q252 := eq_true q252
                  have ea_ := Option.some.inj (hx250_2.symm.trans hx252_2)
                  injection ea_ with ea_ en_ ec_
                  subst ea_
                  subst ec_
                  clear en_
                  go_wp2_with (first | (go_at_call 21; (with_reducible refine (contangoref15_Same.calls k1 _ _ ((rd_T58 l0 x5_1).f1) _ _ ((rd_T58 l1 x5_1).f1) false _ ?side1 ?side2 ?side3 ?side4 A8.out).mono ?_); (case side1 => repeat (first | exact HR251_2.out | (with_reducible refine Kd.C_alloc ?_ _) | (with_reducible refine Kd.C_drewN ?_ _) | (with_reducible refine Kd.C_drew ?_))); (case side2 => exact HC251_2.out); (case side3 => repeat (first | exact HR252_2.out | (with_reducible refine Kd.C_alloc ?_ _) | (with_reducible refine Kd.C_drewN ?_ _) | (with_reducible refine Kd.C_drew ?_))); (case side4 => exact HC252_2.out); rintro e w' ⟨rfl, ⟨nd, rfl⟩⟩; (try first | exact ⟨rfl, _, World.drewN_drewN _ _ _⟩ | exact ⟨rfl, _, Eq.trans (World.drewN_drewN _ _ _) (congrArg (World.drewN _) (Nat.add_assoc _ _ _))⟩)))
                  repeat (go_quiet (first | (go_at_call 21; (with_reducible refine (contangoref15_Same.calls k1 _ _ ((rd_T58 l0 x5_1).f1) _ _ ((rd_T58 l1 x5_1).f1) false _ ?side1 ?side2 ?side3 ?side4 A8.out).mono ?_); (case side1 => repeat (first | exact HR251_2.out | (with_reducible refine Kd.C_alloc ?_ _) | (with_reducible refine Kd.C_drewN ?_ _) | (with_reducible refine Kd.C_drew ?_))); (case side2 => exact HC251_2.out); (case side3 => repeat (first | exact HR252_2.out | (with_reducible refine Kd.C_alloc ?_ _) | (with_reducible refine Kd.C_drewN ?_ _) | (with_reducible refine Kd.C_drew ?_))); (case side4 => exact HC252_2.out); rintro e w' ⟨rfl, ⟨nd, rfl⟩⟩; (try first | exact ⟨rfl, _, World.drewN_drewN _ _ _⟩ | exact ⟨rfl, _, Eq.trans (World.drewN_drewN _ _ _) (congrArg (World.drewN _) (Nat.add_assoc _ _ _))⟩))); try go_wp2_with (first | (go_at_call 21; (with_reducible refine (contangoref15_Same.calls k1 _ _ ((rd_T58 l0 x5_1).f1) _ _ ((rd_T58 l1 x5_1).f1) false _ ?side1 ?side2 ?side3 ?side4 A8.out).mono ?_); (case side1 => repeat (first | exact HR251_2.out | (with_reducible refine Kd.C_alloc ?_ _) | (with_reducible refine Kd.C_drewN ?_ _) | (with_reducible refine Kd.C_drew ?_))); (case side2 => exact HC251_2.out); (case side3 => repeat (first | exact HR252_2.out | (with_reducible refine Kd.C_alloc ?_ _) | (with_reducible refine Kd.C_drewN ?_ _) | (with_reducible refine Kd.C_drew ?_))); (case side4 => exact HC252_2.out); rintro e w' ⟨rfl, ⟨nd, rfl⟩⟩; (try first | exact ⟨rfl, _, World.drewN_drewN _ _ _⟩ | exact ⟨rfl, _, Eq.trans (World.drewN_drewN _ _ _) (congrArg (World.drewN _) (Nat.add_assoc _ _ _))⟩))))
                  go_ret
                  exact ⟨by first | rfl | (simp; done) | (simp [*]; done), by repeat (first | exact Drawn0.refl _ | apply Drawn0.step)⟩
              · rw [if_neg c7] at H
                have c7b0 : (eqD55 ((rd_T58 l0 x5_1).f0.f0) ((rd_T58 l1 x5_1).f0.f0) ((rd_T58 l0 x5_1).f0.f1) ((rd_T58 l1 x5_1).f0.f1)) = false := by simpa using c7
                clear c7
                obtain rfl := Option.some.inj H
                have p249 : 0 ≤ (x5_1 : Int) := od_
                have q249 : x5_1 < (l0.length : Int) := od_
                obtain ⟨ad249, A249_2, c249_2, e249, hx249_0, hx249_1, hx249_2, hl249_2, hi249_2⟩ := at_T58 HR0.out x5_1 p249 q249
                cases e249
                have HR249_2 := Aside0.mk hi249_2
                have HC249_2 := Aside0.mk hl249_2
                clear hi249_2 hl249_2
                replace p249 := eq_true p249
                replace q249 := eq_true q249
                have p250 : 0 ≤ (x5_1 : Int) := od_
                have q250 : x5_1 < (l1.length : Int) := od_
                obtain ⟨ad250, A250_2, c250_2, e250, hx250_0, hx250_1, hx250_2, hl250_2, hi250_2⟩ := at_T58 HR1.out x5_1 p250 q250
                cases e250
                have HR250_2 := Aside0.mk hi250_2
                have HC250_2 := Aside0.mk hl250_2
                clear hi250_2 hl250_2
                replace p250 := eq_true p250
                replace q250 := eq_true q250
                go_wp2
                repeat (go_quiet (fail); try go_wp2)
                go_ret
                exact ⟨by first | rfl | (simp; done) | (simp [*]; done), by repeat (first | exact Drawn0.refl _ | apply Drawn0.step)⟩
            · rw [if_neg c6] at H
              exact absurd H (by simp)
          · rw [if_neg c5] at H
            exact absurd H (by simp)
        · rw [if_neg c4] at H
          have c4b0 : decide (x5_1 < (l0.length : Int)) = false := decide_eq_false c4
          clear c4
          obtain rfl := Option.some.inj H
          go_wp2
          repeat (go_quiet (fail); try go_wp2)
          go_ret
          exact ⟨by first | rfl | (simp; done) | (simp [*]; done), by repeat (first | exact Drawn0.refl _ | apply Drawn0.step)⟩
  · rw [if_neg c3] at H
    have c3b0 : ((l0.length : Int) == (l1.length : Int)) = false := beq_eq_false_iff_ne.mpr c3
    have c3b1 : ((l0.length : Int) != (l1.length : Int)) = true := bne_iff_ne.mpr c3
    have c3b2 : (l0.length == l1.length) = false := by first | simpa using c3 | (simp at c3 ⊢; omega)
    obtain rfl := Option.some.inj H
    go_enter Try.func15, Try.ntmps15
    go_wp2
    repeat (go_quiet (fail); try go_wp2)
    go_ret
    exact ⟨by first | rfl | (simp; done) | (simp [*]; done), by repeat (first | exact Drawn0.refl _ | apply Drawn0.step)⟩

/-! ### contangolaw50_TearApplies: function 4 -/
def contangolaw50_TearApplies.j0 : Nat → List (S58) → List (S62) → Bool → ByteArray → Int → Int → Int → Bool → Int → Option (Bool)
  | 0, _, _, _, _, _, _, _, _, _ => none
  | k + 1, x0, x2, x18, x255000, x255001, x255002, x255003, x255004, x255005 => if x18 = true then ((contangolaw50_goes.f k).bind fun t256 => (some t256)) else ((tear_Apply.f k x0 x255000 x255001 x255002 x255003 x255004 x2).bind fun bt257 => ((contangoref50_Apply.f k x0 x255000 x255001 x255002 x255003 x255004 x2).bind fun bt261 => ((contangoref50_Same.f k bt257.1 bt261.1).bind fun t265 => (if t265 = true then (if bt257.2 = bt261.2 then ((contangolaw50_goes.f k).bind fun t266 => (some t266)) else (some false)) else (some false)))))
def contangolaw50_TearApplies.f (k : Nat) (l0 : List (S58)) (a1_0 : ByteArray) (a1_1 : Int) (a1_2 : Int) (a1_3 : Int) (a1_4 : Bool) (a1_5 : Int) (l2 : List (S62)) : Option (Bool) := (contangolaw50_few.f k l0).bind fun t255 => (if t255 = true then (contangolaw50_TearApplies.j0 k l0 l2 (decide ((l2.length : Int) > 1100)) a1_0 a1_1 a1_2 a1_3 a1_4 a1_5) else (contangolaw50_TearApplies.j0 k l0 l2 true a1_0 a1_1 a1_2 a1_3 a1_4 a1_5))
theorem contangolaw50_TearApplies.mono_l : ∀ k, (∀ y0 y1 y2 y3 y4 y5 y6 y7 y8, LeO (contangolaw50_TearApplies.j0 k y0 y1 y2 y3 y4 y5 y6 y7 y8) (contangolaw50_TearApplies.j0 (k + 1) y0 y1 y2 y3 y4 y5 y6 y7 y8))
  | 0 => fun _ _ _ _ _ _ _ _ _ r h => by simp [contangolaw50_TearApplies.j0] at h
  | k + 1 => by
    have ih0 := contangolaw50_TearApplies.mono_l k
    · intro y0 y1 y2 y3 y4 y5 y6 y7 y8
      unfold contangolaw50_TearApplies.j0
      repeat' first
      | (with_reducible exact ih0 _ _ _ _ _ _ _ _ _)
      | (with_reducible exact contangolaw50_few.mono _ _)
      | (with_reducible exact contangolaw50_goes.mono _)
      | (with_reducible exact contangoref50_Apply.mono _ _ _ _ _ _ _ _)
      | (with_reducible exact contangoref50_Same.mono _ _ _)
      | (with_reducible exact tear_Apply.mono _ _ _ _ _ _ _ _)
      | (with_reducible exact LeO.refl _)
      | (with_reducible exact LeO.none _)
      | (with_reducible refine LeO.ite ?_ ?_)
      | (with_reducible refine LeO.bind ?_ (fun _ => ?_))
      | exact LeO.none _
      | refine LeO.ite ?_ ?_
      | refine LeO.bind ?_ (fun _ => ?_)
theorem contangolaw50_TearApplies.mono : ∀ a0 a1 a2 a3 a4 a5 a6 a7 k, LeO (contangolaw50_TearApplies.f k a0 a1 a2 a3 a4 a5 a6 a7) (contangolaw50_TearApplies.f (k + 1) a0 a1 a2 a3 a4 a5 a6 a7) := by
  intro a0 a1 a2 a3 a4 a5 a6 a7 k
  have ih0 := contangolaw50_TearApplies.mono_l k
  unfold contangolaw50_TearApplies.f
  repeat' first
      | (with_reducible exact ih0 _ _ _ _ _ _ _ _ _)
      | (with_reducible exact contangolaw50_few.mono _ _)
      | (with_reducible exact contangolaw50_goes.mono _)
      | (with_reducible exact contangoref50_Apply.mono _ _ _ _ _ _ _ _)
      | (with_reducible exact contangoref50_Same.mono _ _ _)
      | (with_reducible exact tear_Apply.mono _ _ _ _ _ _ _ _)
      | (with_reducible exact LeO.refl _)
      | (with_reducible exact LeO.none _)
      | (with_reducible refine LeO.ite ?_ ?_)
      | (with_reducible refine LeO.bind ?_ (fun _ => ?_))
      | exact LeO.none _
      | refine LeO.ite ?_ ?_
      | refine LeO.bind ?_ (fun _ => ?_)
set_option maxHeartbeats 8000000 in
set_option maxRecDepth 100000 in
theorem contangolaw50_TearApplies.calls (k : Nat) (A0 : Option Addr) (c0 : Nat) (l0 : List (S58)) (a1_0 : ByteArray) (a1_1 : Int) (a1_2 : Int) (a1_3 : Int) (a1_4 : Bool) (a1_5 : Int) (A2 : Option Addr) (c2 : Nat) (l2 : List (S62)) (r : Bool) (hrt : r = true) (w : World) (hr0 : Kd.C k58 w A0 l0.length l0) (hc0 : l0.length ≤ c0) (hr2 : Kd.C k62 w A2 l2.length l2) (hc2 : l2.length ≤ c2) (h : contangolaw50_TearApplies.f k l0 a1_0 a1_1 a1_2 a1_3 a1_4 a1_5 l2 = some r) :
    Calls Try.prog 4 #[.slice A0 l0.length c0, .agg #[.string a1_0, .int .i64 a1_1, .int .i64 a1_2, .int .i64 a1_3, .bool a1_4, .int .i64 a1_5], .slice A2 l2.length c2] w fun e w' => e = .returned (.bool r) ∧ Below w.heap.size w w' := by
  have hu26 := Try.underlying26
  have hu24 := Try.underlying24
  have HR0 := Aside0.mk hr0
  have HC0 := Aside0.mk hc0
  clear hr0 hc0
  have HR2 := Aside0.mk hr2
  have HC2 := Aside0.mk hc2
  clear hr2 hc2
  have HB := Aside0.mk (Below.refl w.heap.size w)
  have HRT := Aside0.mk hrt
  clear hrt
  have H : ((contangolaw50_few.f k l0).bind fun t255 => (if t255 = true then (contangolaw50_TearApplies.j0 k l0 l2 (decide ((l2.length : Int) > 1100)) a1_0 a1_1 a1_2 a1_3 a1_4 a1_5) else (contangolaw50_TearApplies.j0 k l0 l2 true a1_0 a1_1 a1_2 a1_3 a1_4 a1_5))) = some r := h
  clear h
  have HC4 := Aside0.mk H
  clear H
  go_enter Try.func4, Try.ntmps4
  go_upto_region 1 with (first | ((with_reducible refine gate_dst (N := 4) rfl ?_); (try (refine gate_guard (by rfl) ?_; dsimp only)); refine box_event ?hg (N := 4) ?hd (cs := #[.string a1_0, .int .i64 a1_1, .int .i64 a1_2, .int .i64 a1_3, .bool a1_4, .int .i64 a1_5]) (t := 26) ?hr ?_; (case hd => rfl); (case hg => rfl); (case hr => first | (go_simp; done) | (go_simp; rfl)); intro gb254 hg w5 hbox hb; have n0_ := Aside0.mk (below_step (bz0 HB.out) hb); have n1_ := Aside0.mk (hbox); have n2_ := Aside0.mk ((by rw [hg]; exact (below_size (bz0 HB.out)) : w.heap.size ≤ gb254)); have n3_ := Aside0.mk ((by rw [hg]; exact (below_size (bz0 HB.out)) : w.heap.size ≤ gb254)); clear HB; have HB := n0_; have BK254 := n1_; have GW254 := n2_; have GE254 := n3_; clear n0_ n1_ n2_ n3_; clear hb hbox hg))
  (try simp only [Act.put, List.setIfInBounds_toArray, List.set_cons_zero, List.set_cons_succ])
  go_cut [18] (fun v18 wc => ∃ (kq : Nat) (x18_3 : Bool), v18 = .bool x18_3 ∧ Aside0 (contangolaw50_TearApplies.j0 kq l0 l2 x18_3 a1_0 a1_1 a1_2 a1_3 a1_4 a1_5 = some r) ∧ Aside0 (kq ≤ k) ∧ Aside0 (wc.heap[gb254]? = some (.cells #[.string a1_0, .int .i64 a1_1, .int .i64 a1_2, .int .i64 a1_3, .bool a1_4, .int .i64 a1_5] 26 (0, 0))) ∧ Aside0 (Below w.heap.size w wc))
  case first =>
    have H := HC4.out
    clear HC4
    replace H := Option.bind_eq_some_iff.mp H
    obtain ⟨t255, A60, H⟩ := H
    replace H : (if t255 = true then (contangolaw50_TearApplies.j0 k l0 l2 (decide ((l2.length : Int) > 1100)) a1_0 a1_1 a1_2 a1_3 a1_4 a1_5) else (contangolaw50_TearApplies.j0 k l0 l2 true a1_0 a1_1 a1_2 a1_3 a1_4 a1_5)) = some r := H
    have A6 := Aside0.mk A60
    clear A60
    by_cases c7 : t255 = true
    · subst c7
      have H1 : (contangolaw50_TearApplies.j0 k l0 l2 (decide ((l2.length : Int) > 1100)) a1_0 a1_1 a1_2 a1_3 a1_4 a1_5) = some r := by rw [if_pos rfl] at H; exact H
      clear H
      have H := H1
      clear H1
      have H' := Aside0.mk H
      clear H
      go_wp2_with (first | ((with_reducible refine gate_callee (f := 8) rfl ?_); refine goesL_ (some 12) rfl rfl Try.func8 (by kernel_rfl) rfl #[.slice A0 l0.length c0] rfl pm_ ?_; (with_reducible refine (contangolaw50_few.calls k _ _ l0 true _ ?side1 ?side2 A6.out).mono ?_); (case side1 => repeat (first | exact (Kd.C_below HR0.out HB.out) | (with_reducible refine Kd.C_alloc ?_ _) | (with_reducible refine Kd.C_drewN ?_ _) | (with_reducible refine Kd.C_drew ?_))); (case side2 => exact HC0.out); rintro e w' ⟨rfl, ⟨nd, rfl⟩⟩; refine ⟨_, rfl, ?_⟩))
      go_meet
      case rel => exact ⟨_, (decide ((l2.length : Int) > 1100)), rf_, H', ⟨by first | omega | exact Nat.le_refl _⟩, ⟨by (with_reducible repeat (first | refine blk_drewN ?_ _ | refine blk_drew ?_ | refine blk_alloc ?_ _)); exact BK254.out⟩, ⟨bz1 HB.out GE254.out⟩⟩
    · replace c7 := Bool.eq_false_iff.mpr c7
      subst c7
      have H1 : (contangolaw50_TearApplies.j0 k l0 l2 true a1_0 a1_1 a1_2 a1_3 a1_4 a1_5) = some r := by rw [if_neg (show ¬ (false = true) by decide)] at H; exact H
      clear H
      have H := H1
      clear H1
      have H' := Aside0.mk H
      clear H
      go_wp2_with (first | ((with_reducible refine gate_callee (f := 8) rfl ?_); refine goesL_ (some 12) rfl rfl Try.func8 (by kernel_rfl) rfl #[.slice A0 l0.length c0] rfl pm_ ?_; (with_reducible refine (contangolaw50_few.calls k _ _ l0 false _ ?side1 ?side2 A6.out).mono ?_); (case side1 => repeat (first | exact (Kd.C_below HR0.out HB.out) | (with_reducible refine Kd.C_alloc ?_ _) | (with_reducible refine Kd.C_drewN ?_ _) | (with_reducible refine Kd.C_drew ?_))); (case side2 => exact HC0.out); rintro e w' ⟨rfl, ⟨nd, rfl⟩⟩; refine ⟨_, rfl, ?_⟩))
      go_meet
      case rel => exact ⟨_, (true), rf_, H', ⟨by first | omega | exact Nat.le_refl _⟩, ⟨by (with_reducible repeat (first | refine blk_drewN ?_ _ | refine blk_drew ?_ | refine blk_alloc ?_ _)); exact BK254.out⟩, ⟨bz1 HB.out GE254.out⟩⟩
  case rest =>
    clear HC4
    try clear c2
    try clear p2
    try clear c4
    try clear c7
    obtain ⟨kq, x18_3, rfl, HA, HJ3, BK254, HB⟩ := hcut
    cases kq with
    | zero => exact absurd HA.out (by simp [contangolaw50_TearApplies.j0])
    | succ kj3 =>
      have H := HA.out
      clear HA
      simp only [contangolaw50_TearApplies.j0] at H
      by_cases c8 : x18_3 = true
      · subst c8
        have H1 : ((contangolaw50_goes.f kj3).bind fun t256 => (some t256)) = some r := by rw [if_pos rfl] at H; exact H
        clear H
        have H := H1
        clear H1
        replace H := Option.bind_eq_some_iff.mp H
        obtain ⟨t256, A90, H⟩ := H
        replace H : (some t256) = some r := H
        have A9 := Aside0.mk A90
        clear A90
        obtain rfl := Option.some.inj H
        go_wp2_with (first | ((with_reducible refine gate_callee (f := 9) rfl ?_); refine goesL_ (some 19) rfl rfl Try.func9 (by kernel_rfl) rfl #[] rfl pm_ ?_; (with_reducible refine (contangolaw50_goes.calls kj3  t256 _ A9.out).mono ?_); rintro e w10 ⟨rfl, hb⟩; refine ⟨_, rfl, ?_⟩; have n0_ := Aside0.mk (blk_below (g := gb254) (o := .cells #[.string a1_0, .int .i64 a1_1, .int .i64 a1_2, .int .i64 a1_3, .bool a1_4, .int .i64 a1_5] 26 (0, 0)) (bk_ BK254.out) hb); have n1_ := Aside0.mk (below_step (bz1 HB.out GE254.out) hb); clear BK254; clear HB; have BK254 := n0_; have HB := n1_; clear n0_ n1_; (try clear hb); (try clear hb2); (try clear hk); (try clear hi)))
        go_ret
        exact ⟨by first | rfl | (simp [errW_none, errW_some] <;> rfl) | (simp [*, errW_none, errW_some] <;> rfl), bz1 HB.out GE254.out⟩
      · replace c8 := Bool.eq_false_iff.mpr c8
        subst c8
        have H1 : ((tear_Apply.f kj3 l0 a1_0 a1_1 a1_2 a1_3 a1_4 l2).bind fun bt257 => ((contangoref50_Apply.f kj3 l0 a1_0 a1_1 a1_2 a1_3 a1_4 l2).bind fun bt261 => ((contangoref50_Same.f kj3 bt257.1 bt261.1).bind fun t265 => (if t265 = true then (if bt257.2 = bt261.2 then ((contangolaw50_goes.f kj3).bind fun t266 => (some t266)) else (some false)) else (some false))))) = some r := by rw [if_neg (show ¬ (false = true) by decide)] at H; exact H
        clear H
        have H := H1
        clear H1
        replace H := Option.bind_eq_some_iff.mp H
        obtain ⟨⟨t257, t260⟩, A110, H⟩ := H
        replace H : ((contangoref50_Apply.f kj3 l0 a1_0 a1_1 a1_2 a1_3 a1_4 l2).bind fun bt261 => ((contangoref50_Same.f kj3 t257 bt261.1).bind fun t265 => (if t265 = true then (if t260 = bt261.2 then ((contangolaw50_goes.f kj3).bind fun t266 => (some t266)) else (some false)) else (some false)))) = some r := H
        have A11 := Aside0.mk A110
        clear A110
        replace H := Option.bind_eq_some_iff.mp H
        obtain ⟨⟨t261, t264⟩, A120, H⟩ := H
        replace H : ((contangoref50_Same.f kj3 t257 t261).bind fun t265 => (if t265 = true then (if t260 = t264 then ((contangolaw50_goes.f kj3).bind fun t266 => (some t266)) else (some false)) else (some false))) = some r := H
        have A12 := Aside0.mk A120
        clear A120
        replace H := Option.bind_eq_some_iff.mp H
        obtain ⟨t265, A130, H⟩ := H
        replace H : (if t265 = true then (if t260 = t264 then ((contangolaw50_goes.f kj3).bind fun t266 => (some t266)) else (some false)) else (some false)) = some r := H
        have A13 := Aside0.mk A130
        clear A130
        by_cases c14 : t265 = true
        · subst c14
          have H1 : (if t260 = t264 then ((contangolaw50_goes.f kj3).bind fun t266 => (some t266)) else (some false)) = some r := by rw [if_pos rfl] at H; exact H
          clear H
          have H := H1
          clear H1
          by_cases c15 : t260 = t264
          · rw [if_pos c15] at H
            have c15b0 : (t260 == t264) = true := beq_iff_eq.mpr c15
            have c15b1 : (t260 != t264) = false := bne_eq_false_iff_eq.mpr c15
            clear c15
            replace H := Option.bind_eq_some_iff.mp H
            obtain ⟨t266, A160, H⟩ := H
            replace H : (some t266) = some r := H
            have A16 := Aside0.mk A160
            clear A160
            obtain rfl := Option.some.inj H
            have hcz17_0 : wc.cell? ⟨gb254, 0, none⟩ = some (.string a1_0) := (blk_cell BK254.out 0).trans rfl
            have hcz17_1 : wc.cell? ⟨gb254, 1, none⟩ = some (.int .i64 a1_1) := (blk_cell BK254.out 1).trans rfl
            have hcz17_2 : wc.cell? ⟨gb254, 2, none⟩ = some (.int .i64 a1_2) := (blk_cell BK254.out 2).trans rfl
            have hcz17_3 : wc.cell? ⟨gb254, 3, none⟩ = some (.int .i64 a1_3) := (blk_cell BK254.out 3).trans rfl
            have hcz17_4 : wc.cell? ⟨gb254, 4, none⟩ = some (.bool a1_4) := (blk_cell BK254.out 4).trans rfl
            have hcz17_5 : wc.cell? ⟨gb254, 5, none⟩ = some (.int .i64 a1_5) := (blk_cell BK254.out 5).trans rfl
            have hfz17_0 := blk_frozen BK254.out 0
            have hfz17_1 := blk_frozen BK254.out 1
            have hfz17_2 := blk_frozen BK254.out 2
            have hfz17_3 := blk_frozen BK254.out 3
            have hfz17_4 := blk_frozen BK254.out 4
            have hfz17_5 := blk_frozen BK254.out 5
            go_wp2_with (first | ((with_reducible refine gate_callee (f := 13) rfl ?_); refine goesL_ (some 27) rfl rfl Try.func13 (by kernel_rfl) rfl #[.slice A0 l0.length c0, .agg #[.string a1_0, .int .i64 a1_1, .int .i64 a1_2, .int .i64 a1_3], .bool a1_4, .slice A2 l2.length c2] rfl pm_ ?_; (with_reducible refine (tear_Apply.calls kj3 _ _ l0 a1_0 a1_1 a1_2 a1_3 a1_4 _ _ l2 t257 t260 _ ?side1 ?side2 ?side3 ?side4 A11.out).mono ?_); (case side1 => repeat (first | exact (Kd.C_below HR0.out HB.out) | (with_reducible refine Kd.C_alloc ?_ _) | (with_reducible refine Kd.C_drewN ?_ _) | (with_reducible refine Kd.C_drew ?_))); (case side2 => exact HC0.out); (case side3 => repeat (first | exact (Kd.C_below HR2.out HB.out) | (with_reducible refine Kd.C_alloc ?_ _) | (with_reducible refine Kd.C_drewN ?_ _) | (with_reducible refine Kd.C_drew ?_))); (case side4 => exact HC2.out); rintro e w18 ⟨v258, rfl, ho0, hb⟩; refine ⟨_, rfl, ?_⟩; have n0_ := Aside0.mk (Kd.N_lower (Kd.N_mono (ok' := fun k_ => k_ ≠ gb254) (Kd.S_N (Kd.S_bound ho0)) (fun k_ hk_ => (Kd.freshB (g := gb254) (o := .cells #[.string a1_0, .int .i64 a1_1, .int .i64 a1_2, .int .i64 a1_3, .bool a1_4, .int .i64 a1_5] 26 (0, 0)) (bk_ BK254.out) k_ hk_.2.1))) (below_size (bz1 HB.out GE254.out))); have n1_ := Aside0.mk (blk_below (g := gb254) (o := .cells #[.string a1_0, .int .i64 a1_1, .int .i64 a1_2, .int .i64 a1_3, .bool a1_4, .int .i64 a1_5] 26 (0, 0)) (bk_ BK254.out) hb); have n2_ := Aside0.mk (below_step (bz1 HB.out GE254.out) hb); clear BK254; clear HB; have HO259 := n0_; have BK254 := n1_; have HB := n2_; clear n0_ n1_ n2_; (try clear hb); (try clear hb2); (try clear hk); (try clear hi); (try clear ho0); have hcz19_0 : w18.cell? ⟨gb254, 0, none⟩ = some (.string a1_0) := (blk_cell BK254.out 0).trans rfl; have hcz19_1 : w18.cell? ⟨gb254, 1, none⟩ = some (.int .i64 a1_1) := (blk_cell BK254.out 1).trans rfl; have hcz19_2 : w18.cell? ⟨gb254, 2, none⟩ = some (.int .i64 a1_2) := (blk_cell BK254.out 2).trans rfl; have hcz19_3 : w18.cell? ⟨gb254, 3, none⟩ = some (.int .i64 a1_3) := (blk_cell BK254.out 3).trans rfl; have hcz19_4 : w18.cell? ⟨gb254, 4, none⟩ = some (.bool a1_4) := (blk_cell BK254.out 4).trans rfl; have hcz19_5 : w18.cell? ⟨gb254, 5, none⟩ = some (.int .i64 a1_5) := (blk_cell BK254.out 5).trans rfl; have hfz19_0 := blk_frozen BK254.out 0; have hfz19_1 := blk_frozen BK254.out 1; have hfz19_2 := blk_frozen BK254.out 2; have hfz19_3 := blk_frozen BK254.out 3; have hfz19_4 := blk_frozen BK254.out 4; have hfz19_5 := blk_frozen BK254.out 5) | ((with_reducible refine gate_callee (f := 14) rfl ?_); refine goesL_ (some 37) rfl rfl Try.func14 (by kernel_rfl) rfl #[.slice A0 l0.length c0, .agg #[.string a1_0, .int .i64 a1_1, .int .i64 a1_2, .int .i64 a1_3], .bool a1_4, .slice A2 l2.length c2] rfl pm_ ?_; (with_reducible refine (contangoref50_Apply.calls kj3 (fun k_ => k_ < w.heap.size) _ _ l0 a1_0 a1_1 a1_2 a1_3 a1_4 _ _ l2 t261 t264 _ ?side1 ?side2 ?side3 A12.out).mono ?_); (case side1 => exact Kd.V_mk HC0.out (Kd.F_below (Kd.C_F k58_heap HR0.out) (bz1 HB.out GE254.out))); (case side2 => repeat (first | exact (Kd.C_below HR2.out HB.out) | (with_reducible refine Kd.C_alloc ?_ _) | (with_reducible refine Kd.C_drewN ?_ _) | (with_reducible refine Kd.C_drew ?_))); (case side3 => exact HC2.out); rintro e w20 ⟨v262, rfl, ho0, hb⟩; refine ⟨_, rfl, ?_⟩; have n0_ := Aside0.mk (Kd.N_elder' (by (with_reducible repeat (first | apply Kd.N_alloc | apply Kd.N_drewN | apply Kd.N_drew)); exact HO259.out) (by first | exact Kd.N_base ho0 | exact Kd.N_base (Kd.S_N ho0)) hb); have n1_ := Aside0.mk (Kd.N_lower (Kd.N_mono (ok' := fun k_ => some k_ ≠ (v258 : Value).ownBlock ∧ k_ ≠ gb254) ho0 (fun k_ hk_ => ⟨Or.elim hk_ (fun hs_ => fun e_ => Nat.not_le.2 hs_ (Kd.N_base HO259.out k_ e_.symm)) (fun hn_ => (Kd.fresh' (Kd.N_lt (by (with_reducible repeat (first | apply Kd.N_alloc | apply Kd.N_drewN | apply Kd.N_drew)); exact HO259.out)) k_ hn_)), Or.elim hk_ (fun hs_ => fun e_ => Nat.not_le.2 hs_ (by rw [e_]; exact GW254.out)) (fun hn_ => (Kd.freshB (g := gb254) (o := .cells #[.string a1_0, .int .i64 a1_1, .int .i64 a1_2, .int .i64 a1_3, .bool a1_4, .int .i64 a1_5] 26 (0, 0)) (bk_ BK254.out) k_ hn_))⟩)) (below_size (bz1 HB.out GE254.out))); have n2_ := Aside0.mk (blk_below (g := gb254) (o := .cells #[.string a1_0, .int .i64 a1_1, .int .i64 a1_2, .int .i64 a1_3, .bool a1_4, .int .i64 a1_5] 26 (0, 0)) (bk_ BK254.out) hb); have n3_ := Aside0.mk (below_step (bz1 HB.out GE254.out) hb); clear HO259; clear BK254; clear HB; have HO259 := n0_; have HO263 := n1_; have BK254 := n2_; have HB := n3_; clear n0_ n1_ n2_ n3_; (try clear hb); (try clear hb2); (try clear hk); (try clear hi); (try clear ho0); obtain ⟨Ao21, co21, eo21⟩ := Kd.N_slice HO259.out; subst eo21; obtain ⟨Ao22, co22, eo22⟩ := Kd.N_slice HO263.out; subst eo22) | ((with_reducible refine gate_callee (f := 15) rfl ?_); refine goesL_ (some 42) rfl rfl Try.func15 (by kernel_rfl) rfl #[.slice Ao21 t257.length co21, .slice Ao22 t261.length co22] rfl pm_ ?_; (with_reducible refine (contangoref50_Same.calls kj3 _ _ t257 _ _ t261 true _ ?side1 ?side2 ?side3 ?side4 A13.out).mono ?_); (case side1 => repeat (first | exact (Kd.N_reads' HO259.out).2.2 | (with_reducible refine Kd.C_alloc ?_ _) | (with_reducible refine Kd.C_drewN ?_ _) | (with_reducible refine Kd.C_drew ?_))); (case side2 => exact (Kd.N_reads' HO259.out).2.1); (case side3 => repeat (first | exact (Kd.N_reads' HO263.out).2.2 | (with_reducible refine Kd.C_alloc ?_ _) | (with_reducible refine Kd.C_drewN ?_ _) | (with_reducible refine Kd.C_drew ?_))); (case side4 => exact (Kd.N_reads' HO263.out).2.1); rintro e w' ⟨rfl, ⟨nd, rfl⟩⟩; refine ⟨_, rfl, ?_⟩) | (go_at_call 9; (with_reducible refine (contangolaw50_goes.calls kj3  t266 _ A16.out).mono ?_); rintro e w23 ⟨rfl, hb⟩; have n0_ := Aside0.mk (Kd.N_below (by (with_reducible repeat (first | apply Kd.N_alloc | apply Kd.N_drewN | apply Kd.N_drew)); exact HO259.out) hb); have n1_ := Aside0.mk (Kd.N_below (by (with_reducible repeat (first | apply Kd.N_alloc | apply Kd.N_drewN | apply Kd.N_drew)); exact HO263.out) hb); have n2_ := Aside0.mk (blk_below (g := gb254) (o := .cells #[.string a1_0, .int .i64 a1_1, .int .i64 a1_2, .int .i64 a1_3, .bool a1_4, .int .i64 a1_5] 26 (0, 0)) (bk_ BK254.out) hb); have n3_ := Aside0.mk (below_step (bz1 HB.out GE254.out) hb); clear HO259; clear HO263; clear BK254; clear HB; have HO259 := n0_; have HO263 := n1_; have BK254 := n2_; have HB := n3_; clear n0_ n1_ n2_ n3_; (try clear hb); (try clear hb2); (try clear hk); (try clear hi)))
            go_ret
            exact ⟨by first | rfl | (simp [errW_none, errW_some] <;> rfl) | (simp [*, errW_none, errW_some] <;> rfl), bz1 HB.out GE254.out⟩
          · rw [if_neg c15] at H
            exact absurd (H.trans (congrArg some HRT.out)) (by first | simp [contangolaw50_TearApplies.j0] | (simp only [contangolaw50_TearApplies.j0]; (repeat' split) <;> simp))
        · replace c14 := Bool.eq_false_iff.mpr c14
          subst c14
          have H1 : (some false) = some r := by rw [if_neg (show ¬ (false = true) by decide)] at H; exact H
          clear H
          have H := H1
          clear H1
          exact absurd (H.trans (congrArg some HRT.out)) (by first | simp [contangolaw50_TearApplies.j0] | (simp only [contangolaw50_TearApplies.j0]; (repeat' split) <;> simp))

end Go.Proofs.Ytjmkdmbgldcleaa.PTearApplies
