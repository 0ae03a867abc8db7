-- Written by a program of this session's (a turned copy of the kit's print, with functions proved by hand).
import Derived.Test.YtipoicfglaanaaaPMemberChecksx0
import Derived.Test.YtipoicfglaanaaaPMemberChecksx2
namespace Go.Proofs.Ytipoicfglaanaaa.PMemberChecks
open Go.RowKit Go.Proofs.YtipoicfglaanaaaW.PrintWords Go.Proofs.YtipoicfglaanaaaW.PrintLast Go.Proofs.YtipoicfglaanaaaW.PrintMore
attribute [local go_sem] max2_int min2_int max_two min_two max_three min_three max_four min_four Go.Proofs.YtipoicfglaanaaaHand.run_leq_str Go.Proofs.YtipoicfglaanaaaHand.run_gtr_str Go.Proofs.YtipoicfglaanaaaHand.run_geq_str   -- for this text's walks alone
set_option linter.unusedVariables false
set_option linter.unusedSimpArgs false

/-! ### contangoref11_Check: function 9 -/
mutual
def contangoref11_Check.l0 : Nat → List (S45) → Int → Option (Int)
  | 0, _, _ => none
  | k + 1, x0, x3 => if x3 < (x0.length : Int) then (if 0 ≤ x3 then ((contangoref03_Name.f k ((rd_T45 x0 x3).f0)).bind fun t111 => (if t111 = true then (if x3 > 0 then (if 0 ≤ (wrap64 (x3 - 1)) then (if (wrap64 (x3 - 1)) < (x0.length : Int) then (contangoref11_Check.j1 k x0 x3 (!(Op.bytesLess (((rd_T45 x0 (wrap64 (x3 - 1))).f0).toList) (((rd_T45 x0 x3).f0).toList)))) else (none)) else (none)) else (contangoref11_Check.j1 k x0 x3 false)) else (some 10))) else (none)) else (some 0)
def contangoref11_Check.j1 : Nat → List (S45) → Int → Bool → Option (Int)
  | 0, _, _, _ => none
  | k + 1, x0, x3, x36 => if x36 = true then (some 12) else (if 0 ≤ x3 then (if x3 < (x0.length : Int) then (if ((rd_T45 x0 x3).f1) < 1 then (contangoref11_Check.j2 k x0 x3 true) else (contangoref11_Check.j2 k x0 x3 (decide (((rd_T45 x0 x3).f1) > 4)))) else (none)) else (none))
def contangoref11_Check.j2 : Nat → List (S45) → Int → Bool → Option (Int)
  | 0, _, _, _ => none
  | k + 1, x0, x3, x50 => if x50 = true then (some 13) else (if 0 ≤ x3 then (if x3 < (x0.length : Int) then ((contangoref11_accounts.f k ((rd_T45 x0 x3).f2)).bind fun t117 => (if t117 = 0 then (contangoref11_Check.l0 k x0 (wrap64 (x3 + 1))) else (some t117))) else (none)) else (none))
end
def contangoref11_Check.f (k : Nat) (l0 : List (S45)) : Option (Int) := if (l0.length : Int) > 32 then (some 8) else (contangoref11_Check.l0 k l0 0)
theorem contangoref11_Check.mono_l : ∀ k, (∀ y0 y1, LeO (contangoref11_Check.l0 k y0 y1) (contangoref11_Check.l0 (k + 1) y0 y1)) ∧ (∀ y0 y1 y2, LeO (contangoref11_Check.j1 k y0 y1 y2) (contangoref11_Check.j1 (k + 1) y0 y1 y2)) ∧ (∀ y0 y1 y2, LeO (contangoref11_Check.j2 k y0 y1 y2) (contangoref11_Check.j2 (k + 1) y0 y1 y2))
  | 0 => ⟨fun _ _ r h => by simp [contangoref11_Check.l0] at h, fun _ _ _ r h => by simp [contangoref11_Check.j1] at h, fun _ _ _ r h => by simp [contangoref11_Check.j2] at h⟩
  | k + 1 => by
    obtain ⟨ih0, ih1, ih2⟩ := contangoref11_Check.mono_l k
    refine ⟨?_, ?_, ?_⟩
    · intro y0 y1
      unfold contangoref11_Check.l0
      repeat' first
      | (with_reducible exact ih0 _ _)
      | (with_reducible exact ih1 _ _ _)
      | (with_reducible exact ih2 _ _ _)
      | (with_reducible exact contangoref03_Name.mono _ _)
      | (with_reducible exact contangoref11_accounts.mono _ _)
      | (with_reducible exact LeO.refl _)
      | (with_reducible exact LeO.none _)
      | (with_reducible refine LeO.ite ?_ ?_)
      | (with_reducible refine LeO.bind ?_ (fun _ => ?_))
      | exact ih0 _ _
      | exact ih1 _ _ _
      | exact ih2 _ _ _
      | exact contangoref03_Name.mono _ _
      | exact contangoref11_accounts.mono _ _
      | exact LeO.none _
      | refine LeO.ite ?_ ?_
      | refine LeO.bind ?_ (fun _ => ?_)
    · intro y0 y1 y2
      unfold contangoref11_Check.j1
      repeat' first
      | (with_reducible exact ih0 _ _)
      | (with_reducible exact ih1 _ _ _)
      | (with_reducible exact ih2 _ _ _)
      | (with_reducible exact contangoref03_Name.mono _ _)
      | (with_reducible exact contangoref11_accounts.mono _ _)
      | (with_reducible exact LeO.refl _)
      | (with_reducible exact LeO.none _)
      | (with_reducible refine LeO.ite ?_ ?_)
      | (with_reducible refine LeO.bind ?_ (fun _ => ?_))
      | exact ih0 _ _
      | exact ih1 _ _ _
      | exact ih2 _ _ _
      | exact contangoref03_Name.mono _ _
      | exact contangoref11_accounts.mono _ _
      | exact LeO.none _
      | refine LeO.ite ?_ ?_
      | refine LeO.bind ?_ (fun _ => ?_)
    · intro y0 y1 y2
      unfold contangoref11_Check.j2
      repeat' first
      | (with_reducible exact ih0 _ _)
      | (with_reducible exact ih1 _ _ _)
      | (with_reducible exact ih2 _ _ _)
      | (with_reducible exact contangoref03_Name.mono _ _)
      | (with_reducible exact contangoref11_accounts.mono _ _)
      | (with_reducible exact LeO.refl _)
      | (with_reducible exact LeO.none _)
      | (with_reducible refine LeO.ite ?_ ?_)
      | (with_reducible refine LeO.bind ?_ (fun _ => ?_))
      | exact ih0 _ _
      | exact ih1 _ _ _
      | exact ih2 _ _ _
      | exact contangoref03_Name.mono _ _
      | exact contangoref11_accounts.mono _ _
      | exact LeO.none _
      | refine LeO.ite ?_ ?_
      | refine LeO.bind ?_ (fun _ => ?_)
theorem contangoref11_Check.mono : ∀ a0 k, LeO (contangoref11_Check.f k a0) (contangoref11_Check.f (k + 1) a0) := by
  intro a0 k
  obtain ⟨ih0, ih1, ih2⟩ := contangoref11_Check.mono_l k
  unfold contangoref11_Check.f
  repeat' first
      | (with_reducible exact ih0 _ _)
      | (with_reducible exact ih1 _ _ _)
      | (with_reducible exact ih2 _ _ _)
      | (with_reducible exact contangoref03_Name.mono _ _)
      | (with_reducible exact contangoref11_accounts.mono _ _)
      | (with_reducible exact LeO.refl _)
      | (with_reducible exact LeO.none _)
      | (with_reducible refine LeO.ite ?_ ?_)
      | (with_reducible refine LeO.bind ?_ (fun _ => ?_))
      | exact ih0 _ _
      | exact ih1 _ _ _
      | exact ih2 _ _ _
      | exact contangoref03_Name.mono _ _
      | exact contangoref11_accounts.mono _ _
      | exact LeO.none _
      | refine LeO.ite ?_ ?_
      | refine LeO.bind ?_ (fun _ => ?_)
set_option maxHeartbeats 8000000 in
set_option maxRecDepth 100000 in
theorem contangoref11_Check.calls (k : Nat) (A0 : Option Addr) (c0 : Nat) (l0 : List (S45)) (r : Int) (w : World) (hr0 : Kd.C k45 w A0 l0.length l0) (hc0 : l0.length ≤ c0) (h : contangoref11_Check.f k l0 = some r) :
    Calls Try.prog 9 #[.slice A0 l0.length c0] w fun e w' => e = .returned (.int .i64 r) ∧ Drawn0 w w' := by
  have HR0 := Aside0.mk hr0
  have HC0 := Aside0.mk hc0
  clear hr0 hc0
  have H : (if (l0.length : Int) > 32 then (some 8) else (contangoref11_Check.l0 k l0 0)) = some r := h
  clear h
  by_cases c2 : (l0.length : Int) > 32
  · rw [if_pos c2] at H
    have c2b0 : decide (32 < (l0.length : Int)) = true := decide_eq_true c2
    have c2b1 : decide (32 < l0.length) = true := decide_eq_true (by omega)
    clear c2
    obtain rfl := Option.some.inj H
    go_enter Try.func9, Try.ntmps9
    go_wp2
    repeat (go_quiet (fail); try go_wp2)
    go_ret
    exact ⟨by first | rfl | (simp; done) | (simp [*]; done), by repeat (first | exact Drawn0.refl _ | apply Drawn0.step)⟩
  · rw [if_neg c2] at H
    have c2b0 : decide (32 < (l0.length : Int)) = false := decide_eq_false c2
    have c2b1 : decide (32 < l0.length) = false := decide_eq_false (by omega)
    clear c2
    have H' := Aside0.mk H
    clear H
    go_enter Try.func9, Try.ntmps9
    go_wp2
    repeat (go_quiet (fail); try go_wp2)
    go_loopg [3] k (fun kq v3 w' => ∃ (x3_1 : Int), v3 = .int .i64 x3_1 ∧ Aside0 (contangoref11_Check.l0 kq l0 x3_1 = some r) ∧ Aside0 (kq ≤ k) ∧ Drawn0 w w')
    case atStart => exact ⟨(0), (by first | rfl | (simp; done) | (simp [*]; done)), H', ⟨Nat.le_refl _⟩, by repeat (first | exact Drawn0.refl _ | apply Drawn0.step)⟩
    case round =>
      clear H'
      try clear c2
      try clear c2b0
      try clear c2b1
      try clear p2
      obtain ⟨x3_1, rfl, HA, HK1, ⟨m1, rfl⟩⟩ := hrel
      cases gk with
      | zero => exact absurd HA.out (by simp [contangoref11_Check.l0])
      | succ k1 =>
        have H := HA.out
        clear HA
        simp only [contangoref11_Check.l0] at H
        by_cases c3 : x3_1 < (l0.length : Int)
        · rw [if_pos c3] at H
          have c3b0 : decide (x3_1 < (l0.length : Int)) = true := decide_eq_true c3
          clear c3
          by_cases c4 : 0 ≤ x3_1
          · rw [if_pos c4] at H
            have c4b0 : decide (0 ≤ x3_1) = true := decide_eq_true c4
            clear c4
            replace H := Option.bind_eq_some_iff.mp H
            obtain ⟨t111, A50, H⟩ := H
            replace H : (if t111 = true then (if x3_1 > 0 then (if 0 ≤ (wrap64 (x3_1 - 1)) then (if (wrap64 (x3_1 - 1)) < (l0.length : Int) then (contangoref11_Check.j1 k1 l0 x3_1 (!(Op.bytesLess (((rd_T45 l0 (wrap64 (x3_1 - 1))).f0).toList) (((rd_T45 l0 x3_1).f0).toList)))) else (none)) else (none)) else (contangoref11_Check.j1 k1 l0 x3_1 false)) else (some 10)) = some r := H
            have A5 := Aside0.mk A50
            clear A50
            by_cases c6 : t111 = true
            · subst c6
              have H1 : (if x3_1 > 0 then (if 0 ≤ (wrap64 (x3_1 - 1)) then (if (wrap64 (x3_1 - 1)) < (l0.length : Int) then (contangoref11_Check.j1 k1 l0 x3_1 (!(Op.bytesLess (((rd_T45 l0 (wrap64 (x3_1 - 1))).f0).toList) (((rd_T45 l0 x3_1).f0).toList)))) else (none)) else (none)) else (contangoref11_Check.j1 k1 l0 x3_1 false)) = some r := by rw [if_pos rfl] at H; exact H
              clear H
              have H := H1
              clear H1
              have HC7 := Aside0.mk H
              clear H
              have p110 : 0 ≤ (x3_1 : Int) := of_decide_eq_true (by first | (with_reducible assumption) | assumption)
              have q110 : x3_1 < (l0.length : Int) := of_decide_eq_true (by first | (with_reducible assumption) | assumption)
              obtain ⟨ad110, A110_2, c110_2, e110, hx110_0, hx110_1, hx110_2, hl110_2, hi110_2⟩ := at_T45 HR0.out x3_1 p110 q110
              cases e110
              have HR110_2 := Aside0.mk hi110_2
              have HC110_2 := Aside0.mk hl110_2
              clear hi110_2 hl110_2
              replace p110 := eq_true p110
              replace q110 := eq_true q110
              go_upto_region 8 with (first | (go_at_call 33; (with_reducible refine (contangoref03_Name.calls k1 ((rd_T45 l0 x3_1).f0) true _ A5.out).mono ?_); rintro e w' ⟨rfl, ⟨nd, rfl⟩⟩; (try first | exact ⟨rfl, _, World.drewN_drewN _ _ _⟩ | exact ⟨rfl, _, Eq.trans (World.drewN_drewN _ _ _) (congrArg (World.drewN _) (Nat.add_assoc _ _ _))⟩)))
              repeat (go_quiet (first | (go_at_call 33; (with_reducible refine (contangoref03_Name.calls k1 ((rd_T45 l0 x3_1).f0) true _ A5.out).mono ?_); rintro e w' ⟨rfl, ⟨nd, rfl⟩⟩; (try first | exact ⟨rfl, _, World.drewN_drewN _ _ _⟩ | exact ⟨rfl, _, Eq.trans (World.drewN_drewN _ _ _) (congrArg (World.drewN _) (Nat.add_assoc _ _ _))⟩))); go_upto_region 8 with (first | (go_at_call 33; (with_reducible refine (contangoref03_Name.calls k1 ((rd_T45 l0 x3_1).f0) true _ A5.out).mono ?_); rintro e w' ⟨rfl, ⟨nd, rfl⟩⟩; (try first | exact ⟨rfl, _, World.drewN_drewN _ _ _⟩ | exact ⟨rfl, _, Eq.trans (World.drewN_drewN _ _ _) (congrArg (World.drewN _) (Nat.add_assoc _ _ _))⟩))))
              (try simp only [Act.put, List.setIfInBounds_toArray, List.set_cons_zero, List.set_cons_succ])
              go_cut [36] (fun v36 wc => ∃ (kq : Nat) (x36_6 : Bool), v36 = .bool x36_6 ∧ Aside0 (contangoref11_Check.j1 kq l0 x3_1 x36_6 = some r) ∧ Aside0 (kq ≤ k1) ∧ Drawn0 w wc)
              case first =>
                have H := HC7.out
                clear HC7
                by_cases c8 : x3_1 > 0
                · rw [if_pos c8] at H
                  have c8b0 : decide (0 < x3_1) = true := decide_eq_true c8
                  clear c8
                  (first | rw [c8b0] | (simp only [i64_w, i32_w]; rw [c8b0]) | skip)
                  obtain ⟨ji9, hji9⟩ : ∃ j_ : Int, (wrap64 (x3_1 - 1)) = j_ := ⟨_, rfl⟩
                  replace H : (if 0 ≤ (ji9) then (if (ji9) < (l0.length : Int) then (contangoref11_Check.j1 k1 l0 x3_1 (!(Op.bytesLess (((rd_T45 l0 (ji9)).f0).toList) (((rd_T45 l0 x3_1).f0).toList)))) else (none)) else (none)) = some r := by first | (rw [hji9] at H; exact H) | (simp only [hji9] at H ⊢; exact H)
                  have hji9w : (IntKind.i64.wrap (x3_1 - 1)) = ji9 := (i64_w _).trans hji9
                  by_cases c10 : 0 ≤ (ji9)
                  · rw [if_pos c10] at H
                    have c10b0 : decide (0 ≤ (ji9)) = true := decide_eq_true c10
                    clear c10
                    by_cases c11 : (ji9) < (l0.length : Int)
                    · rw [if_pos c11] at H
                      have c11b0 : decide ((ji9) < (l0.length : Int)) = true := decide_eq_true c11
                      clear c11
                      have H' := Aside0.mk H
                      clear H
                      have p112 : 0 ≤ (x3_1 : Int) := of_decide_eq_true (by first | (with_reducible assumption) | assumption)
                      have q112 : x3_1 < (l0.length : Int) := of_decide_eq_true (by first | (with_reducible assumption) | assumption)
                      obtain ⟨ad112, A112_2, c112_2, e112, hx112_0, hx112_1, hx112_2, hl112_2, hi112_2⟩ := at_T45 HR0.out x3_1 p112 q112
                      obtain rfl : ad110 = ad112 := (by injection e112)
                      have HR112_2 := Aside0.mk hi112_2
                      have HC112_2 := Aside0.mk hl112_2
                      clear hi112_2 hl112_2
                      replace p112 := eq_true p112
                      replace q112 := eq_true q112
                      have p113 : 0 ≤ ((ji9) : Int) := of_decide_eq_true (by first | (with_reducible assumption) | assumption)
                      have q113 : (ji9) < (l0.length : Int) := of_decide_eq_true (by first | (with_reducible assumption) | assumption)
                      obtain ⟨ad113, A113_2, c113_2, e113, hx113_0, hx113_1, hx113_2, hl113_2, hi113_2⟩ := at_T45 HR0.out (ji9) p113 q113
                      obtain rfl : ad110 = ad113 := (by injection e113)
                      have HR113_2 := Aside0.mk hi113_2
                      have HC113_2 := Aside0.mk hl113_2
                      clear hi113_2 hl113_2
                      replace p113 := eq_true p113
                      replace q113 := eq_true q113
                      go_wp2
                      repeat (go_quiet (fail); try go_wp2)
                      go_meet
                      case rel => exact ⟨_, (!(Op.bytesLess (((rd_T45 l0 (ji9)).f0).toList) (((rd_T45 l0 x3_1).f0).toList))), (by first | rfl | (simp; done) | (simp only [← hji9] <;> (first | rfl | simp)) | (simp [*]; done)), H', ⟨by have := HK1.out; first | omega | exact Nat.le_refl _⟩, by repeat (first | exact Drawn0.refl _ | apply Drawn0.step)⟩
                    · rw [if_neg c11] at H
                      exact absurd H (by simp)
                  · rw [if_neg c10] at H
                    exact absurd H (by simp)
                · rw [if_neg c8] at H
                  have c8b0 : decide (0 < x3_1) = false := decide_eq_false c8
                  clear c8
                  (first | rw [c8b0] | (simp only [i64_w, i32_w]; rw [c8b0]) | skip)
                  have H' := Aside0.mk H
                  clear H
                  go_wp2
                  repeat (go_quiet (fail); try go_wp2)
                  go_meet
                  case rel => exact ⟨_, (false), (by first | rfl | (simp; done) | (simp [*]; done)), H', ⟨by have := HK1.out; first | omega | exact Nat.le_refl _⟩, by repeat (first | exact Drawn0.refl _ | apply Drawn0.step)⟩
              case rest =>
                clear HC7
                try clear c1
                try clear p1
                try clear q1
                try clear hx1
                try clear c2
                try clear c2b0
                try clear c2b1
                try clear p2
                try clear c3
                try clear c3b0
                try clear c4
                try clear c4b0
                try clear c6
                try clear p6
                try clear c8
                try clear c8b0
                try clear c9
                try clear c10
                try clear c10b0
                try clear c11
                try clear c11b0
                try clear p11
                try clear q11
                try clear hx11
                try clear hx110_0
                try clear hx110_1
                try clear hx110_2
                try clear hx112_0
                try clear hx112_1
                try clear hx112_2
                try clear hx113_0
                try clear hx113_1
                try clear hx113_2
                try clear p110
                try clear p112
                try clear p113
                try clear p2
                try clear q110
                try clear q112
                try clear q113
                obtain ⟨kq, x36_6, rfl, HA, HJ6, ⟨mc6, rfl⟩⟩ := hcut
                cases kq with
                | zero => exact absurd HA.out (by simp [contangoref11_Check.j1])
                | succ kj6 =>
                  have H := HA.out
                  clear HA
                  simp only [contangoref11_Check.j1] at H
                  by_cases c12 : x36_6 = true
                  · subst c12
                    have H1 : (some 12) = some r := by rw [if_pos rfl] at H; exact H
                    clear H
                    have H := H1
                    clear H1
                    obtain rfl := Option.some.inj H
                    go_wp2
                    repeat (go_quiet (fail); try go_wp2)
                    go_ret
                    exact ⟨by first | rfl | (simp; done) | (simp [*]; done), by repeat (first | exact Drawn0.refl _ | apply Drawn0.step)⟩
                  · replace c12 := Bool.eq_false_iff.mpr c12
                    subst c12
                    have H1 : (if 0 ≤ x3_1 then (if x3_1 < (l0.length : Int) then (if ((rd_T45 l0 x3_1).f1) < 1 then (contangoref11_Check.j2 kj6 l0 x3_1 true) else (contangoref11_Check.j2 kj6 l0 x3_1 (decide (((rd_T45 l0 x3_1).f1) > 4)))) else (none)) else (none)) = some r := by rw [if_neg (show ¬ (false = true) by decide)] at H; exact H
                    clear H
                    have H := H1
                    clear H1
                    have HC13 := Aside0.mk H
                    clear H
                    go_upto_region 10 with (fail)
                    repeat (go_quiet (fail); go_upto_region 10 with (fail))
                    go_cut [50] (fun v50 wc => ∃ (kq : Nat) (x50_12 : Bool), v50 = .bool x50_12 ∧ Aside0 (contangoref11_Check.j2 kq l0 x3_1 x50_12 = some r) ∧ Aside0 (kq ≤ kj6) ∧ Drawn0 w wc)
                    case first =>
                      have H := HC13.out
                      clear HC13
                      by_cases c14 : 0 ≤ x3_1
                      · rw [if_pos c14] at H
                        have c14b0 : decide (0 ≤ x3_1) = true := decide_eq_true c14
                        clear c14
                        (first | rw [c14b0] | (simp only [i64_w, i32_w]; rw [c14b0]) | skip)
                        by_cases c15 : x3_1 < (l0.length : Int)
                        · rw [if_pos c15] at H
                          have c15b0 : decide (x3_1 < (l0.length : Int)) = true := decide_eq_true c15
                          clear c15
                          by_cases c16 : ((rd_T45 l0 x3_1).f1) < 1
                          · rw [if_pos c16] at H
                            have c16b0 : decide (((rd_T45 l0 x3_1).f1) < 1) = true := decide_eq_true c16
                            clear c16
                            have H' := Aside0.mk H
                            clear H
                            have p114 : 0 ≤ (x3_1 : Int) := of_decide_eq_true (by first | (with_reducible assumption) | assumption)
                            have q114 : x3_1 < (l0.length : Int) := of_decide_eq_true (by first | (with_reducible assumption) | assumption)
                            obtain ⟨ad114, A114_2, c114_2, e114, hx114_0, hx114_1, hx114_2, hl114_2, hi114_2⟩ := at_T45 HR0.out x3_1 p114 q114
                            obtain rfl : ad110 = ad114 := (by injection e114)
                            have HR114_2 := Aside0.mk hi114_2
                            have HC114_2 := Aside0.mk hl114_2
                            clear hi114_2 hl114_2
                            replace p114 := eq_true p114
                            replace q114 := eq_true q114
                            go_wp2
                            repeat (go_quiet (fail); try go_wp2)
                            go_meet
                            case rel => exact ⟨_, (true), (by first | rfl | (simp; done) | (simp [*]; done)), H', ⟨by have := HK1.out; have := HJ6.out; first | omega | exact Nat.le_refl _⟩, by repeat (first | exact Drawn0.refl _ | apply Drawn0.step)⟩
                          · rw [if_neg c16] at H
                            have c16b0 : decide (((rd_T45 l0 x3_1).f1) < 1) = false := decide_eq_false c16
                            clear c16
                            have H' := Aside0.mk H
                            clear H
                            have p114 : 0 ≤ (x3_1 : Int) := of_decide_eq_true (by first | (with_reducible assumption) | assumption)
                            have q114 : x3_1 < (l0.length : Int) := of_decide_eq_true (by first | (with_reducible assumption) | assumption)
                            obtain ⟨ad114, A114_2, c114_2, e114, hx114_0, hx114_1, hx114_2, hl114_2, hi114_2⟩ := at_T45 HR0.out x3_1 p114 q114
                            obtain rfl : ad110 = ad114 := (by injection e114)
                            have HR114_2 := Aside0.mk hi114_2
                            have HC114_2 := Aside0.mk hl114_2
                            clear hi114_2 hl114_2
                            replace p114 := eq_true p114
                            replace q114 := eq_true q114
                            have p115 : 0 ≤ (x3_1 : Int) := of_decide_eq_true (by first | (with_reducible assumption) | assumption)
                            have q115 : x3_1 < (l0.length : Int) := of_decide_eq_true (by first | (with_reducible assumption) | assumption)
                            obtain ⟨ad115, A115_2, c115_2, e115, hx115_0, hx115_1, hx115_2, hl115_2, hi115_2⟩ := at_T45 HR0.out x3_1 p115 q115
                            obtain rfl : ad110 = ad115 := (by injection e115)
                            have HR115_2 := Aside0.mk hi115_2
                            have HC115_2 := Aside0.mk hl115_2
                            clear hi115_2 hl115_2
                            replace p115 := eq_true p115
                            replace q115 := eq_true q115
                            have ea_ := Option.some.inj (hx114_2.symm.trans hx115_2)
                            injection ea_ with ea_ en_ ec_
                            subst ea_
                            subst ec_
                            clear en_
                            go_wp2
                            repeat (go_quiet (fail); try go_wp2)
                            go_meet
                            case rel => exact ⟨_, (decide (((rd_T45 l0 x3_1).f1) > 4)), (by first | rfl | (simp; done) | (simp [*]; done)), H', ⟨by have := HK1.out; have := HJ6.out; first | omega | exact Nat.le_refl _⟩, by repeat (first | exact Drawn0.refl _ | apply Drawn0.step)⟩
                        · rw [if_neg c15] at H
                          exact absurd H (by simp)
                      · rw [if_neg c14] at H
                        exact absurd H (by simp)
                    case rest =>
                      clear HC13
                      try clear c1
                      try clear p1
                      try clear q1
                      try clear hx1
                      try clear c2
                      try clear c2b0
                      try clear c2b1
                      try clear p2
                      try clear c3
                      try clear c3b0
                      try clear c4
                      try clear c4b0
                      try clear c6
                      try clear p6
                      try clear c8
                      try clear c8b0
                      try clear c9
                      try clear c10
                      try clear c10b0
                      try clear c11
                      try clear c11b0
                      try clear p11
                      try clear q11
                      try clear hx11
                      try clear c12
                      try clear c14
                      try clear c14b0
                      try clear c15
                      try clear c15b0
                      try clear c16
                      try clear c16b0
                      try clear hx110_0
                      try clear hx110_1
                      try clear hx110_2
                      try clear hx112_0
                      try clear hx112_1
                      try clear hx112_2
                      try clear hx113_0
                      try clear hx113_1
                      try clear hx113_2
                      try clear hx114_0
                      try clear hx114_1
                      try clear hx114_2
                      try clear hx115_0
                      try clear hx115_1
                      try clear hx115_2
                      try clear p1
                      try clear p11
                      try clear p110
                      try clear p112
                      try clear p113
                      try clear p114
                      try clear p115
                      try clear p2
                      try clear p6
                      try clear q1
                      try clear q11
                      try clear q110
                      try clear q112
                      try clear q113
                      try clear q114
                      try clear q115
                      obtain ⟨kq, x50_12, rfl, HA, HJ12, ⟨mc12, rfl⟩⟩ := hcut
                      cases kq with
                      | zero => exact absurd HA.out (by simp [contangoref11_Check.j2])
                      | succ kj12 =>
                        have H := HA.out
                        clear HA
                        simp only [contangoref11_Check.j2] at H
                        by_cases c17 : x50_12 = true
                        · subst c17
                          have H1 : (some 13) = some r := by rw [if_pos rfl] at H; exact H
                          clear H
                          have H := H1
                          clear H1
                          obtain rfl := Option.some.inj H
                          go_wp2
                          repeat (go_quiet (fail); try go_wp2)
                          go_ret
                          exact ⟨by first | rfl | (simp; done) | (simp [*]; done), by repeat (first | exact Drawn0.refl _ | apply Drawn0.step)⟩
                        · replace c17 := Bool.eq_false_iff.mpr c17
                          subst c17
                          have H1 : (if 0 ≤ x3_1 then (if x3_1 < (l0.length : Int) then ((contangoref11_accounts.f kj12 ((rd_T45 l0 x3_1).f2)).bind fun t117 => (if t117 = 0 then (contangoref11_Check.l0 kj12 l0 (wrap64 (x3_1 + 1))) else (some t117))) else (none)) else (none)) = some r := by rw [if_neg (show ¬ (false = true) by decide)] at H; exact H
                          clear H
                          have H := H1
                          clear H1
                          by_cases c18 : 0 ≤ x3_1
                          · rw [if_pos c18] at H
                            have c18b0 : decide (0 ≤ x3_1) = true := decide_eq_true c18
                            clear c18
                            by_cases c19 : x3_1 < (l0.length : Int)
                            · rw [if_pos c19] at H
                              have c19b0 : decide (x3_1 < (l0.length : Int)) = true := decide_eq_true c19
                              clear c19
                              replace H := Option.bind_eq_some_iff.mp H
                              obtain ⟨t117, A200, H⟩ := H
                              replace H : (if t117 = 0 then (contangoref11_Check.l0 kj12 l0 (wrap64 (x3_1 + 1))) else (some t117)) = some r := H
                              have A20 := Aside0.mk A200
                              clear A200
                              by_cases c21 : t117 = 0
                              · rw [if_pos c21] at H
                                have c21b0 : (t117 == 0) = true := beq_iff_eq.mpr c21
                                have c21b1 : (t117 != 0) = false := bne_eq_false_iff_eq.mpr c21
                                clear c21
                                have H' := Aside0.mk H
                                clear H
                                have p116 : 0 ≤ (x3_1 : Int) := of_decide_eq_true (by first | (with_reducible assumption) | assumption)
                                have q116 : x3_1 < (l0.length : Int) := of_decide_eq_true (by first | (with_reducible assumption) | assumption)
                                obtain ⟨ad116, A116_2, c116_2, e116, hx116_0, hx116_1, hx116_2, hl116_2, hi116_2⟩ := at_T45 HR0.out x3_1 p116 q116
                                obtain rfl : ad110 = ad116 := (by injection e116)
                                have HR116_2 := Aside0.mk hi116_2
                                have HC116_2 := Aside0.mk hl116_2
                                clear hi116_2 hl116_2
                                replace p116 := eq_true p116
                                replace q116 := eq_true q116
                                go_wp2_with (first | (go_at_call 34; (with_reducible refine (contangoref11_accounts.calls kj12 _ _ ((rd_T45 l0 x3_1).f2) t117 _ ?side1 ?side2 A20.out).mono ?_); (case side1 => repeat (first | exact HR116_2.out | (with_reducible refine Kd.C_alloc ?_ _) | (with_reducible refine Kd.C_drewN ?_ _) | (with_reducible refine Kd.C_drew ?_))); (case side2 => exact HC116_2.out); rintro e w' ⟨rfl, ⟨nd, rfl⟩⟩; (try first | exact ⟨rfl, _, World.drewN_drewN _ _ _⟩ | exact ⟨rfl, _, Eq.trans (World.drewN_drewN _ _ _) (congrArg (World.drewN _) (Nat.add_assoc _ _ _))⟩)))
                                repeat (go_quiet (first | (go_at_call 34; (with_reducible refine (contangoref11_accounts.calls kj12 _ _ ((rd_T45 l0 x3_1).f2) t117 _ ?side1 ?side2 A20.out).mono ?_); (case side1 => repeat (first | exact HR116_2.out | (with_reducible refine Kd.C_alloc ?_ _) | (with_reducible refine Kd.C_drewN ?_ _) | (with_reducible refine Kd.C_drew ?_))); (case side2 => exact HC116_2.out); rintro e w' ⟨rfl, ⟨nd, rfl⟩⟩; (try first | exact ⟨rfl, _, World.drewN_drewN _ _ _⟩ | exact ⟨rfl, _, Eq.trans (World.drewN_drewN _ _ _) (congrArg (World.drewN _) (Nat.add_assoc _ _ _))⟩))); try go_wp2_with (first | (go_at_call 34; (with_reducible refine (contangoref11_accounts.calls kj12 _ _ ((rd_T45 l0 x3_1).f2) t117 _ ?side1 ?side2 A20.out).mono ?_); (case side1 => repeat (first | exact HR116_2.out | (with_reducible refine Kd.C_alloc ?_ _) | (with_reducible refine Kd.C_drewN ?_ _) | (with_reducible refine Kd.C_drew ?_))); (case side2 => exact HC116_2.out); rintro e w' ⟨rfl, ⟨nd, rfl⟩⟩; (try first | exact ⟨rfl, _, World.drewN_drewN _ _ _⟩ | exact ⟨rfl, _, Eq.trans (World.drewN_drewN _ _ _) (congrArg (World.drewN _) (Nat.add_assoc _ _ _))⟩))))
                                go_roundg kj12
                                case measure => have := HK1.out; have := HJ6.out; have := HJ12.out; omega
                                case rel => exact ⟨(wrap64 (x3_1 + 1)), (by first | rfl | (simp; done) | (simp [*]; done)), H', ⟨by have := HK1.out; have := HJ6.out; have := HJ12.out; omega⟩, by repeat (first | exact Drawn0.refl _ | apply Drawn0.step)⟩
                              · rw [if_neg c21] at H
                                have c21b0 : (t117 == 0) = false := beq_eq_false_iff_ne.mpr c21
                                have c21b1 : (t117 != 0) = true := bne_iff_ne.mpr c21
                                obtain rfl := Option.some.inj H
                                have p116 : 0 ≤ (x3_1 : Int) := of_decide_eq_true (by first | (with_reducible assumption) | assumption)
                                have q116 : x3_1 < (l0.length : Int) := of_decide_eq_true (by first | (with_reducible assumption) | assumption)
                                obtain ⟨ad116, A116_2, c116_2, e116, hx116_0, hx116_1, hx116_2, hl116_2, hi116_2⟩ := at_T45 HR0.out x3_1 p116 q116
                                obtain rfl : ad110 = ad116 := (by injection e116)
                                have HR116_2 := Aside0.mk hi116_2
                                have HC116_2 := Aside0.mk hl116_2
                                clear hi116_2 hl116_2
                                replace p116 := eq_true p116
                                replace q116 := eq_true q116
                                go_wp2_with (first | (go_at_call 34; (with_reducible refine (contangoref11_accounts.calls kj12 _ _ ((rd_T45 l0 x3_1).f2) t117 _ ?side1 ?side2 A20.out).mono ?_); (case side1 => repeat (first | exact HR116_2.out | (with_reducible refine Kd.C_alloc ?_ _) | (with_reducible refine Kd.C_drewN ?_ _) | (with_reducible refine Kd.C_drew ?_))); (case side2 => exact HC116_2.out); rintro e w' ⟨rfl, ⟨nd, rfl⟩⟩; (try first | exact ⟨rfl, _, World.drewN_drewN _ _ _⟩ | exact ⟨rfl, _, Eq.trans (World.drewN_drewN _ _ _) (congrArg (World.drewN _) (Nat.add_assoc _ _ _))⟩)))
                                repeat (go_quiet (first | (go_at_call 34; (with_reducible refine (contangoref11_accounts.calls kj12 _ _ ((rd_T45 l0 x3_1).f2) t117 _ ?side1 ?side2 A20.out).mono ?_); (case side1 => repeat (first | exact HR116_2.out | (with_reducible refine Kd.C_alloc ?_ _) | (with_reducible refine Kd.C_drewN ?_ _) | (with_reducible refine Kd.C_drew ?_))); (case side2 => exact HC116_2.out); rintro e w' ⟨rfl, ⟨nd, rfl⟩⟩; (try first | exact ⟨rfl, _, World.drewN_drewN _ _ _⟩ | exact ⟨rfl, _, Eq.trans (World.drewN_drewN _ _ _) (congrArg (World.drewN _) (Nat.add_assoc _ _ _))⟩))); try go_wp2_with (first | (go_at_call 34; (with_reducible refine (contangoref11_accounts.calls kj12 _ _ ((rd_T45 l0 x3_1).f2) t117 _ ?side1 ?side2 A20.out).mono ?_); (case side1 => repeat (first | exact HR116_2.out | (with_reducible refine Kd.C_alloc ?_ _) | (with_reducible refine Kd.C_drewN ?_ _) | (with_reducible refine Kd.C_drew ?_))); (case side2 => exact HC116_2.out); rintro e w' ⟨rfl, ⟨nd, rfl⟩⟩; (try first | exact ⟨rfl, _, World.drewN_drewN _ _ _⟩ | exact ⟨rfl, _, Eq.trans (World.drewN_drewN _ _ _) (congrArg (World.drewN _) (Nat.add_assoc _ _ _))⟩))))
                                go_ret
                                exact ⟨by first | rfl | (simp; done) | (simp [*]; done), by repeat (first | exact Drawn0.refl _ | apply Drawn0.step)⟩
                            · rw [if_neg c19] at H
                              exact absurd H (by simp)
                          · rw [if_neg c18] at H
                            exact absurd H (by simp)
            · replace c6 := Bool.eq_false_iff.mpr c6
              subst c6
              have H1 : (some 10) = some r := by rw [if_neg (show ¬ (false = true) by decide)] at H; exact H
              clear H
              have H := H1
              clear H1
              obtain rfl := Option.some.inj H
              have p110 : 0 ≤ (x3_1 : Int) := of_decide_eq_true (by first | (with_reducible assumption) | assumption)
              have q110 : x3_1 < (l0.length : Int) := of_decide_eq_true (by first | (with_reducible assumption) | assumption)
              obtain ⟨ad110, A110_2, c110_2, e110, hx110_0, hx110_1, hx110_2, hl110_2, hi110_2⟩ := at_T45 HR0.out x3_1 p110 q110
              cases e110
              have HR110_2 := Aside0.mk hi110_2
              have HC110_2 := Aside0.mk hl110_2
              clear hi110_2 hl110_2
              replace p110 := eq_true p110
              replace q110 := eq_true q110
              go_wp2_with (first | (go_at_call 33; (with_reducible refine (contangoref03_Name.calls k1 ((rd_T45 l0 x3_1).f0) false _ A5.out).mono ?_); rintro e w' ⟨rfl, ⟨nd, rfl⟩⟩; (try first | exact ⟨rfl, _, World.drewN_drewN _ _ _⟩ | exact ⟨rfl, _, Eq.trans (World.drewN_drewN _ _ _) (congrArg (World.drewN _) (Nat.add_assoc _ _ _))⟩)))
              repeat (go_quiet (first | (go_at_call 33; (with_reducible refine (contangoref03_Name.calls k1 ((rd_T45 l0 x3_1).f0) false _ A5.out).mono ?_); rintro e w' ⟨rfl, ⟨nd, rfl⟩⟩; (try first | exact ⟨rfl, _, World.drewN_drewN _ _ _⟩ | exact ⟨rfl, _, Eq.trans (World.drewN_drewN _ _ _) (congrArg (World.drewN _) (Nat.add_assoc _ _ _))⟩))); try go_wp2_with (first | (go_at_call 33; (with_reducible refine (contangoref03_Name.calls k1 ((rd_T45 l0 x3_1).f0) false _ A5.out).mono ?_); rintro e w' ⟨rfl, ⟨nd, rfl⟩⟩; (try first | exact ⟨rfl, _, World.drewN_drewN _ _ _⟩ | exact ⟨rfl, _, Eq.trans (World.drewN_drewN _ _ _) (congrArg (World.drewN _) (Nat.add_assoc _ _ _))⟩))))
              go_ret
              exact ⟨by first | rfl | (simp; done) | (simp [*]; done), by repeat (first | exact Drawn0.refl _ | apply Drawn0.step)⟩
          · rw [if_neg c4] at H
            exact absurd H (by simp)
        · rw [if_neg c3] at H
          have c3b0 : decide (x3_1 < (l0.length : Int)) = false := decide_eq_false c3
          clear c3
          obtain rfl := Option.some.inj H
          go_wp2
          repeat (go_quiet (fail); try go_wp2)
          go_ret
          exact ⟨by first | rfl | (simp; done) | (simp [*]; done), by repeat (first | exact Drawn0.refl _ | apply Drawn0.step)⟩

/-! ### member_at: function 36 -/
-- NEEDS
def member_at.go (a1 : ByteArray) : List S45 → Int → Int
  | [], _ => -1
  | x :: xs, i => if x.f0.toList = a1.toList then i else member_at.go a1 xs (i + 1)
/-- The place of the first member of a name; -1. -/
def member_at.f (l0 : List S45) (a1 : ByteArray) : Option Int := some (member_at.go a1 l0 0)
theorem member_at.go_drop (a1 : ByteArray) (l : List S45) (i : Nat) (h : i < l.length) : member_at.go a1 (l.drop i) i = if (rd_T45 l i).f0.toList = a1.toList then (i : Int) else member_at.go a1 (l.drop (i + 1)) ((i + 1 : Nat) : Int) := by
  rw [List.drop_eq_getElem_cons h]
  simp [member_at.go, rd_T45, List.getD_eq_getElem?_getD, List.getElem?_eq_getElem h]
set_option maxHeartbeats 800000 in
set_option maxRecDepth 100000 in
theorem member_at.calls (A0 : Option Addr) (c0 : Nat) (l0 : List (S45)) (a1 : ByteArray) (r : Int) (w : World) (hr0 : Kd.C k45 w A0 l0.length l0) (hc0 : l0.length ≤ c0) (h : member_at.f l0 a1 = some r) :
    Calls Try.prog 36 #[.slice A0 l0.length c0, .string a1] w fun e w' => e = .returned (.int .i64 r) ∧ Below w.heap.size w w' := by
  have HR0 := Aside0.mk hr0
  have HC0 := Aside0.mk hc0
  have HL := hr0.2.1
  have H' := Aside0.mk (Option.some.inj h)
  clear hr0 hc0 h
  go_enter Try.func36, Try.ntmps36
  go_wp2
  go_loopg [5, 8] l0.length (fun kq _ v8 w' => ∃ (x8 : Nat), v8 = .int .i64 x8 ∧ kq + x8 = l0.length ∧ Aside0 (member_at.go a1 (l0.drop x8) x8 = r) ∧ Aside0 (Below w.heap.size w w') ∧ Aside0 (w'.cell? ⟨w.heap.size, 0, none⟩ = some (.string a1)))
  case atStart => exact ⟨0, rfl, by omega, H', ⟨(Below.refl _ _).alloc (Nat.le_refl _) _⟩, ⟨by go_simp⟩⟩
  case round =>
    obtain ⟨x8, rfl, hx, HA, HB, HC⟩ := hrel
    have hsz := HB.out.size
    have hc := HC.out
    have hsz2 := World.block_lt_of_cell? _ _ HC.out
    by_cases hlt : x8 < l0.length
    · obtain ⟨ad, A2, c2, e, h0, h1, h2, h3, h4⟩ := at_T45 (Kd.C_below HR0.out HB.out) x8 (by omega) (by omega)
      cases e
      simp only [Int.toNat_natCast] at h0 h1 h2
      have hg := member_at.go_drop a1 l0 x8 hlt
      have HA2 := Aside0.mk (HA.out ▸ hg).symm
      clear hg HA
      have HH := Aside0.mk h4
      clear h4
      by_cases hq : (rd_T45 l0 x8).f0.toList = a1.toList
      · have hqb : ((rd_T45 l0 x8).f0.toList == a1.toList) = true := beq_iff_eq.mpr hq
        have HA3 := Aside0.mk (by have := HA2.out; rwa [if_pos hq] at this)
        clear hq HA2
        go_wp2
        go_ret
        have := HA3.out
        subst this
        exact ⟨rfl, HB.out.alloc (by omega) _⟩
      · have hqb : ((rd_T45 l0 x8).f0.toList == a1.toList) = false := beq_eq_false_iff_ne.mpr hq
        have HA3 := Aside0.mk (by have := HA2.out; rwa [if_neg hq] at this)
        clear hq HA2
        go_wp2
        go_roundg (l0.length - (x8 + 1))
        case measure => omega
        case rel => exact ⟨x8 + 1, by go_num, by omega, HA3, ⟨HB.out.alloc (by omega) _⟩, ⟨by go_simp⟩⟩
    · have hxe : x8 = l0.length := by omega
      have HA3 := Aside0.mk (by have := HA.out; rwa [List.drop_eq_nil_of_le (by omega)] at this)
      clear HA
      have hd : decide ((x8 : Int) < (l0.length : Int)) = false := by simp; omega
      clear hxe
      go_wp2
      go_ret
      have := HA3.out
      simp only [member_at.go] at this
      subst this
      exact ⟨rfl, HB.out⟩

/-! ### api_Account: function 45 -/
-- NEEDS
/-- A clone holds what was cloned. -/
def api_Account.f (l0 : List S53) : Option (List S53) := if l0.length * 24 ≤ 140737488355328 then some l0 else none
set_option maxHeartbeats 800000 in
set_option maxRecDepth 100000 in
theorem api_Account.calls (A0 : Option Addr) (c0 : Nat) (l0 : List (S53)) (r : List (S53)) (w : World) (hr0 : Kd.C k53 w A0 l0.length l0) (hc0 : l0.length ≤ c0) (h : api_Account.f l0 = some r) :
    Calls Try.prog 45 #[.slice A0 l0.length c0] w fun e w' => ∃ v0_ : Value, e = .returned (v0_) ∧ Kd.R k53 53 w' w.heap.size (fun _ => True) v0_ r ∧ Below w.heap.size w w' := by
  unfold api_Account.f at h
  split at h
  case isFalse => cases h
  rename_i h'
  obtain rfl := Option.some.inj h
  clear h
  have h := h'
  clear h'
  have HR0 := Aside0.mk hr0
  have HC0 := Aside0.mk hc0
  have HB := Aside0.mk (Below.refl w.heap.size w)
  cases A0 with
  | none =>
    have hl : l0.length = 0 := by
      rcases Nat.eq_zero_or_pos l0.length with h0 | h0
      · exact h0
      · obtain ⟨ad, h, _⟩ := hr0.2.2 h0
        cases h
    obtain rfl : l0 = [] := List.eq_nil_of_length_eq_zero hl
    clear hr0 hc0 h hl
    have hnil := fun (W : World) (a : Option Addr) (n c : Nat) => Lib.run_eql_slice_nil W 43 53 a n c 0 0 Try.underlying43
    go_enter Try.func45, Try.ntmps45
    go_wp2
    go_ret
    exact ⟨_, rfl, Kd.R_nil _ _ _ _ _, HB.out⟩
  | some ad =>
    clear hr0 hc0
    have hnil := fun (W : World) (a : Option Addr) (n c : Nat) => Lib.run_eql_slice_nil W 43 53 a n c 0 0 Try.underlying43
    go_enter Try.func45, Try.ntmps45
    go_wp2_with ((with_reducible refine gate_builtin (b := .append) (xs := #[.tmp 5, .tmp 6]) rfl ?_); at_builtin; refine Kd.R_append_rows k53 (Rr := k53.K w) (w0 := w) w.heap.size rfl (.tmp 5) (.tmp 6) 43 53 (.agg #[(.string ⟨#[]⟩), (.int .i64 0)]) 24 rfl Try.underlying43 info53 rfl (by decide) (by decide) _ [] l0 (some ad) l0.length c0 (fun _ => True) (fun _ => False) rfl rfl ?c1 ?c2 ?c3 (fun _ h => h.elim) (fun _ _ => trivial) ?c6 ?c7 ?c8 ?c9)
    case c1 => exact ⟨fun _ _ => trivial, [], World.ownsRow_lit (base := w.heap.size) (e := 53) (size := k53.sz) w #[] 0 (Nat.le_refl _) (by decide) (by simp), Reps.none _ _⟩
    case c2 => exact ReadsRow.imp_ HR0.out (below_alloc (Below.refl _ _) _) (fun _ _ h => h)
    case c3 => intro x cs h; rw [k53_open h]; exact k53_mkM _ _ _ _
    case c6 => exact below_alloc (Below.refl _ _) _
    case c7 => simp
    case c8 => simpa using h
    case c9 =>
      intro v1 w1 hr hb _ _
      have HR := Aside0.mk hr
      have HB1 := Aside0.mk hb
      clear hr hb
      go_wp2
      go_ret
      exact ⟨_, rfl, HR.out, HB1.out⟩

/-! ### member_own: function 38 -/
theorem seg_set_ne {α : Type} {xs : List α} {i j m sz : Nat} {u : α} (hm : m < sz) (hne : j ≠ i) : ((xs.set (i * sz + m) u).drop (j * sz)).take sz = (xs.drop (j * sz)).take sz := by
  apply List.ext_getElem?
  intro q
  rw [List.getElem?_take, List.getElem?_take, List.getElem?_drop, List.getElem?_drop]
  by_cases hq : q < sz
  · rw [if_pos hq, if_pos hq, List.getElem?_set]
    have : ¬ i * sz + m = j * sz + q := by
      rcases Nat.lt_or_gt_of_ne hne with h | h
      · have := Nat.mul_le_mul_right sz (show j + 1 ≤ i from h)
        rw [Nat.succ_mul] at this
        omega
      · have := Nat.mul_le_mul_right sz (show i + 1 ≤ j from h)
        rw [Nat.succ_mul] at this
        omega
    rw [if_neg this]
  · rw [if_neg hq, if_neg hq]
theorem seg_set_eq {α : Type} {xs : List α} {i m sz : Nat} {u : α} (hm : m < sz) : ((xs.set (i * sz + m) u).drop (i * sz)).take sz = ((xs.drop (i * sz)).take sz).set m u := by
  apply List.ext_getElem?
  intro q
  rw [List.getElem?_take, List.getElem?_drop, List.getElem?_set, List.getElem?_set, List.getElem?_take, List.getElem?_drop]
  by_cases hq : q < sz
  · rw [if_pos hq, if_pos hq]
    by_cases he : m = q
    · subst he
      simp only [if_pos, List.length_take, List.length_drop]
      by_cases hl : i * sz + m < xs.length
      · rw [if_pos hl, if_pos (by omega)]
      · rw [if_neg hl, if_neg (by omega)]
    · rw [if_neg (by omega), if_neg he]
  · rw [if_neg hq, if_neg hq, if_neg (by omega)]

/-- A kind whose elements are read in one world, that stays. -/
def kFix {α : Type} (w0 : World) (d : Kd α) : Kd α where
  sz := d.sz
  E := []
  K := fun _ x cs => d.K w0 x cs
  M := fun _ _ _ x cs => d.K w0 x cs
  K_len := d.K_len
  K_one := d.K_one
  K_below := fun _ h => h
  K_of_M := fun h => h
  M_mono := fun _ h => h
  M_bound := fun h => h
  M_move := fun _ h => h
  M_lower := fun _ h => h

set_option maxHeartbeats 800000 in
set_option maxRecDepth 100000 in
theorem CloneFix_api_Member.calls (A0 : Option Addr) (c0 : Nat) (l0 : List (S45)) (w : World) (hr0 : Kd.C k45 w A0 l0.length l0) (hc0 : l0.length ≤ c0) (h : l0.length * 48 ≤ 140737488355328) :
    Calls Try.prog 53 #[.slice A0 l0.length c0] w fun e w' => ∃ v0_ : Value, e = .returned (v0_) ∧ Kd.R (kFix w k45) 45 w' w.heap.size (fun _ => True) v0_ l0 ∧ Below w.heap.size w w' := by
  have HR0 := Aside0.mk hr0
  have HC0 := Aside0.mk hc0
  have HB := Aside0.mk (Below.refl w.heap.size w)
  cases A0 with
  | none =>
    have hl : l0.length = 0 := by
      rcases Nat.eq_zero_or_pos l0.length with h0 | h0
      · exact h0
      · obtain ⟨ad, h, _⟩ := hr0.2.2 h0
        cases h
    obtain rfl : l0 = [] := List.eq_nil_of_length_eq_zero hl
    clear hr0 hc0 h hl
    have hnil := fun (W : World) (a : Option Addr) (n c : Nat) => Lib.run_eql_slice_nil W 22 45 a n c 0 0 Try.underlying22
    go_enter Try.func53, Try.ntmps53
    go_wp2
    go_ret
    exact ⟨_, rfl, Kd.R_nil _ _ _ _ _, HB.out⟩
  | some ad =>
    clear hr0 hc0
    have hnil := fun (W : World) (a : Option Addr) (n c : Nat) => Lib.run_eql_slice_nil W 22 45 a n c 0 0 Try.underlying22
    go_enter Try.func53, Try.ntmps53
    go_wp2_with ((with_reducible refine gate_builtin (b := .append) (xs := #[.tmp 5, .tmp 6]) rfl ?_); at_builtin; refine Kd.R_append_rows (kFix w k45) (Rr := k45.K w) (w0 := w) w.heap.size rfl (.tmp 5) (.tmp 6) 22 45 (.agg #[(.string ⟨#[]⟩), (.int .i64 0), (.slice none 0 0)]) 48 rfl Try.underlying22 info45 rfl (show 0 < k45.sz by decide) (by decide) _ [] l0 (some ad) l0.length c0 (fun _ => True) (fun _ => False) rfl rfl ?c1 ?c2 ?c3 (fun _ h => h.elim) (fun _ _ => trivial) ?c6 ?c7 ?c8 ?c9)
    case c1 => exact ⟨fun _ _ => trivial, [], World.ownsRow_lit (base := w.heap.size) (e := 45) (size := k45.sz) w #[] 0 (Nat.le_refl _) (by decide) (by simp), Reps.none _ _⟩
    case c2 => exact ReadsRow.imp_ HR0.out (below_alloc (Below.refl _ _) _) (fun _ _ h => h)
    case c3 => exact fun _ _ h => h
    case c6 => exact below_alloc (Below.refl _ _) _
    case c7 => simp
    case c8 => simpa using h
    case c9 =>
      intro v1 w1 hr hb _ _
      have HR := Aside0.mk hr
      have HB1 := Aside0.mk hb
      clear hr hb
      go_wp2
      go_ret
      exact ⟨_, rfl, HR.out, HB1.out⟩

def member_own.f (l0 : List S45) : Option (List S45) :=
  if l0.length * 48 ≤ 140737488355328 ∧ (l0.all fun x => decide (x.f2.length * 24 ≤ 140737488355328)) = true then some l0 else none
def OwnMid (w0 w : World) (v : Value) (l0 : List S45) (i : Nat) : Prop :=
  ∃ (f : Nat → Nat) (inner : List Value), w.ownsRow w0.heap.size 45 3 v l0.length inner ∧ ∀ j p, l0[j]? = some p →
    (j < i → k45.M w w0.heap.size (fun k => (True ∧ some k ≠ v.ownBlock) ∧ f k = j) p ((inner.drop (j * 3)).take 3)) ∧ (i ≤ j → k45.K w0 p ((inner.drop (j * 3)).take 3))
theorem OwnMid.start {w w1 : World} {v : Value} {l0 : List S45} (hr : Kd.R (kFix w k45) 45 w1 w.heap.size (fun _ => True) v l0) : OwnMid w w1 v l0 0 := by
  obtain ⟨_, inner, ho, hrep⟩ := hr
  exact ⟨fun _ => 0, inner, ho, fun j p hj => ⟨fun h => absurd h (Nat.not_lt_zero _), fun _ => hrep.2 j p hj⟩⟩
theorem OwnMid.done {w0 w : World} {v : Value} {l0 : List S45} (h : OwnMid w0 w v l0 l0.length) : Kd.S k45 45 w w0.heap.size (fun _ => True) v l0 := by
  obtain ⟨f, inner, ho, hrep⟩ := h
  refine ⟨f, fun _ _ => trivial, inner, by rw [List.length_zipIdx]; exact ho, by rw [List.length_zipIdx]; exact ho.1, fun j p hj => ?_⟩
  rw [List.getElem?_zipIdx] at hj
  obtain ⟨q, hq, rfl⟩ := Option.map_eq_some_iff.1 hj
  have := (hrep j q hq).1 (List.getElem?_eq_some_iff.1 hq).1
  simp only [Nat.zero_add]
  exact this
/-- The next element: its cells, and the row behind the store of its own accounts. -/
theorem OwnMid.next {w0 w : World} {g cv : Nat} {l0 : List S45} {i : Nat} (hi : i < l0.length) (h : OwnMid w0 w (.slice (some ⟨g, 0, none⟩) l0.length cv) l0 i) (hw : Below w0.heap.size w0 w) :
    ∃ A2 c2, w.cell? ⟨g, i * 3 + 2, none⟩ = some (.slice A2 (rd_T45 l0 i).f2.length c2) ∧ w.frozen? ⟨g, i * 3 + 2, none⟩ = false ∧ (rd_T45 l0 i).f2.length ≤ c2 ∧ Kd.C k53 w A2 (rd_T45 l0 i).f2.length (rd_T45 l0 i).f2 ∧
      ∀ w1 v2, Below w.heap.size w w1 → Kd.R k53 53 w1 w.heap.size (fun _ => True) v2 (rd_T45 l0 i).f2 → OwnMid w0 (w1.setCell ⟨g, i * 3 + 2, none⟩ v2) (.slice (some ⟨g, 0, none⟩) l0.length cv) l0 (i + 1) := by
  obtain ⟨f, inner, ho, hrep⟩ := h
  have hp : l0[i]? = some (rd_T45 l0 i) := by
    rw [List.getElem?_eq_getElem hi]
    simp [rd_T45, List.getD_eq_getElem?_getD, List.getElem?_eq_getElem hi]
  have hK := (hrep i _ hp).2 (Nat.le_refl _)
  obtain ⟨A2, c2, hcs, hl2, hC⟩ := k45_open hK
  have hget : inner[i * 3 + 2]? = some (.slice A2 (rd_T45 l0 i).f2.length c2) := by
    have := congrArg (fun l => l[2]?) hcs
    simpa [List.getElem?_take, List.getElem?_drop] using this
  have hcell := ho.cells (g := g) rfl (i * 3 + 2) _ hget
  rw [add_plain] at hcell
  have hgl := own_lt ho g (by simp [Value.ownBlock])
  refine ⟨A2, c2, hcell, ?_, hl2, Kd.C_below hC hw, fun w1 v2 hb hr => ?_⟩
  · obtain ⟨cells, hc⟩ := own_typed ho g (by simp [Value.ownBlock])
    exact blk_frozen hc _
  · have ho1 := pw_own_below ho hb
    obtain ⟨hs1, hs2⟩ := ho1.stored (i * 3 + 2) v2
    refine ⟨fun k => if w.heap.size ≤ k then i else f k, _, hs1, fun j p hj => ?_⟩
    by_cases hji : j = i
    · subst hji
      obtain rfl : rd_T45 l0 j = p := by rw [hp] at hj; exact Option.some.inj hj
      refine ⟨fun _ => ?_, fun h => absurd h (by omega)⟩
      rw [seg_set_eq (by omega), hcs]
      refine k45_mkM _ _ _ _ ?_
      refine Kd.R_mono (Kd.R_grown (Kd.R_lower (Kd.R_bound hr) hw.size) hs2 ?_) ?_
      · intro k hk he
        have := hk.2.1
        injection he with he
        omega
      · intro k hk
        have := hk.2.1
        refine ⟨⟨trivial, fun he => ?_⟩, by simp only; rw [if_pos this]⟩
        simp only [Value.ownBlock, Option.map_some, Option.some.injEq] at he
        omega
    · rw [seg_set_ne (by omega) hji]
      refine ⟨fun h => ?_, fun h => (hrep j p hj).2 (by omega)⟩
      refine Kd.M_grown (Kd.M_below (k45.M_mono (fun k hk => ?_) (k45.M_bound ((hrep j p hj).1 (by omega)))) hb) hs2 (fun k hk => by have := hk.1.2; simpa [Value.ownBlock] using this)
      exact ⟨hk.1.1, by simp only; rw [if_neg (by omega)]; exact hk.1.2⟩
set_option maxHeartbeats 800000 in
set_option maxRecDepth 100000 in
theorem member_own.calls (A0 : Option Addr) (c0 : Nat) (l0 : List (S45)) (r : List (S45)) (w : World) (hr0 : Kd.C k45 w A0 l0.length l0) (hc0 : l0.length ≤ c0) (h : member_own.f l0 = some r) :
    Calls Try.prog 38 #[.slice A0 l0.length c0] w fun e w' => ∃ v0_ : Value, e = .returned (v0_) ∧ Kd.S k45 45 w' w.heap.size (fun _ => True) v0_ r ∧ Below w.heap.size w w' := by
  unfold member_own.f at h
  split at h
  case isFalse => cases h
  rename_i hb
  obtain ⟨hb1, hb2⟩ := hb
  obtain rfl := Option.some.inj h
  clear h
  have HB1 := Aside0.mk hb1
  have HB2 := Aside0.mk hb2
  have HR0 := Aside0.mk hr0
  have HL := hr0.2.1
  have HC0 := Aside0.mk hc0
  clear hr0 hc0 hb1 hb2
  go_enter Try.func38, Try.ntmps38
  go_wp2_with (go_at_call 53; refine (CloneFix_api_Member.calls A0 c0 l0 _ HR0.out HC0.out HB1.out).mono ?_; rintro e w1 ⟨v1, rfl, hr, hb⟩; have HM : Aside0 (OwnMid w w1 v1 l0 0) := ⟨OwnMid.start hr⟩; obtain ⟨Av, cv, rfl⟩ := Kd.R_slice hr; have HB := Aside0.mk hb; clear hr hb)
  go_loopg [4, 9] l0.length (fun kq _ v9 w' => ∃ (x : Nat), v9 = .int .i64 x ∧ kq + x = l0.length ∧ Aside0 (OwnMid w w' (.slice Av l0.length cv) l0 x) ∧ Aside0 (Below w.heap.size w w'))
  case atStart => exact ⟨0, rfl, by omega, HM, HB⟩
  case round =>
    obtain ⟨x, rfl, hx, HM, HB⟩ := hrel
    by_cases hlt : x < l0.length
    · obtain ⟨g, hg⟩ : ∃ g, Av = some ⟨g, 0, none⟩ := by
        obtain ⟨_, inner, ho, _⟩ := HM.out
        obtain ⟨g, cap, e, _⟩ := ho.form (by omega)
        injection e with e _ _
        exact ⟨g, e⟩
      subst hg
      obtain ⟨A2, c2, hc, hf, hl2, hC, hn⟩ := OwnMid.next hlt HM.out HB.out
      have HC2 := Aside0.mk hC
      have HN := Aside0.mk hn
      have hgl : w.heap.size ≤ g := by
        obtain ⟨_, inner, ho, _⟩ := HM.out
        exact own_base ho g (by simp [Value.ownBlock])
      have HCL : Aside0 (api_Account.f (rd_T45 l0 x).f2 = some (rd_T45 l0 x).f2) := ⟨by
        unfold api_Account.f
        rw [if_pos]
        have := List.all_eq_true.mp HB2.out (rd_T45 l0 x) (by
          simp only [rd_T45, List.getD_eq_getElem?_getD, Int.toNat_natCast, List.getElem?_eq_getElem hlt, Option.getD_some]
          exact List.getElem_mem hlt)
        exact of_decide_eq_true this⟩
      clear hC hn HM
      go_wp2_with (go_at_call 45; refine (api_Account.calls A2 c2 _ _ _ HC2.out hl2 HCL.out).mono ?_; rintro e w2 ⟨v2, rfl, hr, hb⟩; have HMN := Aside0.mk (HN.out w2 v2 hb hr); have hc3 := pw_cell_below hb hc; have hf3 := (hb.frozen (p := ⟨g, x * 3 + 2, none⟩) (World.block_lt_of_cell? _ _ hc)).trans hf; obtain ⟨A3, c3, rfl⟩ := Kd.R_slice hr; have HB3 := Aside0.mk (below_step HB.out hb); clear hb hr)
      go_roundg (l0.length - (x + 1))
      case measure => omega
      case rel => exact ⟨x + 1, by go_num, by omega, HMN, ⟨below_set HB3.out hgl⟩⟩
    · have hxe : x = l0.length := by omega
      have HM2 := Aside0.mk (OwnMid.done (hxe ▸ HM.out))
      have hd : decide ((x : Int) < (l0.length : Int)) = false := by simp; omega
      clear hxe HM
      go_wp2
      go_ret
      exact ⟨_, rfl, HM2.out, HB.out⟩

end Go.Proofs.Ytipoicfglaanaaa.PMemberChecks
