-- Written by a program of this session's (a turned copy of the kit's print, with functions proved by hand).
import Derived.Test.YtaookghbppimnaaPStressTwosx0
import Derived.Test.YtaookghbppimnaaPStressTwosx1
import Derived.Test.YtaookghbppimnaaPStressTwosx5
import Derived.Test.YtaookghbppimnaaPStressTwosx6
import Derived.Test.YtaookghbppimnaaPStressTwosx7
import Derived.Test.YtaookghbppimnaaPStressTwosx9
import Derived.Test.YtaookghbppimnaaPStressTwosx11
import Derived.Test.YtaookghbppimnaaPStressTwosx12
namespace Go.Proofs.Ytaookghbppimnaa.PStressTwos
open Go.RowKit Go.Proofs.YtaookghbppimnaaW.PrintWords Go.Proofs.YtaookghbppimnaaW.PrintLast Go.Proofs.YtaookghbppimnaaW.PrintMore
attribute [local go_sem] max2_int min2_int max_two min_two max_three min_three max_four min_four Go.Proofs.YtaookghbppimnaaHand.run_leq_str Go.Proofs.YtaookghbppimnaaHand.run_gtr_str Go.Proofs.YtaookghbppimnaaHand.run_geq_str   -- for this text's walks alone
set_option linter.unusedVariables false
set_option linter.unusedSimpArgs false

/-! ### contangoref39_Worst: function 21 -/
mutual
def contangoref39_Worst.l0 : Nat → List (S49) → ByteArray → Bool → Int → Option (Int × Int × Int)
  | 0, _, _, _, _ => none
  | k + 1, x0, x1, x8, x9 => if x9 < (x0.length : Int) then (if x8 = true then (contangoref39_Worst.l0 k x0 x1 true (wrap64 (x9 + 1))) else (if 0 ≤ x9 then (contangoref39_Worst.l0 k x0 x1 (((rd_T49 x0 x9).f1).toList == x1.toList) (wrap64 (x9 + 1))) else (none))) else (if x8 = true then (contangoref39_Worst.l1 k x0 x1 (-1) 0 0) else (some (0, 0, 11)))
def contangoref39_Worst.l1 : Nat → List (S49) → ByteArray → Int → Int → Int → Option (Int × Int × Int)
  | 0, _, _, _, _, _ => none
  | k + 1, x0, x1, x10, x11, x12 => if 0 < (x0.length : Int) then (if x12 < (((rd_T49 x0 0).f2).length : Int) then ((contangoref39_Bare.f k x0 x12).bind fun bt293 => (if bt293.2.2 = 0 then (contangoref39_Worst.l2 k x0 x1 x10 x11 x12 bt293.1 bt293.2.1 0) else (some (0, 0, bt293.2.2)))) else (some (x10, x11, 0))) else (none)
def contangoref39_Worst.l2 : Nat → List (S49) → ByteArray → Int → Int → Int → List ByteArray → List Int → Int → Option (Int × Int × Int)
  | 0, _, _, _, _, _, _, _, _ => none
  | k + 1, x0, x1, x10, x11, x12, x13, x14, x16 => if x16 < (x13.length : Int) then (if 0 ≤ x16 then (if (rdOf ByteArray.empty x13 x16).toList = x1.toList then (if x16 < (x14.length : Int) then (if (rd x14 x16) > x10 then (contangoref39_Worst.l2 k x0 x1 (rd x14 x16) x12 x12 x13 x14 (wrap64 (x16 + 1))) else (contangoref39_Worst.l2 k x0 x1 x10 x11 x12 x13 x14 (wrap64 (x16 + 1)))) else (none)) else (contangoref39_Worst.l2 k x0 x1 x10 x11 x12 x13 x14 (wrap64 (x16 + 1)))) else (none)) else (contangoref39_Worst.l1 k x0 x1 x10 x11 (wrap64 (x12 + 1)))
end
def contangoref39_Worst.f (k : Nat) (l0 : List (S49)) (a1 : ByteArray) : Option (Int × Int × Int) := (contangoref39_Check.f k l0).bind fun t290 => (if t290 = 0 then (contangoref39_Worst.l0 k l0 a1 false 0) else (some (0, 0, t290)))
theorem contangoref39_Worst.mono_l : ∀ k, (∀ y0 y1 y2 y3, LeO (contangoref39_Worst.l0 k y0 y1 y2 y3) (contangoref39_Worst.l0 (k + 1) y0 y1 y2 y3)) ∧ (∀ y0 y1 y2 y3 y4, LeO (contangoref39_Worst.l1 k y0 y1 y2 y3 y4) (contangoref39_Worst.l1 (k + 1) y0 y1 y2 y3 y4)) ∧ (∀ y0 y1 y2 y3 y4 y5 y6 y7, LeO (contangoref39_Worst.l2 k y0 y1 y2 y3 y4 y5 y6 y7) (contangoref39_Worst.l2 (k + 1) y0 y1 y2 y3 y4 y5 y6 y7))
  | 0 => ⟨fun _ _ _ _ r h => by simp [contangoref39_Worst.l0] at h, fun _ _ _ _ _ r h => by simp [contangoref39_Worst.l1] at h, fun _ _ _ _ _ _ _ _ r h => by simp [contangoref39_Worst.l2] at h⟩
  | k + 1 => by
    obtain ⟨ih0, ih1, ih2⟩ := contangoref39_Worst.mono_l k
    refine ⟨?_, ?_, ?_⟩
    · intro y0 y1 y2 y3
      unfold contangoref39_Worst.l0
      repeat' first
      | (with_reducible exact ih0 _ _ _ _)
      | (with_reducible exact ih1 _ _ _ _ _)
      | (with_reducible exact ih2 _ _ _ _ _ _ _ _)
      | (with_reducible exact contangoref39_Bare.mono _ _ _)
      | (with_reducible exact contangoref39_Check.mono _ _)
      | (with_reducible exact LeO.refl _)
      | (with_reducible exact LeO.none _)
      | (with_reducible refine LeO.ite ?_ ?_)
      | (with_reducible refine LeO.bind ?_ (fun _ => ?_))
      | exact ih0 _ _ _ _
      | exact ih1 _ _ _ _ _
      | exact ih2 _ _ _ _ _ _ _ _
      | exact contangoref39_Bare.mono _ _ _
      | exact contangoref39_Check.mono _ _
      | exact LeO.none _
      | refine LeO.ite ?_ ?_
      | refine LeO.bind ?_ (fun _ => ?_)
    · intro y0 y1 y2 y3 y4
      unfold contangoref39_Worst.l1
      repeat' first
      | (with_reducible exact ih0 _ _ _ _)
      | (with_reducible exact ih1 _ _ _ _ _)
      | (with_reducible exact ih2 _ _ _ _ _ _ _ _)
      | (with_reducible exact contangoref39_Bare.mono _ _ _)
      | (with_reducible exact contangoref39_Check.mono _ _)
      | (with_reducible exact LeO.refl _)
      | (with_reducible exact LeO.none _)
      | (with_reducible refine LeO.ite ?_ ?_)
      | (with_reducible refine LeO.bind ?_ (fun _ => ?_))
      | exact ih0 _ _ _ _
      | exact ih1 _ _ _ _ _
      | exact ih2 _ _ _ _ _ _ _ _
      | exact contangoref39_Bare.mono _ _ _
      | exact contangoref39_Check.mono _ _
      | exact LeO.none _
      | refine LeO.ite ?_ ?_
      | refine LeO.bind ?_ (fun _ => ?_)
    · intro y0 y1 y2 y3 y4 y5 y6 y7
      unfold contangoref39_Worst.l2
      repeat' first
      | (with_reducible exact ih0 _ _ _ _)
      | (with_reducible exact ih1 _ _ _ _ _)
      | (with_reducible exact ih2 _ _ _ _ _ _ _ _)
      | (with_reducible exact contangoref39_Bare.mono _ _ _)
      | (with_reducible exact contangoref39_Check.mono _ _)
      | (with_reducible exact LeO.refl _)
      | (with_reducible exact LeO.none _)
      | (with_reducible refine LeO.ite ?_ ?_)
      | (with_reducible refine LeO.bind ?_ (fun _ => ?_))
      | exact ih0 _ _ _ _
      | exact ih1 _ _ _ _ _
      | exact ih2 _ _ _ _ _ _ _ _
      | exact contangoref39_Bare.mono _ _ _
      | exact contangoref39_Check.mono _ _
      | exact LeO.none _
      | refine LeO.ite ?_ ?_
      | refine LeO.bind ?_ (fun _ => ?_)
theorem contangoref39_Worst.mono : ∀ a0 a1 k, LeO (contangoref39_Worst.f k a0 a1) (contangoref39_Worst.f (k + 1) a0 a1) := by
  intro a0 a1 k
  obtain ⟨ih0, ih1, ih2⟩ := contangoref39_Worst.mono_l k
  unfold contangoref39_Worst.f
  repeat' first
      | (with_reducible exact ih0 _ _ _ _)
      | (with_reducible exact ih1 _ _ _ _ _)
      | (with_reducible exact ih2 _ _ _ _ _ _ _ _)
      | (with_reducible exact contangoref39_Bare.mono _ _ _)
      | (with_reducible exact contangoref39_Check.mono _ _)
      | (with_reducible exact LeO.refl _)
      | (with_reducible exact LeO.none _)
      | (with_reducible refine LeO.ite ?_ ?_)
      | (with_reducible refine LeO.bind ?_ (fun _ => ?_))
      | exact ih0 _ _ _ _
      | exact ih1 _ _ _ _ _
      | exact ih2 _ _ _ _ _ _ _ _
      | exact contangoref39_Bare.mono _ _ _
      | exact contangoref39_Check.mono _ _
      | exact LeO.none _
      | refine LeO.ite ?_ ?_
      | refine LeO.bind ?_ (fun _ => ?_)
set_option maxHeartbeats 8000000 in
set_option maxRecDepth 100000 in
theorem contangoref39_Worst.calls (k : Nat) (A0 : Option Addr) (c0 : Nat) (l0 : List (S49)) (a1 : ByteArray) (r1 : Int) (r2 : Int) (r3 : Int) (w : World) (hr0 : Kd.C k49 w A0 l0.length l0) (hc0 : l0.length ≤ c0) (h : contangoref39_Worst.f k l0 a1 = some (r1, r2, r3)) :
    Calls Try.prog 21 #[.slice A0 l0.length c0, .string a1] w fun e w' => e = .returned (.tuple #[.int .i64 r1, .int .i64 r2, .int .i64 r3]) ∧ Below w.heap.size w w' := by
  have HR0 := Aside0.mk hr0
  have HC0 := Aside0.mk hc0
  clear hr0 hc0
  have HB := Aside0.mk (Below.refl w.heap.size w)
  have H : ((contangoref39_Check.f k l0).bind fun t290 => (if t290 = 0 then (contangoref39_Worst.l0 k l0 a1 false 0) else (some (0, 0, t290)))) = some (r1, r2, r3) := h
  clear h
  replace H := Option.bind_eq_some_iff.mp H
  obtain ⟨t290, A30, H⟩ := H
  replace H : (if t290 = 0 then (contangoref39_Worst.l0 k l0 a1 false 0) else (some (0, 0, t290))) = some (r1, r2, r3) := H
  have A3 := Aside0.mk A30
  clear A30
  by_cases c4 : t290 = 0
  · rw [if_pos c4] at H
    have c4b0 : (t290 == 0) = true := beq_iff_eq.mpr c4
    have c4b1 : (t290 != 0) = false := bne_eq_false_iff_eq.mpr c4
    clear c4
    have H' := Aside0.mk H
    clear H
    go_enter Try.func21, Try.ntmps21
    go_wp2_with (first | ((with_reducible refine gate_callee (f := 14) rfl ?_); refine goesL_ (some 18) rfl rfl Try.func14 (by kernel_rfl) rfl #[.slice A0 l0.length c0] rfl (by (try simp only [List.map_toArray, List.map_cons, List.map_nil]); first | done | rfl | (simp only [List.length_drop, List.length_take]; rfl)) ?_; (with_reducible refine (contangoref39_Check.calls k _ _ l0 t290 _ ?side1 ?side2 A3.out).mono ?_); (case side1 => repeat (first | exact HR0.out | (with_reducible refine Kd.C_alloc ?_ _) | (with_reducible refine Kd.C_drewN ?_ _) | (with_reducible refine Kd.C_drew ?_))); (case side2 => exact HC0.out); rintro e w5 ⟨rfl, hb⟩; refine ⟨_, rfl, ?_⟩; have n0_ := Aside0.mk (below_step (by repeat (first | (with_reducible first | exact HB.out | apply below_alloc | apply pw_below_drewN | apply below_drew1) | exact HB.out)) hb); clear HB; have HB := n0_; clear n0_; (try clear hb); (try clear hb2); (try clear hk); (try clear hi)))
    go_loopg [8, 9] k (fun kq v8 v9 w' => ∃ (x8_1 : Bool) (x9_1 : Int), v8 = .bool x8_1 ∧ v9 = .int .i64 x9_1 ∧ Aside0 (contangoref39_Worst.l0 kq l0 a1 x8_1 x9_1 = some (r1, r2, r3)) ∧ Aside0 (kq ≤ k) ∧ Aside0 (Below w.heap.size w w'))
    case atStart => exact ⟨(false), (0), (by first | rfl | (simp; done) | (simp [*]; done)), (by first | rfl | (simp; done) | (simp [*]; done)), H', ⟨Nat.le_refl _⟩, ⟨by repeat (first | (with_reducible first | exact HB.out | apply below_alloc | apply pw_below_drewN | apply below_drew1) | exact HB.out)⟩⟩
    case round =>
      clear H'
      try clear c1
      try clear c2
      try clear p2
      try clear c4
      try clear c4b0
      try clear c4b1
      obtain ⟨x8_1, x9_1, rfl, rfl, HA, HK1, HB⟩ := hrel
      cases gk with
      | zero => exact absurd HA.out (by simp [contangoref39_Worst.l0])
      | succ k1 =>
        have H := HA.out
        clear HA
        simp only [contangoref39_Worst.l0] at H
        by_cases c6 : x9_1 < (l0.length : Int)
        · rw [if_pos c6] at H
          have c6b0 : decide (x9_1 < (l0.length : Int)) = true := decide_eq_true c6
          clear c6
          by_cases c7 : x8_1 = true
          · subst c7
            have H1 : (contangoref39_Worst.l0 k1 l0 a1 true (wrap64 (x9_1 + 1))) = some (r1, r2, r3) := by rw [if_pos rfl] at H; exact H
            clear H
            have H := H1
            clear H1
            have H' := Aside0.mk H
            clear H
            go_wp2
            go_roundg k1
            case measure => have := HK1.out; omega
            case rel => exact ⟨(true), (wrap64 (x9_1 + 1)), (by first | rfl | (simp; done) | (simp [*]; done)), (by first | rfl | (simp; done) | (simp [*]; done)), H', ⟨by have := HK1.out; omega⟩, ⟨by repeat (first | (with_reducible first | exact HB.out | apply below_alloc | apply pw_below_drewN | apply below_drew1) | exact HB.out)⟩⟩
          · replace c7 := Bool.eq_false_iff.mpr c7
            subst c7
            have H1 : (if 0 ≤ x9_1 then (contangoref39_Worst.l0 k1 l0 a1 (((rd_T49 l0 x9_1).f1).toList == a1.toList) (wrap64 (x9_1 + 1))) else (none)) = some (r1, r2, r3) := by rw [if_neg (show ¬ (false = true) by decide)] at H; exact H
            clear H
            have H := H1
            clear H1
            by_cases c8 : 0 ≤ x9_1
            · rw [if_pos c8] at H
              have c8b0 : decide (0 ≤ x9_1) = true := decide_eq_true c8
              clear c8
              have H' := Aside0.mk H
              clear H
              have p291 : 0 ≤ (x9_1 : Int) := of_decide_eq_true (by first | (with_reducible assumption) | assumption)
              have q291 : x9_1 < (l0.length : Int) := of_decide_eq_true (by first | (with_reducible assumption) | assumption)
              obtain ⟨ad291, A291_2, c291_2, e291, hx291_0, hx291_1, hx291_2, hx291_3, hl291_2, hi291_2⟩ := at_T49 HR0.out x9_1 p291 q291
              cases e291
              replace hx291_0 := (HB.out.cell (World.block_lt_of_cell? w _ hx291_0)).trans hx291_0
              replace hx291_1 := (HB.out.cell (World.block_lt_of_cell? w _ hx291_1)).trans hx291_1
              replace hx291_2 := (HB.out.cell (World.block_lt_of_cell? w _ hx291_2)).trans hx291_2
              replace hx291_3 := (HB.out.cell (World.block_lt_of_cell? w _ hx291_3)).trans hx291_3
              have HR291_2 := Aside0.mk hi291_2
              have HC291_2 := Aside0.mk hl291_2
              clear hi291_2 hl291_2
              replace p291 := eq_true p291
              replace q291 := eq_true q291
              go_wp2
              go_roundg k1
              case measure => have := HK1.out; omega
              case rel => exact ⟨((((rd_T49 l0 x9_1).f1).toList == a1.toList)), (wrap64 (x9_1 + 1)), (by first | rfl | (simp; done) | (simp [*]; done)), (by first | rfl | (simp; done) | (simp [*]; done)), H', ⟨by have := HK1.out; omega⟩, ⟨by repeat (first | (with_reducible first | exact HB.out | apply below_alloc | apply pw_below_drewN | apply below_drew1) | exact HB.out)⟩⟩
            · rw [if_neg c8] at H
              exact absurd H (by simp)
        · rw [if_neg c6] at H
          have c6b0 : decide (x9_1 < (l0.length : Int)) = false := decide_eq_false c6
          clear c6
          by_cases c9 : x8_1 = true
          · subst c9
            have H1 : (contangoref39_Worst.l1 k1 l0 a1 (-1) 0 0) = some (r1, r2, r3) := by rw [if_pos rfl] at H; exact H
            clear H
            have H := H1
            clear H1
            have H' := Aside0.mk H
            clear H
            go_wp2
            go_loopg [10, 11, 12] k1 (fun kq v10 v11 v12 w' => ∃ (x10_2 : Int) (x11_2 : Int) (x12_2 : Int), v10 = .int .i64 x10_2 ∧ v11 = .int .i64 x11_2 ∧ v12 = .int .i64 x12_2 ∧ Aside0 (contangoref39_Worst.l1 kq l0 a1 x10_2 x11_2 x12_2 = some (r1, r2, r3)) ∧ Aside0 (kq ≤ k1) ∧ Aside0 (Below w.heap.size w w'))
            case atStart => exact ⟨((-1)), (0), (0), (by first | rfl | (simp; done) | (simp [*]; done)), (by first | rfl | (simp; done) | (simp [*]; done)), (by first | rfl | (simp; done) | (simp [*]; done)), H', ⟨Nat.le_refl _⟩, ⟨by repeat (first | (with_reducible first | exact HB.out | apply below_alloc | apply pw_below_drewN | apply below_drew1) | exact HB.out)⟩⟩
            case round =>
              clear H'
              try clear c1
              try clear c2
              try clear p2
              try clear q2
              try clear hx2
              try clear c4
              try clear c4b0
              try clear c4b1
              try clear c6
              try clear c6b0
              try clear p6
              try clear c7
              try clear c8
              try clear c8b0
              try clear c9
              try clear hx291_0
              try clear hx291_1
              try clear hx291_2
              try clear hx291_3
              try clear p2
              try clear p291
              try clear q291
              obtain ⟨x10_2, x11_2, x12_2, rfl, rfl, rfl, HA, HK2, HB⟩ := hrel
              cases gk with
              | zero => exact absurd HA.out (by simp [contangoref39_Worst.l1])
              | succ k2 =>
                have H := HA.out
                clear HA
                simp only [contangoref39_Worst.l1] at H
                by_cases c10 : 0 < (l0.length : Int)
                · rw [if_pos c10] at H
                  have c10b0 : decide (0 < (l0.length : Int)) = true := decide_eq_true c10
                  have c10b1 : decide (0 < l0.length) = true := decide_eq_true (by omega)
                  clear c10
                  by_cases c11 : x12_2 < (((rd_T49 l0 0).f2).length : Int)
                  · rw [if_pos c11] at H
                    have c11b0 : decide (x12_2 < (((rd_T49 l0 0).f2).length : Int)) = true := decide_eq_true c11
                    clear c11
                    replace H := Option.bind_eq_some_iff.mp H
                    obtain ⟨⟨t293, t294, t295⟩, A120, H⟩ := H
                    replace H : (if t295 = 0 then (contangoref39_Worst.l2 k2 l0 a1 x10_2 x11_2 x12_2 t293 t294 0) else (some (0, 0, t295))) = some (r1, r2, r3) := H
                    have A12 := Aside0.mk A120
                    clear A120
                    by_cases c13 : t295 = 0
                    · rw [if_pos c13] at H
                      have c13b0 : (t295 == 0) = true := beq_iff_eq.mpr c13
                      have c13b1 : (t295 != 0) = false := bne_eq_false_iff_eq.mpr c13
                      clear c13
                      have H' := Aside0.mk H
                      clear H
                      have p292 : 0 ≤ (0 : Int) := (by omega)
                      have q292 : 0 < (l0.length : Int) := of_decide_eq_true (by first | (with_reducible assumption) | assumption)
                      obtain ⟨ad292, A292_2, c292_2, e292, hx292_0, hx292_1, hx292_2, hx292_3, hl292_2, hi292_2⟩ := at_T49 HR0.out 0 p292 q292
                      cases e292
                      have qi292 : (0 < l0.length) = True := eq_true (by omega)
                      (try rw [show ((0 : Int)).toNat = 0 from rfl] at hx292_0)
                      (try rw [show 0 * 4 = 0 from rfl] at hx292_0)
                      (try rw [Addr.add_zero'] at hx292_0)
                      (try rw [show ((0 : Int)).toNat = 0 from rfl] at hx292_1)
                      (try rw [show 0 * 4 = 0 from rfl] at hx292_1)
                      (try rw [Addr.add_zero'] at hx292_1)
                      (try rw [show ((0 : Int)).toNat = 0 from rfl] at hx292_2)
                      (try rw [show 0 * 4 = 0 from rfl] at hx292_2)
                      (try rw [Addr.add_zero'] at hx292_2)
                      (try rw [show ((0 : Int)).toNat = 0 from rfl] at hx292_3)
                      (try rw [show 0 * 4 = 0 from rfl] at hx292_3)
                      (try rw [Addr.add_zero'] at hx292_3)
                      replace hx292_0 := (HB.out.cell (World.block_lt_of_cell? w _ hx292_0)).trans hx292_0
                      replace hx292_1 := (HB.out.cell (World.block_lt_of_cell? w _ hx292_1)).trans hx292_1
                      replace hx292_2 := (HB.out.cell (World.block_lt_of_cell? w _ hx292_2)).trans hx292_2
                      replace hx292_3 := (HB.out.cell (World.block_lt_of_cell? w _ hx292_3)).trans hx292_3
                      have HR292_2 := Aside0.mk hi292_2
                      have HC292_2 := Aside0.mk hl292_2
                      clear hi292_2 hl292_2
                      replace p292 := eq_true p292
                      replace q292 := eq_true q292
                      go_wp2_with (first | ((with_reducible refine gate_callee (f := 12) rfl ?_); refine goesL_ (some 52) rfl rfl Try.func12 (by kernel_rfl) rfl #[.slice (some ad292) l0.length c0, .int .i64 x12_2] rfl (by (try simp only [List.map_toArray, List.map_cons, List.map_nil]); first | done | rfl | (simp only [List.length_drop, List.length_take]; rfl)) ?_; (with_reducible refine (contangoref39_Bare.calls k2 _ _ l0 x12_2 t293 t294 t295 _ ?side1 ?side2 A12.out).mono ?_); (case side1 => repeat (first | exact (Kd.C_below HR0.out HB.out) | (with_reducible refine Kd.C_alloc ?_ _) | (with_reducible refine Kd.C_drewN ?_ _) | (with_reducible refine Kd.C_drew ?_))); (case side2 => exact HC0.out); rintro e w14 ⟨v296, v298, rfl, ho0, ho1, hb⟩; refine ⟨_, rfl, ?_⟩; have n0_ := Aside0.mk (Kd.R_lower ho0 (below_size (by repeat (first | (with_reducible first | exact HB.out | apply below_alloc | apply pw_below_drewN | apply below_drew1) | exact HB.out)))); have n1_ := Aside0.mk (Kd.R_lower ho1 (below_size (by repeat (first | (with_reducible first | exact HB.out | apply below_alloc | apply pw_below_drewN | apply below_drew1) | exact HB.out)))); have n2_ := Aside0.mk (below_step (by repeat (first | (with_reducible first | exact HB.out | apply below_alloc | apply pw_below_drewN | apply below_drew1) | exact HB.out)) hb); clear HB; have HO297 := n0_; have HO299 := n1_; have HB := n2_; clear n0_ n1_ n2_; (try clear hb); (try clear hb2); (try clear hk); (try clear hi); (try clear ho0); (try clear ho1)))
                      go_loopg [10, 11, 16] k2 (fun kq v10 v11 v16 w' => ∃ (x10_3 : Int) (x11_3 : Int) (x16_3 : Int), v10 = .int .i64 x10_3 ∧ v11 = .int .i64 x11_3 ∧ v16 = .int .i64 x16_3 ∧ Aside0 (contangoref39_Worst.l2 kq l0 a1 x10_3 x11_3 x12_2 t293 t294 x16_3 = some (r1, r2, r3)) ∧ Aside0 (kq ≤ k2) ∧ Aside0 (Kd.R Kd.string 9 w' w.heap.size (fun _ => True) v296 t293) ∧ Aside0 (Kd.R (Kd.int .i64) 3 w' w.heap.size (fun _ => True) v298 t294) ∧ Aside0 (Below w.heap.size w w'))
                      case atStart => exact ⟨(x10_2), (x11_2), (0), (by first | rfl | (simp; done) | (simp [*]; done)), (by first | rfl | (simp; done) | (simp [*]; done)), (by first | rfl | (simp; done) | (simp [*]; done)), H', ⟨Nat.le_refl _⟩, ⟨by (with_reducible repeat (first | apply Kd.R_alloc | apply Kd.R_drewN | apply Kd.R_drew)); exact HO297.out⟩, ⟨by (with_reducible repeat (first | apply Kd.R_alloc | apply Kd.R_drewN | apply Kd.R_drew)); exact HO299.out⟩, ⟨by repeat (first | (with_reducible first | exact HB.out | apply below_alloc | apply pw_below_drewN | apply below_drew1) | exact HB.out)⟩⟩
                      case round =>
                        clear H'
                        try clear c1
                        try clear c2
                        try clear p2
                        try clear q2
                        try clear hx2
                        try clear qi2
                        try clear c4
                        try clear c4b0
                        try clear c4b1
                        try clear c6
                        try clear c6b0
                        try clear p6
                        try clear c7
                        try clear c8
                        try clear c8b0
                        try clear c9
                        try clear c10
                        try clear c10b0
                        try clear c10b1
                        try clear c11
                        try clear c11b0
                        try clear c12
                        try clear c13
                        try clear c13b0
                        try clear c13b1
                        try clear c14
                        try clear hx291_0
                        try clear hx291_1
                        try clear hx291_2
                        try clear hx291_3
                        try clear hx292_0
                        try clear hx292_1
                        try clear hx292_2
                        try clear hx292_3
                        try clear p2
                        try clear p291
                        try clear p292
                        try clear p6
                        try clear q2
                        try clear q291
                        try clear q292
                        obtain ⟨x10_3, x11_3, x16_3, rfl, rfl, rfl, HA, HK3, HO_13, HO_14, HB⟩ := hrel
                        cases gk with
                        | zero => exact absurd HA.out (by simp [contangoref39_Worst.l2])
                        | succ k3 =>
                          have H := HA.out
                          clear HA
                          simp only [contangoref39_Worst.l2] at H
                          by_cases c15 : x16_3 < (t293.length : Int)
                          · rw [if_pos c15] at H
                            have c15b0 : decide (x16_3 < (t293.length : Int)) = true := decide_eq_true c15
                            clear c15
                            by_cases c16 : 0 ≤ x16_3
                            · rw [if_pos c16] at H
                              have c16b0 : decide (0 ≤ x16_3) = true := decide_eq_true c16
                              clear c16
                              by_cases c17 : (rdOf ByteArray.empty t293 x16_3).toList = a1.toList
                              · rw [if_pos c17] at H
                                have c17b0 : ((rdOf ByteArray.empty t293 x16_3).toList == a1.toList) = true := beq_iff_eq.mpr c17
                                have c17b1 : ((rdOf ByteArray.empty t293 x16_3).toList != a1.toList) = false := bne_eq_false_iff_eq.mpr c17
                                clear c17
                                by_cases c18 : x16_3 < (t294.length : Int)
                                · rw [if_pos c18] at H
                                  have c18b0 : decide (x16_3 < (t294.length : Int)) = true := decide_eq_true c18
                                  clear c18
                                  by_cases c19 : (rd t294 x16_3) > x10_3
                                  · rw [if_pos c19] at H
                                    have c19b0 : decide (x10_3 < (rd t294 x16_3)) = true := decide_eq_true c19
                                    clear c19
                                    have H' := Aside0.mk H
                                    clear H
                                    obtain ⟨Ao20, co20, eo20⟩ := Kd.R_slice HO_13.out
                                    subst eo20
                                    have p300 : 0 ≤ (x16_3 : Int) := of_decide_eq_true (by first | (with_reducible assumption) | assumption)
                                    have q300 : x16_3 < (t293.length : Int) := of_decide_eq_true (by first | (with_reducible assumption) | assumption)
                                    obtain ⟨ad300, e300, hx300_0⟩ := Kd.at_string (Kd.R_reads' HO_13.out).2.2 x16_3 p300 q300
                                    cases e300
                                    replace p300 := eq_true p300
                                    replace q300 := eq_true q300
                                    obtain ⟨Ao21, co21, eo21⟩ := Kd.R_slice HO_14.out
                                    subst eo21
                                    have p301 : 0 ≤ (x16_3 : Int) := of_decide_eq_true (by first | (with_reducible assumption) | assumption)
                                    have q301 : x16_3 < (t294.length : Int) := of_decide_eq_true (by first | (with_reducible assumption) | assumption)
                                    obtain ⟨ad301, e301, hx301_0⟩ := Kd.at_int (Kd.R_reads' HO_14.out).2.2 x16_3 p301 q301
                                    cases e301
                                    replace p301 := eq_true p301
                                    replace q301 := eq_true q301
                                    have p302 : 0 ≤ (x16_3 : Int) := of_decide_eq_true (by first | (with_reducible assumption) | assumption)
                                    have q302 : x16_3 < (t294.length : Int) := of_decide_eq_true (by first | (with_reducible assumption) | assumption)
                                    obtain ⟨ad302, e302, hx302_0⟩ := Kd.at_int (Kd.R_reads' HO_14.out).2.2 x16_3 p302 q302
                                    obtain rfl : ad301 = ad302 := (by injection e302)
                                    replace p302 := eq_true p302
                                    replace q302 := eq_true q302
                                    go_wp2
                                    go_roundg k3
                                    case measure => have := HK1.out; have := HK2.out; have := HK3.out; omega
                                    case rel => exact ⟨(rd t294 x16_3), (x12_2), (wrap64 (x16_3 + 1)), (by first | rfl | (simp; done) | (simp [*]; done)), (by first | rfl | (simp; done) | (simp [*]; done)), (by first | rfl | (simp; done) | (simp [*]; done)), H', ⟨by have := HK1.out; have := HK2.out; have := HK3.out; omega⟩, ⟨by (with_reducible repeat (first | apply Kd.R_alloc | apply Kd.R_drewN | apply Kd.R_drew)); exact HO_13.out⟩, ⟨by (with_reducible repeat (first | apply Kd.R_alloc | apply Kd.R_drewN | apply Kd.R_drew)); exact HO_14.out⟩, ⟨by repeat (first | (with_reducible first | exact HB.out | apply below_alloc | apply pw_below_drewN | apply below_drew1) | exact HB.out)⟩⟩
                                  · rw [if_neg c19] at H
                                    have c19b0 : decide (x10_3 < (rd t294 x16_3)) = false := decide_eq_false c19
                                    clear c19
                                    have H' := Aside0.mk H
                                    clear H
                                    obtain ⟨Ao22, co22, eo22⟩ := Kd.R_slice HO_13.out
                                    subst eo22
                                    have p300 : 0 ≤ (x16_3 : Int) := of_decide_eq_true (by first | (with_reducible assumption) | assumption)
                                    have q300 : x16_3 < (t293.length : Int) := of_decide_eq_true (by first | (with_reducible assumption) | assumption)
                                    obtain ⟨ad300, e300, hx300_0⟩ := Kd.at_string (Kd.R_reads' HO_13.out).2.2 x16_3 p300 q300
                                    cases e300
                                    replace p300 := eq_true p300
                                    replace q300 := eq_true q300
                                    obtain ⟨Ao23, co23, eo23⟩ := Kd.R_slice HO_14.out
                                    subst eo23
                                    have p301 : 0 ≤ (x16_3 : Int) := of_decide_eq_true (by first | (with_reducible assumption) | assumption)
                                    have q301 : x16_3 < (t294.length : Int) := of_decide_eq_true (by first | (with_reducible assumption) | assumption)
                                    obtain ⟨ad301, e301, hx301_0⟩ := Kd.at_int (Kd.R_reads' HO_14.out).2.2 x16_3 p301 q301
                                    cases e301
                                    replace p301 := eq_true p301
                                    replace q301 := eq_true q301
                                    go_wp2
                                    go_roundg k3
                                    case measure => have := HK1.out; have := HK2.out; have := HK3.out; omega
                                    case rel => exact ⟨(x10_3), (x11_3), (wrap64 (x16_3 + 1)), (by first | rfl | (simp; done) | (simp [*]; done)), (by first | rfl | (simp; done) | (simp [*]; done)), (by first | rfl | (simp; done) | (simp [*]; done)), H', ⟨by have := HK1.out; have := HK2.out; have := HK3.out; omega⟩, ⟨by (with_reducible repeat (first | apply Kd.R_alloc | apply Kd.R_drewN | apply Kd.R_drew)); exact HO_13.out⟩, ⟨by (with_reducible repeat (first | apply Kd.R_alloc | apply Kd.R_drewN | apply Kd.R_drew)); exact HO_14.out⟩, ⟨by repeat (first | (with_reducible first | exact HB.out | apply below_alloc | apply pw_below_drewN | apply below_drew1) | exact HB.out)⟩⟩
                                · rw [if_neg c18] at H
                                  exact absurd H (by simp)
                              · rw [if_neg c17] at H
                                have c17b0 : ((rdOf ByteArray.empty t293 x16_3).toList == a1.toList) = false := beq_eq_false_iff_ne.mpr c17
                                have c17b1 : ((rdOf ByteArray.empty t293 x16_3).toList != a1.toList) = true := bne_iff_ne.mpr c17
                                have H' := Aside0.mk H
                                clear H
                                obtain ⟨Ao24, co24, eo24⟩ := Kd.R_slice HO_13.out
                                subst eo24
                                have p300 : 0 ≤ (x16_3 : Int) := of_decide_eq_true (by first | (with_reducible assumption) | assumption)
                                have q300 : x16_3 < (t293.length : Int) := of_decide_eq_true (by first | (with_reducible assumption) | assumption)
                                obtain ⟨ad300, e300, hx300_0⟩ := Kd.at_string (Kd.R_reads' HO_13.out).2.2 x16_3 p300 q300
                                cases e300
                                replace p300 := eq_true p300
                                replace q300 := eq_true q300
                                go_wp2
                                go_roundg k3
                                case measure => have := HK1.out; have := HK2.out; have := HK3.out; omega
                                case rel => exact ⟨(x10_3), (x11_3), (wrap64 (x16_3 + 1)), (by first | rfl | (simp; done) | (simp [*]; done)), (by first | rfl | (simp; done) | (simp [*]; done)), (by first | rfl | (simp; done) | (simp [*]; done)), H', ⟨by have := HK1.out; have := HK2.out; have := HK3.out; omega⟩, ⟨by (with_reducible repeat (first | apply Kd.R_alloc | apply Kd.R_drewN | apply Kd.R_drew)); exact HO_13.out⟩, ⟨by (with_reducible repeat (first | apply Kd.R_alloc | apply Kd.R_drewN | apply Kd.R_drew)); exact HO_14.out⟩, ⟨by repeat (first | (with_reducible first | exact HB.out | apply below_alloc | apply pw_below_drewN | apply below_drew1) | exact HB.out)⟩⟩
                            · rw [if_neg c16] at H
                              exact absurd H (by simp)
                          · rw [if_neg c15] at H
                            have c15b0 : decide (x16_3 < (t293.length : Int)) = false := decide_eq_false c15
                            clear c15
                            have H' := Aside0.mk H
                            clear H
                            obtain ⟨Ao25, co25, eo25⟩ := Kd.R_slice HO_13.out
                            subst eo25
                            go_wp2
                            go_roundg k3
                            case measure => have := HK1.out; have := HK2.out; have := HK3.out; omega
                            case rel => exact ⟨(x10_3), (x11_3), (wrap64 (x12_2 + 1)), (by first | rfl | (simp; done) | (simp [*]; done)), (by first | rfl | (simp; done) | (simp [*]; done)), (by first | rfl | (simp; done) | (simp [*]; done)), H', ⟨by have := HK1.out; have := HK2.out; have := HK3.out; omega⟩, ⟨by repeat (first | (with_reducible first | exact HB.out | apply below_alloc | apply pw_below_drewN | apply below_drew1) | exact HB.out)⟩⟩
                    · rw [if_neg c13] at H
                      have c13b0 : (t295 == 0) = false := beq_eq_false_iff_ne.mpr c13
                      have c13b1 : (t295 != 0) = true := bne_iff_ne.mpr c13
                      simp only [Option.some.injEq, Prod.mk.injEq] at H
                      obtain ⟨rfl, rfl, rfl⟩ := H
                      have p292 : 0 ≤ (0 : Int) := (by omega)
                      have q292 : 0 < (l0.length : Int) := of_decide_eq_true (by first | (with_reducible assumption) | assumption)
                      obtain ⟨ad292, A292_2, c292_2, e292, hx292_0, hx292_1, hx292_2, hx292_3, hl292_2, hi292_2⟩ := at_T49 HR0.out 0 p292 q292
                      cases e292
                      have qi292 : (0 < l0.length) = True := eq_true (by omega)
                      (try rw [show ((0 : Int)).toNat = 0 from rfl] at hx292_0)
                      (try rw [show 0 * 4 = 0 from rfl] at hx292_0)
                      (try rw [Addr.add_zero'] at hx292_0)
                      (try rw [show ((0 : Int)).toNat = 0 from rfl] at hx292_1)
                      (try rw [show 0 * 4 = 0 from rfl] at hx292_1)
                      (try rw [Addr.add_zero'] at hx292_1)
                      (try rw [show ((0 : Int)).toNat = 0 from rfl] at hx292_2)
                      (try rw [show 0 * 4 = 0 from rfl] at hx292_2)
                      (try rw [Addr.add_zero'] at hx292_2)
                      (try rw [show ((0 : Int)).toNat = 0 from rfl] at hx292_3)
                      (try rw [show 0 * 4 = 0 from rfl] at hx292_3)
                      (try rw [Addr.add_zero'] at hx292_3)
                      replace hx292_0 := (HB.out.cell (World.block_lt_of_cell? w _ hx292_0)).trans hx292_0
                      replace hx292_1 := (HB.out.cell (World.block_lt_of_cell? w _ hx292_1)).trans hx292_1
                      replace hx292_2 := (HB.out.cell (World.block_lt_of_cell? w _ hx292_2)).trans hx292_2
                      replace hx292_3 := (HB.out.cell (World.block_lt_of_cell? w _ hx292_3)).trans hx292_3
                      have HR292_2 := Aside0.mk hi292_2
                      have HC292_2 := Aside0.mk hl292_2
                      clear hi292_2 hl292_2
                      replace p292 := eq_true p292
                      replace q292 := eq_true q292
                      go_wp2_with (first | ((with_reducible refine gate_callee (f := 12) rfl ?_); refine goesL_ (some 52) rfl rfl Try.func12 (by kernel_rfl) rfl #[.slice (some ad292) l0.length c0, .int .i64 x12_2] rfl (by (try simp only [List.map_toArray, List.map_cons, List.map_nil]); first | done | rfl | (simp only [List.length_drop, List.length_take]; rfl)) ?_; (with_reducible refine (contangoref39_Bare.calls k2 _ _ l0 x12_2 t293 t294 t295 _ ?side1 ?side2 A12.out).mono ?_); (case side1 => repeat (first | exact (Kd.C_below HR0.out HB.out) | (with_reducible refine Kd.C_alloc ?_ _) | (with_reducible refine Kd.C_drewN ?_ _) | (with_reducible refine Kd.C_drew ?_))); (case side2 => exact HC0.out); rintro e w26 ⟨v296, v298, rfl, ho0, ho1, hb⟩; refine ⟨_, rfl, ?_⟩; have n0_ := Aside0.mk (Kd.R_lower ho0 (below_size (by repeat (first | (with_reducible first | exact HB.out | apply below_alloc | apply pw_below_drewN | apply below_drew1) | exact HB.out)))); have n1_ := Aside0.mk (Kd.R_lower ho1 (below_size (by repeat (first | (with_reducible first | exact HB.out | apply below_alloc | apply pw_below_drewN | apply below_drew1) | exact HB.out)))); have n2_ := Aside0.mk (below_step (by repeat (first | (with_reducible first | exact HB.out | apply below_alloc | apply pw_below_drewN | apply below_drew1) | exact HB.out)) hb); clear HB; have HO297 := n0_; have HO299 := n1_; have HB := n2_; clear n0_ n1_ n2_; (try clear hb); (try clear hb2); (try clear hk); (try clear hi); (try clear ho0); (try clear ho1)))
                      go_ret3
                      exact ⟨by first | rfl | (simp [errW_none, errW_some] <;> rfl) | (simp [*, errW_none, errW_some] <;> rfl), by repeat (first | (with_reducible first | exact HB.out | apply below_alloc | apply pw_below_drewN | apply below_drew1) | exact HB.out)⟩
                  · rw [if_neg c11] at H
                    have c11b0 : decide (x12_2 < (((rd_T49 l0 0).f2).length : Int)) = false := decide_eq_false c11
                    clear c11
                    simp only [Option.some.injEq, Prod.mk.injEq] at H
                    obtain ⟨rfl, rfl, rfl⟩ := H
                    have p292 : 0 ≤ (0 : Int) := (by omega)
                    have q292 : 0 < (l0.length : Int) := of_decide_eq_true (by first | (with_reducible assumption) | assumption)
                    obtain ⟨ad292, A292_2, c292_2, e292, hx292_0, hx292_1, hx292_2, hx292_3, hl292_2, hi292_2⟩ := at_T49 HR0.out 0 p292 q292
                    cases e292
                    have qi292 : (0 < l0.length) = True := eq_true (by omega)
                    (try rw [show ((0 : Int)).toNat = 0 from rfl] at hx292_0)
                    (try rw [show 0 * 4 = 0 from rfl] at hx292_0)
                    (try rw [Addr.add_zero'] at hx292_0)
                    (try rw [show ((0 : Int)).toNat = 0 from rfl] at hx292_1)
                    (try rw [show 0 * 4 = 0 from rfl] at hx292_1)
                    (try rw [Addr.add_zero'] at hx292_1)
                    (try rw [show ((0 : Int)).toNat = 0 from rfl] at hx292_2)
                    (try rw [show 0 * 4 = 0 from rfl] at hx292_2)
                    (try rw [Addr.add_zero'] at hx292_2)
                    (try rw [show ((0 : Int)).toNat = 0 from rfl] at hx292_3)
                    (try rw [show 0 * 4 = 0 from rfl] at hx292_3)
                    (try rw [Addr.add_zero'] at hx292_3)
                    replace hx292_0 := (HB.out.cell (World.block_lt_of_cell? w _ hx292_0)).trans hx292_0
                    replace hx292_1 := (HB.out.cell (World.block_lt_of_cell? w _ hx292_1)).trans hx292_1
                    replace hx292_2 := (HB.out.cell (World.block_lt_of_cell? w _ hx292_2)).trans hx292_2
                    replace hx292_3 := (HB.out.cell (World.block_lt_of_cell? w _ hx292_3)).trans hx292_3
                    have HR292_2 := Aside0.mk hi292_2
                    have HC292_2 := Aside0.mk hl292_2
                    clear hi292_2 hl292_2
                    replace p292 := eq_true p292
                    replace q292 := eq_true q292
                    go_wp2
                    go_ret3
                    exact ⟨by first | rfl | (simp [errW_none, errW_some] <;> rfl) | (simp [*, errW_none, errW_some] <;> rfl), by repeat (first | (with_reducible first | exact HB.out | apply below_alloc | apply pw_below_drewN | apply below_drew1) | exact HB.out)⟩
                · rw [if_neg c10] at H
                  exact absurd H (by simp)
          · replace c9 := Bool.eq_false_iff.mpr c9
            subst c9
            have H1 : (some (0, 0, 11)) = some (r1, r2, r3) := by rw [if_neg (show ¬ (false = true) by decide)] at H; exact H
            clear H
            have H := H1
            clear H1
            simp only [Option.some.injEq, Prod.mk.injEq] at H
            obtain ⟨rfl, rfl, rfl⟩ := H
            go_wp2
            go_ret3
            exact ⟨by first | rfl | (simp [errW_none, errW_some] <;> rfl) | (simp [*, errW_none, errW_some] <;> rfl), by repeat (first | (with_reducible first | exact HB.out | apply below_alloc | apply pw_below_drewN | apply below_drew1) | exact HB.out)⟩
  · rw [if_neg c4] at H
    have c4b0 : (t290 == 0) = false := beq_eq_false_iff_ne.mpr c4
    have c4b1 : (t290 != 0) = true := bne_iff_ne.mpr c4
    simp only [Option.some.injEq, Prod.mk.injEq] at H
    obtain ⟨rfl, rfl, rfl⟩ := H
    go_enter Try.func21, Try.ntmps21
    go_wp2_with (first | ((with_reducible refine gate_callee (f := 14) rfl ?_); refine goesL_ (some 18) rfl rfl Try.func14 (by kernel_rfl) rfl #[.slice A0 l0.length c0] rfl (by (try simp only [List.map_toArray, List.map_cons, List.map_nil]); first | done | rfl | (simp only [List.length_drop, List.length_take]; rfl)) ?_; (with_reducible refine (contangoref39_Check.calls k _ _ l0 t290 _ ?side1 ?side2 A3.out).mono ?_); (case side1 => repeat (first | exact HR0.out | (with_reducible refine Kd.C_alloc ?_ _) | (with_reducible refine Kd.C_drewN ?_ _) | (with_reducible refine Kd.C_drew ?_))); (case side2 => exact HC0.out); rintro e w27 ⟨rfl, hb⟩; refine ⟨_, rfl, ?_⟩; have n0_ := Aside0.mk (below_step (by repeat (first | (with_reducible first | exact HB.out | apply below_alloc | apply pw_below_drewN | apply below_drew1) | exact HB.out)) hb); clear HB; have HB := n0_; clear n0_; (try clear hb); (try clear hb2); (try clear hk); (try clear hi)))
    go_ret3
    exact ⟨by first | rfl | (simp [errW_none, errW_some] <;> rfl) | (simp [*, errW_none, errW_some] <;> rfl), by repeat (first | (with_reducible first | exact HB.out | apply below_alloc | apply pw_below_drewN | apply below_drew1) | exact HB.out)⟩

/-! ### contangolaw39_StressTwos: function 4 -/
def contangolaw39_StressTwos.f (k : Nat) (l0 : List (S49)) (a1 : ByteArray) : Option (Bool) := (contangolaw39_few.f k l0).bind fun t303 => (if t303 = true then ((contangolaw39_own.f k l0).bind fun t305 => ((stress_Two.f k t305).bind fun bt308 => ((contangoref39_Two.f k l0).bind fun bt314 => ((stress_Worst.f k t305 a1).bind fun bt320 => ((contangoref39_Worst.f k l0 a1).bind fun bt323 => (if bt308.1 = bt314.1 then (if bt308.2.1 = bt314.2.1 then ((contangoref39_Texts.f k bt308.2.2.1 bt314.2.2.1).bind fun t326 => (if t326 = true then (if bt308.2.2.2 = bt314.2.2.2 then (if bt320.1 = bt323.1 then (if bt320.2.1 = bt323.2.1 then (if bt320.2.2 = bt323.2.2 then ((contangolaw39_kept.f k t305 l0).bind fun t327 => (if t327 = true then ((contangolaw39_goes.f k).bind fun t328 => (some t328)) else (some false))) else (some false)) else (some false)) else (some false)) else (some false)) else (some false))) else (some false)) else (some false))))))) else ((contangolaw39_goes.f k).bind fun t304 => (some t304)))
theorem contangolaw39_StressTwos.mono : ∀ a0 a1 k, LeO (contangolaw39_StressTwos.f k a0 a1) (contangolaw39_StressTwos.f (k + 1) a0 a1) := by
  intro a0 a1 k
  unfold contangolaw39_StressTwos.f
  repeat' first
      | (with_reducible exact contangolaw39_few.mono _ _)
      | (with_reducible exact contangolaw39_goes.mono _)
      | (with_reducible exact contangolaw39_kept.mono _ _ _)
      | (with_reducible exact contangolaw39_own.mono _ _)
      | (with_reducible exact contangoref39_Texts.mono _ _ _)
      | (with_reducible exact contangoref39_Two.mono _ _)
      | (with_reducible exact contangoref39_Worst.mono _ _ _)
      | (with_reducible exact stress_Two.mono _ _)
      | (with_reducible exact stress_Worst.mono _ _ _)
      | (with_reducible exact LeO.refl _)
      | (with_reducible exact LeO.none _)
      | (with_reducible refine LeO.ite ?_ ?_)
      | (with_reducible refine LeO.bind ?_ (fun _ => ?_))
      | exact contangolaw39_few.mono _ _
      | exact contangolaw39_goes.mono _
      | exact contangolaw39_kept.mono _ _ _
      | exact contangolaw39_own.mono _ _
      | exact contangoref39_Texts.mono _ _ _
      | exact contangoref39_Two.mono _ _
      | exact contangoref39_Worst.mono _ _ _
      | exact stress_Two.mono _ _
      | exact stress_Worst.mono _ _ _
      | exact LeO.none _
      | refine LeO.ite ?_ ?_
      | refine LeO.bind ?_ (fun _ => ?_)
set_option maxHeartbeats 8000000 in
set_option maxRecDepth 100000 in
theorem contangolaw39_StressTwos.calls (k : Nat) (A0 : Option Addr) (c0 : Nat) (l0 : List (S49)) (a1 : ByteArray) (r : Bool) (hrt : r = true) (w : World) (hr0 : Kd.C k49 w A0 l0.length l0) (hc0 : l0.length ≤ c0) (h : contangolaw39_StressTwos.f k l0 a1 = some r) :
    Calls Try.prog 4 #[.slice A0 l0.length c0, .string a1] w fun e w' => e = .returned (.bool r) ∧ Below w.heap.size w w' := by
  have HR0 := Aside0.mk hr0
  have HC0 := Aside0.mk hc0
  clear hr0 hc0
  have HB := Aside0.mk (Below.refl w.heap.size w)
  have HRT := Aside0.mk hrt
  clear hrt
  have H : ((contangolaw39_few.f k l0).bind fun t303 => (if t303 = true then ((contangolaw39_own.f k l0).bind fun t305 => ((stress_Two.f k t305).bind fun bt308 => ((contangoref39_Two.f k l0).bind fun bt314 => ((stress_Worst.f k t305 a1).bind fun bt320 => ((contangoref39_Worst.f k l0 a1).bind fun bt323 => (if bt308.1 = bt314.1 then (if bt308.2.1 = bt314.2.1 then ((contangoref39_Texts.f k bt308.2.2.1 bt314.2.2.1).bind fun t326 => (if t326 = true then (if bt308.2.2.2 = bt314.2.2.2 then (if bt320.1 = bt323.1 then (if bt320.2.1 = bt323.2.1 then (if bt320.2.2 = bt323.2.2 then ((contangolaw39_kept.f k t305 l0).bind fun t327 => (if t327 = true then ((contangolaw39_goes.f k).bind fun t328 => (some t328)) else (some false))) else (some false)) else (some false)) else (some false)) else (some false)) else (some false))) else (some false)) else (some false))))))) else ((contangolaw39_goes.f k).bind fun t304 => (some t304)))) = some r := h
  clear h
  replace H := Option.bind_eq_some_iff.mp H
  obtain ⟨t303, A30, H⟩ := H
  replace H : (if t303 = true then ((contangolaw39_own.f k l0).bind fun t305 => ((stress_Two.f k t305).bind fun bt308 => ((contangoref39_Two.f k l0).bind fun bt314 => ((stress_Worst.f k t305 a1).bind fun bt320 => ((contangoref39_Worst.f k l0 a1).bind fun bt323 => (if bt308.1 = bt314.1 then (if bt308.2.1 = bt314.2.1 then ((contangoref39_Texts.f k bt308.2.2.1 bt314.2.2.1).bind fun t326 => (if t326 = true then (if bt308.2.2.2 = bt314.2.2.2 then (if bt320.1 = bt323.1 then (if bt320.2.1 = bt323.2.1 then (if bt320.2.2 = bt323.2.2 then ((contangolaw39_kept.f k t305 l0).bind fun t327 => (if t327 = true then ((contangolaw39_goes.f k).bind fun t328 => (some t328)) else (some false))) else (some false)) else (some false)) else (some false)) else (some false)) else (some false))) else (some false)) else (some false))))))) else ((contangolaw39_goes.f k).bind fun t304 => (some t304))) = some r := H
  have A3 := Aside0.mk A30
  clear A30
  by_cases c4 : t303 = true
  · subst c4
    have H1 : ((contangolaw39_own.f k l0).bind fun t305 => ((stress_Two.f k t305).bind fun bt308 => ((contangoref39_Two.f k l0).bind fun bt314 => ((stress_Worst.f k t305 a1).bind fun bt320 => ((contangoref39_Worst.f k l0 a1).bind fun bt323 => (if bt308.1 = bt314.1 then (if bt308.2.1 = bt314.2.1 then ((contangoref39_Texts.f k bt308.2.2.1 bt314.2.2.1).bind fun t326 => (if t326 = true then (if bt308.2.2.2 = bt314.2.2.2 then (if bt320.1 = bt323.1 then (if bt320.2.1 = bt323.2.1 then (if bt320.2.2 = bt323.2.2 then ((contangolaw39_kept.f k t305 l0).bind fun t327 => (if t327 = true then ((contangolaw39_goes.f k).bind fun t328 => (some t328)) else (some false))) else (some false)) else (some false)) else (some false)) else (some false)) else (some false))) else (some false)) else (some false))))))) = some r := by rw [if_pos rfl] at H; exact H
    clear H
    have H := H1
    clear H1
    replace H := Option.bind_eq_some_iff.mp H
    obtain ⟨t305, A50, H⟩ := H
    replace H : ((stress_Two.f k t305).bind fun bt308 => ((contangoref39_Two.f k l0).bind fun bt314 => ((stress_Worst.f k t305 a1).bind fun bt320 => ((contangoref39_Worst.f k l0 a1).bind fun bt323 => (if bt308.1 = bt314.1 then (if bt308.2.1 = bt314.2.1 then ((contangoref39_Texts.f k bt308.2.2.1 bt314.2.2.1).bind fun t326 => (if t326 = true then (if bt308.2.2.2 = bt314.2.2.2 then (if bt320.1 = bt323.1 then (if bt320.2.1 = bt323.2.1 then (if bt320.2.2 = bt323.2.2 then ((contangolaw39_kept.f k t305 l0).bind fun t327 => (if t327 = true then ((contangolaw39_goes.f k).bind fun t328 => (some t328)) else (some false))) else (some false)) else (some false)) else (some false)) else (some false)) else (some false))) else (some false)) else (some false)))))) = some r := H
    have A5 := Aside0.mk A50
    clear A50
    replace H := Option.bind_eq_some_iff.mp H
    obtain ⟨⟨t308, t309, t310, t311⟩, A60, H⟩ := H
    replace H : ((contangoref39_Two.f k l0).bind fun bt314 => ((stress_Worst.f k t305 a1).bind fun bt320 => ((contangoref39_Worst.f k l0 a1).bind fun bt323 => (if t308 = bt314.1 then (if t309 = bt314.2.1 then ((contangoref39_Texts.f k t310 bt314.2.2.1).bind fun t326 => (if t326 = true then (if t311 = bt314.2.2.2 then (if bt320.1 = bt323.1 then (if bt320.2.1 = bt323.2.1 then (if bt320.2.2 = bt323.2.2 then ((contangolaw39_kept.f k t305 l0).bind fun t327 => (if t327 = true then ((contangolaw39_goes.f k).bind fun t328 => (some t328)) else (some false))) else (some false)) else (some false)) else (some false)) else (some false)) else (some false))) else (some false)) else (some false))))) = some r := H
    have A6 := Aside0.mk A60
    clear A60
    replace H := Option.bind_eq_some_iff.mp H
    obtain ⟨⟨t314, t315, t316, t317⟩, A70, H⟩ := H
    replace H : ((stress_Worst.f k t305 a1).bind fun bt320 => ((contangoref39_Worst.f k l0 a1).bind fun bt323 => (if t308 = t314 then (if t309 = t315 then ((contangoref39_Texts.f k t310 t316).bind fun t326 => (if t326 = true then (if t311 = t317 then (if bt320.1 = bt323.1 then (if bt320.2.1 = bt323.2.1 then (if bt320.2.2 = bt323.2.2 then ((contangolaw39_kept.f k t305 l0).bind fun t327 => (if t327 = true then ((contangolaw39_goes.f k).bind fun t328 => (some t328)) else (some false))) else (some false)) else (some false)) else (some false)) else (some false)) else (some false))) else (some false)) else (some false)))) = some r := H
    have A7 := Aside0.mk A70
    clear A70
    replace H := Option.bind_eq_some_iff.mp H
    obtain ⟨⟨t320, t321, t322⟩, A80, H⟩ := H
    replace H : ((contangoref39_Worst.f k l0 a1).bind fun bt323 => (if t308 = t314 then (if t309 = t315 then ((contangoref39_Texts.f k t310 t316).bind fun t326 => (if t326 = true then (if t311 = t317 then (if t320 = bt323.1 then (if t321 = bt323.2.1 then (if t322 = bt323.2.2 then ((contangolaw39_kept.f k t305 l0).bind fun t327 => (if t327 = true then ((contangolaw39_goes.f k).bind fun t328 => (some t328)) else (some false))) else (some false)) else (some false)) else (some false)) else (some false)) else (some false))) else (some false)) else (some false))) = some r := H
    have A8 := Aside0.mk A80
    clear A80
    replace H := Option.bind_eq_some_iff.mp H
    obtain ⟨⟨t323, t324, t325⟩, A90, H⟩ := H
    replace H : (if t308 = t314 then (if t309 = t315 then ((contangoref39_Texts.f k t310 t316).bind fun t326 => (if t326 = true then (if t311 = t317 then (if t320 = t323 then (if t321 = t324 then (if t322 = t325 then ((contangolaw39_kept.f k t305 l0).bind fun t327 => (if t327 = true then ((contangolaw39_goes.f k).bind fun t328 => (some t328)) else (some false))) else (some false)) else (some false)) else (some false)) else (some false)) else (some false))) else (some false)) else (some false)) = some r := H
    have A9 := Aside0.mk A90
    clear A90
    by_cases c10 : t308 = t314
    · rw [if_pos c10] at H
      have c10b0 : (t308 == t314) = true := beq_iff_eq.mpr c10
      have c10b1 : (t308 != t314) = false := bne_eq_false_iff_eq.mpr c10
      clear c10
      by_cases c11 : t309 = t315
      · rw [if_pos c11] at H
        have c11b0 : (t309 == t315) = true := beq_iff_eq.mpr c11
        have c11b1 : (t309 != t315) = false := bne_eq_false_iff_eq.mpr c11
        clear c11
        replace H := Option.bind_eq_some_iff.mp H
        obtain ⟨t326, A120, H⟩ := H
        replace H : (if t326 = true then (if t311 = t317 then (if t320 = t323 then (if t321 = t324 then (if t322 = t325 then ((contangolaw39_kept.f k t305 l0).bind fun t327 => (if t327 = true then ((contangolaw39_goes.f k).bind fun t328 => (some t328)) else (some false))) else (some false)) else (some false)) else (some false)) else (some false)) else (some false)) = some r := H
        have A12 := Aside0.mk A120
        clear A120
        by_cases c13 : t326 = true
        · subst c13
          have H1 : (if t311 = t317 then (if t320 = t323 then (if t321 = t324 then (if t322 = t325 then ((contangolaw39_kept.f k t305 l0).bind fun t327 => (if t327 = true then ((contangolaw39_goes.f k).bind fun t328 => (some t328)) else (some false))) else (some false)) else (some false)) else (some false)) else (some false)) = some r := by rw [if_pos rfl] at H; exact H
          clear H
          have H := H1
          clear H1
          by_cases c14 : t311 = t317
          · rw [if_pos c14] at H
            have c14b0 : (t311 == t317) = true := beq_iff_eq.mpr c14
            have c14b1 : (t311 != t317) = false := bne_eq_false_iff_eq.mpr c14
            clear c14
            by_cases c15 : t320 = t323
            · rw [if_pos c15] at H
              have c15b0 : (t320 == t323) = true := beq_iff_eq.mpr c15
              have c15b1 : (t320 != t323) = false := bne_eq_false_iff_eq.mpr c15
              clear c15
              by_cases c16 : t321 = t324
              · rw [if_pos c16] at H
                have c16b0 : (t321 == t324) = true := beq_iff_eq.mpr c16
                have c16b1 : (t321 != t324) = false := bne_eq_false_iff_eq.mpr c16
                clear c16
                by_cases c17 : t322 = t325
                · rw [if_pos c17] at H
                  have c17b0 : (t322 == t325) = true := beq_iff_eq.mpr c17
                  have c17b1 : (t322 != t325) = false := bne_eq_false_iff_eq.mpr c17
                  clear c17
                  replace H := Option.bind_eq_some_iff.mp H
                  obtain ⟨t327, A180, H⟩ := H
                  replace H : (if t327 = true then ((contangolaw39_goes.f k).bind fun t328 => (some t328)) else (some false)) = some r := H
                  have A18 := Aside0.mk A180
                  clear A180
                  by_cases c19 : t327 = true
                  · subst c19
                    have H1 : ((contangolaw39_goes.f k).bind fun t328 => (some t328)) = some r := by rw [if_pos rfl] at H; exact H
                    clear H
                    have H := H1
                    clear H1
                    replace H := Option.bind_eq_some_iff.mp H
                    obtain ⟨t328, A200, H⟩ := H
                    replace H : (some t328) = some r := H
                    have A20 := Aside0.mk A200
                    clear A200
                    obtain rfl := Option.some.inj H
                    go_enter Try.func4, Try.ntmps4
                    go_wp2_with (first | ((with_reducible refine gate_callee (f := 8) rfl ?_); refine goesL_ (some 21) rfl rfl Try.func8 (by kernel_rfl) rfl #[.slice A0 l0.length c0] rfl (by (try simp only [List.map_toArray, List.map_cons, List.map_nil]); first | done | rfl | (simp only [List.length_drop, List.length_take]; rfl)) ?_; (with_reducible refine (contangolaw39_few.calls k _ _ l0 true _ ?side1 ?side2 A3.out).mono ?_); (case side1 => repeat (first | exact HR0.out | (with_reducible refine Kd.C_alloc ?_ _) | (with_reducible refine Kd.C_drewN ?_ _) | (with_reducible refine Kd.C_drew ?_))); (case side2 => exact HC0.out); rintro e w' ⟨rfl, ⟨nd, rfl⟩⟩; refine ⟨_, rfl, ?_⟩) | ((with_reducible refine gate_callee (f := 10) rfl ?_); refine goesL_ (some 25) rfl rfl Try.func10 (by kernel_rfl) rfl #[.slice A0 l0.length c0] rfl (by (try simp only [List.map_toArray, List.map_cons, List.map_nil]); first | done | rfl | (simp only [List.length_drop, List.length_take]; rfl)) ?_; (with_reducible refine (contangolaw39_own.calls k (fun k_ => k_ < w.heap.size) _ _ l0 t305 _ ?side1 A5.out).mono ?_); (case side1 => exact Kd.V_mk HC0.out (Kd.F_below (Kd.C_F k49_heap HR0.out) (by repeat (first | (with_reducible first | exact HB.out | apply below_alloc | apply pw_below_drewN | apply below_drew1) | exact HB.out)))); rintro e w21 ⟨v306, rfl, ho0, hb⟩; refine ⟨_, rfl, ?_⟩; have n0_ := Aside0.mk (Kd.N_lower (Kd.N_mono (ok' := fun k_ => True) ho0 (fun k_ hk_ => trivial)) (below_size (by repeat (first | (with_reducible first | exact HB.out | apply below_alloc | apply pw_below_drewN | apply below_drew1) | exact HB.out)))); have n1_ := Aside0.mk (below_step (by repeat (first | (with_reducible first | exact HB.out | apply below_alloc | apply pw_below_drewN | apply below_drew1) | exact HB.out)) hb); clear HB; have HO307 := n0_; have HB := n1_; clear n0_ n1_; (try clear hb); (try clear hb2); (try clear hk); (try clear hi); (try clear ho0); obtain ⟨Ao22, co22, eo22⟩ := Kd.N_slice HO307.out; subst eo22) | ((with_reducible refine gate_callee (f := 18) rfl ?_); refine goesL_ (some 28) rfl rfl Try.func18 (by kernel_rfl) rfl #[.slice Ao22 t305.length co22] rfl (by (try simp only [List.map_toArray, List.map_cons, List.map_nil]); first | done | rfl | (simp only [List.length_drop, List.length_take]; rfl)) ?_; (with_reducible refine (stress_Two.calls k _ _ t305 t308 t309 t310 t311 _ ?side1 ?side2 A6.out).mono ?_); (case side1 => repeat (first | exact (Kd.N_reads' HO307.out).2.2 | (with_reducible refine Kd.C_alloc ?_ _) | (with_reducible refine Kd.C_drewN ?_ _) | (with_reducible refine Kd.C_drew ?_))); (case side2 => exact (Kd.N_reads' HO307.out).2.1); rintro e w23 ⟨v312, rfl, ho0, hb⟩; refine ⟨_, rfl, ?_⟩; have n0_ := Aside0.mk (Kd.N_elder' (by (with_reducible repeat (first | apply Kd.N_alloc | apply Kd.N_drewN | apply Kd.N_drew)); exact HO307.out) (Kd.R_base ho0) hb); have n1_ := Aside0.mk (Kd.R_lower ho0 (below_size (by repeat (first | (with_reducible first | exact HB.out | apply below_alloc | apply pw_below_drewN | apply below_drew1) | exact HB.out)))); have n2_ := Aside0.mk (below_step (by repeat (first | (with_reducible first | exact HB.out | apply below_alloc | apply pw_below_drewN | apply below_drew1) | exact HB.out)) hb); clear HO307; clear HB; have HO307 := n0_; have HO313 := n1_; have HB := n2_; clear n0_ n1_ n2_; (try clear hb); (try clear hb2); (try clear hk); (try clear hi); (try clear ho0)) | ((with_reducible refine gate_callee (f := 19) rfl ?_); refine goesL_ (some 35) rfl rfl Try.func19 (by kernel_rfl) rfl #[.slice A0 l0.length c0] rfl (by (try simp only [List.map_toArray, List.map_cons, List.map_nil]); first | done | rfl | (simp only [List.length_drop, List.length_take]; rfl)) ?_; (with_reducible refine (contangoref39_Two.calls k _ _ l0 t314 t315 t316 t317 _ ?side1 ?side2 A7.out).mono ?_); (case side1 => repeat (first | exact (Kd.C_below HR0.out HB.out) | (with_reducible refine Kd.C_alloc ?_ _) | (with_reducible refine Kd.C_drewN ?_ _) | (with_reducible refine Kd.C_drew ?_))); (case side2 => exact HC0.out); rintro e w24 ⟨v318, rfl, ho0, hb⟩; refine ⟨_, rfl, ?_⟩; have n0_ := Aside0.mk (Kd.N_elder' (by (with_reducible repeat (first | apply Kd.N_alloc | apply Kd.N_drewN | apply Kd.N_drew)); exact HO307.out) (Kd.R_base ho0) hb); have n1_ := Aside0.mk (Kd.R_elder' (by (with_reducible repeat (first | apply Kd.R_alloc | apply Kd.R_drewN | apply Kd.R_drew)); exact HO313.out) (Kd.R_base ho0) hb); have n2_ := Aside0.mk (Kd.R_lower (Kd.R_new' ho0 (Kd.R_lt (by (with_reducible repeat (first | apply Kd.R_alloc | apply Kd.R_drewN | apply Kd.R_drew)); exact HO313.out))) (below_size (by repeat (first | (with_reducible first | exact HB.out | apply below_alloc | apply pw_below_drewN | apply below_drew1) | exact HB.out)))); have n3_ := Aside0.mk (below_step (by repeat (first | (with_reducible first | exact HB.out | apply below_alloc | apply pw_below_drewN | apply below_drew1) | exact HB.out)) hb); clear HO307; clear HO313; clear HB; have HO307 := n0_; have HO313 := n1_; have HO319 := n2_; have HB := n3_; clear n0_ n1_ n2_ n3_; (try clear hb); (try clear hb2); (try clear hk); (try clear hi); (try clear ho0)) | ((with_reducible refine gate_callee (f := 20) rfl ?_); refine goesL_ (some 43) rfl rfl Try.func20 (by kernel_rfl) rfl #[.slice Ao22 t305.length co22, .string a1] rfl (by (try simp only [List.map_toArray, List.map_cons, List.map_nil]); first | done | rfl | (simp only [List.length_drop, List.length_take]; rfl)) ?_; (with_reducible refine (stress_Worst.calls k _ _ t305 a1 t320 t321 t322 _ ?side1 ?side2 A8.out).mono ?_); (case side1 => repeat (first | exact (Kd.N_reads' HO307.out).2.2 | (with_reducible refine Kd.C_alloc ?_ _) | (with_reducible refine Kd.C_drewN ?_ _) | (with_reducible refine Kd.C_drew ?_))); (case side2 => exact (Kd.N_reads' HO307.out).2.1); rintro e w25 ⟨rfl, hb⟩; refine ⟨_, rfl, ?_⟩; have n0_ := Aside0.mk (Kd.N_below (by (with_reducible repeat (first | apply Kd.N_alloc | apply Kd.N_drewN | apply Kd.N_drew)); exact HO307.out) hb); have n1_ := Aside0.mk (Kd.R_below (by (with_reducible repeat (first | apply Kd.R_alloc | apply Kd.R_drewN | apply Kd.R_drew)); exact HO313.out) hb); have n2_ := Aside0.mk (Kd.R_below (by (with_reducible repeat (first | apply Kd.R_alloc | apply Kd.R_drewN | apply Kd.R_drew)); exact HO319.out) hb); have n3_ := Aside0.mk (below_step (by repeat (first | (with_reducible first | exact HB.out | apply below_alloc | apply pw_below_drewN | apply below_drew1) | exact HB.out)) hb); clear HO307; clear HO313; clear HO319; clear HB; have HO307 := n0_; have HO313 := n1_; have HO319 := n2_; have HB := n3_; clear n0_ n1_ n2_ n3_; (try clear hb); (try clear hb2); (try clear hk); (try clear hi)) | ((with_reducible refine gate_callee (f := 21) rfl ?_); refine goesL_ (some 50) rfl rfl Try.func21 (by kernel_rfl) rfl #[.slice A0 l0.length c0, .string a1] rfl (by (try simp only [List.map_toArray, List.map_cons, List.map_nil]); first | done | rfl | (simp only [List.length_drop, List.length_take]; rfl)) ?_; (with_reducible refine (contangoref39_Worst.calls k _ _ l0 a1 t323 t324 t325 _ ?side1 ?side2 A9.out).mono ?_); (case side1 => repeat (first | exact (Kd.C_below HR0.out HB.out) | (with_reducible refine Kd.C_alloc ?_ _) | (with_reducible refine Kd.C_drewN ?_ _) | (with_reducible refine Kd.C_drew ?_))); (case side2 => exact HC0.out); rintro e w26 ⟨rfl, hb⟩; refine ⟨_, rfl, ?_⟩; have n0_ := Aside0.mk (Kd.N_below (by (with_reducible repeat (first | apply Kd.N_alloc | apply Kd.N_drewN | apply Kd.N_drew)); exact HO307.out) hb); have n1_ := Aside0.mk (Kd.R_below (by (with_reducible repeat (first | apply Kd.R_alloc | apply Kd.R_drewN | apply Kd.R_drew)); exact HO313.out) hb); have n2_ := Aside0.mk (Kd.R_below (by (with_reducible repeat (first | apply Kd.R_alloc | apply Kd.R_drewN | apply Kd.R_drew)); exact HO319.out) hb); have n3_ := Aside0.mk (below_step (by repeat (first | (with_reducible first | exact HB.out | apply below_alloc | apply pw_below_drewN | apply below_drew1) | exact HB.out)) hb); clear HO307; clear HO313; clear HO319; clear HB; have HO307 := n0_; have HO313 := n1_; have HO319 := n2_; have HB := n3_; clear n0_ n1_ n2_ n3_; (try clear hb); (try clear hb2); (try clear hk); (try clear hi); obtain ⟨Ao27, co27, eo27⟩ := Kd.R_slice HO313.out; subst eo27; obtain ⟨Ao28, co28, eo28⟩ := Kd.R_slice HO319.out; subst eo28) | (go_at_call 15; (with_reducible refine (contangoref39_Texts.calls k _ _ t310 _ _ t316 true _ ?side1 ?side2 ?side3 ?side4 A12.out).mono ?_); (case side1 => repeat (first | exact (Kd.R_reads' HO313.out).2.2 | (with_reducible refine Kd.C_alloc ?_ _) | (with_reducible refine Kd.C_drewN ?_ _) | (with_reducible refine Kd.C_drew ?_))); (case side2 => exact (Kd.R_reads' HO313.out).2.1); (case side3 => repeat (first | exact (Kd.R_reads' HO319.out).2.2 | (with_reducible refine Kd.C_alloc ?_ _) | (with_reducible refine Kd.C_drewN ?_ _) | (with_reducible refine Kd.C_drew ?_))); (case side4 => exact (Kd.R_reads' HO319.out).2.1); rintro e w' ⟨rfl, ⟨nd, rfl⟩⟩) | (go_at_call 17; (with_reducible refine (contangolaw39_kept.calls k _ _ t305 _ _ l0 true _ ?side1 ?side2 ?side3 ?side4 A18.out).mono ?_); (case side1 => repeat (first | exact (Kd.N_reads' HO307.out).2.2 | (with_reducible refine Kd.C_alloc ?_ _) | (with_reducible refine Kd.C_drewN ?_ _) | (with_reducible refine Kd.C_drew ?_))); (case side2 => exact (Kd.N_reads' HO307.out).2.1); (case side3 => repeat (first | exact (Kd.C_below HR0.out (by repeat (first | (with_reducible first | exact HB.out | apply below_alloc | apply pw_below_drewN | apply below_drew1) | exact HB.out))) | (with_reducible refine Kd.C_alloc ?_ _) | (with_reducible refine Kd.C_drewN ?_ _) | (with_reducible refine Kd.C_drew ?_))); (case side4 => exact HC0.out); rintro e w29 ⟨rfl, hb⟩; have n0_ := Aside0.mk (Kd.N_below (by (with_reducible repeat (first | apply Kd.N_alloc | apply Kd.N_drewN | apply Kd.N_drew)); exact HO307.out) hb); have n1_ := Aside0.mk (Kd.R_below (by (with_reducible repeat (first | apply Kd.R_alloc | apply Kd.R_drewN | apply Kd.R_drew)); exact HO313.out) hb); have n2_ := Aside0.mk (Kd.R_below (by (with_reducible repeat (first | apply Kd.R_alloc | apply Kd.R_drewN | apply Kd.R_drew)); exact HO319.out) hb); have n3_ := Aside0.mk (below_step (by repeat (first | (with_reducible first | exact HB.out | apply below_alloc | apply pw_below_drewN | apply below_drew1) | exact HB.out)) hb); clear HO307; clear HO313; clear HO319; clear HB; have HO307 := n0_; have HO313 := n1_; have HO319 := n2_; have HB := n3_; clear n0_ n1_ n2_ n3_; (try clear hb); (try clear hb2); (try clear hk); (try clear hi)) | (go_at_call 9; (with_reducible refine (contangolaw39_goes.calls k  t328 _ A20.out).mono ?_); rintro e w30 ⟨rfl, hb⟩; have n0_ := Aside0.mk (Kd.N_below (by (with_reducible repeat (first | apply Kd.N_alloc | apply Kd.N_drewN | apply Kd.N_drew)); exact HO307.out) hb); have n1_ := Aside0.mk (Kd.R_below (by (with_reducible repeat (first | apply Kd.R_alloc | apply Kd.R_drewN | apply Kd.R_drew)); exact HO313.out) hb); have n2_ := Aside0.mk (Kd.R_below (by (with_reducible repeat (first | apply Kd.R_alloc | apply Kd.R_drewN | apply Kd.R_drew)); exact HO319.out) hb); have n3_ := Aside0.mk (below_step (by repeat (first | (with_reducible first | exact HB.out | apply below_alloc | apply pw_below_drewN | apply below_drew1) | exact HB.out)) hb); clear HO307; clear HO313; clear HO319; clear HB; have HO307 := n0_; have HO313 := n1_; have HO319 := n2_; have HB := n3_; clear n0_ n1_ n2_ n3_; (try clear hb); (try clear hb2); (try clear hk); (try clear hi)))
                    go_ret
                    exact ⟨by first | rfl | (simp [errW_none, errW_some] <;> rfl) | (simp [*, errW_none, errW_some] <;> rfl), by repeat (first | (with_reducible first | exact HB.out | apply below_alloc | apply pw_below_drewN | apply below_drew1) | exact HB.out)⟩
                  · replace c19 := Bool.eq_false_iff.mpr c19
                    subst c19
                    have H1 : (some false) = some r := by rw [if_neg (show ¬ (false = true) by decide)] at H; exact H
                    clear H
                    have H := H1
                    clear H1
                    exact absurd (H.trans (congrArg some HRT.out)) (by first | simp [] | (simp only []; (repeat' split) <;> simp))
                · rw [if_neg c17] at H
                  exact absurd (H.trans (congrArg some HRT.out)) (by first | simp [] | (simp only []; (repeat' split) <;> simp))
              · rw [if_neg c16] at H
                exact absurd (H.trans (congrArg some HRT.out)) (by first | simp [] | (simp only []; (repeat' split) <;> simp))
            · rw [if_neg c15] at H
              exact absurd (H.trans (congrArg some HRT.out)) (by first | simp [] | (simp only []; (repeat' split) <;> simp))
          · rw [if_neg c14] at H
            exact absurd (H.trans (congrArg some HRT.out)) (by first | simp [] | (simp only []; (repeat' split) <;> simp))
        · replace c13 := Bool.eq_false_iff.mpr c13
          subst c13
          have H1 : (some false) = some r := by rw [if_neg (show ¬ (false = true) by decide)] at H; exact H
          clear H
          have H := H1
          clear H1
          exact absurd (H.trans (congrArg some HRT.out)) (by first | simp [] | (simp only []; (repeat' split) <;> simp))
      · rw [if_neg c11] at H
        exact absurd (H.trans (congrArg some HRT.out)) (by first | simp [] | (simp only []; (repeat' split) <;> simp))
    · rw [if_neg c10] at H
      exact absurd (H.trans (congrArg some HRT.out)) (by first | simp [] | (simp only []; (repeat' split) <;> simp))
  · replace c4 := Bool.eq_false_iff.mpr c4
    subst c4
    have H1 : ((contangolaw39_goes.f k).bind fun t304 => (some t304)) = some r := by rw [if_neg (show ¬ (false = true) by decide)] at H; exact H
    clear H
    have H := H1
    clear H1
    replace H := Option.bind_eq_some_iff.mp H
    obtain ⟨t304, A310, H⟩ := H
    replace H : (some t304) = some r := H
    have A31 := Aside0.mk A310
    clear A310
    obtain rfl := Option.some.inj H
    go_enter Try.func4, Try.ntmps4
    go_wp2_with (first | ((with_reducible refine gate_callee (f := 8) rfl ?_); refine goesL_ (some 21) rfl rfl Try.func8 (by kernel_rfl) rfl #[.slice A0 l0.length c0] rfl (by (try simp only [List.map_toArray, List.map_cons, List.map_nil]); first | done | rfl | (simp only [List.length_drop, List.length_take]; rfl)) ?_; (with_reducible refine (contangolaw39_few.calls k _ _ l0 false _ ?side1 ?side2 A3.out).mono ?_); (case side1 => repeat (first | exact HR0.out | (with_reducible refine Kd.C_alloc ?_ _) | (with_reducible refine Kd.C_drewN ?_ _) | (with_reducible refine Kd.C_drew ?_))); (case side2 => exact HC0.out); rintro e w' ⟨rfl, ⟨nd, rfl⟩⟩; refine ⟨_, rfl, ?_⟩) | ((with_reducible refine gate_callee (f := 9) rfl ?_); refine goesL_ (some 23) rfl rfl Try.func9 (by kernel_rfl) rfl #[] rfl (by (try simp only [List.map_toArray, List.map_cons, List.map_nil]); first | done | rfl | (simp only [List.length_drop, List.length_take]; rfl)) ?_; (with_reducible refine (contangolaw39_goes.calls k  t304 _ A31.out).mono ?_); rintro e w32 ⟨rfl, hb⟩; refine ⟨_, rfl, ?_⟩; have n0_ := Aside0.mk (below_step (by repeat (first | (with_reducible first | exact HB.out | apply below_alloc | apply pw_below_drewN | apply below_drew1) | exact HB.out)) hb); clear HB; have HB := n0_; clear n0_; (try clear hb); (try clear hb2); (try clear hk); (try clear hi)))
    go_ret
    exact ⟨by first | rfl | (simp [errW_none, errW_some] <;> rfl) | (simp [*, errW_none, errW_some] <;> rfl), by repeat (first | (with_reducible first | exact HB.out | apply below_alloc | apply pw_below_drewN | apply below_drew1) | exact HB.out)⟩

end Go.Proofs.Ytaookghbppimnaa.PStressTwos
