import Derived.Test.YtoejllkjhaeeeaaPExpiryFlowsx0
import Derived.Test.YtoejllkjhaeeeaaPExpiryFlowsx18
namespace Go.Proofs.Ytoejllkjhaeeeaa.PExpiryFlows
open Go.RowKit Go.Proofs.YtoejllkjhaeeeaaW.PrintWords Go.Proofs.YtoejllkjhaeeeaaW.PrintLast Go.Proofs.YtoejllkjhaeeeaaW.PrintMore
attribute [local go_sem] max2_int min2_int max_two min_two max_three min_three max_four min_four Go.Proofs.YtoejllkjhaeeeaaHand.run_leq_str Go.Proofs.YtoejllkjhaeeeaaHand.run_gtr_str Go.Proofs.YtoejllkjhaeeeaaHand.run_geq_str   -- for this text's walks alone
set_option linter.unusedVariables false
set_option linter.unusedSimpArgs false

/-! ### contangoref15_Check: function 50 -/
mutual
def contangoref15_Check.l0 : Nat → List (S27) → Int → Option (Int)
  | 0, _, _ => none
  | k + 1, x0, x3 => if x3 < (x0.length : Int) then (if x3 > 0 then (if 0 ≤ (wrap64 (x3 - 1)) then (if (wrap64 (x3 - 1)) < (x0.length : Int) then (if 0 ≤ x3 then ((contangoref10_Compare.f ((rd_T27 x0 (wrap64 (x3 - 1))).f0.f0) ((rd_T27 x0 (wrap64 (x3 - 1))).f0.f1) ((rd_T27 x0 (wrap64 (x3 - 1))).f0.f2) ((rd_T27 x0 (wrap64 (x3 - 1))).f0.f3) ((rd_T27 x0 x3).f0.f0) ((rd_T27 x0 x3).f0.f1) ((rd_T27 x0 x3).f0.f2) ((rd_T27 x0 x3).f0.f3)).bind fun t199 => (contangoref15_Check.j1 k x0 x3 (decide (t199 ≥ 0)))) else (none)) else (none)) else (none)) else (contangoref15_Check.j1 k x0 x3 false)) else (some 0)
def contangoref15_Check.j1 : Nat → List (S27) → Int → Bool → Option (Int)
  | 0, _, _, _ => none
  | k + 1, x0, x3, x29 => if x29 = true then (some 19) else (if 0 ≤ x3 then (if x3 < (x0.length : Int) then ((contangoref15_lots.f ((rd_T27 x0 x3).f1)).bind fun t201 => (if t201 = true then ((contangoref15_lots.f ((rd_T27 x0 x3).f2)).bind fun t203 => (if t203 = true then (if (wrap64 (((rd_T27 x0 x3).f1) + ((rd_T27 x0 x3).f2))) = 0 then (some 18) else (contangoref15_Check.l0 k x0 (wrap64 (x3 + 1)))) else (some 18))) else (some 18))) else (none)) else (none))
end
def contangoref15_Check.f (k : Nat) (l0 : List (S27)) : Option (Int) := if (l0.length : Int) > 128 then (some 8) else (contangoref15_Check.l0 k l0 0)
theorem contangoref15_Check.mono_l : ∀ k, (∀ y0 y1, LeO (contangoref15_Check.l0 k y0 y1) (contangoref15_Check.l0 (k + 1) y0 y1)) ∧ (∀ y0 y1 y2, LeO (contangoref15_Check.j1 k y0 y1 y2) (contangoref15_Check.j1 (k + 1) y0 y1 y2))
  | 0 => ⟨fun _ _ r h => by simp [contangoref15_Check.l0] at h, fun _ _ _ r h => by simp [contangoref15_Check.j1] at h⟩
  | k + 1 => by
    obtain ⟨ih0, ih1⟩ := contangoref15_Check.mono_l k
    refine ⟨?_, ?_⟩
    · intro y0 y1
      unfold contangoref15_Check.l0
      repeat' first
      | (with_reducible exact ih0 _ _)
      | (with_reducible exact ih1 _ _ _)
      | (with_reducible exact LeO.refl _)
      | (with_reducible exact LeO.none _)
      | (with_reducible refine LeO.ite ?_ ?_)
      | (with_reducible refine LeO.bind ?_ (fun _ => ?_))
      | exact LeO.none _
      | refine LeO.ite ?_ ?_
      | refine LeO.bind ?_ (fun _ => ?_)
    · intro y0 y1 y2
      unfold contangoref15_Check.j1
      repeat' first
      | (with_reducible exact ih0 _ _)
      | (with_reducible exact ih1 _ _ _)
      | (with_reducible exact LeO.refl _)
      | (with_reducible exact LeO.none _)
      | (with_reducible refine LeO.ite ?_ ?_)
      | (with_reducible refine LeO.bind ?_ (fun _ => ?_))
      | exact LeO.none _
      | refine LeO.ite ?_ ?_
      | refine LeO.bind ?_ (fun _ => ?_)
theorem contangoref15_Check.mono : ∀ a0 k, LeO (contangoref15_Check.f k a0) (contangoref15_Check.f (k + 1) a0) := by
  intro a0 k
  obtain ⟨ih0, ih1⟩ := contangoref15_Check.mono_l k
  unfold contangoref15_Check.f
  repeat' first
      | (with_reducible exact ih0 _ _)
      | (with_reducible exact ih1 _ _ _)
      | (with_reducible exact LeO.refl _)
      | (with_reducible exact LeO.none _)
      | (with_reducible refine LeO.ite ?_ ?_)
      | (with_reducible refine LeO.bind ?_ (fun _ => ?_))
      | exact LeO.none _
      | refine LeO.ite ?_ ?_
      | refine LeO.bind ?_ (fun _ => ?_)
def contangoref15_Check.T6 : Bool × List (List Nat × List Nat) := (true, [([], []), ([0], [0]), ([1], [1]), ([2], [2]), ([2], [2]), ([4, 2], [2, 4]), ([3, 5, 2], [2, 3, 5]), ([6, 2], [2, 6]), ([7, 2], [2, 7]), ([2], [2]), ([2], [2]), ([9, 10, 2], [2, 9, 10]), ([11, 2], [2, 11]), ([12, 2], [2, 12]), ([8, 13, 2, 2], [2, 8, 13]), ([14, 2], [2, 14]), ([2, 15], [2, 15])])
def contangoref15_Check.B6 : List Nat := [0, 1, 3, 7, 7, 23, 63, 127, 255, 7, 7, 1543, 3591, 7687, 16383, 32767, 65535]
theorem contangoref15_Check.tab6 : rtab .any (opsOf Try.f50 6) = contangoref15_Check.T6 := by kernel_rfl
theorem contangoref15_Check.bits6 : waitsOk contangoref15_Check.T6.2 contangoref15_Check.B6 = true := by kernel_rfl
def contangoref15_Check.T8 : Bool × List (List Nat × List Nat) := (true, [([], []), ([], []), ([0, 1], [0, 1]), ([2], [2]), ([3], [3]), ([4], [4]), ([5], [5]), ([6, 5], [6]), ([7], [7]), ([7], [7]), ([8, 9, 7], [7, 8, 9]), ([10, 7], [7, 10]), ([11, 7], [7, 11]), ([12, 7, 7], [7, 12]), ([13, 7], [7, 13]), ([7, 14], [7, 14]), ([15, 13], [15]), ([16], [16]), ([16], [16]), ([17, 18, 16], [16, 17, 18]), ([19, 16], [16, 19]), ([20, 16], [16, 20]), ([16], [16]), ([16], [16]), ([22, 23, 16], [16, 22, 23]), ([24, 16], [16, 24]), ([25, 16], [16, 25]), ([21, 26, 16], [16, 21, 26]), ([27, 16], [16, 27]), ([16, 28], [16, 28])])
def contangoref15_Check.B8 : List Nat := [0, 0, 3, 7, 15, 31, 63, 127, 255, 255, 1023, 2047, 4095, 8191, 16383, 32767, 65535, 131071, 131071, 524287, 1048575, 2097151, 131071, 131071, 12713983, 29491199, 63045631, 134217727, 268435455, 536870911]
theorem contangoref15_Check.tab8 : rtab .any (opsOf Try.f50 8) = contangoref15_Check.T8 := by kernel_rfl
theorem contangoref15_Check.bits8 : waitsOk contangoref15_Check.T8.2 contangoref15_Check.B8 = true := by kernel_rfl
set_option maxHeartbeats 8000000 in
set_option maxRecDepth 100000 in
theorem contangoref15_Check.calls (k : Nat) (A0 : Option Addr) (c0 : Nat) (l0 : List (S27)) (r : Int) (w : World) (hr0 : Kd.C k27 w A0 l0.length l0) (hc0 : l0.length ≤ c0) (h : contangoref15_Check.f k l0 = some r) :
    Calls Try.prog 50 #[.slice A0 l0.length c0] w fun e w' => e = .returned (.int .i64 r) ∧ Below w.heap.size w w' := by
 have hu25 := Try.underlying25
 have HR0 := Aside0.mk hr0
 have HC0 := Aside0.mk hc0
 clear hr0 hc0
 have HB := Aside0.mk (Below.refl w.heap.size w)
 have H : (if (l0.length : Int) > 128 then (some 8) else (contangoref15_Check.l0 k l0 0)) = some r := h
 clear h
 by_cases c2 : (l0.length : Int) > 128
 · rw [if_pos c2] at H
   have c2b0 : decide (128 < (l0.length : Int)) = true := decide_eq_true c2
   have c2b1 : decide (128 < l0.length) = true := decide_eq_true (by omega)
   clear c2
   obtain rfl := Option.some.inj H
   go_enter Try.func50, Try.ntmps50
   go_wp2
   go_ret
   exact ⟨by first | rfl | (simp [errW_none, errW_some] <;> rfl) | (simp [*, errW_none, errW_some] <;> rfl), bz0 HB.out⟩
 rw [if_neg c2] at H
 have c2b0 : decide (128 < (l0.length : Int)) = false := decide_eq_false c2
 have c2b1 : decide (128 < l0.length) = false := decide_eq_false (by omega)
 clear c2
 have H' := Aside0.mk H
 clear H
 go_enter Try.func50, Try.ntmps50
 go_wp2
 go_loopg [3] k (fun kq v3 w' => ∃ (x3_1 : Int), v3 = .int .i64 x3_1 ∧ Aside0 (contangoref15_Check.l0 kq l0 x3_1 = some r) ∧ Aside0 (kq ≤ k) ∧ Aside0 (Below w.heap.size w w'))
 case atStart => exact ⟨(0), rf_, H', ⟨Nat.le_refl _⟩, ⟨bz0 HB.out⟩⟩
 case round =>
  clear H'
  try clear c2
  try clear c2b0
  try clear c2b1
  try clear p2
  obtain ⟨x3_1, rfl, HA, HK1, HB⟩ := hrel
  cases gk with
  | zero => exact absurd HA.out (by simp [contangoref15_Check.l0])
  | succ k1 =>
   have H := HA.out
   clear HA
   simp only [contangoref15_Check.l0] at H
   by_cases c3 : x3_1 < (l0.length : Int)
   rotate_left
   · rw [if_neg c3] at H
     have c3b0 : decide (x3_1 < (l0.length : Int)) = false := decide_eq_false c3
     clear c3
     obtain rfl := Option.some.inj H
     go_wp2
     go_ret
     exact ⟨by first | rfl | (simp [errW_none, errW_some] <;> rfl) | (simp [*, errW_none, errW_some] <;> rfl), bz0 HB.out⟩
   rw [if_pos c3] at H
   have c3b0 : decide (x3_1 < (l0.length : Int)) = true := decide_eq_true c3
   clear c3
   have HC4 := Aside0.mk H
   clear H
   go_upto_region 6 with (fail)
   go_cut [29] (fun v29 wc => ∃ (kq : Nat) (x29_3 : Bool), v29 = .bool x29_3 ∧ Aside0 (contangoref15_Check.j1 kq l0 x3_1 x29_3 = some r) ∧ Aside0 (kq ≤ k1) ∧ Aside0 (Below w.heap.size w wc))
   case first =>
    have H := HC4.out
    clear HC4
    by_cases c5 : x3_1 > 0
    rotate_left
    · rw [if_neg c5] at H
      have c5b0 : decide (0 < x3_1) = false := decide_eq_false c5
      clear c5
      (first | rw [c5b0] | (simp only [i64_w, i32_w]; rw [c5b0]) | skip)
      have H' := Aside0.mk H
      clear H
      try go_wp2
      have n0_ := Aside0.mk (below_drew1 HB.out)
      clear HB
      have HB := n0_
      clear n0_
      refine start_ (n := 17) (S := fun w' => True) (ds := []) (tf 0 17) (by kernel_rfl) rfl rfl trivial (fun hHeld => ?_); refine with_tabW contangoref15_Check.tab6 contangoref15_Check.bits6 (fun HT_ HW_ => ?_)
      generalize wr.drew = w13 at HB hHeld ⊢
      refine pv_ 0 13 (tf 1 16) HT_ ?_
      refine pv_ 1 14 (tf 2 15) HT_ ?_
      refine pv_ 2 15 (tf 3 14) HT_ ?_
      refine pu_ 3 16 (tf 4 13) HT_ ?_
      refine pu_ 4 17 (tf 5 12) HT_ ?_
      refine pu_ 5 18 (tf 6 11) HT_ ?_
      refine pu_ 6 19 (tf 7 10) HT_ ?_
      refine pu_ 7 20 (tf 8 9) HT_ ?_
      refine pu_ 8 21 (tf 9 8) HT_ ?_
      refine pu_ 9 22 (tf 10 7) HT_ ?_
      refine pu_ 10 23 (tf 11 6) HT_ ?_
      refine pu_ 11 24 (tf 12 5) HT_ ?_
      refine pu_ 12 25 (tf 13 4) HT_ ?_
      refine pu_ 13 26 (tf 14 3) HT_ ?_
      refine pu_ 14 27 (tf 15 2) HT_ ?_
      refine pu_ 15 28 (tf 16 1) HT_ ?_
      refine pv_ 16 29 (tf 17 0) HT_ ?_
      refine done_ (done_of HT_.out (by kernel_rfl)) ?_
      try go_wp2
      go_meet
      case rel => exact ⟨_, (false), rf_, H', ⟨by have := HK1.out; first | omega | exact Nat.le_refl _⟩, ⟨bz0 HB.out⟩⟩
    rw [if_pos c5] at H
    have c5b0 : decide (0 < x3_1) = true := decide_eq_true c5
    clear c5
    (first | rw [c5b0] | (simp only [i64_w, i32_w]; rw [c5b0]) | skip)
    obtain ⟨ji6, hji6⟩ : ∃ j_ : Int, (wrap64 (x3_1 - 1)) = j_ := ⟨_, rfl⟩
    replace H : (if 0 ≤ (ji6) then (if (ji6) < (l0.length : Int) then (if 0 ≤ x3_1 then ((contangoref10_Compare.f ((rd_T27 l0 (ji6)).f0.f0) ((rd_T27 l0 (ji6)).f0.f1) ((rd_T27 l0 (ji6)).f0.f2) ((rd_T27 l0 (ji6)).f0.f3) ((rd_T27 l0 x3_1).f0.f0) ((rd_T27 l0 x3_1).f0.f1) ((rd_T27 l0 x3_1).f0.f2) ((rd_T27 l0 x3_1).f0.f3)).bind fun t199 => (contangoref15_Check.j1 k1 l0 x3_1 (decide (t199 ≥ 0)))) else (none)) else (none)) else (none)) = some r := by first | (rw [hji6] at H; exact H) | (simp only [hji6] at H ⊢; exact H)
    have hji6w : (IntKind.i64.wrap (x3_1 - 1)) = ji6 := (i64_w _).trans hji6
    by_cases c7 : 0 ≤ (ji6)
    rotate_left
    · rw [if_neg c7] at H
      exact absurd H (by simp)
    rw [if_pos c7] at H
    have c7b0 : decide (0 ≤ (ji6)) = true := decide_eq_true c7
    clear c7
    by_cases c8 : (ji6) < (l0.length : Int)
    rotate_left
    · rw [if_neg c8] at H
      exact absurd H (by simp)
    rw [if_pos c8] at H
    have c8b0 : decide ((ji6) < (l0.length : Int)) = true := decide_eq_true c8
    clear c8
    by_cases c9 : 0 ≤ x3_1
    rotate_left
    · rw [if_neg c9] at H
      exact absurd H (by simp)
    rw [if_pos c9] at H
    have c9b0 : decide (0 ≤ x3_1) = true := decide_eq_true c9
    clear c9
    replace H := Option.bind_eq_some_iff.mp H
    obtain ⟨t199, A100, H⟩ := H
    replace H : (contangoref15_Check.j1 k1 l0 x3_1 (decide (t199 ≥ 0))) = some r := H
    have A10 := Aside0.mk A100
    clear A100
    have H' := Aside0.mk H
    clear H
    try go_wp2
    have n0_ := Aside0.mk (below_drew1 HB.out)
    clear HB
    have HB := n0_
    clear n0_
    have p197 : 0 ≤ ((ji6) : Int) := od_
    have q197 : (ji6) < (l0.length : Int) := od_
    obtain ⟨ad197, e197, hx197_0, hx197_1, hx197_2, hx197_3, hx197_4, hx197_5⟩ := at_T27 HR0.out (ji6) p197 q197
    have hw197_5 := hx197_5
    have hw197_4 := hx197_4
    have hw197_3 := hx197_3
    have hw197_2 := hx197_2
    have hw197_1 := hx197_1
    have hw197_0 := hx197_0
    cases e197
    replace hx197_0 := (HB.out.cell (World.block_lt_of_cell? w _ hx197_0)).trans hx197_0
    replace hx197_1 := (HB.out.cell (World.block_lt_of_cell? w _ hx197_1)).trans hx197_1
    replace hx197_2 := (HB.out.cell (World.block_lt_of_cell? w _ hx197_2)).trans hx197_2
    replace hx197_3 := (HB.out.cell (World.block_lt_of_cell? w _ hx197_3)).trans hx197_3
    replace hx197_4 := (HB.out.cell (World.block_lt_of_cell? w _ hx197_4)).trans hx197_4
    replace hx197_5 := (HB.out.cell (World.block_lt_of_cell? w _ hx197_5)).trans hx197_5
    replace p197 := eq_true p197
    replace q197 := eq_true q197
    have p198 : 0 ≤ (x3_1 : Int) := od_
    have q198 : x3_1 < (l0.length : Int) := od_
    obtain ⟨ad198, e198, hx198_0, hx198_1, hx198_2, hx198_3, hx198_4, hx198_5⟩ := at_T27 HR0.out x3_1 p198 q198
    have hw198_5 := hx198_5
    have hw198_4 := hx198_4
    have hw198_3 := hx198_3
    have hw198_2 := hx198_2
    have hw198_1 := hx198_1
    have hw198_0 := hx198_0
    obtain rfl : ad197 = ad198 := (by injection e198)
    replace hx198_0 := (HB.out.cell (World.block_lt_of_cell? w _ hx198_0)).trans hx198_0
    replace hx198_1 := (HB.out.cell (World.block_lt_of_cell? w _ hx198_1)).trans hx198_1
    replace hx198_2 := (HB.out.cell (World.block_lt_of_cell? w _ hx198_2)).trans hx198_2
    replace hx198_3 := (HB.out.cell (World.block_lt_of_cell? w _ hx198_3)).trans hx198_3
    replace hx198_4 := (HB.out.cell (World.block_lt_of_cell? w _ hx198_4)).trans hx198_4
    replace hx198_5 := (HB.out.cell (World.block_lt_of_cell? w _ hx198_5)).trans hx198_5
    replace p198 := eq_true p198
    replace q198 := eq_true q198
    refine start_ (n := 17) (S := fun w' => w'.cell? (ad197.add (((ji6)).toNat * 6)) = some (.string ((rd_T27 l0 (ji6)).f0.f0)) ∧ w'.cell? ⟨(ad197.add (((ji6)).toNat * 6)).block, (ad197.add (((ji6)).toNat * 6)).off + 1, none⟩ = some (.int .i64 ((rd_T27 l0 (ji6)).f0.f1)) ∧ w'.cell? ⟨(ad197.add (((ji6)).toNat * 6)).block, (ad197.add (((ji6)).toNat * 6)).off + 2, none⟩ = some (.int .i64 ((rd_T27 l0 (ji6)).f0.f2)) ∧ w'.cell? ⟨(ad197.add (((ji6)).toNat * 6)).block, (ad197.add (((ji6)).toNat * 6)).off + 3, none⟩ = some (.int .i64 ((rd_T27 l0 (ji6)).f0.f3)) ∧ w'.cell? ⟨(ad197.add (((ji6)).toNat * 6)).block, (ad197.add (((ji6)).toNat * 6)).off + 4, none⟩ = some (.int .i64 ((rd_T27 l0 (ji6)).f1)) ∧ w'.cell? ⟨(ad197.add (((ji6)).toNat * 6)).block, (ad197.add (((ji6)).toNat * 6)).off + 5, none⟩ = some (.int .i64 ((rd_T27 l0 (ji6)).f2)) ∧ w'.cell? (ad197.add ((x3_1).toNat * 6)) = some (.string ((rd_T27 l0 x3_1).f0.f0)) ∧ w'.cell? ⟨(ad197.add ((x3_1).toNat * 6)).block, (ad197.add ((x3_1).toNat * 6)).off + 1, none⟩ = some (.int .i64 ((rd_T27 l0 x3_1).f0.f1)) ∧ w'.cell? ⟨(ad197.add ((x3_1).toNat * 6)).block, (ad197.add ((x3_1).toNat * 6)).off + 2, none⟩ = some (.int .i64 ((rd_T27 l0 x3_1).f0.f2)) ∧ w'.cell? ⟨(ad197.add ((x3_1).toNat * 6)).block, (ad197.add ((x3_1).toNat * 6)).off + 3, none⟩ = some (.int .i64 ((rd_T27 l0 x3_1).f0.f3)) ∧ w'.cell? ⟨(ad197.add ((x3_1).toNat * 6)).block, (ad197.add ((x3_1).toNat * 6)).off + 4, none⟩ = some (.int .i64 ((rd_T27 l0 x3_1).f1)) ∧ w'.cell? ⟨(ad197.add ((x3_1).toNat * 6)).block, (ad197.add ((x3_1).toNat * 6)).off + 5, none⟩ = some (.int .i64 ((rd_T27 l0 x3_1).f2))) (ds := []) (tf 0 17) (by kernel_rfl) rfl rfl ⟨((HB.out.cell (World.block_lt_of_cell? w _ hw197_0)).trans hw197_0), ((HB.out.cell (World.block_lt_of_cell? w _ hw197_1)).trans hw197_1), ((HB.out.cell (World.block_lt_of_cell? w _ hw197_2)).trans hw197_2), ((HB.out.cell (World.block_lt_of_cell? w _ hw197_3)).trans hw197_3), ((HB.out.cell (World.block_lt_of_cell? w _ hw197_4)).trans hw197_4), ((HB.out.cell (World.block_lt_of_cell? w _ hw197_5)).trans hw197_5), ((HB.out.cell (World.block_lt_of_cell? w _ hw198_0)).trans hw198_0), ((HB.out.cell (World.block_lt_of_cell? w _ hw198_1)).trans hw198_1), ((HB.out.cell (World.block_lt_of_cell? w _ hw198_2)).trans hw198_2), ((HB.out.cell (World.block_lt_of_cell? w _ hw198_3)).trans hw198_3), ((HB.out.cell (World.block_lt_of_cell? w _ hw198_4)).trans hw198_4), ((HB.out.cell (World.block_lt_of_cell? w _ hw198_5)).trans hw198_5)⟩ (fun hHeld => ?_); refine with_tabW contangoref15_Check.tab6 contangoref15_Check.bits6 (fun HT_ HW_ => ?_)
    generalize wr.drew = w11 at HB hx197_0 hx197_1 hx197_2 hx197_3 hx197_4 hx197_5 hx198_0 hx198_1 hx198_2 hx198_3 hx198_4 hx198_5 hHeld ⊢
    refine pv_ 0 13 (tf 1 16) HT_ ?_
    refine pv_ 1 14 (tf 2 15) HT_ ?_
    refine pv_ 2 15 (tf 3 14) HT_ ?_
    refine pv_ 3 16 (tf 4 13) HT_ ?_
    refine pv_ 4 17 (tf 5 12) HT_ ?_
    refine pv_ 5 18 (tf 6 11) HT_ ?_
    refine pv_ 6 19 (tf 7 10) HT_ ?_
    refine pv_ 7 20 (tf 8 9) HT_ ?_
    refine pv_ 9 22 #[true, true, true, true, true, true, true, true, false, true, false, false, false, false, false, false, false] HT_ ?_
    refine pv_ 10 23 #[true, true, true, true, true, true, true, true, false, true, true, false, false, false, false, false, false] HT_ ?_
    refine pv_ 11 24 #[true, true, true, true, true, true, true, true, false, true, true, true, false, false, false, false, false] HT_ ?_
    refine pv_ 12 25 #[true, true, true, true, true, true, true, true, false, true, true, true, true, false, false, false, false] HT_ ?_
    refine take_ (i := 8) (N := some 21) (v := ?_) (a' := ?_) (tf 13 4) rfl rfl (take_ofW HT_.out HW_.out (by kernel_rfl)) (fun _ _ _ h => h) (Or.inl ⟨by rfl, ?_⟩) hHeld ?_ ?_
    rotate_left
    · rintro w' ⟨s0, s1, s2, s3, s4, s5, s6, s7, s8, s9, s10, s11⟩
      go_simp
      with_reducible rfl
    rotate_left
    · exact ap_
    refine take_ (i := 13) (N := some 26) (v := ?_) (a' := ?_) (tf 14 3) rfl rfl (take_ofW HT_.out HW_.out (by kernel_rfl)) (fun _ _ _ h => h) (Or.inl ⟨by rfl, ?_⟩) hHeld ?_ ?_
    rotate_left
    · rintro w' ⟨s0, s1, s2, s3, s4, s5, s6, s7, s8, s9, s10, s11⟩
      go_simp
      with_reducible rfl
    rotate_left
    · exact ap_
    refine one_ (i := 14) (N := some 27) (tf 15 2) rfl rfl (one_of HT_.out (by kernel_rfl)) (by decide) (fun K hK => ?_)
    refine goes_ Try.func79 (by kernel_rfl) rfl #[.agg #[.string ((rd_T27 l0 (ji6)).f0.f0), .int .i64 ((rd_T27 l0 (ji6)).f0.f1), .int .i64 ((rd_T27 l0 (ji6)).f0.f2), .int .i64 ((rd_T27 l0 (ji6)).f0.f3)], .agg #[.string ((rd_T27 l0 x3_1).f0.f0), .int .i64 ((rd_T27 l0 x3_1).f0.f1), .int .i64 ((rd_T27 l0 x3_1).f0.f2), .int .i64 ((rd_T27 l0 x3_1).f0.f3)]] (by rfl) rfl rfl (by (try simp only [List.map_toArray, List.map_cons, List.map_nil]); first | done | (simp only [hji6]; rfl) | rfl | (simp only [List.length_drop, List.length_take]; rfl)) ?_
    with_reducible refine (contangoref10_Compare.calls ((rd_T27 l0 (ji6)).f0.f0) ((rd_T27 l0 (ji6)).f0.f1) ((rd_T27 l0 (ji6)).f0.f2) ((rd_T27 l0 (ji6)).f0.f3) ((rd_T27 l0 x3_1).f0.f0) ((rd_T27 l0 x3_1).f0.f1) ((rd_T27 l0 x3_1).f0.f2) ((rd_T27 l0 x3_1).f0.f3) t199 _ A10.out).mono ?_
    rintro e w12 ⟨rfl, hb⟩
    refine ⟨_, rfl, ?_⟩
    have n0_ := Aside0.mk (below_step (bz0 HB.out) hb)
    clear HB
    have HB := n0_
    clear n0_
    (try clear hb)
    (try clear hb2)
    (try clear hk)
    (try clear hi)
    refine hK.out _ _ ⟨((HB.out.cell (World.block_lt_of_cell? w _ hw197_0)).trans hw197_0), ((HB.out.cell (World.block_lt_of_cell? w _ hw197_1)).trans hw197_1), ((HB.out.cell (World.block_lt_of_cell? w _ hw197_2)).trans hw197_2), ((HB.out.cell (World.block_lt_of_cell? w _ hw197_3)).trans hw197_3), ((HB.out.cell (World.block_lt_of_cell? w _ hw197_4)).trans hw197_4), ((HB.out.cell (World.block_lt_of_cell? w _ hw197_5)).trans hw197_5), ((HB.out.cell (World.block_lt_of_cell? w _ hw198_0)).trans hw198_0), ((HB.out.cell (World.block_lt_of_cell? w _ hw198_1)).trans hw198_1), ((HB.out.cell (World.block_lt_of_cell? w _ hw198_2)).trans hw198_2), ((HB.out.cell (World.block_lt_of_cell? w _ hw198_3)).trans hw198_3), ((HB.out.cell (World.block_lt_of_cell? w _ hw198_4)).trans hw198_4), ((HB.out.cell (World.block_lt_of_cell? w _ hw198_5)).trans hw198_5)⟩ (fun hHeld => ?_)
    clear hK K
    refine norm_ (a' := ?_) ?_ ?_
    rotate_left
    · show Act.put _ (some 27) _ = _
      simp only [Act.put, List.setIfInBounds_toArray, List.set_cons_zero, List.set_cons_succ, i64_w, i32_w]
      rfl
    refine pv_ 15 28 (tf 16 1) HT_ ?_
    refine pv_ 16 29 (tf 17 0) HT_ ?_
    refine done_ (done_of HT_.out (by kernel_rfl)) ?_
    try go_wp2
    go_meet
    case rel => exact ⟨_, (decide (t199 ≥ 0)), rf_, H', ⟨by have := HK1.out; first | omega | exact Nat.le_refl _⟩, ⟨bz0 HB.out⟩⟩
   case rest =>
    clear HC4
    try clear p1
    try clear q1
    try clear hx1
    try clear c2
    try clear c2b0
    try clear c2b1
    try clear p2
    try clear c3
    try clear c3b0
    try clear c5
    try clear c5b0
    try clear p6
    try clear c7
    try clear c7b0
    try clear c8
    try clear c8b0
    try clear c9
    try clear c9b0
    try clear hx197_0
    try clear hx197_1
    try clear hx197_2
    try clear hx197_3
    try clear hx197_4
    try clear hx197_5
    try clear hx198_0
    try clear hx198_1
    try clear hx198_2
    try clear hx198_3
    try clear hx198_4
    try clear hx198_5
    try clear p197
    try clear p198
    try clear p2
    try clear q197
    try clear q198
    obtain ⟨kq, x29_3, rfl, HA, HJ3, HB⟩ := hcut
    cases kq with
    | zero => exact absurd HA.out (by simp [contangoref15_Check.j1])
    | succ kj3 =>
     have H := HA.out
     clear HA
     simp only [contangoref15_Check.j1] at H
     by_cases c14 : x29_3 = true
     · subst c14
       have H1 : (some 19) = some r := by rw [if_pos rfl] at H; exact H
       clear H
       have H := H1
       clear H1
       obtain rfl := Option.some.inj H
       go_wp2
       go_ret
       exact ⟨by first | rfl | (simp [errW_none, errW_some] <;> rfl) | (simp [*, errW_none, errW_some] <;> rfl), bz0 HB.out⟩
     replace c14 := Bool.eq_false_iff.mpr c14
     subst c14
     have H1 : (if 0 ≤ x3_1 then (if x3_1 < (l0.length : Int) then ((contangoref15_lots.f ((rd_T27 l0 x3_1).f1)).bind fun t201 => (if t201 = true then ((contangoref15_lots.f ((rd_T27 l0 x3_1).f2)).bind fun t203 => (if t203 = true then (if (wrap64 (((rd_T27 l0 x3_1).f1) + ((rd_T27 l0 x3_1).f2))) = 0 then (some 18) else (contangoref15_Check.l0 kj3 l0 (wrap64 (x3_1 + 1)))) else (some 18))) else (some 18))) else (none)) else (none)) = some r := by rw [if_neg (show ¬ (false = true) by decide)] at H; exact H
     clear H
     have H := H1
     clear H1
     by_cases c15 : 0 ≤ x3_1
     rotate_left
     · rw [if_neg c15] at H
       exact absurd H (by simp)
     rw [if_pos c15] at H
     have c15b0 : decide (0 ≤ x3_1) = true := decide_eq_true c15
     clear c15
     by_cases c16 : x3_1 < (l0.length : Int)
     rotate_left
     · rw [if_neg c16] at H
       exact absurd H (by simp)
     rw [if_pos c16] at H
     have c16b0 : decide (x3_1 < (l0.length : Int)) = true := decide_eq_true c16
     clear c16
     replace H := Option.bind_eq_some_iff.mp H
     obtain ⟨t201, A170, H⟩ := H
     replace H : (if t201 = true then ((contangoref15_lots.f ((rd_T27 l0 x3_1).f2)).bind fun t203 => (if t203 = true then (if (wrap64 (((rd_T27 l0 x3_1).f1) + ((rd_T27 l0 x3_1).f2))) = 0 then (some 18) else (contangoref15_Check.l0 kj3 l0 (wrap64 (x3_1 + 1)))) else (some 18))) else (some 18)) = some r := H
     have A17 := Aside0.mk A170
     clear A170
     by_cases c18 : t201 = true
     rotate_left
     · replace c18 := Bool.eq_false_iff.mpr c18
       subst c18
       have H1 : (some 18) = some r := by rw [if_neg (show ¬ (false = true) by decide)] at H; exact H
       clear H
       have H := H1
       clear H1
       obtain rfl := Option.some.inj H
       try go_wp2
       have n0_ := Aside0.mk (below_drew1 HB.out)
       clear HB
       have HB := n0_
       clear n0_
       have p200 : 0 ≤ (x3_1 : Int) := od_
       have q200 : x3_1 < (l0.length : Int) := od_
       obtain ⟨ad200, e200, hx200_0, hx200_1, hx200_2, hx200_3, hx200_4, hx200_5⟩ := at_T27 HR0.out x3_1 p200 q200
       have hw200_5 := hx200_5
       have hw200_4 := hx200_4
       have hw200_3 := hx200_3
       have hw200_2 := hx200_2
       have hw200_1 := hx200_1
       have hw200_0 := hx200_0
       cases e200
       replace hx200_0 := (HB.out.cell (World.block_lt_of_cell? w _ hx200_0)).trans hx200_0
       replace hx200_1 := (HB.out.cell (World.block_lt_of_cell? w _ hx200_1)).trans hx200_1
       replace hx200_2 := (HB.out.cell (World.block_lt_of_cell? w _ hx200_2)).trans hx200_2
       replace hx200_3 := (HB.out.cell (World.block_lt_of_cell? w _ hx200_3)).trans hx200_3
       replace hx200_4 := (HB.out.cell (World.block_lt_of_cell? w _ hx200_4)).trans hx200_4
       replace hx200_5 := (HB.out.cell (World.block_lt_of_cell? w _ hx200_5)).trans hx200_5
       replace p200 := eq_true p200
       replace q200 := eq_true q200
       refine start_ (n := 30) (S := fun w' => w'.cell? (ad200.add ((x3_1).toNat * 6)) = some (.string ((rd_T27 l0 x3_1).f0.f0)) ∧ w'.cell? ⟨(ad200.add ((x3_1).toNat * 6)).block, (ad200.add ((x3_1).toNat * 6)).off + 1, none⟩ = some (.int .i64 ((rd_T27 l0 x3_1).f0.f1)) ∧ w'.cell? ⟨(ad200.add ((x3_1).toNat * 6)).block, (ad200.add ((x3_1).toNat * 6)).off + 2, none⟩ = some (.int .i64 ((rd_T27 l0 x3_1).f0.f2)) ∧ w'.cell? ⟨(ad200.add ((x3_1).toNat * 6)).block, (ad200.add ((x3_1).toNat * 6)).off + 3, none⟩ = some (.int .i64 ((rd_T27 l0 x3_1).f0.f3)) ∧ w'.cell? ⟨(ad200.add ((x3_1).toNat * 6)).block, (ad200.add ((x3_1).toNat * 6)).off + 4, none⟩ = some (.int .i64 ((rd_T27 l0 x3_1).f1)) ∧ w'.cell? ⟨(ad200.add ((x3_1).toNat * 6)).block, (ad200.add ((x3_1).toNat * 6)).off + 5, none⟩ = some (.int .i64 ((rd_T27 l0 x3_1).f2))) (ds := []) (tf 0 30) (by kernel_rfl) rfl rfl ⟨((HB.out.cell (World.block_lt_of_cell? w _ hw200_0)).trans hw200_0), ((HB.out.cell (World.block_lt_of_cell? w _ hw200_1)).trans hw200_1), ((HB.out.cell (World.block_lt_of_cell? w _ hw200_2)).trans hw200_2), ((HB.out.cell (World.block_lt_of_cell? w _ hw200_3)).trans hw200_3), ((HB.out.cell (World.block_lt_of_cell? w _ hw200_4)).trans hw200_4), ((HB.out.cell (World.block_lt_of_cell? w _ hw200_5)).trans hw200_5)⟩ (fun hHeld => ?_); refine with_tabW contangoref15_Check.tab8 contangoref15_Check.bits8 (fun HT_ HW_ => ?_)
       generalize wc.drew = w25 at HB hx200_0 hx200_1 hx200_2 hx200_3 hx200_4 hx200_5 hHeld ⊢
       refine pv_ 0 30 (tf 1 29) HT_ ?_
       refine pv_ 1 31 (tf 2 28) HT_ ?_
       refine pv_ 2 32 (tf 3 27) HT_ ?_
       refine pv_ 3 33 (tf 4 26) HT_ ?_
       refine take_ (i := 4) (N := some 34) (v := ?_) (a' := ?_) (tf 5 25) rfl rfl (take_ofW HT_.out HW_.out (by kernel_rfl)) (fun _ _ _ h => h) (Or.inl ⟨by rfl, ?_⟩) hHeld ?_ ?_
       rotate_left
       · rintro w' ⟨s0, s1, s2, s3, s4, s5⟩
         go_simp
         with_reducible rfl
       rotate_left
       · exact ap_
       refine one_ (i := 5) (N := some 35) (tf 6 24) rfl rfl (one_of HT_.out (by kernel_rfl)) (by decide) (fun K hK => ?_)
       refine goes_ Try.func80 (by kernel_rfl) rfl #[.int .i64 ((rd_T27 l0 x3_1).f1)] (by rfl) rfl rfl pm_ ?_
       with_reducible refine (contangoref15_lots.calls ((rd_T27 l0 x3_1).f1) false _ A17.out).mono ?_
       rintro e w' ⟨rfl, ⟨nd, rfl⟩⟩
       refine ⟨_, rfl, ?_⟩
       refine hK.out _ _ ⟨((HB.out.cell (World.block_lt_of_cell? w _ hw200_0)).trans hw200_0), ((HB.out.cell (World.block_lt_of_cell? w _ hw200_1)).trans hw200_1), ((HB.out.cell (World.block_lt_of_cell? w _ hw200_2)).trans hw200_2), ((HB.out.cell (World.block_lt_of_cell? w _ hw200_3)).trans hw200_3), ((HB.out.cell (World.block_lt_of_cell? w _ hw200_4)).trans hw200_4), ((HB.out.cell (World.block_lt_of_cell? w _ hw200_5)).trans hw200_5)⟩ (fun hHeld => ?_)
       clear hK K
       refine norm_ (a' := ?_) ?_ ?_
       rotate_left
       · show Act.put _ (some 35) _ = _
         simp only [Act.put, List.setIfInBounds_toArray, List.set_cons_zero, List.set_cons_succ, i64_w, i32_w]
         rfl
       refine pv_ 6 36 (tf 7 23) HT_ ?_
       refine pv_ 7 37 (tf 8 22) HT_ ?_
       refine pu_ 8 38 (tf 9 21) HT_ ?_
       refine pu_ 9 39 (tf 10 20) HT_ ?_
       refine pu_ 10 40 (tf 11 19) HT_ ?_
       refine pu_ 11 41 (tf 12 18) HT_ ?_
       refine pu_ 12 42 (tf 13 17) HT_ ?_
       refine pu_ 13 43 (tf 14 16) HT_ ?_
       refine pu_ 14 44 (tf 15 15) HT_ ?_
       refine pv_ 15 45 (tf 16 14) HT_ ?_
       refine pv_ 16 46 (tf 17 13) HT_ ?_
       refine pu_ 17 47 (tf 18 12) HT_ ?_
       refine pu_ 18 48 (tf 19 11) HT_ ?_
       refine pu_ 19 49 (tf 20 10) HT_ ?_
       refine pu_ 20 50 (tf 21 9) HT_ ?_
       refine pu_ 21 51 (tf 22 8) HT_ ?_
       refine pu_ 22 52 (tf 23 7) HT_ ?_
       refine pu_ 23 53 (tf 24 6) HT_ ?_
       refine pu_ 24 54 (tf 25 5) HT_ ?_
       refine pu_ 25 55 (tf 26 4) HT_ ?_
       refine pu_ 26 56 (tf 27 3) HT_ ?_
       refine pu_ 27 57 (tf 28 2) HT_ ?_
       refine pu_ 28 58 (tf 29 1) HT_ ?_
       refine pv_ 29 59 (tf 30 0) HT_ ?_
       refine done_ (done_of HT_.out (by kernel_rfl)) ?_
       try go_wp2
       go_ret
       exact ⟨by first | rfl | (simp [errW_none, errW_some] <;> rfl) | (simp [*, errW_none, errW_some] <;> rfl), bz0 HB.out⟩
     subst c18
     have H1 : ((contangoref15_lots.f ((rd_T27 l0 x3_1).f2)).bind fun t203 => (if t203 = true then (if (wrap64 (((rd_T27 l0 x3_1).f1) + ((rd_T27 l0 x3_1).f2))) = 0 then (some 18) else (contangoref15_Check.l0 kj3 l0 (wrap64 (x3_1 + 1)))) else (some 18))) = some r := by rw [if_pos rfl] at H; exact H
     clear H
     have H := H1
     clear H1
     replace H := Option.bind_eq_some_iff.mp H
     obtain ⟨t203, A190, H⟩ := H
     replace H : (if t203 = true then (if (wrap64 (((rd_T27 l0 x3_1).f1) + ((rd_T27 l0 x3_1).f2))) = 0 then (some 18) else (contangoref15_Check.l0 kj3 l0 (wrap64 (x3_1 + 1)))) else (some 18)) = some r := H
     have A19 := Aside0.mk A190
     clear A190
     by_cases c20 : t203 = true
     rotate_left
     · replace c20 := Bool.eq_false_iff.mpr c20
       subst c20
       have H1 : (some 18) = some r := by rw [if_neg (show ¬ (false = true) by decide)] at H; exact H
       clear H
       have H := H1
       clear H1
       obtain rfl := Option.some.inj H
       try go_wp2
       have n0_ := Aside0.mk (below_drew1 HB.out)
       clear HB
       have HB := n0_
       clear n0_
       have p200 : 0 ≤ (x3_1 : Int) := od_
       have q200 : x3_1 < (l0.length : Int) := od_
       obtain ⟨ad200, e200, hx200_0, hx200_1, hx200_2, hx200_3, hx200_4, hx200_5⟩ := at_T27 HR0.out x3_1 p200 q200
       have hw200_5 := hx200_5
       have hw200_4 := hx200_4
       have hw200_3 := hx200_3
       have hw200_2 := hx200_2
       have hw200_1 := hx200_1
       have hw200_0 := hx200_0
       cases e200
       replace hx200_0 := (HB.out.cell (World.block_lt_of_cell? w _ hx200_0)).trans hx200_0
       replace hx200_1 := (HB.out.cell (World.block_lt_of_cell? w _ hx200_1)).trans hx200_1
       replace hx200_2 := (HB.out.cell (World.block_lt_of_cell? w _ hx200_2)).trans hx200_2
       replace hx200_3 := (HB.out.cell (World.block_lt_of_cell? w _ hx200_3)).trans hx200_3
       replace hx200_4 := (HB.out.cell (World.block_lt_of_cell? w _ hx200_4)).trans hx200_4
       replace hx200_5 := (HB.out.cell (World.block_lt_of_cell? w _ hx200_5)).trans hx200_5
       replace p200 := eq_true p200
       replace q200 := eq_true q200
       have p202 : 0 ≤ (x3_1 : Int) := od_
       have q202 : x3_1 < (l0.length : Int) := od_
       obtain ⟨ad202, e202, hx202_0, hx202_1, hx202_2, hx202_3, hx202_4, hx202_5⟩ := at_T27 HR0.out x3_1 p202 q202
       have hw202_5 := hx202_5
       have hw202_4 := hx202_4
       have hw202_3 := hx202_3
       have hw202_2 := hx202_2
       have hw202_1 := hx202_1
       have hw202_0 := hx202_0
       obtain rfl : ad200 = ad202 := (by injection e202)
       replace hx202_0 := (HB.out.cell (World.block_lt_of_cell? w _ hx202_0)).trans hx202_0
       replace hx202_1 := (HB.out.cell (World.block_lt_of_cell? w _ hx202_1)).trans hx202_1
       replace hx202_2 := (HB.out.cell (World.block_lt_of_cell? w _ hx202_2)).trans hx202_2
       replace hx202_3 := (HB.out.cell (World.block_lt_of_cell? w _ hx202_3)).trans hx202_3
       replace hx202_4 := (HB.out.cell (World.block_lt_of_cell? w _ hx202_4)).trans hx202_4
       replace hx202_5 := (HB.out.cell (World.block_lt_of_cell? w _ hx202_5)).trans hx202_5
       replace p202 := eq_true p202
       replace q202 := eq_true q202
       refine start_ (n := 30) (S := fun w' => w'.cell? (ad200.add ((x3_1).toNat * 6)) = some (.string ((rd_T27 l0 x3_1).f0.f0)) ∧ w'.cell? ⟨(ad200.add ((x3_1).toNat * 6)).block, (ad200.add ((x3_1).toNat * 6)).off + 1, none⟩ = some (.int .i64 ((rd_T27 l0 x3_1).f0.f1)) ∧ w'.cell? ⟨(ad200.add ((x3_1).toNat * 6)).block, (ad200.add ((x3_1).toNat * 6)).off + 2, none⟩ = some (.int .i64 ((rd_T27 l0 x3_1).f0.f2)) ∧ w'.cell? ⟨(ad200.add ((x3_1).toNat * 6)).block, (ad200.add ((x3_1).toNat * 6)).off + 3, none⟩ = some (.int .i64 ((rd_T27 l0 x3_1).f0.f3)) ∧ w'.cell? ⟨(ad200.add ((x3_1).toNat * 6)).block, (ad200.add ((x3_1).toNat * 6)).off + 4, none⟩ = some (.int .i64 ((rd_T27 l0 x3_1).f1)) ∧ w'.cell? ⟨(ad200.add ((x3_1).toNat * 6)).block, (ad200.add ((x3_1).toNat * 6)).off + 5, none⟩ = some (.int .i64 ((rd_T27 l0 x3_1).f2)) ∧ w'.cell? (ad200.add ((x3_1).toNat * 6)) = some (.string ((rd_T27 l0 x3_1).f0.f0)) ∧ w'.cell? ⟨(ad200.add ((x3_1).toNat * 6)).block, (ad200.add ((x3_1).toNat * 6)).off + 1, none⟩ = some (.int .i64 ((rd_T27 l0 x3_1).f0.f1)) ∧ w'.cell? ⟨(ad200.add ((x3_1).toNat * 6)).block, (ad200.add ((x3_1).toNat * 6)).off + 2, none⟩ = some (.int .i64 ((rd_T27 l0 x3_1).f0.f2)) ∧ w'.cell? ⟨(ad200.add ((x3_1).toNat * 6)).block, (ad200.add ((x3_1).toNat * 6)).off + 3, none⟩ = some (.int .i64 ((rd_T27 l0 x3_1).f0.f3)) ∧ w'.cell? ⟨(ad200.add ((x3_1).toNat * 6)).block, (ad200.add ((x3_1).toNat * 6)).off + 4, none⟩ = some (.int .i64 ((rd_T27 l0 x3_1).f1)) ∧ w'.cell? ⟨(ad200.add ((x3_1).toNat * 6)).block, (ad200.add ((x3_1).toNat * 6)).off + 5, none⟩ = some (.int .i64 ((rd_T27 l0 x3_1).f2))) (ds := []) (tf 0 30) (by kernel_rfl) rfl rfl ⟨((HB.out.cell (World.block_lt_of_cell? w _ hw200_0)).trans hw200_0), ((HB.out.cell (World.block_lt_of_cell? w _ hw200_1)).trans hw200_1), ((HB.out.cell (World.block_lt_of_cell? w _ hw200_2)).trans hw200_2), ((HB.out.cell (World.block_lt_of_cell? w _ hw200_3)).trans hw200_3), ((HB.out.cell (World.block_lt_of_cell? w _ hw200_4)).trans hw200_4), ((HB.out.cell (World.block_lt_of_cell? w _ hw200_5)).trans hw200_5), ((HB.out.cell (World.block_lt_of_cell? w _ hw202_0)).trans hw202_0), ((HB.out.cell (World.block_lt_of_cell? w _ hw202_1)).trans hw202_1), ((HB.out.cell (World.block_lt_of_cell? w _ hw202_2)).trans hw202_2), ((HB.out.cell (World.block_lt_of_cell? w _ hw202_3)).trans hw202_3), ((HB.out.cell (World.block_lt_of_cell? w _ hw202_4)).trans hw202_4), ((HB.out.cell (World.block_lt_of_cell? w _ hw202_5)).trans hw202_5)⟩ (fun hHeld => ?_); refine with_tabW contangoref15_Check.tab8 contangoref15_Check.bits8 (fun HT_ HW_ => ?_)
       generalize wc.drew = w24 at HB hx200_0 hx200_1 hx200_2 hx200_3 hx200_4 hx200_5 hx202_0 hx202_1 hx202_2 hx202_3 hx202_4 hx202_5 hHeld ⊢
       refine pv_ 0 30 (tf 1 29) HT_ ?_
       refine pv_ 1 31 (tf 2 28) HT_ ?_
       refine pv_ 2 32 (tf 3 27) HT_ ?_
       refine pv_ 3 33 (tf 4 26) HT_ ?_
       refine take_ (i := 4) (N := some 34) (v := ?_) (a' := ?_) (tf 5 25) rfl rfl (take_ofW HT_.out HW_.out (by kernel_rfl)) (fun _ _ _ h => h) (Or.inl ⟨by rfl, ?_⟩) hHeld ?_ ?_
       rotate_left
       · rintro w' ⟨s0, s1, s2, s3, s4, s5, s6, s7, s8, s9, s10, s11⟩
         go_simp
         with_reducible rfl
       rotate_left
       · exact ap_
       refine one_ (i := 5) (N := some 35) (tf 6 24) rfl rfl (one_of HT_.out (by kernel_rfl)) (by decide) (fun K hK => ?_)
       refine goes_ Try.func80 (by kernel_rfl) rfl #[.int .i64 ((rd_T27 l0 x3_1).f1)] (by rfl) rfl rfl pm_ ?_
       with_reducible refine (contangoref15_lots.calls ((rd_T27 l0 x3_1).f1) true _ A17.out).mono ?_
       rintro e w' ⟨rfl, ⟨nd, rfl⟩⟩
       refine ⟨_, rfl, ?_⟩
       refine hK.out _ _ ⟨((HB.out.cell (World.block_lt_of_cell? w _ hw200_0)).trans hw200_0), ((HB.out.cell (World.block_lt_of_cell? w _ hw200_1)).trans hw200_1), ((HB.out.cell (World.block_lt_of_cell? w _ hw200_2)).trans hw200_2), ((HB.out.cell (World.block_lt_of_cell? w _ hw200_3)).trans hw200_3), ((HB.out.cell (World.block_lt_of_cell? w _ hw200_4)).trans hw200_4), ((HB.out.cell (World.block_lt_of_cell? w _ hw200_5)).trans hw200_5), ((HB.out.cell (World.block_lt_of_cell? w _ hw202_0)).trans hw202_0), ((HB.out.cell (World.block_lt_of_cell? w _ hw202_1)).trans hw202_1), ((HB.out.cell (World.block_lt_of_cell? w _ hw202_2)).trans hw202_2), ((HB.out.cell (World.block_lt_of_cell? w _ hw202_3)).trans hw202_3), ((HB.out.cell (World.block_lt_of_cell? w _ hw202_4)).trans hw202_4), ((HB.out.cell (World.block_lt_of_cell? w _ hw202_5)).trans hw202_5)⟩ (fun hHeld => ?_)
       clear hK K
       refine norm_ (a' := ?_) ?_ ?_
       rotate_left
       · show Act.put _ (some 35) _ = _
         simp only [Act.put, List.setIfInBounds_toArray, List.set_cons_zero, List.set_cons_succ, i64_w, i32_w]
         rfl
       refine pv_ 6 36 (tf 7 23) HT_ ?_
       refine pv_ 7 37 (tf 8 22) HT_ ?_
       refine pv_ 8 38 (tf 9 21) HT_ ?_
       refine pv_ 9 39 (tf 10 20) HT_ ?_
       refine pv_ 10 40 (tf 11 19) HT_ ?_
       refine pv_ 11 41 (tf 12 18) HT_ ?_
       refine take_ (i := 12) (N := some 42) (v := ?_) (a' := ?_) (tf 13 17) rfl rfl (take_ofW HT_.out HW_.out (by kernel_rfl)) (fun _ _ _ h => h) (Or.inl ⟨by rfl, ?_⟩) hHeld ?_ ?_
       rotate_left
       · rintro w' ⟨s0, s1, s2, s3, s4, s5, s6, s7, s8, s9, s10, s11⟩
         go_simp
         with_reducible rfl
       rotate_left
       · exact ap_
       refine one_ (i := 13) (N := some 43) (tf 14 16) rfl rfl (one_of HT_.out (by kernel_rfl)) (by decide) (fun K hK => ?_)
       refine goes_ Try.func80 (by kernel_rfl) rfl #[.int .i64 ((rd_T27 l0 x3_1).f2)] (by rfl) rfl rfl pm_ ?_
       with_reducible refine (contangoref15_lots.calls ((rd_T27 l0 x3_1).f2) false _ A19.out).mono ?_
       rintro e w' ⟨rfl, ⟨nd, rfl⟩⟩
       refine ⟨_, rfl, ?_⟩
       refine hK.out _ _ ⟨((HB.out.cell (World.block_lt_of_cell? w _ hw200_0)).trans hw200_0), ((HB.out.cell (World.block_lt_of_cell? w _ hw200_1)).trans hw200_1), ((HB.out.cell (World.block_lt_of_cell? w _ hw200_2)).trans hw200_2), ((HB.out.cell (World.block_lt_of_cell? w _ hw200_3)).trans hw200_3), ((HB.out.cell (World.block_lt_of_cell? w _ hw200_4)).trans hw200_4), ((HB.out.cell (World.block_lt_of_cell? w _ hw200_5)).trans hw200_5), ((HB.out.cell (World.block_lt_of_cell? w _ hw202_0)).trans hw202_0), ((HB.out.cell (World.block_lt_of_cell? w _ hw202_1)).trans hw202_1), ((HB.out.cell (World.block_lt_of_cell? w _ hw202_2)).trans hw202_2), ((HB.out.cell (World.block_lt_of_cell? w _ hw202_3)).trans hw202_3), ((HB.out.cell (World.block_lt_of_cell? w _ hw202_4)).trans hw202_4), ((HB.out.cell (World.block_lt_of_cell? w _ hw202_5)).trans hw202_5)⟩ (fun hHeld => ?_)
       clear hK K
       refine norm_ (a' := ?_) ?_ ?_
       rotate_left
       · show Act.put _ (some 43) _ = _
         simp only [Act.put, List.setIfInBounds_toArray, List.set_cons_zero, List.set_cons_succ, i64_w, i32_w]
         rfl
       refine pv_ 14 44 (tf 15 15) HT_ ?_
       refine pv_ 15 45 (tf 16 14) HT_ ?_
       refine pv_ 16 46 (tf 17 13) HT_ ?_
       refine pu_ 17 47 (tf 18 12) HT_ ?_
       refine pu_ 18 48 (tf 19 11) HT_ ?_
       refine pu_ 19 49 (tf 20 10) HT_ ?_
       refine pu_ 20 50 (tf 21 9) HT_ ?_
       refine pu_ 21 51 (tf 22 8) HT_ ?_
       refine pu_ 22 52 (tf 23 7) HT_ ?_
       refine pu_ 23 53 (tf 24 6) HT_ ?_
       refine pu_ 24 54 (tf 25 5) HT_ ?_
       refine pu_ 25 55 (tf 26 4) HT_ ?_
       refine pu_ 26 56 (tf 27 3) HT_ ?_
       refine pu_ 27 57 (tf 28 2) HT_ ?_
       refine pu_ 28 58 (tf 29 1) HT_ ?_
       refine pv_ 29 59 (tf 30 0) HT_ ?_
       refine done_ (done_of HT_.out (by kernel_rfl)) ?_
       try go_wp2
       go_ret
       exact ⟨by first | rfl | (simp [errW_none, errW_some] <;> rfl) | (simp [*, errW_none, errW_some] <;> rfl), bz0 HB.out⟩
     subst c20
     have H1 : (if (wrap64 (((rd_T27 l0 x3_1).f1) + ((rd_T27 l0 x3_1).f2))) = 0 then (some 18) else (contangoref15_Check.l0 kj3 l0 (wrap64 (x3_1 + 1)))) = some r := by rw [if_pos rfl] at H; exact H
     clear H
     have H := H1
     clear H1
     by_cases c21 : (wrap64 (((rd_T27 l0 x3_1).f1) + ((rd_T27 l0 x3_1).f2))) = 0
     · rw [if_pos c21] at H
       have c21b0 : ((wrap64 (((rd_T27 l0 x3_1).f1) + ((rd_T27 l0 x3_1).f2))) == 0) = true := beq_iff_eq.mpr c21
       have c21b1 : ((wrap64 (((rd_T27 l0 x3_1).f1) + ((rd_T27 l0 x3_1).f2))) != 0) = false := bne_eq_false_iff_eq.mpr c21
       clear c21
       obtain rfl := Option.some.inj H
       try go_wp2
       have n0_ := Aside0.mk (below_drew1 HB.out)
       clear HB
       have HB := n0_
       clear n0_
       have p200 : 0 ≤ (x3_1 : Int) := od_
       have q200 : x3_1 < (l0.length : Int) := od_
       obtain ⟨ad200, e200, hx200_0, hx200_1, hx200_2, hx200_3, hx200_4, hx200_5⟩ := at_T27 HR0.out x3_1 p200 q200
       have hw200_5 := hx200_5
       have hw200_4 := hx200_4
       have hw200_3 := hx200_3
       have hw200_2 := hx200_2
       have hw200_1 := hx200_1
       have hw200_0 := hx200_0
       cases e200
       replace hx200_0 := (HB.out.cell (World.block_lt_of_cell? w _ hx200_0)).trans hx200_0
       replace hx200_1 := (HB.out.cell (World.block_lt_of_cell? w _ hx200_1)).trans hx200_1
       replace hx200_2 := (HB.out.cell (World.block_lt_of_cell? w _ hx200_2)).trans hx200_2
       replace hx200_3 := (HB.out.cell (World.block_lt_of_cell? w _ hx200_3)).trans hx200_3
       replace hx200_4 := (HB.out.cell (World.block_lt_of_cell? w _ hx200_4)).trans hx200_4
       replace hx200_5 := (HB.out.cell (World.block_lt_of_cell? w _ hx200_5)).trans hx200_5
       replace p200 := eq_true p200
       replace q200 := eq_true q200
       have p202 : 0 ≤ (x3_1 : Int) := od_
       have q202 : x3_1 < (l0.length : Int) := od_
       obtain ⟨ad202, e202, hx202_0, hx202_1, hx202_2, hx202_3, hx202_4, hx202_5⟩ := at_T27 HR0.out x3_1 p202 q202
       have hw202_5 := hx202_5
       have hw202_4 := hx202_4
       have hw202_3 := hx202_3
       have hw202_2 := hx202_2
       have hw202_1 := hx202_1
       have hw202_0 := hx202_0
       obtain rfl : ad200 = ad202 := (by injection e202)
       replace hx202_0 := (HB.out.cell (World.block_lt_of_cell? w _ hx202_0)).trans hx202_0
       replace hx202_1 := (HB.out.cell (World.block_lt_of_cell? w _ hx202_1)).trans hx202_1
       replace hx202_2 := (HB.out.cell (World.block_lt_of_cell? w _ hx202_2)).trans hx202_2
       replace hx202_3 := (HB.out.cell (World.block_lt_of_cell? w _ hx202_3)).trans hx202_3
       replace hx202_4 := (HB.out.cell (World.block_lt_of_cell? w _ hx202_4)).trans hx202_4
       replace hx202_5 := (HB.out.cell (World.block_lt_of_cell? w _ hx202_5)).trans hx202_5
       replace p202 := eq_true p202
       replace q202 := eq_true q202
       have p204 : 0 ≤ (x3_1 : Int) := od_
       have q204 : x3_1 < (l0.length : Int) := od_
       obtain ⟨ad204, e204, hx204_0, hx204_1, hx204_2, hx204_3, hx204_4, hx204_5⟩ := at_T27 HR0.out x3_1 p204 q204
       have hw204_5 := hx204_5
       have hw204_4 := hx204_4
       have hw204_3 := hx204_3
       have hw204_2 := hx204_2
       have hw204_1 := hx204_1
       have hw204_0 := hx204_0
       obtain rfl : ad200 = ad204 := (by injection e204)
       replace hx204_0 := (HB.out.cell (World.block_lt_of_cell? w _ hx204_0)).trans hx204_0
       replace hx204_1 := (HB.out.cell (World.block_lt_of_cell? w _ hx204_1)).trans hx204_1
       replace hx204_2 := (HB.out.cell (World.block_lt_of_cell? w _ hx204_2)).trans hx204_2
       replace hx204_3 := (HB.out.cell (World.block_lt_of_cell? w _ hx204_3)).trans hx204_3
       replace hx204_4 := (HB.out.cell (World.block_lt_of_cell? w _ hx204_4)).trans hx204_4
       replace hx204_5 := (HB.out.cell (World.block_lt_of_cell? w _ hx204_5)).trans hx204_5
       replace p204 := eq_true p204
       replace q204 := eq_true q204
       have p205 : 0 ≤ (x3_1 : Int) := od_
       have q205 : x3_1 < (l0.length : Int) := od_
       obtain ⟨ad205, e205, hx205_0, hx205_1, hx205_2, hx205_3, hx205_4, hx205_5⟩ := at_T27 HR0.out x3_1 p205 q205
       have hw205_5 := hx205_5
       have hw205_4 := hx205_4
       have hw205_3 := hx205_3
       have hw205_2 := hx205_2
       have hw205_1 := hx205_1
       have hw205_0 := hx205_0
       obtain rfl : ad200 = ad205 := (by injection e205)
       replace hx205_0 := (HB.out.cell (World.block_lt_of_cell? w _ hx205_0)).trans hx205_0
       replace hx205_1 := (HB.out.cell (World.block_lt_of_cell? w _ hx205_1)).trans hx205_1
       replace hx205_2 := (HB.out.cell (World.block_lt_of_cell? w _ hx205_2)).trans hx205_2
       replace hx205_3 := (HB.out.cell (World.block_lt_of_cell? w _ hx205_3)).trans hx205_3
       replace hx205_4 := (HB.out.cell (World.block_lt_of_cell? w _ hx205_4)).trans hx205_4
       replace hx205_5 := (HB.out.cell (World.block_lt_of_cell? w _ hx205_5)).trans hx205_5
       replace p205 := eq_true p205
       replace q205 := eq_true q205
       refine start_ (n := 30) (S := fun w' => w'.cell? (ad200.add ((x3_1).toNat * 6)) = some (.string ((rd_T27 l0 x3_1).f0.f0)) ∧ w'.cell? ⟨(ad200.add ((x3_1).toNat * 6)).block, (ad200.add ((x3_1).toNat * 6)).off + 1, none⟩ = some (.int .i64 ((rd_T27 l0 x3_1).f0.f1)) ∧ w'.cell? ⟨(ad200.add ((x3_1).toNat * 6)).block, (ad200.add ((x3_1).toNat * 6)).off + 2, none⟩ = some (.int .i64 ((rd_T27 l0 x3_1).f0.f2)) ∧ w'.cell? ⟨(ad200.add ((x3_1).toNat * 6)).block, (ad200.add ((x3_1).toNat * 6)).off + 3, none⟩ = some (.int .i64 ((rd_T27 l0 x3_1).f0.f3)) ∧ w'.cell? ⟨(ad200.add ((x3_1).toNat * 6)).block, (ad200.add ((x3_1).toNat * 6)).off + 4, none⟩ = some (.int .i64 ((rd_T27 l0 x3_1).f1)) ∧ w'.cell? ⟨(ad200.add ((x3_1).toNat * 6)).block, (ad200.add ((x3_1).toNat * 6)).off + 5, none⟩ = some (.int .i64 ((rd_T27 l0 x3_1).f2)) ∧ w'.cell? (ad200.add ((x3_1).toNat * 6)) = some (.string ((rd_T27 l0 x3_1).f0.f0)) ∧ w'.cell? ⟨(ad200.add ((x3_1).toNat * 6)).block, (ad200.add ((x3_1).toNat * 6)).off + 1, none⟩ = some (.int .i64 ((rd_T27 l0 x3_1).f0.f1)) ∧ w'.cell? ⟨(ad200.add ((x3_1).toNat * 6)).block, (ad200.add ((x3_1).toNat * 6)).off + 2, none⟩ = some (.int .i64 ((rd_T27 l0 x3_1).f0.f2)) ∧ w'.cell? ⟨(ad200.add ((x3_1).toNat * 6)).block, (ad200.add ((x3_1).toNat * 6)).off + 3, none⟩ = some (.int .i64 ((rd_T27 l0 x3_1).f0.f3)) ∧ w'.cell? ⟨(ad200.add ((x3_1).toNat * 6)).block, (ad200.add ((x3_1).toNat * 6)).off + 4, none⟩ = some (.int .i64 ((rd_T27 l0 x3_1).f1)) ∧ w'.cell? ⟨(ad200.add ((x3_1).toNat * 6)).block, (ad200.add ((x3_1).toNat * 6)).off + 5, none⟩ = some (.int .i64 ((rd_T27 l0 x3_1).f2)) ∧ w'.cell? (ad200.add ((x3_1).toNat * 6)) = some (.string ((rd_T27 l0 x3_1).f0.f0)) ∧ w'.cell? ⟨(ad200.add ((x3_1).toNat * 6)).block, (ad200.add ((x3_1).toNat * 6)).off + 1, none⟩ = some (.int .i64 ((rd_T27 l0 x3_1).f0.f1)) ∧ w'.cell? ⟨(ad200.add ((x3_1).toNat * 6)).block, (ad200.add ((x3_1).toNat * 6)).off + 2, none⟩ = some (.int .i64 ((rd_T27 l0 x3_1).f0.f2)) ∧ w'.cell? ⟨(ad200.add ((x3_1).toNat * 6)).block, (ad200.add ((x3_1).toNat * 6)).off + 3, none⟩ = some (.int .i64 ((rd_T27 l0 x3_1).f0.f3)) ∧ w'.cell? ⟨(ad200.add ((x3_1).toNat * 6)).block, (ad200.add ((x3_1).toNat * 6)).off + 4, none⟩ = some (.int .i64 ((rd_T27 l0 x3_1).f1)) ∧ w'.cell? ⟨(ad200.add ((x3_1).toNat * 6)).block, (ad200.add ((x3_1).toNat * 6)).off + 5, none⟩ = some (.int .i64 ((rd_T27 l0 x3_1).f2)) ∧ w'.cell? (ad200.add ((x3_1).toNat * 6)) = some (.string ((rd_T27 l0 x3_1).f0.f0)) ∧ w'.cell? ⟨(ad200.add ((x3_1).toNat * 6)).block, (ad200.add ((x3_1).toNat * 6)).off + 1, none⟩ = some (.int .i64 ((rd_T27 l0 x3_1).f0.f1)) ∧ w'.cell? ⟨(ad200.add ((x3_1).toNat * 6)).block, (ad200.add ((x3_1).toNat * 6)).off + 2, none⟩ = some (.int .i64 ((rd_T27 l0 x3_1).f0.f2)) ∧ w'.cell? ⟨(ad200.add ((x3_1).toNat * 6)).block, (ad200.add ((x3_1).toNat * 6)).off + 3, none⟩ = some (.int .i64 ((rd_T27 l0 x3_1).f0.f3)) ∧ w'.cell? ⟨(ad200.add ((x3_1).toNat * 6)).block, (ad200.add ((x3_1).toNat * 6)).off + 4, none⟩ = some (.int .i64 ((rd_T27 l0 x3_1).f1)) ∧ w'.cell? ⟨(ad200.add ((x3_1).toNat * 6)).block, (ad200.add ((x3_1).toNat * 6)).off + 5, none⟩ = some (.int .i64 ((rd_T27 l0 x3_1).f2))) (ds := []) (tf 0 30) (by kernel_rfl) rfl rfl ⟨((HB.out.cell (World.block_lt_of_cell? w _ hw200_0)).trans hw200_0), ((HB.out.cell (World.block_lt_of_cell? w _ hw200_1)).trans hw200_1), ((HB.out.cell (World.block_lt_of_cell? w _ hw200_2)).trans hw200_2), ((HB.out.cell (World.block_lt_of_cell? w _ hw200_3)).trans hw200_3), ((HB.out.cell (World.block_lt_of_cell? w _ hw200_4)).trans hw200_4), ((HB.out.cell (World.block_lt_of_cell? w _ hw200_5)).trans hw200_5), ((HB.out.cell (World.block_lt_of_cell? w _ hw202_0)).trans hw202_0), ((HB.out.cell (World.block_lt_of_cell? w _ hw202_1)).trans hw202_1), ((HB.out.cell (World.block_lt_of_cell? w _ hw202_2)).trans hw202_2), ((HB.out.cell (World.block_lt_of_cell? w _ hw202_3)).trans hw202_3), ((HB.out.cell (World.block_lt_of_cell? w _ hw202_4)).trans hw202_4), ((HB.out.cell (World.block_lt_of_cell? w _ hw202_5)).trans hw202_5), ((HB.out.cell (World.block_lt_of_cell? w _ hw204_0)).trans hw204_0), ((HB.out.cell (World.block_lt_of_cell? w _ hw204_1)).trans hw204_1), ((HB.out.cell (World.block_lt_of_cell? w _ hw204_2)).trans hw204_2), ((HB.out.cell (World.block_lt_of_cell? w _ hw204_3)).trans hw204_3), ((HB.out.cell (World.block_lt_of_cell? w _ hw204_4)).trans hw204_4), ((HB.out.cell (World.block_lt_of_cell? w _ hw204_5)).trans hw204_5), ((HB.out.cell (World.block_lt_of_cell? w _ hw205_0)).trans hw205_0), ((HB.out.cell (World.block_lt_of_cell? w _ hw205_1)).trans hw205_1), ((HB.out.cell (World.block_lt_of_cell? w _ hw205_2)).trans hw205_2), ((HB.out.cell (World.block_lt_of_cell? w _ hw205_3)).trans hw205_3), ((HB.out.cell (World.block_lt_of_cell? w _ hw205_4)).trans hw205_4), ((HB.out.cell (World.block_lt_of_cell? w _ hw205_5)).trans hw205_5)⟩ (fun hHeld => ?_); refine with_tabW contangoref15_Check.tab8 contangoref15_Check.bits8 (fun HT_ HW_ => ?_)
       generalize wc.drew = w22 at HB hx200_0 hx200_1 hx200_2 hx200_3 hx200_4 hx200_5 hx202_0 hx202_1 hx202_2 hx202_3 hx202_4 hx202_5 hx204_0 hx204_1 hx204_2 hx204_3 hx204_4 hx204_5 hx205_0 hx205_1 hx205_2 hx205_3 hx205_4 hx205_5 hHeld ⊢
       refine pv_ 0 30 (tf 1 29) HT_ ?_
       refine pv_ 1 31 (tf 2 28) HT_ ?_
       refine pv_ 2 32 (tf 3 27) HT_ ?_
       refine pv_ 3 33 (tf 4 26) HT_ ?_
       refine take_ (i := 4) (N := some 34) (v := ?_) (a' := ?_) (tf 5 25) rfl rfl (take_ofW HT_.out HW_.out (by kernel_rfl)) (fun _ _ _ h => h) (Or.inl ⟨by rfl, ?_⟩) hHeld ?_ ?_
       rotate_left
       · rintro w' ⟨s0, s1, s2, s3, s4, s5, s6, s7, s8, s9, s10, s11, s12, s13, s14, s15, s16, s17, s18, s19, s20, s21, s22, s23⟩
         go_simp
         with_reducible rfl
       rotate_left
       · exact ap_
       refine one_ (i := 5) (N := some 35) (tf 6 24) rfl rfl (one_of HT_.out (by kernel_rfl)) (by decide) (fun K hK => ?_)
       refine goes_ Try.func80 (by kernel_rfl) rfl #[.int .i64 ((rd_T27 l0 x3_1).f1)] (by rfl) rfl rfl pm_ ?_
       with_reducible refine (contangoref15_lots.calls ((rd_T27 l0 x3_1).f1) true _ A17.out).mono ?_
       rintro e w' ⟨rfl, ⟨nd, rfl⟩⟩
       refine ⟨_, rfl, ?_⟩
       refine hK.out _ _ ⟨((HB.out.cell (World.block_lt_of_cell? w _ hw200_0)).trans hw200_0), ((HB.out.cell (World.block_lt_of_cell? w _ hw200_1)).trans hw200_1), ((HB.out.cell (World.block_lt_of_cell? w _ hw200_2)).trans hw200_2), ((HB.out.cell (World.block_lt_of_cell? w _ hw200_3)).trans hw200_3), ((HB.out.cell (World.block_lt_of_cell? w _ hw200_4)).trans hw200_4), ((HB.out.cell (World.block_lt_of_cell? w _ hw200_5)).trans hw200_5), ((HB.out.cell (World.block_lt_of_cell? w _ hw202_0)).trans hw202_0), ((HB.out.cell (World.block_lt_of_cell? w _ hw202_1)).trans hw202_1), ((HB.out.cell (World.block_lt_of_cell? w _ hw202_2)).trans hw202_2), ((HB.out.cell (World.block_lt_of_cell? w _ hw202_3)).trans hw202_3), ((HB.out.cell (World.block_lt_of_cell? w _ hw202_4)).trans hw202_4), ((HB.out.cell (World.block_lt_of_cell? w _ hw202_5)).trans hw202_5), ((HB.out.cell (World.block_lt_of_cell? w _ hw204_0)).trans hw204_0), ((HB.out.cell (World.block_lt_of_cell? w _ hw204_1)).trans hw204_1), ((HB.out.cell (World.block_lt_of_cell? w _ hw204_2)).trans hw204_2), ((HB.out.cell (World.block_lt_of_cell? w _ hw204_3)).trans hw204_3), ((HB.out.cell (World.block_lt_of_cell? w _ hw204_4)).trans hw204_4), ((HB.out.cell (World.block_lt_of_cell? w _ hw204_5)).trans hw204_5), ((HB.out.cell (World.block_lt_of_cell? w _ hw205_0)).trans hw205_0), ((HB.out.cell (World.block_lt_of_cell? w _ hw205_1)).trans hw205_1), ((HB.out.cell (World.block_lt_of_cell? w _ hw205_2)).trans hw205_2), ((HB.out.cell (World.block_lt_of_cell? w _ hw205_3)).trans hw205_3), ((HB.out.cell (World.block_lt_of_cell? w _ hw205_4)).trans hw205_4), ((HB.out.cell (World.block_lt_of_cell? w _ hw205_5)).trans hw205_5)⟩ (fun hHeld => ?_)
       clear hK K
       refine norm_ (a' := ?_) ?_ ?_
       rotate_left
       · show Act.put _ (some 35) _ = _
         simp only [Act.put, List.setIfInBounds_toArray, List.set_cons_zero, List.set_cons_succ, i64_w, i32_w]
         rfl
       refine pv_ 6 36 (tf 7 23) HT_ ?_
       refine pv_ 7 37 (tf 8 22) HT_ ?_
       refine pv_ 8 38 (tf 9 21) HT_ ?_
       refine pv_ 9 39 (tf 10 20) HT_ ?_
       refine pv_ 10 40 (tf 11 19) HT_ ?_
       refine pv_ 11 41 (tf 12 18) HT_ ?_
       refine take_ (i := 12) (N := some 42) (v := ?_) (a' := ?_) (tf 13 17) rfl rfl (take_ofW HT_.out HW_.out (by kernel_rfl)) (fun _ _ _ h => h) (Or.inl ⟨by rfl, ?_⟩) hHeld ?_ ?_
       rotate_left
       · rintro w' ⟨s0, s1, s2, s3, s4, s5, s6, s7, s8, s9, s10, s11, s12, s13, s14, s15, s16, s17, s18, s19, s20, s21, s22, s23⟩
         go_simp
         with_reducible rfl
       rotate_left
       · exact ap_
       refine one_ (i := 13) (N := some 43) (tf 14 16) rfl rfl (one_of HT_.out (by kernel_rfl)) (by decide) (fun K hK => ?_)
       refine goes_ Try.func80 (by kernel_rfl) rfl #[.int .i64 ((rd_T27 l0 x3_1).f2)] (by rfl) rfl rfl pm_ ?_
       with_reducible refine (contangoref15_lots.calls ((rd_T27 l0 x3_1).f2) true _ A19.out).mono ?_
       rintro e w' ⟨rfl, ⟨nd, rfl⟩⟩
       refine ⟨_, rfl, ?_⟩
       refine hK.out _ _ ⟨((HB.out.cell (World.block_lt_of_cell? w _ hw200_0)).trans hw200_0), ((HB.out.cell (World.block_lt_of_cell? w _ hw200_1)).trans hw200_1), ((HB.out.cell (World.block_lt_of_cell? w _ hw200_2)).trans hw200_2), ((HB.out.cell (World.block_lt_of_cell? w _ hw200_3)).trans hw200_3), ((HB.out.cell (World.block_lt_of_cell? w _ hw200_4)).trans hw200_4), ((HB.out.cell (World.block_lt_of_cell? w _ hw200_5)).trans hw200_5), ((HB.out.cell (World.block_lt_of_cell? w _ hw202_0)).trans hw202_0), ((HB.out.cell (World.block_lt_of_cell? w _ hw202_1)).trans hw202_1), ((HB.out.cell (World.block_lt_of_cell? w _ hw202_2)).trans hw202_2), ((HB.out.cell (World.block_lt_of_cell? w _ hw202_3)).trans hw202_3), ((HB.out.cell (World.block_lt_of_cell? w _ hw202_4)).trans hw202_4), ((HB.out.cell (World.block_lt_of_cell? w _ hw202_5)).trans hw202_5), ((HB.out.cell (World.block_lt_of_cell? w _ hw204_0)).trans hw204_0), ((HB.out.cell (World.block_lt_of_cell? w _ hw204_1)).trans hw204_1), ((HB.out.cell (World.block_lt_of_cell? w _ hw204_2)).trans hw204_2), ((HB.out.cell (World.block_lt_of_cell? w _ hw204_3)).trans hw204_3), ((HB.out.cell (World.block_lt_of_cell? w _ hw204_4)).trans hw204_4), ((HB.out.cell (World.block_lt_of_cell? w _ hw204_5)).trans hw204_5), ((HB.out.cell (World.block_lt_of_cell? w _ hw205_0)).trans hw205_0), ((HB.out.cell (World.block_lt_of_cell? w _ hw205_1)).trans hw205_1), ((HB.out.cell (World.block_lt_of_cell? w _ hw205_2)).trans hw205_2), ((HB.out.cell (World.block_lt_of_cell? w _ hw205_3)).trans hw205_3), ((HB.out.cell (World.block_lt_of_cell? w _ hw205_4)).trans hw205_4), ((HB.out.cell (World.block_lt_of_cell? w _ hw205_5)).trans hw205_5)⟩ (fun hHeld => ?_)
       clear hK K
       refine norm_ (a' := ?_) ?_ ?_
       rotate_left
       · show Act.put _ (some 43) _ = _
         simp only [Act.put, List.setIfInBounds_toArray, List.set_cons_zero, List.set_cons_succ, i64_w, i32_w]
         rfl
       refine pv_ 14 44 (tf 15 15) HT_ ?_
       refine pv_ 15 45 (tf 16 14) HT_ ?_
       refine pv_ 16 46 (tf 17 13) HT_ ?_
       refine pv_ 17 47 (tf 18 12) HT_ ?_
       refine pv_ 18 48 (tf 19 11) HT_ ?_
       refine pv_ 19 49 (tf 20 10) HT_ ?_
       refine pv_ 20 50 (tf 21 9) HT_ ?_
       refine pv_ 22 52 #[true, true, true, true, true, true, true, true, true, true, true, true, true, true, true, true, true, true, true, true, true, false, true, false, false, false, false, false, false, false] HT_ ?_
       refine pv_ 23 53 #[true, true, true, true, true, true, true, true, true, true, true, true, true, true, true, true, true, true, true, true, true, false, true, true, false, false, false, false, false, false] HT_ ?_
       refine pv_ 24 54 #[true, true, true, true, true, true, true, true, true, true, true, true, true, true, true, true, true, true, true, true, true, false, true, true, true, false, false, false, false, false] HT_ ?_
       refine pv_ 25 55 #[true, true, true, true, true, true, true, true, true, true, true, true, true, true, true, true, true, true, true, true, true, false, true, true, true, true, false, false, false, false] HT_ ?_
       refine take_ (i := 21) (N := some 51) (v := ?_) (a' := ?_) (tf 26 4) rfl rfl (take_ofW HT_.out HW_.out (by kernel_rfl)) (fun _ _ _ h => h) (Or.inl ⟨by rfl, ?_⟩) hHeld ?_ ?_
       rotate_left
       · rintro w' ⟨s0, s1, s2, s3, s4, s5, s6, s7, s8, s9, s10, s11, s12, s13, s14, s15, s16, s17, s18, s19, s20, s21, s22, s23⟩
         go_simp
         with_reducible rfl
       rotate_left
       · exact ap_
       refine take_ (i := 26) (N := some 56) (v := ?_) (a' := ?_) (tf 27 3) rfl rfl (take_ofW HT_.out HW_.out (by kernel_rfl)) (fun _ _ _ h => h) (Or.inl ⟨by rfl, ?_⟩) hHeld ?_ ?_
       rotate_left
       · rintro w' ⟨s0, s1, s2, s3, s4, s5, s6, s7, s8, s9, s10, s11, s12, s13, s14, s15, s16, s17, s18, s19, s20, s21, s22, s23⟩
         go_simp
         with_reducible rfl
       rotate_left
       · exact ap_
       refine pv_ 27 57 (tf 28 2) HT_ ?_
       refine pv_ 28 58 (tf 29 1) HT_ ?_
       refine pv_ 29 59 (tf 30 0) HT_ ?_
       refine done_ (done_of HT_.out (by kernel_rfl)) ?_
       try go_wp2
       go_ret
       exact ⟨by first | rfl | (simp [errW_none, errW_some] <;> rfl) | (simp [*, errW_none, errW_some] <;> rfl), bz0 HB.out⟩
     rw [if_neg c21] at H
     have c21b0 : ((wrap64 (((rd_T27 l0 x3_1).f1) + ((rd_T27 l0 x3_1).f2))) == 0) = false := beq_eq_false_iff_ne.mpr c21
     have c21b1 : ((wrap64 (((rd_T27 l0 x3_1).f1) + ((rd_T27 l0 x3_1).f2))) != 0) = true := bne_iff_ne.mpr c21
     have H' := Aside0.mk H
     clear H
     try go_wp2
     have n0_ := Aside0.mk (below_drew1 HB.out)
     clear HB
     have HB := n0_
     clear n0_
     have p200 : 0 ≤ (x3_1 : Int) := od_
     have q200 : x3_1 < (l0.length : Int) := od_
     obtain ⟨ad200, e200, hx200_0, hx200_1, hx200_2, hx200_3, hx200_4, hx200_5⟩ := at_T27 HR0.out x3_1 p200 q200
     have hw200_5 := hx200_5
     have hw200_4 := hx200_4
     have hw200_3 := hx200_3
     have hw200_2 := hx200_2
     have hw200_1 := hx200_1
     have hw200_0 := hx200_0
     cases e200
     replace hx200_0 := (HB.out.cell (World.block_lt_of_cell? w _ hx200_0)).trans hx200_0
     replace hx200_1 := (HB.out.cell (World.block_lt_of_cell? w _ hx200_1)).trans hx200_1
     replace hx200_2 := (HB.out.cell (World.block_lt_of_cell? w _ hx200_2)).trans hx200_2
     replace hx200_3 := (HB.out.cell (World.block_lt_of_cell? w _ hx200_3)).trans hx200_3
     replace hx200_4 := (HB.out.cell (World.block_lt_of_cell? w _ hx200_4)).trans hx200_4
     replace hx200_5 := (HB.out.cell (World.block_lt_of_cell? w _ hx200_5)).trans hx200_5
     replace p200 := eq_true p200
     replace q200 := eq_true q200
     have p202 : 0 ≤ (x3_1 : Int) := od_
     have q202 : x3_1 < (l0.length : Int) := od_
     obtain ⟨ad202, e202, hx202_0, hx202_1, hx202_2, hx202_3, hx202_4, hx202_5⟩ := at_T27 HR0.out x3_1 p202 q202
     have hw202_5 := hx202_5
     have hw202_4 := hx202_4
     have hw202_3 := hx202_3
     have hw202_2 := hx202_2
     have hw202_1 := hx202_1
     have hw202_0 := hx202_0
     obtain rfl : ad200 = ad202 := (by injection e202)
     replace hx202_0 := (HB.out.cell (World.block_lt_of_cell? w _ hx202_0)).trans hx202_0
     replace hx202_1 := (HB.out.cell (World.block_lt_of_cell? w _ hx202_1)).trans hx202_1
     replace hx202_2 := (HB.out.cell (World.block_lt_of_cell? w _ hx202_2)).trans hx202_2
     replace hx202_3 := (HB.out.cell (World.block_lt_of_cell? w _ hx202_3)).trans hx202_3
     replace hx202_4 := (HB.out.cell (World.block_lt_of_cell? w _ hx202_4)).trans hx202_4
     replace hx202_5 := (HB.out.cell (World.block_lt_of_cell? w _ hx202_5)).trans hx202_5
     replace p202 := eq_true p202
     replace q202 := eq_true q202
     have p204 : 0 ≤ (x3_1 : Int) := od_
     have q204 : x3_1 < (l0.length : Int) := od_
     obtain ⟨ad204, e204, hx204_0, hx204_1, hx204_2, hx204_3, hx204_4, hx204_5⟩ := at_T27 HR0.out x3_1 p204 q204
     have hw204_5 := hx204_5
     have hw204_4 := hx204_4
     have hw204_3 := hx204_3
     have hw204_2 := hx204_2
     have hw204_1 := hx204_1
     have hw204_0 := hx204_0
     obtain rfl : ad200 = ad204 := (by injection e204)
     replace hx204_0 := (HB.out.cell (World.block_lt_of_cell? w _ hx204_0)).trans hx204_0
     replace hx204_1 := (HB.out.cell (World.block_lt_of_cell? w _ hx204_1)).trans hx204_1
     replace hx204_2 := (HB.out.cell (World.block_lt_of_cell? w _ hx204_2)).trans hx204_2
     replace hx204_3 := (HB.out.cell (World.block_lt_of_cell? w _ hx204_3)).trans hx204_3
     replace hx204_4 := (HB.out.cell (World.block_lt_of_cell? w _ hx204_4)).trans hx204_4
     replace hx204_5 := (HB.out.cell (World.block_lt_of_cell? w _ hx204_5)).trans hx204_5
     replace p204 := eq_true p204
     replace q204 := eq_true q204
     have p205 : 0 ≤ (x3_1 : Int) := od_
     have q205 : x3_1 < (l0.length : Int) := od_
     obtain ⟨ad205, e205, hx205_0, hx205_1, hx205_2, hx205_3, hx205_4, hx205_5⟩ := at_T27 HR0.out x3_1 p205 q205
     have hw205_5 := hx205_5
     have hw205_4 := hx205_4
     have hw205_3 := hx205_3
     have hw205_2 := hx205_2
     have hw205_1 := hx205_1
     have hw205_0 := hx205_0
     obtain rfl : ad200 = ad205 := (by injection e205)
     replace hx205_0 := (HB.out.cell (World.block_lt_of_cell? w _ hx205_0)).trans hx205_0
     replace hx205_1 := (HB.out.cell (World.block_lt_of_cell? w _ hx205_1)).trans hx205_1
     replace hx205_2 := (HB.out.cell (World.block_lt_of_cell? w _ hx205_2)).trans hx205_2
     replace hx205_3 := (HB.out.cell (World.block_lt_of_cell? w _ hx205_3)).trans hx205_3
     replace hx205_4 := (HB.out.cell (World.block_lt_of_cell? w _ hx205_4)).trans hx205_4
     replace hx205_5 := (HB.out.cell (World.block_lt_of_cell? w _ hx205_5)).trans hx205_5
     replace p205 := eq_true p205
     replace q205 := eq_true q205
     refine start_ (n := 30) (S := fun w' => w'.cell? (ad200.add ((x3_1).toNat * 6)) = some (.string ((rd_T27 l0 x3_1).f0.f0)) ∧ w'.cell? ⟨(ad200.add ((x3_1).toNat * 6)).block, (ad200.add ((x3_1).toNat * 6)).off + 1, none⟩ = some (.int .i64 ((rd_T27 l0 x3_1).f0.f1)) ∧ w'.cell? ⟨(ad200.add ((x3_1).toNat * 6)).block, (ad200.add ((x3_1).toNat * 6)).off + 2, none⟩ = some (.int .i64 ((rd_T27 l0 x3_1).f0.f2)) ∧ w'.cell? ⟨(ad200.add ((x3_1).toNat * 6)).block, (ad200.add ((x3_1).toNat * 6)).off + 3, none⟩ = some (.int .i64 ((rd_T27 l0 x3_1).f0.f3)) ∧ w'.cell? ⟨(ad200.add ((x3_1).toNat * 6)).block, (ad200.add ((x3_1).toNat * 6)).off + 4, none⟩ = some (.int .i64 ((rd_T27 l0 x3_1).f1)) ∧ w'.cell? ⟨(ad200.add ((x3_1).toNat * 6)).block, (ad200.add ((x3_1).toNat * 6)).off + 5, none⟩ = some (.int .i64 ((rd_T27 l0 x3_1).f2)) ∧ w'.cell? (ad200.add ((x3_1).toNat * 6)) = some (.string ((rd_T27 l0 x3_1).f0.f0)) ∧ w'.cell? ⟨(ad200.add ((x3_1).toNat * 6)).block, (ad200.add ((x3_1).toNat * 6)).off + 1, none⟩ = some (.int .i64 ((rd_T27 l0 x3_1).f0.f1)) ∧ w'.cell? ⟨(ad200.add ((x3_1).toNat * 6)).block, (ad200.add ((x3_1).toNat * 6)).off + 2, none⟩ = some (.int .i64 ((rd_T27 l0 x3_1).f0.f2)) ∧ w'.cell? ⟨(ad200.add ((x3_1).toNat * 6)).block, (ad200.add ((x3_1).toNat * 6)).off + 3, none⟩ = some (.int .i64 ((rd_T27 l0 x3_1).f0.f3)) ∧ w'.cell? ⟨(ad200.add ((x3_1).toNat * 6)).block, (ad200.add ((x3_1).toNat * 6)).off + 4, none⟩ = some (.int .i64 ((rd_T27 l0 x3_1).f1)) ∧ w'.cell? ⟨(ad200.add ((x3_1).toNat * 6)).block, (ad200.add ((x3_1).toNat * 6)).off + 5, none⟩ = some (.int .i64 ((rd_T27 l0 x3_1).f2)) ∧ w'.cell? (ad200.add ((x3_1).toNat * 6)) = some (.string ((rd_T27 l0 x3_1).f0.f0)) ∧ w'.cell? ⟨(ad200.add ((x3_1).toNat * 6)).block, (ad200.add ((x3_1).toNat * 6)).off + 1, none⟩ = some (.int .i64 ((rd_T27 l0 x3_1).f0.f1)) ∧ w'.cell? ⟨(ad200.add ((x3_1).toNat * 6)).block, (ad200.add ((x3_1).toNat * 6)).off + 2, none⟩ = some (.int .i64 ((rd_T27 l0 x3_1).f0.f2)) ∧ w'.cell? ⟨(ad200.add ((x3_1).toNat * 6)).block, (ad200.add ((x3_1).toNat * 6)).off + 3, none⟩ = some (.int .i64 ((rd_T27 l0 x3_1).f0.f3)) ∧ w'.cell? ⟨(ad200.add ((x3_1).toNat * 6)).block, (ad200.add ((x3_1).toNat * 6)).off + 4, none⟩ = some (.int .i64 ((rd_T27 l0 x3_1).f1)) ∧ w'.cell? ⟨(ad200.add ((x3_1).toNat * 6)).block, (ad200.add ((x3_1).toNat * 6)).off + 5, none⟩ = some (.int .i64 ((rd_T27 l0 x3_1).f2)) ∧ w'.cell? (ad200.add ((x3_1).toNat * 6)) = some (.string ((rd_T27 l0 x3_1).f0.f0)) ∧ w'.cell? ⟨(ad200.add ((x3_1).toNat * 6)).block, (ad200.add ((x3_1).toNat * 6)).off + 1, none⟩ = some (.int .i64 ((rd_T27 l0 x3_1).f0.f1)) ∧ w'.cell? ⟨(ad200.add ((x3_1).toNat * 6)).block, (ad200.add ((x3_1).toNat * 6)).off + 2, none⟩ = some (.int .i64 ((rd_T27 l0 x3_1).f0.f2)) ∧ w'.cell? ⟨(ad200.add ((x3_1).toNat * 6)).block, (ad200.add ((x3_1).toNat * 6)).off + 3, none⟩ = some (.int .i64 ((rd_T27 l0 x3_1).f0.f3)) ∧ w'.cell? ⟨(ad200.add ((x3_1).toNat * 6)).block, (ad200.add ((x3_1).toNat * 6)).off + 4, none⟩ = some (.int .i64 ((rd_T27 l0 x3_1).f1)) ∧ w'.cell? ⟨(ad200.add ((x3_1).toNat * 6)).block, (ad200.add ((x3_1).toNat * 6)).off + 5, none⟩ = some (.int .i64 ((rd_T27 l0 x3_1).f2))) (ds := []) (tf 0 30) (by kernel_rfl) rfl rfl ⟨((HB.out.cell (World.block_lt_of_cell? w _ hw200_0)).trans hw200_0), ((HB.out.cell (World.block_lt_of_cell? w _ hw200_1)).trans hw200_1), ((HB.out.cell (World.block_lt_of_cell? w _ hw200_2)).trans hw200_2), ((HB.out.cell (World.block_lt_of_cell? w _ hw200_3)).trans hw200_3), ((HB.out.cell (World.block_lt_of_cell? w _ hw200_4)).trans hw200_4), ((HB.out.cell (World.block_lt_of_cell? w _ hw200_5)).trans hw200_5), ((HB.out.cell (World.block_lt_of_cell? w _ hw202_0)).trans hw202_0), ((HB.out.cell (World.block_lt_of_cell? w _ hw202_1)).trans hw202_1), ((HB.out.cell (World.block_lt_of_cell? w _ hw202_2)).trans hw202_2), ((HB.out.cell (World.block_lt_of_cell? w _ hw202_3)).trans hw202_3), ((HB.out.cell (World.block_lt_of_cell? w _ hw202_4)).trans hw202_4), ((HB.out.cell (World.block_lt_of_cell? w _ hw202_5)).trans hw202_5), ((HB.out.cell (World.block_lt_of_cell? w _ hw204_0)).trans hw204_0), ((HB.out.cell (World.block_lt_of_cell? w _ hw204_1)).trans hw204_1), ((HB.out.cell (World.block_lt_of_cell? w _ hw204_2)).trans hw204_2), ((HB.out.cell (World.block_lt_of_cell? w _ hw204_3)).trans hw204_3), ((HB.out.cell (World.block_lt_of_cell? w _ hw204_4)).trans hw204_4), ((HB.out.cell (World.block_lt_of_cell? w _ hw204_5)).trans hw204_5), ((HB.out.cell (World.block_lt_of_cell? w _ hw205_0)).trans hw205_0), ((HB.out.cell (World.block_lt_of_cell? w _ hw205_1)).trans hw205_1), ((HB.out.cell (World.block_lt_of_cell? w _ hw205_2)).trans hw205_2), ((HB.out.cell (World.block_lt_of_cell? w _ hw205_3)).trans hw205_3), ((HB.out.cell (World.block_lt_of_cell? w _ hw205_4)).trans hw205_4), ((HB.out.cell (World.block_lt_of_cell? w _ hw205_5)).trans hw205_5)⟩ (fun hHeld => ?_); refine with_tabW contangoref15_Check.tab8 contangoref15_Check.bits8 (fun HT_ HW_ => ?_)
     generalize wc.drew = w23 at HB hx200_0 hx200_1 hx200_2 hx200_3 hx200_4 hx200_5 hx202_0 hx202_1 hx202_2 hx202_3 hx202_4 hx202_5 hx204_0 hx204_1 hx204_2 hx204_3 hx204_4 hx204_5 hx205_0 hx205_1 hx205_2 hx205_3 hx205_4 hx205_5 hHeld ⊢
     refine pv_ 0 30 (tf 1 29) HT_ ?_
     refine pv_ 1 31 (tf 2 28) HT_ ?_
     refine pv_ 2 32 (tf 3 27) HT_ ?_
     refine pv_ 3 33 (tf 4 26) HT_ ?_
     refine take_ (i := 4) (N := some 34) (v := ?_) (a' := ?_) (tf 5 25) rfl rfl (take_ofW HT_.out HW_.out (by kernel_rfl)) (fun _ _ _ h => h) (Or.inl ⟨by rfl, ?_⟩) hHeld ?_ ?_
     rotate_left
     · rintro w' ⟨s0, s1, s2, s3, s4, s5, s6, s7, s8, s9, s10, s11, s12, s13, s14, s15, s16, s17, s18, s19, s20, s21, s22, s23⟩
       go_simp
       with_reducible rfl
     rotate_left
     · exact ap_
     refine one_ (i := 5) (N := some 35) (tf 6 24) rfl rfl (one_of HT_.out (by kernel_rfl)) (by decide) (fun K hK => ?_)
     refine goes_ Try.func80 (by kernel_rfl) rfl #[.int .i64 ((rd_T27 l0 x3_1).f1)] (by rfl) rfl rfl pm_ ?_
     with_reducible refine (contangoref15_lots.calls ((rd_T27 l0 x3_1).f1) true _ A17.out).mono ?_
     rintro e w' ⟨rfl, ⟨nd, rfl⟩⟩
     refine ⟨_, rfl, ?_⟩
     refine hK.out _ _ ⟨((HB.out.cell (World.block_lt_of_cell? w _ hw200_0)).trans hw200_0), ((HB.out.cell (World.block_lt_of_cell? w _ hw200_1)).trans hw200_1), ((HB.out.cell (World.block_lt_of_cell? w _ hw200_2)).trans hw200_2), ((HB.out.cell (World.block_lt_of_cell? w _ hw200_3)).trans hw200_3), ((HB.out.cell (World.block_lt_of_cell? w _ hw200_4)).trans hw200_4), ((HB.out.cell (World.block_lt_of_cell? w _ hw200_5)).trans hw200_5), ((HB.out.cell (World.block_lt_of_cell? w _ hw202_0)).trans hw202_0), ((HB.out.cell (World.block_lt_of_cell? w _ hw202_1)).trans hw202_1), ((HB.out.cell (World.block_lt_of_cell? w _ hw202_2)).trans hw202_2), ((HB.out.cell (World.block_lt_of_cell? w _ hw202_3)).trans hw202_3), ((HB.out.cell (World.block_lt_of_cell? w _ hw202_4)).trans hw202_4), ((HB.out.cell (World.block_lt_of_cell? w _ hw202_5)).trans hw202_5), ((HB.out.cell (World.block_lt_of_cell? w _ hw204_0)).trans hw204_0), ((HB.out.cell (World.block_lt_of_cell? w _ hw204_1)).trans hw204_1), ((HB.out.cell (World.block_lt_of_cell? w _ hw204_2)).trans hw204_2), ((HB.out.cell (World.block_lt_of_cell? w _ hw204_3)).trans hw204_3), ((HB.out.cell (World.block_lt_of_cell? w _ hw204_4)).trans hw204_4), ((HB.out.cell (World.block_lt_of_cell? w _ hw204_5)).trans hw204_5), ((HB.out.cell (World.block_lt_of_cell? w _ hw205_0)).trans hw205_0), ((HB.out.cell (World.block_lt_of_cell? w _ hw205_1)).trans hw205_1), ((HB.out.cell (World.block_lt_of_cell? w _ hw205_2)).trans hw205_2), ((HB.out.cell (World.block_lt_of_cell? w _ hw205_3)).trans hw205_3), ((HB.out.cell (World.block_lt_of_cell? w _ hw205_4)).trans hw205_4), ((HB.out.cell (World.block_lt_of_cell? w _ hw205_5)).trans hw205_5)⟩ (fun hHeld => ?_)
     clear hK K
     refine norm_ (a' := ?_) ?_ ?_
     rotate_left
     · show Act.put _ (some 35) _ = _
       simp only [Act.put, List.setIfInBounds_toArray, List.set_cons_zero, List.set_cons_succ, i64_w, i32_w]
       rfl
     refine pv_ 6 36 (tf 7 23) HT_ ?_
     refine pv_ 7 37 (tf 8 22) HT_ ?_
     refine pv_ 8 38 (tf 9 21) HT_ ?_
     refine pv_ 9 39 (tf 10 20) HT_ ?_
     refine pv_ 10 40 (tf 11 19) HT_ ?_
     refine pv_ 11 41 (tf 12 18) HT_ ?_
     refine take_ (i := 12) (N := some 42) (v := ?_) (a' := ?_) (tf 13 17) rfl rfl (take_ofW HT_.out HW_.out (by kernel_rfl)) (fun _ _ _ h => h) (Or.inl ⟨by rfl, ?_⟩) hHeld ?_ ?_
     rotate_left
     · rintro w' ⟨s0, s1, s2, s3, s4, s5, s6, s7, s8, s9, s10, s11, s12, s13, s14, s15, s16, s17, s18, s19, s20, s21, s22, s23⟩
       go_simp
       with_reducible rfl
     rotate_left
     · exact ap_
     refine one_ (i := 13) (N := some 43) (tf 14 16) rfl rfl (one_of HT_.out (by kernel_rfl)) (by decide) (fun K hK => ?_)
     refine goes_ Try.func80 (by kernel_rfl) rfl #[.int .i64 ((rd_T27 l0 x3_1).f2)] (by rfl) rfl rfl pm_ ?_
     with_reducible refine (contangoref15_lots.calls ((rd_T27 l0 x3_1).f2) true _ A19.out).mono ?_
     rintro e w' ⟨rfl, ⟨nd, rfl⟩⟩
     refine ⟨_, rfl, ?_⟩
     refine hK.out _ _ ⟨((HB.out.cell (World.block_lt_of_cell? w _ hw200_0)).trans hw200_0), ((HB.out.cell (World.block_lt_of_cell? w _ hw200_1)).trans hw200_1), ((HB.out.cell (World.block_lt_of_cell? w _ hw200_2)).trans hw200_2), ((HB.out.cell (World.block_lt_of_cell? w _ hw200_3)).trans hw200_3), ((HB.out.cell (World.block_lt_of_cell? w _ hw200_4)).trans hw200_4), ((HB.out.cell (World.block_lt_of_cell? w _ hw200_5)).trans hw200_5), ((HB.out.cell (World.block_lt_of_cell? w _ hw202_0)).trans hw202_0), ((HB.out.cell (World.block_lt_of_cell? w _ hw202_1)).trans hw202_1), ((HB.out.cell (World.block_lt_of_cell? w _ hw202_2)).trans hw202_2), ((HB.out.cell (World.block_lt_of_cell? w _ hw202_3)).trans hw202_3), ((HB.out.cell (World.block_lt_of_cell? w _ hw202_4)).trans hw202_4), ((HB.out.cell (World.block_lt_of_cell? w _ hw202_5)).trans hw202_5), ((HB.out.cell (World.block_lt_of_cell? w _ hw204_0)).trans hw204_0), ((HB.out.cell (World.block_lt_of_cell? w _ hw204_1)).trans hw204_1), ((HB.out.cell (World.block_lt_of_cell? w _ hw204_2)).trans hw204_2), ((HB.out.cell (World.block_lt_of_cell? w _ hw204_3)).trans hw204_3), ((HB.out.cell (World.block_lt_of_cell? w _ hw204_4)).trans hw204_4), ((HB.out.cell (World.block_lt_of_cell? w _ hw204_5)).trans hw204_5), ((HB.out.cell (World.block_lt_of_cell? w _ hw205_0)).trans hw205_0), ((HB.out.cell (World.block_lt_of_cell? w _ hw205_1)).trans hw205_1), ((HB.out.cell (World.block_lt_of_cell? w _ hw205_2)).trans hw205_2), ((HB.out.cell (World.block_lt_of_cell? w _ hw205_3)).trans hw205_3), ((HB.out.cell (World.block_lt_of_cell? w _ hw205_4)).trans hw205_4), ((HB.out.cell (World.block_lt_of_cell? w _ hw205_5)).trans hw205_5)⟩ (fun hHeld => ?_)
     clear hK K
     refine norm_ (a' := ?_) ?_ ?_
     rotate_left
     · show Act.put _ (some 43) _ = _
       simp only [Act.put, List.setIfInBounds_toArray, List.set_cons_zero, List.set_cons_succ, i64_w, i32_w]
       rfl
     refine pv_ 14 44 (tf 15 15) HT_ ?_
     refine pv_ 15 45 (tf 16 14) HT_ ?_
     refine pv_ 16 46 (tf 17 13) HT_ ?_
     refine pv_ 17 47 (tf 18 12) HT_ ?_
     refine pv_ 18 48 (tf 19 11) HT_ ?_
     refine pv_ 19 49 (tf 20 10) HT_ ?_
     refine pv_ 20 50 (tf 21 9) HT_ ?_
     refine pv_ 22 52 #[true, true, true, true, true, true, true, true, true, true, true, true, true, true, true, true, true, true, true, true, true, false, true, false, false, false, false, false, false, false] HT_ ?_
     refine pv_ 23 53 #[true, true, true, true, true, true, true, true, true, true, true, true, true, true, true, true, true, true, true, true, true, false, true, true, false, false, false, false, false, false] HT_ ?_
     refine pv_ 24 54 #[true, true, true, true, true, true, true, true, true, true, true, true, true, true, true, true, true, true, true, true, true, false, true, true, true, false, false, false, false, false] HT_ ?_
     refine pv_ 25 55 #[true, true, true, true, true, true, true, true, true, true, true, true, true, true, true, true, true, true, true, true, true, false, true, true, true, true, false, false, false, false] HT_ ?_
     refine take_ (i := 21) (N := some 51) (v := ?_) (a' := ?_) (tf 26 4) rfl rfl (take_ofW HT_.out HW_.out (by kernel_rfl)) (fun _ _ _ h => h) (Or.inl ⟨by rfl, ?_⟩) hHeld ?_ ?_
     rotate_left
     · rintro w' ⟨s0, s1, s2, s3, s4, s5, s6, s7, s8, s9, s10, s11, s12, s13, s14, s15, s16, s17, s18, s19, s20, s21, s22, s23⟩
       go_simp
       with_reducible rfl
     rotate_left
     · exact ap_
     refine take_ (i := 26) (N := some 56) (v := ?_) (a' := ?_) (tf 27 3) rfl rfl (take_ofW HT_.out HW_.out (by kernel_rfl)) (fun _ _ _ h => h) (Or.inl ⟨by rfl, ?_⟩) hHeld ?_ ?_
     rotate_left
     · rintro w' ⟨s0, s1, s2, s3, s4, s5, s6, s7, s8, s9, s10, s11, s12, s13, s14, s15, s16, s17, s18, s19, s20, s21, s22, s23⟩
       go_simp
       with_reducible rfl
     rotate_left
     · exact ap_
     refine pv_ 27 57 (tf 28 2) HT_ ?_
     refine pv_ 28 58 (tf 29 1) HT_ ?_
     refine pv_ 29 59 (tf 30 0) HT_ ?_
     refine done_ (done_of HT_.out (by kernel_rfl)) ?_
     try go_wp2
     go_roundg kj3
     case measure => have := HK1.out; have := HJ3.out; omega
     case rel => exact ⟨(wrap64 (x3_1 + 1)), rf_, H', ⟨by have := HK1.out; have := HJ3.out; omega⟩, ⟨bz0 HB.out⟩⟩

end Go.Proofs.Ytoejllkjhaeeeaa.PExpiryFlows
