import Derived.Test.YtjmkdmbgldcleaaPTearAppliesx0
import Derived.Test.YtjmkdmbgldcleaaPTearAppliesx13
namespace Go.Proofs.Ytjmkdmbgldcleaa.PTearApplies
open Go.RowKit Go.Proofs.YtjmkdmbgldcleaaW.PrintWords Go.Proofs.YtjmkdmbgldcleaaW.PrintLast Go.Proofs.YtjmkdmbgldcleaaW.PrintMore
attribute [local go_sem] max2_int min2_int max_two min_two max_three min_three max_four min_four Go.Proofs.YtjmkdmbgldcleaaHand.run_leq_str Go.Proofs.YtjmkdmbgldcleaaHand.run_gtr_str Go.Proofs.YtjmkdmbgldcleaaHand.run_geq_str   -- for this text's walks alone
set_option linter.unusedVariables false
set_option linter.unusedSimpArgs false

/-! ### contangoref15_Check: function 49 -/
mutual
def contangoref15_Check.l0 : Nat → List (S52) → Int → Option (Int)
  | 0, _, _ => none
  | k + 1, x0, x3 => if x3 < (x0.length : Int) then (if x3 > 0 then (if 0 ≤ (wrap64 (x3 - 1)) then (if (wrap64 (x3 - 1)) < (x0.length : Int) then (if 0 ≤ x3 then ((contangoref10_Compare.f ((rd_T52 x0 (wrap64 (x3 - 1))).f0.f0) ((rd_T52 x0 (wrap64 (x3 - 1))).f0.f1) ((rd_T52 x0 (wrap64 (x3 - 1))).f0.f2) ((rd_T52 x0 (wrap64 (x3 - 1))).f0.f3) ((rd_T52 x0 x3).f0.f0) ((rd_T52 x0 x3).f0.f1) ((rd_T52 x0 x3).f0.f2) ((rd_T52 x0 x3).f0.f3)).bind fun t193 => (contangoref15_Check.j1 k x0 x3 (decide (t193 ≥ 0)))) else (none)) else (none)) else (none)) else (contangoref15_Check.j1 k x0 x3 false)) else (some 0)
def contangoref15_Check.j1 : Nat → List (S52) → Int → Bool → Option (Int)
  | 0, _, _, _ => none
  | k + 1, x0, x3, x29 => if x29 = true then (some 19) else (if 0 ≤ x3 then (if x3 < (x0.length : Int) then ((contangoref15_lots.f ((rd_T52 x0 x3).f1)).bind fun t195 => (if t195 = true then ((contangoref15_lots.f ((rd_T52 x0 x3).f2)).bind fun t197 => (if t197 = true then (if (wrap64 (((rd_T52 x0 x3).f1) + ((rd_T52 x0 x3).f2))) = 0 then (some 18) else (contangoref15_Check.l0 k x0 (wrap64 (x3 + 1)))) else (some 18))) else (some 18))) else (none)) else (none))
end
def contangoref15_Check.f (k : Nat) (l0 : List (S52)) : Option (Int) := if (l0.length : Int) > 128 then (some 8) else (contangoref15_Check.l0 k l0 0)
theorem contangoref15_Check.mono_l : ∀ k, (∀ y0 y1, LeO (contangoref15_Check.l0 k y0 y1) (contangoref15_Check.l0 (k + 1) y0 y1)) ∧ (∀ y0 y1 y2, LeO (contangoref15_Check.j1 k y0 y1 y2) (contangoref15_Check.j1 (k + 1) y0 y1 y2))
  | 0 => ⟨fun _ _ r h => by simp [contangoref15_Check.l0] at h, fun _ _ _ r h => by simp [contangoref15_Check.j1] at h⟩
  | k + 1 => by
    obtain ⟨ih0, ih1⟩ := contangoref15_Check.mono_l k
    refine ⟨?_, ?_⟩
    · intro y0 y1
      unfold contangoref15_Check.l0
      repeat' first
      | (with_reducible exact ih0 _ _)
      | (with_reducible exact ih1 _ _ _)
      | (with_reducible exact LeO.refl _)
      | (with_reducible exact LeO.none _)
      | (with_reducible refine LeO.ite ?_ ?_)
      | (with_reducible refine LeO.bind ?_ (fun _ => ?_))
      | exact LeO.none _
      | refine LeO.ite ?_ ?_
      | refine LeO.bind ?_ (fun _ => ?_)
    · intro y0 y1 y2
      unfold contangoref15_Check.j1
      repeat' first
      | (with_reducible exact ih0 _ _)
      | (with_reducible exact ih1 _ _ _)
      | (with_reducible exact LeO.refl _)
      | (with_reducible exact LeO.none _)
      | (with_reducible refine LeO.ite ?_ ?_)
      | (with_reducible refine LeO.bind ?_ (fun _ => ?_))
      | exact LeO.none _
      | refine LeO.ite ?_ ?_
      | refine LeO.bind ?_ (fun _ => ?_)
theorem contangoref15_Check.mono : ∀ a0 k, LeO (contangoref15_Check.f k a0) (contangoref15_Check.f (k + 1) a0) := by
  intro a0 k
  obtain ⟨ih0, ih1⟩ := contangoref15_Check.mono_l k
  unfold contangoref15_Check.f
  repeat' first
      | (with_reducible exact ih0 _ _)
      | (with_reducible exact ih1 _ _ _)
      | (with_reducible exact LeO.refl _)
      | (with_reducible exact LeO.none _)
      | (with_reducible refine LeO.ite ?_ ?_)
      | (with_reducible refine LeO.bind ?_ (fun _ => ?_))
      | exact LeO.none _
      | refine LeO.ite ?_ ?_
      | refine LeO.bind ?_ (fun _ => ?_)
def contangoref15_Check.T6 : Bool × List (List Nat × List Nat) := (true, [([], []), ([0], [0]), ([1], [1]), ([2], [2]), ([2], [2]), ([4, 2], [2, 4]), ([3, 5, 2], [2, 3, 5]), ([6, 2], [2, 6]), ([7, 2], [2, 7]), ([2], [2]), ([2], [2]), ([9, 10, 2], [2, 9, 10]), ([11, 2], [2, 11]), ([12, 2], [2, 12]), ([8, 13, 2, 2], [2, 8, 13]), ([14, 2], [2, 14]), ([2, 15], [2, 15])])
def contangoref15_Check.B6 : List Nat := [0, 1, 3, 7, 7, 23, 63, 127, 255, 7, 7, 1543, 3591, 7687, 16383, 32767, 65535]
theorem contangoref15_Check.tab6 : rtab .any (opsOf Try.f49 6) = contangoref15_Check.T6 := by kernel_rfl
theorem contangoref15_Check.bits6 : waitsOk contangoref15_Check.T6.2 contangoref15_Check.B6 = true := by kernel_rfl
def contangoref15_Check.T8 : Bool × List (List Nat × List Nat) := (true, [([], []), ([], []), ([0, 1], [0, 1]), ([2], [2]), ([3], [3]), ([4], [4]), ([5], [5]), ([6, 5], [6]), ([7], [7]), ([7], [7]), ([8, 9, 7], [7, 8, 9]), ([10, 7], [7, 10]), ([11, 7], [7, 11]), ([12, 7, 7], [7, 12]), ([13, 7], [7, 13]), ([7, 14], [7, 14]), ([15, 13], [15]), ([16], [16]), ([16], [16]), ([17, 18, 16], [16, 17, 18]), ([19, 16], [16, 19]), ([20, 16], [16, 20]), ([16], [16]), ([16], [16]), ([22, 23, 16], [16, 22, 23]), ([24, 16], [16, 24]), ([25, 16], [16, 25]), ([21, 26, 16], [16, 21, 26]), ([27, 16], [16, 27]), ([16, 28], [16, 28])])
def contangoref15_Check.B8 : List Nat := [0, 0, 3, 7, 15, 31, 63, 127, 255, 255, 1023, 2047, 4095, 8191, 16383, 32767, 65535, 131071, 131071, 524287, 1048575, 2097151, 131071, 131071, 12713983, 29491199, 63045631, 134217727, 268435455, 536870911]
theorem contangoref15_Check.tab8 : rtab .any (opsOf Try.f49 8) = contangoref15_Check.T8 := by kernel_rfl
theorem contangoref15_Check.bits8 : waitsOk contangoref15_Check.T8.2 contangoref15_Check.B8 = true := by kernel_rfl
set_option maxHeartbeats 8000000 in
set_option maxRecDepth 100000 in
theorem contangoref15_Check.calls (k : Nat) (A0 : Option Addr) (c0 : Nat) (l0 : List (S52)) (r : Int) (w : World) (hr0 : Kd.C k52 w A0 l0.length l0) (hc0 : l0.length ≤ c0) (h : contangoref15_Check.f k l0 = some r) :
    Calls Try.prog 49 #[.slice A0 l0.length c0] w fun e w' => e = .returned (.int .i64 r) ∧ Below w.heap.size w w' := by
  have hu24 := Try.underlying24
  have HR0 := Aside0.mk hr0
  have HC0 := Aside0.mk hc0
  clear hr0 hc0
  have HB := Aside0.mk (Below.refl w.heap.size w)
  have H : (if (l0.length : Int) > 128 then (some 8) else (contangoref15_Check.l0 k l0 0)) = some r := h
  clear h
  by_cases c2 : (l0.length : Int) > 128
  · rw [if_pos c2] at H
    have c2b0 : decide (128 < (l0.length : Int)) = true := decide_eq_true c2
    have c2b1 : decide (128 < l0.length) = true := decide_eq_true (by omega)
    clear c2
    obtain rfl := Option.some.inj H
    go_enter Try.func49, Try.ntmps49
    go_wp2
    go_ret
    exact ⟨by first | rfl | (simp [errW_none, errW_some] <;> rfl) | (simp [*, errW_none, errW_some] <;> rfl), bz0 HB.out⟩
  · rw [if_neg c2] at H
    have c2b0 : decide (128 < (l0.length : Int)) = false := decide_eq_false c2
    have c2b1 : decide (128 < l0.length) = false := decide_eq_false (by omega)
    clear c2
    have H' := Aside0.mk H
    clear H
    go_enter Try.func49, Try.ntmps49
    go_wp2
    go_loopg [3] k (fun kq v3 w' => ∃ (x3_1 : Int), v3 = .int .i64 x3_1 ∧ Aside0 (contangoref15_Check.l0 kq l0 x3_1 = some r) ∧ Aside0 (kq ≤ k) ∧ Aside0 (Below w.heap.size w w'))
    case atStart => exact ⟨(0), rf_, H', ⟨Nat.le_refl _⟩, ⟨bz0 HB.out⟩⟩
    case round =>
      clear H'
      try clear c2
      try clear c2b0
      try clear c2b1
      try clear p2
      obtain ⟨x3_1, rfl, HA, HK1, HB⟩ := hrel
      cases gk with
      | zero => exact absurd HA.out (by simp [contangoref15_Check.l0])
      | succ k1 =>
        have H := HA.out
        clear HA
        simp only [contangoref15_Check.l0] at H
        by_cases c3 : x3_1 < (l0.length : Int)
        · rw [if_pos c3] at H
          have c3b0 : decide (x3_1 < (l0.length : Int)) = true := decide_eq_true c3
          clear c3
          have HC4 := Aside0.mk H
          clear H
          go_upto_region 6 with (fail)
          go_cut [29] (fun v29 wc => ∃ (kq : Nat) (x29_3 : Bool), v29 = .bool x29_3 ∧ Aside0 (contangoref15_Check.j1 kq l0 x3_1 x29_3 = some r) ∧ Aside0 (kq ≤ k1) ∧ Aside0 (Below w.heap.size w wc))
          case first =>
            have H := HC4.out
            clear HC4
            by_cases c5 : x3_1 > 0
            · rw [if_pos c5] at H
              have c5b0 : decide (0 < x3_1) = true := decide_eq_true c5
              clear c5
              (first | rw [c5b0] | (simp only [i64_w, i32_w]; rw [c5b0]) | skip)
              obtain ⟨ji6, hji6⟩ : ∃ j_ : Int, (wrap64 (x3_1 - 1)) = j_ := ⟨_, rfl⟩
              replace H : (if 0 ≤ (ji6) then (if (ji6) < (l0.length : Int) then (if 0 ≤ x3_1 then ((contangoref10_Compare.f ((rd_T52 l0 (ji6)).f0.f0) ((rd_T52 l0 (ji6)).f0.f1) ((rd_T52 l0 (ji6)).f0.f2) ((rd_T52 l0 (ji6)).f0.f3) ((rd_T52 l0 x3_1).f0.f0) ((rd_T52 l0 x3_1).f0.f1) ((rd_T52 l0 x3_1).f0.f2) ((rd_T52 l0 x3_1).f0.f3)).bind fun t193 => (contangoref15_Check.j1 k1 l0 x3_1 (decide (t193 ≥ 0)))) else (none)) else (none)) else (none)) = some r := by first | (rw [hji6] at H; exact H) | (simp only [hji6] at H ⊢; exact H)
              have hji6w : (IntKind.i64.wrap (x3_1 - 1)) = ji6 := (i64_w _).trans hji6
              by_cases c7 : 0 ≤ (ji6)
              · rw [if_pos c7] at H
                have c7b0 : decide (0 ≤ (ji6)) = true := decide_eq_true c7
                clear c7
                by_cases c8 : (ji6) < (l0.length : Int)
                · rw [if_pos c8] at H
                  have c8b0 : decide ((ji6) < (l0.length : Int)) = true := decide_eq_true c8
                  clear c8
                  by_cases c9 : 0 ≤ x3_1
                  · rw [if_pos c9] at H
                    have c9b0 : decide (0 ≤ x3_1) = true := decide_eq_true c9
                    clear c9
                    replace H := Option.bind_eq_some_iff.mp H
                    obtain ⟨t193, A100, H⟩ := H
                    replace H : (contangoref15_Check.j1 k1 l0 x3_1 (decide (t193 ≥ 0))) = some r := H
                    have A10 := Aside0.mk A100
                    clear A100
                    have H' := Aside0.mk H
                    clear H
                    try go_wp2
                    have n0_ := Aside0.mk (below_drew1 HB.out)
                    clear HB
                    have HB := n0_
                    clear n0_
                    have p191 : 0 ≤ ((ji6) : Int) := od_
                    have q191 : (ji6) < (l0.length : Int) := od_
                    obtain ⟨ad191, e191, hx191_0, hx191_1, hx191_2, hx191_3, hx191_4, hx191_5⟩ := at_T52 HR0.out (ji6) p191 q191
                    have hw191_5 := hx191_5
                    have hw191_4 := hx191_4
                    have hw191_3 := hx191_3
                    have hw191_2 := hx191_2
                    have hw191_1 := hx191_1
                    have hw191_0 := hx191_0
                    cases e191
                    replace hx191_0 := (HB.out.cell (World.block_lt_of_cell? w _ hx191_0)).trans hx191_0
                    replace hx191_1 := (HB.out.cell (World.block_lt_of_cell? w _ hx191_1)).trans hx191_1
                    replace hx191_2 := (HB.out.cell (World.block_lt_of_cell? w _ hx191_2)).trans hx191_2
                    replace hx191_3 := (HB.out.cell (World.block_lt_of_cell? w _ hx191_3)).trans hx191_3
                    replace hx191_4 := (HB.out.cell (World.block_lt_of_cell? w _ hx191_4)).trans hx191_4
                    replace hx191_5 := (HB.out.cell (World.block_lt_of_cell? w _ hx191_5)).trans hx191_5
                    replace p191 := eq_true p191
                    replace q191 := eq_true q191
                    have p192 : 0 ≤ (x3_1 : Int) := od_
                    have q192 : x3_1 < (l0.length : Int) := od_
                    obtain ⟨ad192, e192, hx192_0, hx192_1, hx192_2, hx192_3, hx192_4, hx192_5⟩ := at_T52 HR0.out x3_1 p192 q192
                    have hw192_5 := hx192_5
                    have hw192_4 := hx192_4
                    have hw192_3 := hx192_3
                    have hw192_2 := hx192_2
                    have hw192_1 := hx192_1
                    have hw192_0 := hx192_0
                    obtain rfl : ad191 = ad192 := (by injection e192)
                    replace hx192_0 := (HB.out.cell (World.block_lt_of_cell? w _ hx192_0)).trans hx192_0
                    replace hx192_1 := (HB.out.cell (World.block_lt_of_cell? w _ hx192_1)).trans hx192_1
                    replace hx192_2 := (HB.out.cell (World.block_lt_of_cell? w _ hx192_2)).trans hx192_2
                    replace hx192_3 := (HB.out.cell (World.block_lt_of_cell? w _ hx192_3)).trans hx192_3
                    replace hx192_4 := (HB.out.cell (World.block_lt_of_cell? w _ hx192_4)).trans hx192_4
                    replace hx192_5 := (HB.out.cell (World.block_lt_of_cell? w _ hx192_5)).trans hx192_5
                    replace p192 := eq_true p192
                    replace q192 := eq_true q192
                    refine start_ (n := 17) (S := fun w' => w'.cell? (ad191.add (((ji6)).toNat * 6)) = some (.string ((rd_T52 l0 (ji6)).f0.f0)) ∧ w'.cell? ⟨(ad191.add (((ji6)).toNat * 6)).block, (ad191.add (((ji6)).toNat * 6)).off + 1, none⟩ = some (.int .i64 ((rd_T52 l0 (ji6)).f0.f1)) ∧ w'.cell? ⟨(ad191.add (((ji6)).toNat * 6)).block, (ad191.add (((ji6)).toNat * 6)).off + 2, none⟩ = some (.int .i64 ((rd_T52 l0 (ji6)).f0.f2)) ∧ w'.cell? ⟨(ad191.add (((ji6)).toNat * 6)).block, (ad191.add (((ji6)).toNat * 6)).off + 3, none⟩ = some (.int .i64 ((rd_T52 l0 (ji6)).f0.f3)) ∧ w'.cell? ⟨(ad191.add (((ji6)).toNat * 6)).block, (ad191.add (((ji6)).toNat * 6)).off + 4, none⟩ = some (.int .i64 ((rd_T52 l0 (ji6)).f1)) ∧ w'.cell? ⟨(ad191.add (((ji6)).toNat * 6)).block, (ad191.add (((ji6)).toNat * 6)).off + 5, none⟩ = some (.int .i64 ((rd_T52 l0 (ji6)).f2)) ∧ w'.cell? (ad191.add ((x3_1).toNat * 6)) = some (.string ((rd_T52 l0 x3_1).f0.f0)) ∧ w'.cell? ⟨(ad191.add ((x3_1).toNat * 6)).block, (ad191.add ((x3_1).toNat * 6)).off + 1, none⟩ = some (.int .i64 ((rd_T52 l0 x3_1).f0.f1)) ∧ w'.cell? ⟨(ad191.add ((x3_1).toNat * 6)).block, (ad191.add ((x3_1).toNat * 6)).off + 2, none⟩ = some (.int .i64 ((rd_T52 l0 x3_1).f0.f2)) ∧ w'.cell? ⟨(ad191.add ((x3_1).toNat * 6)).block, (ad191.add ((x3_1).toNat * 6)).off + 3, none⟩ = some (.int .i64 ((rd_T52 l0 x3_1).f0.f3)) ∧ w'.cell? ⟨(ad191.add ((x3_1).toNat * 6)).block, (ad191.add ((x3_1).toNat * 6)).off + 4, none⟩ = some (.int .i64 ((rd_T52 l0 x3_1).f1)) ∧ w'.cell? ⟨(ad191.add ((x3_1).toNat * 6)).block, (ad191.add ((x3_1).toNat * 6)).off + 5, none⟩ = some (.int .i64 ((rd_T52 l0 x3_1).f2))) (ds := []) (tf 0 17) (by kernel_rfl) rfl rfl ⟨((HB.out.cell (World.block_lt_of_cell? w _ hw191_0)).trans hw191_0), ((HB.out.cell (World.block_lt_of_cell? w _ hw191_1)).trans hw191_1), ((HB.out.cell (World.block_lt_of_cell? w _ hw191_2)).trans hw191_2), ((HB.out.cell (World.block_lt_of_cell? w _ hw191_3)).trans hw191_3), ((HB.out.cell (World.block_lt_of_cell? w _ hw191_4)).trans hw191_4), ((HB.out.cell (World.block_lt_of_cell? w _ hw191_5)).trans hw191_5), ((HB.out.cell (World.block_lt_of_cell? w _ hw192_0)).trans hw192_0), ((HB.out.cell (World.block_lt_of_cell? w _ hw192_1)).trans hw192_1), ((HB.out.cell (World.block_lt_of_cell? w _ hw192_2)).trans hw192_2), ((HB.out.cell (World.block_lt_of_cell? w _ hw192_3)).trans hw192_3), ((HB.out.cell (World.block_lt_of_cell? w _ hw192_4)).trans hw192_4), ((HB.out.cell (World.block_lt_of_cell? w _ hw192_5)).trans hw192_5)⟩ (fun hHeld => ?_); refine with_tabW contangoref15_Check.tab6 contangoref15_Check.bits6 (fun HT_ HW_ => ?_)
                    generalize wr.drew = w11 at HB hx191_0 hx191_1 hx191_2 hx191_3 hx191_4 hx191_5 hx192_0 hx192_1 hx192_2 hx192_3 hx192_4 hx192_5 hHeld ⊢
                    refine pv_ 0 13 (tf 1 16) HT_ ?_
                    refine pv_ 1 14 (tf 2 15) HT_ ?_
                    refine pv_ 2 15 (tf 3 14) HT_ ?_
                    refine pv_ 3 16 (tf 4 13) HT_ ?_
                    refine pv_ 4 17 (tf 5 12) HT_ ?_
                    refine pv_ 5 18 (tf 6 11) HT_ ?_
                    refine pv_ 6 19 (tf 7 10) HT_ ?_
                    refine pv_ 7 20 (tf 8 9) HT_ ?_
                    refine pv_ 9 22 #[true, true, true, true, true, true, true, true, false, true, false, false, false, false, false, false, false] HT_ ?_
                    refine pv_ 10 23 #[true, true, true, true, true, true, true, true, false, true, true, false, false, false, false, false, false] HT_ ?_
                    refine pv_ 11 24 #[true, true, true, true, true, true, true, true, false, true, true, true, false, false, false, false, false] HT_ ?_
                    refine pv_ 12 25 #[true, true, true, true, true, true, true, true, false, true, true, true, true, false, false, false, false] HT_ ?_
                    refine take_ (i := 8) (N := some 21) (v := ?_) (a' := ?_) (tf 13 4) rfl rfl (take_ofW HT_.out HW_.out (by kernel_rfl)) (fun _ _ _ h => h) (Or.inl ⟨by rfl, ?_⟩) hHeld ?_ ?_
                    rotate_left
                    · rintro w' ⟨s0, s1, s2, s3, s4, s5, s6, s7, s8, s9, s10, s11⟩
                      go_simp
                      with_reducible rfl
                    rotate_left
                    · exact ap_
                    refine take_ (i := 13) (N := some 26) (v := ?_) (a' := ?_) (tf 14 3) rfl rfl (take_ofW HT_.out HW_.out (by kernel_rfl)) (fun _ _ _ h => h) (Or.inl ⟨by rfl, ?_⟩) hHeld ?_ ?_
                    rotate_left
                    · rintro w' ⟨s0, s1, s2, s3, s4, s5, s6, s7, s8, s9, s10, s11⟩
                      go_simp
                      with_reducible rfl
                    rotate_left
                    · exact ap_
                    refine one_ (i := 14) (N := some 27) (tf 15 2) rfl rfl (one_of HT_.out (by kernel_rfl)) (by decide) (fun K hK => ?_)
                    refine goes_ Try.func60 (by kernel_rfl) rfl #[.agg #[.string ((rd_T52 l0 (ji6)).f0.f0), .int .i64 ((rd_T52 l0 (ji6)).f0.f1), .int .i64 ((rd_T52 l0 (ji6)).f0.f2), .int .i64 ((rd_T52 l0 (ji6)).f0.f3)], .agg #[.string ((rd_T52 l0 x3_1).f0.f0), .int .i64 ((rd_T52 l0 x3_1).f0.f1), .int .i64 ((rd_T52 l0 x3_1).f0.f2), .int .i64 ((rd_T52 l0 x3_1).f0.f3)]] (by rfl) rfl rfl (by (try simp only [List.map_toArray, List.map_cons, List.map_nil]); first | done | (simp only [hji6]; rfl) | rfl | (simp only [List.length_drop, List.length_take]; rfl)) ?_
                    with_reducible refine (contangoref10_Compare.calls ((rd_T52 l0 (ji6)).f0.f0) ((rd_T52 l0 (ji6)).f0.f1) ((rd_T52 l0 (ji6)).f0.f2) ((rd_T52 l0 (ji6)).f0.f3) ((rd_T52 l0 x3_1).f0.f0) ((rd_T52 l0 x3_1).f0.f1) ((rd_T52 l0 x3_1).f0.f2) ((rd_T52 l0 x3_1).f0.f3) t193 _ A10.out).mono ?_
                    rintro e w12 ⟨rfl, hb⟩
                    refine ⟨_, rfl, ?_⟩
                    have n0_ := Aside0.mk (below_step (bz0 HB.out) hb)
                    clear HB
                    have HB := n0_
                    clear n0_
                    (try clear hb)
                    (try clear hb2)
                    (try clear hk)
                    (try clear hi)
                    refine hK.out _ _ ⟨((HB.out.cell (World.block_lt_of_cell? w _ hw191_0)).trans hw191_0), ((HB.out.cell (World.block_lt_of_cell? w _ hw191_1)).trans hw191_1), ((HB.out.cell (World.block_lt_of_cell? w _ hw191_2)).trans hw191_2), ((HB.out.cell (World.block_lt_of_cell? w _ hw191_3)).trans hw191_3), ((HB.out.cell (World.block_lt_of_cell? w _ hw191_4)).trans hw191_4), ((HB.out.cell (World.block_lt_of_cell? w _ hw191_5)).trans hw191_5), ((HB.out.cell (World.block_lt_of_cell? w _ hw192_0)).trans hw192_0), ((HB.out.cell (World.block_lt_of_cell? w _ hw192_1)).trans hw192_1), ((HB.out.cell (World.block_lt_of_cell? w _ hw192_2)).trans hw192_2), ((HB.out.cell (World.block_lt_of_cell? w _ hw192_3)).trans hw192_3), ((HB.out.cell (World.block_lt_of_cell? w _ hw192_4)).trans hw192_4), ((HB.out.cell (World.block_lt_of_cell? w _ hw192_5)).trans hw192_5)⟩ (fun hHeld => ?_)
                    clear hK K
                    refine norm_ (a' := ?_) ?_ ?_
                    rotate_left
                    · show Act.put _ (some 27) _ = _
                      simp only [Act.put, List.setIfInBounds_toArray, List.set_cons_zero, List.set_cons_succ, i64_w, i32_w]
                      rfl
                    refine pv_ 15 28 (tf 16 1) HT_ ?_
                    refine pv_ 16 29 (tf 17 0) HT_ ?_
                    refine done_ (done_of HT_.out (by kernel_rfl)) ?_
                    try go_wp2
                    go_meet
                    case rel => exact ⟨_, (decide (t193 ≥ 0)), rf_, H', ⟨by have := HK1.out; first | omega | exact Nat.le_refl _⟩, ⟨bz0 HB.out⟩⟩
                  · rw [if_neg c9] at H
                    exact absurd H (by simp)
                · rw [if_neg c8] at H
                  exact absurd H (by simp)
              · rw [if_neg c7] at H
                exact absurd H (by simp)
            · rw [if_neg c5] at H
              have c5b0 : decide (0 < x3_1) = false := decide_eq_false c5
              clear c5
              (first | rw [c5b0] | (simp only [i64_w, i32_w]; rw [c5b0]) | skip)
              have H' := Aside0.mk H
              clear H
              try go_wp2
              have n0_ := Aside0.mk (below_drew1 HB.out)
              clear HB
              have HB := n0_
              clear n0_
              refine start_ (n := 17) (S := fun w' => True) (ds := []) (tf 0 17) (by kernel_rfl) rfl rfl trivial (fun hHeld => ?_); refine with_tabW contangoref15_Check.tab6 contangoref15_Check.bits6 (fun HT_ HW_ => ?_)
              generalize wr.drew = w13 at HB hHeld ⊢
              refine pv_ 0 13 (tf 1 16) HT_ ?_
              refine pv_ 1 14 (tf 2 15) HT_ ?_
              refine pv_ 2 15 (tf 3 14) HT_ ?_
              refine pu_ 3 16 (tf 4 13) HT_ ?_
              refine pu_ 4 17 (tf 5 12) HT_ ?_
              refine pu_ 5 18 (tf 6 11) HT_ ?_
              refine pu_ 6 19 (tf 7 10) HT_ ?_
              refine pu_ 7 20 (tf 8 9) HT_ ?_
              refine pu_ 8 21 (tf 9 8) HT_ ?_
              refine pu_ 9 22 (tf 10 7) HT_ ?_
              refine pu_ 10 23 (tf 11 6) HT_ ?_
              refine pu_ 11 24 (tf 12 5) HT_ ?_
              refine pu_ 12 25 (tf 13 4) HT_ ?_
              refine pu_ 13 26 (tf 14 3) HT_ ?_
              refine pu_ 14 27 (tf 15 2) HT_ ?_
              refine pu_ 15 28 (tf 16 1) HT_ ?_
              refine pv_ 16 29 (tf 17 0) HT_ ?_
              refine done_ (done_of HT_.out (by kernel_rfl)) ?_
              try go_wp2
              go_meet
              case rel => exact ⟨_, (false), rf_, H', ⟨by have := HK1.out; first | omega | exact Nat.le_refl _⟩, ⟨bz0 HB.out⟩⟩
          case rest =>
            clear HC4
            try clear p1
            try clear q1
            try clear hx1
            try clear c2
            try clear c2b0
            try clear c2b1
            try clear p2
            try clear c3
            try clear c3b0
            try clear c4
            try clear c5
            try clear c5b0
            try clear c6
            try clear p6
            try clear c7
            try clear c7b0
            try clear c8
            try clear c8b0
            try clear c9
            try clear c9b0
            try clear hx191_0
            try clear hx191_1
            try clear hx191_2
            try clear hx191_3
            try clear hx191_4
            try clear hx191_5
            try clear hx192_0
            try clear hx192_1
            try clear hx192_2
            try clear hx192_3
            try clear hx192_4
            try clear hx192_5
            try clear p191
            try clear p192
            try clear p2
            try clear q191
            try clear q192
            obtain ⟨kq, x29_3, rfl, HA, HJ3, HB⟩ := hcut
            cases kq with
            | zero => exact absurd HA.out (by simp [contangoref15_Check.j1])
            | succ kj3 =>
              have H := HA.out
              clear HA
              simp only [contangoref15_Check.j1] at H
              by_cases c14 : x29_3 = true
              · subst c14
                have H1 : (some 19) = some r := by rw [if_pos rfl] at H; exact H
                clear H
                have H := H1
                clear H1
                obtain rfl := Option.some.inj H
                go_wp2
                go_ret
                exact ⟨by first | rfl | (simp [errW_none, errW_some] <;> rfl) | (simp [*, errW_none, errW_some] <;> rfl), bz0 HB.out⟩
              · replace c14 := Bool.eq_false_iff.mpr c14
                subst c14
                have H1 : (if 0 ≤ x3_1 then (if x3_1 < (l0.length : Int) then ((contangoref15_lots.f ((rd_T52 l0 x3_1).f1)).bind fun t195 => (if t195 = true then ((contangoref15_lots.f ((rd_T52 l0 x3_1).f2)).bind fun t197 => (if t197 = true then (if (wrap64 (((rd_T52 l0 x3_1).f1) + ((rd_T52 l0 x3_1).f2))) = 0 then (some 18) else (contangoref15_Check.l0 kj3 l0 (wrap64 (x3_1 + 1)))) else (some 18))) else (some 18))) else (none)) else (none)) = some r := by rw [if_neg (show ¬ (false = true) by decide)] at H; exact H
                clear H
                have H := H1
                clear H1
                by_cases c15 : 0 ≤ x3_1
                · rw [if_pos c15] at H
                  have c15b0 : decide (0 ≤ x3_1) = true := decide_eq_true c15
                  clear c15
                  by_cases c16 : x3_1 < (l0.length : Int)
                  · rw [if_pos c16] at H
                    have c16b0 : decide (x3_1 < (l0.length : Int)) = true := decide_eq_true c16
                    clear c16
                    replace H := Option.bind_eq_some_iff.mp H
                    obtain ⟨t195, A170, H⟩ := H
                    replace H : (if t195 = true then ((contangoref15_lots.f ((rd_T52 l0 x3_1).f2)).bind fun t197 => (if t197 = true then (if (wrap64 (((rd_T52 l0 x3_1).f1) + ((rd_T52 l0 x3_1).f2))) = 0 then (some 18) else (contangoref15_Check.l0 kj3 l0 (wrap64 (x3_1 + 1)))) else (some 18))) else (some 18)) = some r := H
                    have A17 := Aside0.mk A170
                    clear A170
                    by_cases c18 : t195 = true
                    · subst c18
                      have H1 : ((contangoref15_lots.f ((rd_T52 l0 x3_1).f2)).bind fun t197 => (if t197 = true then (if (wrap64 (((rd_T52 l0 x3_1).f1) + ((rd_T52 l0 x3_1).f2))) = 0 then (some 18) else (contangoref15_Check.l0 kj3 l0 (wrap64 (x3_1 + 1)))) else (some 18))) = some r := by rw [if_pos rfl] at H; exact H
                      clear H
                      have H := H1
                      clear H1
                      replace H := Option.bind_eq_some_iff.mp H
                      obtain ⟨t197, A190, H⟩ := H
                      replace H : (if t197 = true then (if (wrap64 (((rd_T52 l0 x3_1).f1) + ((rd_T52 l0 x3_1).f2))) = 0 then (some 18) else (contangoref15_Check.l0 kj3 l0 (wrap64 (x3_1 + 1)))) else (some 18)) = some r := H
                      have A19 := Aside0.mk A190
                      clear A190
                      by_cases c20 : t197 = true
                      · subst c20
                        have H1 : (if (wrap64 (((rd_T52 l0 x3_1).f1) + ((rd_T52 l0 x3_1).f2))) = 0 then (some 18) else (contangoref15_Check.l0 kj3 l0 (wrap64 (x3_1 + 1)))) = some r := by rw [if_pos rfl] at H; exact H
                        clear H
                        have H := H1
                        clear H1
                        by_cases c21 : (wrap64 (((rd_T52 l0 x3_1).f1) + ((rd_T52 l0 x3_1).f2))) = 0
                        · rw [if_pos c21] at H
                          have c21b0 : ((wrap64 (((rd_T52 l0 x3_1).f1) + ((rd_T52 l0 x3_1).f2))) == 0) = true := beq_iff_eq.mpr c21
                          have c21b1 : ((wrap64 (((rd_T52 l0 x3_1).f1) + ((rd_T52 l0 x3_1).f2))) != 0) = false := bne_eq_false_iff_eq.mpr c21
                          clear c21
                          obtain rfl := Option.some.inj H
                          try go_wp2
                          have n0_ := Aside0.mk (below_drew1 HB.out)
                          clear HB
                          have HB := n0_
                          clear n0_
                          have p194 : 0 ≤ (x3_1 : Int) := od_
                          have q194 : x3_1 < (l0.length : Int) := od_
                          obtain ⟨ad194, e194, hx194_0, hx194_1, hx194_2, hx194_3, hx194_4, hx194_5⟩ := at_T52 HR0.out x3_1 p194 q194
                          have hw194_5 := hx194_5
                          have hw194_4 := hx194_4
                          have hw194_3 := hx194_3
                          have hw194_2 := hx194_2
                          have hw194_1 := hx194_1
                          have hw194_0 := hx194_0
                          cases e194
                          replace hx194_0 := (HB.out.cell (World.block_lt_of_cell? w _ hx194_0)).trans hx194_0
                          replace hx194_1 := (HB.out.cell (World.block_lt_of_cell? w _ hx194_1)).trans hx194_1
                          replace hx194_2 := (HB.out.cell (World.block_lt_of_cell? w _ hx194_2)).trans hx194_2
                          replace hx194_3 := (HB.out.cell (World.block_lt_of_cell? w _ hx194_3)).trans hx194_3
                          replace hx194_4 := (HB.out.cell (World.block_lt_of_cell? w _ hx194_4)).trans hx194_4
                          replace hx194_5 := (HB.out.cell (World.block_lt_of_cell? w _ hx194_5)).trans hx194_5
                          replace p194 := eq_true p194
                          replace q194 := eq_true q194
                          have p196 : 0 ≤ (x3_1 : Int) := od_
                          have q196 : x3_1 < (l0.length : Int) := od_
                          obtain ⟨ad196, e196, hx196_0, hx196_1, hx196_2, hx196_3, hx196_4, hx196_5⟩ := at_T52 HR0.out x3_1 p196 q196
                          have hw196_5 := hx196_5
                          have hw196_4 := hx196_4
                          have hw196_3 := hx196_3
                          have hw196_2 := hx196_2
                          have hw196_1 := hx196_1
                          have hw196_0 := hx196_0
                          obtain rfl : ad194 = ad196 := (by injection e196)
                          replace hx196_0 := (HB.out.cell (World.block_lt_of_cell? w _ hx196_0)).trans hx196_0
                          replace hx196_1 := (HB.out.cell (World.block_lt_of_cell? w _ hx196_1)).trans hx196_1
                          replace hx196_2 := (HB.out.cell (World.block_lt_of_cell? w _ hx196_2)).trans hx196_2
                          replace hx196_3 := (HB.out.cell (World.block_lt_of_cell? w _ hx196_3)).trans hx196_3
                          replace hx196_4 := (HB.out.cell (World.block_lt_of_cell? w _ hx196_4)).trans hx196_4
                          replace hx196_5 := (HB.out.cell (World.block_lt_of_cell? w _ hx196_5)).trans hx196_5
                          replace p196 := eq_true p196
                          replace q196 := eq_true q196
                          have p198 : 0 ≤ (x3_1 : Int) := od_
                          have q198 : x3_1 < (l0.length : Int) := od_
                          obtain ⟨ad198, e198, hx198_0, hx198_1, hx198_2, hx198_3, hx198_4, hx198_5⟩ := at_T52 HR0.out x3_1 p198 q198
                          have hw198_5 := hx198_5
                          have hw198_4 := hx198_4
                          have hw198_3 := hx198_3
                          have hw198_2 := hx198_2
                          have hw198_1 := hx198_1
                          have hw198_0 := hx198_0
                          obtain rfl : ad194 = ad198 := (by injection e198)
                          replace hx198_0 := (HB.out.cell (World.block_lt_of_cell? w _ hx198_0)).trans hx198_0
                          replace hx198_1 := (HB.out.cell (World.block_lt_of_cell? w _ hx198_1)).trans hx198_1
                          replace hx198_2 := (HB.out.cell (World.block_lt_of_cell? w _ hx198_2)).trans hx198_2
                          replace hx198_3 := (HB.out.cell (World.block_lt_of_cell? w _ hx198_3)).trans hx198_3
                          replace hx198_4 := (HB.out.cell (World.block_lt_of_cell? w _ hx198_4)).trans hx198_4
                          replace hx198_5 := (HB.out.cell (World.block_lt_of_cell? w _ hx198_5)).trans hx198_5
                          replace p198 := eq_true p198
                          replace q198 := eq_true q198
                          have p199 : 0 ≤ (x3_1 : Int) := od_
                          have q199 : x3_1 < (l0.length : Int) := od_
                          obtain ⟨ad199, e199, hx199_0, hx199_1, hx199_2, hx199_3, hx199_4, hx199_5⟩ := at_T52 HR0.out x3_1 p199 q199
                          have hw199_5 := hx199_5
                          have hw199_4 := hx199_4
                          have hw199_3 := hx199_3
                          have hw199_2 := hx199_2
                          have hw199_1 := hx199_1
                          have hw199_0 := hx199_0
                          obtain rfl : ad194 = ad199 := (by injection e199)
                          replace hx199_0 := (HB.out.cell (World.block_lt_of_cell? w _ hx199_0)).trans hx199_0
                          replace hx199_1 := (HB.out.cell (World.block_lt_of_cell? w _ hx199_1)).trans hx199_1
                          replace hx199_2 := (HB.out.cell (World.block_lt_of_cell? w _ hx199_2)).trans hx199_2
                          replace hx199_3 := (HB.out.cell (World.block_lt_of_cell? w _ hx199_3)).trans hx199_3
                          replace hx199_4 := (HB.out.cell (World.block_lt_of_cell? w _ hx199_4)).trans hx199_4
                          replace hx199_5 := (HB.out.cell (World.block_lt_of_cell? w _ hx199_5)).trans hx199_5
                          replace p199 := eq_true p199
                          replace q199 := eq_true q199
                          refine start_ (n := 30) (S := fun w' => w'.cell? (ad194.add ((x3_1).toNat * 6)) = some (.string ((rd_T52 l0 x3_1).f0.f0)) ∧ w'.cell? ⟨(ad194.add ((x3_1).toNat * 6)).block, (ad194.add ((x3_1).toNat * 6)).off + 1, none⟩ = some (.int .i64 ((rd_T52 l0 x3_1).f0.f1)) ∧ w'.cell? ⟨(ad194.add ((x3_1).toNat * 6)).block, (ad194.add ((x3_1).toNat * 6)).off + 2, none⟩ = some (.int .i64 ((rd_T52 l0 x3_1).f0.f2)) ∧ w'.cell? ⟨(ad194.add ((x3_1).toNat * 6)).block, (ad194.add ((x3_1).toNat * 6)).off + 3, none⟩ = some (.int .i64 ((rd_T52 l0 x3_1).f0.f3)) ∧ w'.cell? ⟨(ad194.add ((x3_1).toNat * 6)).block, (ad194.add ((x3_1).toNat * 6)).off + 4, none⟩ = some (.int .i64 ((rd_T52 l0 x3_1).f1)) ∧ w'.cell? ⟨(ad194.add ((x3_1).toNat * 6)).block, (ad194.add ((x3_1).toNat * 6)).off + 5, none⟩ = some (.int .i64 ((rd_T52 l0 x3_1).f2)) ∧ w'.cell? (ad194.add ((x3_1).toNat * 6)) = some (.string ((rd_T52 l0 x3_1).f0.f0)) ∧ w'.cell? ⟨(ad194.add ((x3_1).toNat * 6)).block, (ad194.add ((x3_1).toNat * 6)).off + 1, none⟩ = some (.int .i64 ((rd_T52 l0 x3_1).f0.f1)) ∧ w'.cell? ⟨(ad194.add ((x3_1).toNat * 6)).block, (ad194.add ((x3_1).toNat * 6)).off + 2, none⟩ = some (.int .i64 ((rd_T52 l0 x3_1).f0.f2)) ∧ w'.cell? ⟨(ad194.add ((x3_1).toNat * 6)).block, (ad194.add ((x3_1).toNat * 6)).off + 3, none⟩ = some (.int .i64 ((rd_T52 l0 x3_1).f0.f3)) ∧ w'.cell? ⟨(ad194.add ((x3_1).toNat * 6)).block, (ad194.add ((x3_1).toNat * 6)).off + 4, none⟩ = some (.int .i64 ((rd_T52 l0 x3_1).f1)) ∧ w'.cell? ⟨(ad194.add ((x3_1).toNat * 6)).block, (ad194.add ((x3_1).toNat * 6)).off + 5, none⟩ = some (.int .i64 ((rd_T52 l0 x3_1).f2)) ∧ w'.cell? (ad194.add ((x3_1).toNat * 6)) = some (.string ((rd_T52 l0 x3_1).f0.f0)) ∧ w'.cell? ⟨(ad194.add ((x3_1).toNat * 6)).block, (ad194.add ((x3_1).toNat * 6)).off + 1, none⟩ = some (.int .i64 ((rd_T52 l0 x3_1).f0.f1)) ∧ w'.cell? ⟨(ad194.add ((x3_1).toNat * 6)).block, (ad194.add ((x3_1).toNat * 6)).off + 2, none⟩ = some (.int .i64 ((rd_T52 l0 x3_1).f0.f2)) ∧ w'.cell? ⟨(ad194.add ((x3_1).toNat * 6)).block, (ad194.add ((x3_1).toNat * 6)).off + 3, none⟩ = some (.int .i64 ((rd_T52 l0 x3_1).f0.f3)) ∧ w'.cell? ⟨(ad194.add ((x3_1).toNat * 6)).block, (ad194.add ((x3_1).toNat * 6)).off + 4, none⟩ = some (.int .i64 ((rd_T52 l0 x3_1).f1)) ∧ w'.cell? ⟨(ad194.add ((x3_1).toNat * 6)).block, (ad194.add ((x3_1).toNat * 6)).off + 5, none⟩ = some (.int .i64 ((rd_T52 l0 x3_1).f2)) ∧ w'.cell? (ad194.add ((x3_1).toNat * 6)) = some (.string ((rd_T52 l0 x3_1).f0.f0)) ∧ w'.cell? ⟨(ad194.add ((x3_1).toNat * 6)).block, (ad194.add ((x3_1).toNat * 6)).off + 1, none⟩ = some (.int .i64 ((rd_T52 l0 x3_1).f0.f1)) ∧ w'.cell? ⟨(ad194.add ((x3_1).toNat * 6)).block, (ad194.add ((x3_1).toNat * 6)).off + 2, none⟩ = some (.int .i64 ((rd_T52 l0 x3_1).f0.f2)) ∧ w'.cell? ⟨(ad194.add ((x3_1).toNat * 6)).block, (ad194.add ((x3_1).toNat * 6)).off + 3, none⟩ = some (.int .i64 ((rd_T52 l0 x3_1).f0.f3)) ∧ w'.cell? ⟨(ad194.add ((x3_1).toNat * 6)).block, (ad194.add ((x3_1).toNat * 6)).off + 4, none⟩ = some (.int .i64 ((rd_T52 l0 x3_1).f1)) ∧ w'.cell? ⟨(ad194.add ((x3_1).toNat * 6)).block, (ad194.add ((x3_1).toNat * 6)).off + 5, none⟩ = some (.int .i64 ((rd_T52 l0 x3_1).f2))) (ds := []) (tf 0 30) (by kernel_rfl) rfl rfl ⟨((HB.out.cell (World.block_lt_of_cell? w _ hw194_0)).trans hw194_0), ((HB.out.cell (World.block_lt_of_cell? w _ hw194_1)).trans hw194_1), ((HB.out.cell (World.block_lt_of_cell? w _ hw194_2)).trans hw194_2), ((HB.out.cell (World.block_lt_of_cell? w _ hw194_3)).trans hw194_3), ((HB.out.cell (World.block_lt_of_cell? w _ hw194_4)).trans hw194_4), ((HB.out.cell (World.block_lt_of_cell? w _ hw194_5)).trans hw194_5), ((HB.out.cell (World.block_lt_of_cell? w _ hw196_0)).trans hw196_0), ((HB.out.cell (World.block_lt_of_cell? w _ hw196_1)).trans hw196_1), ((HB.out.cell (World.block_lt_of_cell? w _ hw196_2)).trans hw196_2), ((HB.out.cell (World.block_lt_of_cell? w _ hw196_3)).trans hw196_3), ((HB.out.cell (World.block_lt_of_cell? w _ hw196_4)).trans hw196_4), ((HB.out.cell (World.block_lt_of_cell? w _ hw196_5)).trans hw196_5), ((HB.out.cell (World.block_lt_of_cell? w _ hw198_0)).trans hw198_0), ((HB.out.cell (World.block_lt_of_cell? w _ hw198_1)).trans hw198_1), ((HB.out.cell (World.block_lt_of_cell? w _ hw198_2)).trans hw198_2), ((HB.out.cell (World.block_lt_of_cell? w _ hw198_3)).trans hw198_3), ((HB.out.cell (World.block_lt_of_cell? w _ hw198_4)).trans hw198_4), ((HB.out.cell (World.block_lt_of_cell? w _ hw198_5)).trans hw198_5), ((HB.out.cell (World.block_lt_of_cell? w _ hw199_0)).trans hw199_0), ((HB.out.cell (World.block_lt_of_cell? w _ hw199_1)).trans hw199_1), ((HB.out.cell (World.block_lt_of_cell? w _ hw199_2)).trans hw199_2), ((HB.out.cell (World.block_lt_of_cell? w _ hw199_3)).trans hw199_3), ((HB.out.cell (World.block_lt_of_cell? w _ hw199_4)).trans hw199_4), ((HB.out.cell (World.block_lt_of_cell? w _ hw199_5)).trans hw199_5)⟩ (fun hHeld => ?_); refine with_tabW contangoref15_Check.tab8 contangoref15_Check.bits8 (fun HT_ HW_ => ?_)
                          generalize wc.drew = w22 at HB hx194_0 hx194_1 hx194_2 hx194_3 hx194_4 hx194_5 hx196_0 hx196_1 hx196_2 hx196_3 hx196_4 hx196_5 hx198_0 hx198_1 hx198_2 hx198_3 hx198_4 hx198_5 hx199_0 hx199_1 hx199_2 hx199_3 hx199_4 hx199_5 hHeld ⊢
                          refine pv_ 0 30 (tf 1 29) HT_ ?_
                          refine pv_ 1 31 (tf 2 28) HT_ ?_
                          refine pv_ 2 32 (tf 3 27) HT_ ?_
                          refine pv_ 3 33 (tf 4 26) HT_ ?_
                          refine take_ (i := 4) (N := some 34) (v := ?_) (a' := ?_) (tf 5 25) rfl rfl (take_ofW HT_.out HW_.out (by kernel_rfl)) (fun _ _ _ h => h) (Or.inl ⟨by rfl, ?_⟩) hHeld ?_ ?_
                          rotate_left
                          · rintro w' ⟨s0, s1, s2, s3, s4, s5, s6, s7, s8, s9, s10, s11, s12, s13, s14, s15, s16, s17, s18, s19, s20, s21, s22, s23⟩
                            go_simp
                            with_reducible rfl
                          rotate_left
                          · exact ap_
                          refine one_ (i := 5) (N := some 35) (tf 6 24) rfl rfl (one_of HT_.out (by kernel_rfl)) (by decide) (fun K hK => ?_)
                          refine goes_ Try.func61 (by kernel_rfl) rfl #[.int .i64 ((rd_T52 l0 x3_1).f1)] (by rfl) rfl rfl pm_ ?_
                          with_reducible refine (contangoref15_lots.calls ((rd_T52 l0 x3_1).f1) true _ A17.out).mono ?_
                          rintro e w' ⟨rfl, ⟨nd, rfl⟩⟩
                          refine ⟨_, rfl, ?_⟩
                          refine hK.out _ _ ⟨((HB.out.cell (World.block_lt_of_cell? w _ hw194_0)).trans hw194_0), ((HB.out.cell (World.block_lt_of_cell? w _ hw194_1)).trans hw194_1), ((HB.out.cell (World.block_lt_of_cell? w _ hw194_2)).trans hw194_2), ((HB.out.cell (World.block_lt_of_cell? w _ hw194_3)).trans hw194_3), ((HB.out.cell (World.block_lt_of_cell? w _ hw194_4)).trans hw194_4), ((HB.out.cell (World.block_lt_of_cell? w _ hw194_5)).trans hw194_5), ((HB.out.cell (World.block_lt_of_cell? w _ hw196_0)).trans hw196_0), ((HB.out.cell (World.block_lt_of_cell? w _ hw196_1)).trans hw196_1), ((HB.out.cell (World.block_lt_of_cell? w _ hw196_2)).trans hw196_2), ((HB.out.cell (World.block_lt_of_cell? w _ hw196_3)).trans hw196_3), ((HB.out.cell (World.block_lt_of_cell? w _ hw196_4)).trans hw196_4), ((HB.out.cell (World.block_lt_of_cell? w _ hw196_5)).trans hw196_5), ((HB.out.cell (World.block_lt_of_cell? w _ hw198_0)).trans hw198_0), ((HB.out.cell (World.block_lt_of_cell? w _ hw198_1)).trans hw198_1), ((HB.out.cell (World.block_lt_of_cell? w _ hw198_2)).trans hw198_2), ((HB.out.cell (World.block_lt_of_cell? w _ hw198_3)).trans hw198_3), ((HB.out.cell (World.block_lt_of_cell? w _ hw198_4)).trans hw198_4), ((HB.out.cell (World.block_lt_of_cell? w _ hw198_5)).trans hw198_5), ((HB.out.cell (World.block_lt_of_cell? w _ hw199_0)).trans hw199_0), ((HB.out.cell (World.block_lt_of_cell? w _ hw199_1)).trans hw199_1), ((HB.out.cell (World.block_lt_of_cell? w _ hw199_2)).trans hw199_2), ((HB.out.cell (World.block_lt_of_cell? w _ hw199_3)).trans hw199_3), ((HB.out.cell (World.block_lt_of_cell? w _ hw199_4)).trans hw199_4), ((HB.out.cell (World.block_lt_of_cell? w _ hw199_5)).trans hw199_5)⟩ (fun hHeld => ?_)
                          clear hK K
                          refine norm_ (a' := ?_) ?_ ?_
                          rotate_left
                          · show Act.put _ (some 35) _ = _
                            simp only [Act.put, List.setIfInBounds_toArray, List.set_cons_zero, List.set_cons_succ, i64_w, i32_w]
                            rfl
                          refine pv_ 6 36 (tf 7 23) HT_ ?_
                          refine pv_ 7 37 (tf 8 22) HT_ ?_
                          refine pv_ 8 38 (tf 9 21) HT_ ?_
                          refine pv_ 9 39 (tf 10 20) HT_ ?_
                          refine pv_ 10 40 (tf 11 19) HT_ ?_
                          refine pv_ 11 41 (tf 12 18) HT_ ?_
                          refine take_ (i := 12) (N := some 42) (v := ?_) (a' := ?_) (tf 13 17) rfl rfl (take_ofW HT_.out HW_.out (by kernel_rfl)) (fun _ _ _ h => h) (Or.inl ⟨by rfl, ?_⟩) hHeld ?_ ?_
                          rotate_left
                          · rintro w' ⟨s0, s1, s2, s3, s4, s5, s6, s7, s8, s9, s10, s11, s12, s13, s14, s15, s16, s17, s18, s19, s20, s21, s22, s23⟩
                            go_simp
                            with_reducible rfl
                          rotate_left
                          · exact ap_
                          refine one_ (i := 13) (N := some 43) (tf 14 16) rfl rfl (one_of HT_.out (by kernel_rfl)) (by decide) (fun K hK => ?_)
                          refine goes_ Try.func61 (by kernel_rfl) rfl #[.int .i64 ((rd_T52 l0 x3_1).f2)] (by rfl) rfl rfl pm_ ?_
                          with_reducible refine (contangoref15_lots.calls ((rd_T52 l0 x3_1).f2) true _ A19.out).mono ?_
                          rintro e w' ⟨rfl, ⟨nd, rfl⟩⟩
                          refine ⟨_, rfl, ?_⟩
                          refine hK.out _ _ ⟨((HB.out.cell (World.block_lt_of_cell? w _ hw194_0)).trans hw194_0), ((HB.out.cell (World.block_lt_of_cell? w _ hw194_1)).trans hw194_1), ((HB.out.cell (World.block_lt_of_cell? w _ hw194_2)).trans hw194_2), ((HB.out.cell (World.block_lt_of_cell? w _ hw194_3)).trans hw194_3), ((HB.out.cell (World.block_lt_of_cell? w _ hw194_4)).trans hw194_4), ((HB.out.cell (World.block_lt_of_cell? w _ hw194_5)).trans hw194_5), ((HB.out.cell (World.block_lt_of_cell? w _ hw196_0)).trans hw196_0), ((HB.out.cell (World.block_lt_of_cell? w _ hw196_1)).trans hw196_1), ((HB.out.cell (World.block_lt_of_cell? w _ hw196_2)).trans hw196_2), ((HB.out.cell (World.block_lt_of_cell? w _ hw196_3)).trans hw196_3), ((HB.out.cell (World.block_lt_of_cell? w _ hw196_4)).trans hw196_4), ((HB.out.cell (World.block_lt_of_cell? w _ hw196_5)).trans hw196_5), ((HB.out.cell (World.block_lt_of_cell? w _ hw198_0)).trans hw198_0), ((HB.out.cell (World.block_lt_of_cell? w _ hw198_1)).trans hw198_1), ((HB.out.cell (World.block_lt_of_cell? w _ hw198_2)).trans hw198_2), ((HB.out.cell (World.block_lt_of_cell? w _ hw198_3)).trans hw198_3), ((HB.out.cell (World.block_lt_of_cell? w _ hw198_4)).trans hw198_4), ((HB.out.cell (World.block_lt_of_cell? w _ hw198_5)).trans hw198_5), ((HB.out.cell (World.block_lt_of_cell? w _ hw199_0)).trans hw199_0), ((HB.out.cell (World.block_lt_of_cell? w _ hw199_1)).trans hw199_1), ((HB.out.cell (World.block_lt_of_cell? w _ hw199_2)).trans hw199_2), ((HB.out.cell (World.block_lt_of_cell? w _ hw199_3)).trans hw199_3), ((HB.out.cell (World.block_lt_of_cell? w _ hw199_4)).trans hw199_4), ((HB.out.cell (World.block_lt_of_cell? w _ hw199_5)).trans hw199_5)⟩ (fun hHeld => ?_)
                          clear hK K
                          refine norm_ (a' := ?_) ?_ ?_
                          rotate_left
                          · show Act.put _ (some 43) _ = _
                            simp only [Act.put, List.setIfInBounds_toArray, List.set_cons_zero, List.set_cons_succ, i64_w, i32_w]
                            rfl
                          refine pv_ 14 44 (tf 15 15) HT_ ?_
                          refine pv_ 15 45 (tf 16 14) HT_ ?_
                          refine pv_ 16 46 (tf 17 13) HT_ ?_
                          refine pv_ 17 47 (tf 18 12) HT_ ?_
                          refine pv_ 18 48 (tf 19 11) HT_ ?_
                          refine pv_ 19 49 (tf 20 10) HT_ ?_
                          refine pv_ 20 50 (tf 21 9) HT_ ?_
                          refine pv_ 22 52 #[true, true, true, true, true, true, true, true, true, true, true, true, true, true, true, true, true, true, true, true, true, false, true, false, false, false, false, false, false, false] HT_ ?_
                          refine pv_ 23 53 #[true, true, true, true, true, true, true, true, true, true, true, true, true, true, true, true, true, true, true, true, true, false, true, true, false, false, false, false, false, false] HT_ ?_
                          refine pv_ 24 54 #[true, true, true, true, true, true, true, true, true, true, true, true, true, true, true, true, true, true, true, true, true, false, true, true, true, false, false, false, false, false] HT_ ?_
                          refine pv_ 25 55 #[true, true, true, true, true, true, true, true, true, true, true, true, true, true, true, true, true, true, true, true, true, false, true, true, true, true, false, false, false, false] HT_ ?_
                          refine take_ (i := 21) (N := some 51) (v := ?_) (a' := ?_) (tf 26 4) rfl rfl (take_ofW HT_.out HW_.out (by kernel_rfl)) (fun _ _ _ h => h) (Or.inl ⟨by rfl, ?_⟩) hHeld ?_ ?_
                          rotate_left
                          · rintro w' ⟨s0, s1, s2, s3, s4, s5, s6, s7, s8, s9, s10, s11, s12, s13, s14, s15, s16, s17, s18, s19, s20, s21, s22, s23⟩
                            go_simp
                            with_reducible rfl
                          rotate_left
                          · exact ap_
                          refine take_ (i := 26) (N := some 56) (v := ?_) (a' := ?_) (tf 27 3) rfl rfl (take_ofW HT_.out HW_.out (by kernel_rfl)) (fun _ _ _ h => h) (Or.inl ⟨by rfl, ?_⟩) hHeld ?_ ?_
                          rotate_left
                          · rintro w' ⟨s0, s1, s2, s3, s4, s5, s6, s7, s8, s9, s10, s11, s12, s13, s14, s15, s16, s17, s18, s19, s20, s21, s22, s23⟩
                            go_simp
                            with_reducible rfl
                          rotate_left
                          · exact ap_
                          refine pv_ 27 57 (tf 28 2) HT_ ?_
                          refine pv_ 28 58 (tf 29 1) HT_ ?_
                          refine pv_ 29 59 (tf 30 0) HT_ ?_
                          refine done_ (done_of HT_.out (by kernel_rfl)) ?_
                          try go_wp2
                          go_ret
                          exact ⟨by first | rfl | (simp [errW_none, errW_some] <;> rfl) | (simp [*, errW_none, errW_some] <;> rfl), bz0 HB.out⟩
                        · rw [if_neg c21] at H
                          have c21b0 : ((wrap64 (((rd_T52 l0 x3_1).f1) + ((rd_T52 l0 x3_1).f2))) == 0) = false := beq_eq_false_iff_ne.mpr c21
                          have c21b1 : ((wrap64 (((rd_T52 l0 x3_1).f1) + ((rd_T52 l0 x3_1).f2))) != 0) = true := bne_iff_ne.mpr c21
                          have H' := Aside0.mk H
                          clear H
                          try go_wp2
                          have n0_ := Aside0.mk (below_drew1 HB.out)
                          clear HB
                          have HB := n0_
                          clear n0_
                          have p194 : 0 ≤ (x3_1 : Int) := od_
                          have q194 : x3_1 < (l0.length : Int) := od_
                          obtain ⟨ad194, e194, hx194_0, hx194_1, hx194_2, hx194_3, hx194_4, hx194_5⟩ := at_T52 HR0.out x3_1 p194 q194
                          have hw194_5 := hx194_5
                          have hw194_4 := hx194_4
                          have hw194_3 := hx194_3
                          have hw194_2 := hx194_2
                          have hw194_1 := hx194_1
                          have hw194_0 := hx194_0
                          cases e194
                          replace hx194_0 := (HB.out.cell (World.block_lt_of_cell? w _ hx194_0)).trans hx194_0
                          replace hx194_1 := (HB.out.cell (World.block_lt_of_cell? w _ hx194_1)).trans hx194_1
                          replace hx194_2 := (HB.out.cell (World.block_lt_of_cell? w _ hx194_2)).trans hx194_2
                          replace hx194_3 := (HB.out.cell (World.block_lt_of_cell? w _ hx194_3)).trans hx194_3
                          replace hx194_4 := (HB.out.cell (World.block_lt_of_cell? w _ hx194_4)).trans hx194_4
                          replace hx194_5 := (HB.out.cell (World.block_lt_of_cell? w _ hx194_5)).trans hx194_5
                          replace p194 := eq_true p194
                          replace q194 := eq_true q194
                          have p196 : 0 ≤ (x3_1 : Int) := od_
                          have q196 : x3_1 < (l0.length : Int) := od_
                          obtain ⟨ad196, e196, hx196_0, hx196_1, hx196_2, hx196_3, hx196_4, hx196_5⟩ := at_T52 HR0.out x3_1 p196 q196
                          have hw196_5 := hx196_5
                          have hw196_4 := hx196_4
                          have hw196_3 := hx196_3
                          have hw196_2 := hx196_2
                          have hw196_1 := hx196_1
                          have hw196_0 := hx196_0
                          obtain rfl : ad194 = ad196 := (by injection e196)
                          replace hx196_0 := (HB.out.cell (World.block_lt_of_cell? w _ hx196_0)).trans hx196_0
                          replace hx196_1 := (HB.out.cell (World.block_lt_of_cell? w _ hx196_1)).trans hx196_1
                          replace hx196_2 := (HB.out.cell (World.block_lt_of_cell? w _ hx196_2)).trans hx196_2
                          replace hx196_3 := (HB.out.cell (World.block_lt_of_cell? w _ hx196_3)).trans hx196_3
                          replace hx196_4 := (HB.out.cell (World.block_lt_of_cell? w _ hx196_4)).trans hx196_4
                          replace hx196_5 := (HB.out.cell (World.block_lt_of_cell? w _ hx196_5)).trans hx196_5
                          replace p196 := eq_true p196
                          replace q196 := eq_true q196
                          have p198 : 0 ≤ (x3_1 : Int) := od_
                          have q198 : x3_1 < (l0.length : Int) := od_
                          obtain ⟨ad198, e198, hx198_0, hx198_1, hx198_2, hx198_3, hx198_4, hx198_5⟩ := at_T52 HR0.out x3_1 p198 q198
                          have hw198_5 := hx198_5
                          have hw198_4 := hx198_4
                          have hw198_3 := hx198_3
                          have hw198_2 := hx198_2
                          have hw198_1 := hx198_1
                          have hw198_0 := hx198_0
                          obtain rfl : ad194 = ad198 := (by injection e198)
                          replace hx198_0 := (HB.out.cell (World.block_lt_of_cell? w _ hx198_0)).trans hx198_0
                          replace hx198_1 := (HB.out.cell (World.block_lt_of_cell? w _ hx198_1)).trans hx198_1
                          replace hx198_2 := (HB.out.cell (World.block_lt_of_cell? w _ hx198_2)).trans hx198_2
                          replace hx198_3 := (HB.out.cell (World.block_lt_of_cell? w _ hx198_3)).trans hx198_3
                          replace hx198_4 := (HB.out.cell (World.block_lt_of_cell? w _ hx198_4)).trans hx198_4
                          replace hx198_5 := (HB.out.cell (World.block_lt_of_cell? w _ hx198_5)).trans hx198_5
                          replace p198 := eq_true p198
                          replace q198 := eq_true q198
                          have p199 : 0 ≤ (x3_1 : Int) := od_
                          have q199 : x3_1 < (l0.length : Int) := od_
                          obtain ⟨ad199, e199, hx199_0, hx199_1, hx199_2, hx199_3, hx199_4, hx199_5⟩ := at_T52 HR0.out x3_1 p199 q199
                          have hw199_5 := hx199_5
                          have hw199_4 := hx199_4
                          have hw199_3 := hx199_3
                          have hw199_2 := hx199_2
                          have hw199_1 := hx199_1
                          have hw199_0 := hx199_0
                          obtain rfl : ad194 = ad199 := (by injection e199)
                          replace hx199_0 := (HB.out.cell (World.block_lt_of_cell? w _ hx199_0)).trans hx199_0
                          replace hx199_1 := (HB.out.cell (World.block_lt_of_cell? w _ hx199_1)).trans hx199_1
                          replace hx199_2 := (HB.out.cell (World.block_lt_of_cell? w _ hx199_2)).trans hx199_2
                          replace hx199_3 := (HB.out.cell (World.block_lt_of_cell? w _ hx199_3)).trans hx199_3
                          replace hx199_4 := (HB.out.cell (World.block_lt_of_cell? w _ hx199_4)).trans hx199_4
                          replace hx199_5 := (HB.out.cell (World.block_lt_of_cell? w _ hx199_5)).trans hx199_5
                          replace p199 := eq_true p199
                          replace q199 := eq_true q199
                          refine start_ (n := 30) (S := fun w' => w'.cell? (ad194.add ((x3_1).toNat * 6)) = some (.string ((rd_T52 l0 x3_1).f0.f0)) ∧ w'.cell? ⟨(ad194.add ((x3_1).toNat * 6)).block, (ad194.add ((x3_1).toNat * 6)).off + 1, none⟩ = some (.int .i64 ((rd_T52 l0 x3_1).f0.f1)) ∧ w'.cell? ⟨(ad194.add ((x3_1).toNat * 6)).block, (ad194.add ((x3_1).toNat * 6)).off + 2, none⟩ = some (.int .i64 ((rd_T52 l0 x3_1).f0.f2)) ∧ w'.cell? ⟨(ad194.add ((x3_1).toNat * 6)).block, (ad194.add ((x3_1).toNat * 6)).off + 3, none⟩ = some (.int .i64 ((rd_T52 l0 x3_1).f0.f3)) ∧ w'.cell? ⟨(ad194.add ((x3_1).toNat * 6)).block, (ad194.add ((x3_1).toNat * 6)).off + 4, none⟩ = some (.int .i64 ((rd_T52 l0 x3_1).f1)) ∧ w'.cell? ⟨(ad194.add ((x3_1).toNat * 6)).block, (ad194.add ((x3_1).toNat * 6)).off + 5, none⟩ = some (.int .i64 ((rd_T52 l0 x3_1).f2)) ∧ w'.cell? (ad194.add ((x3_1).toNat * 6)) = some (.string ((rd_T52 l0 x3_1).f0.f0)) ∧ w'.cell? ⟨(ad194.add ((x3_1).toNat * 6)).block, (ad194.add ((x3_1).toNat * 6)).off + 1, none⟩ = some (.int .i64 ((rd_T52 l0 x3_1).f0.f1)) ∧ w'.cell? ⟨(ad194.add ((x3_1).toNat * 6)).block, (ad194.add ((x3_1).toNat * 6)).off + 2, none⟩ = some (.int .i64 ((rd_T52 l0 x3_1).f0.f2)) ∧ w'.cell? ⟨(ad194.add ((x3_1).toNat * 6)).block, (ad194.add ((x3_1).toNat * 6)).off + 3, none⟩ = some (.int .i64 ((rd_T52 l0 x3_1).f0.f3)) ∧ w'.cell? ⟨(ad194.add ((x3_1).toNat * 6)).block, (ad194.add ((x3_1).toNat * 6)).off + 4, none⟩ = some (.int .i64 ((rd_T52 l0 x3_1).f1)) ∧ w'.cell? ⟨(ad194.add ((x3_1).toNat * 6)).block, (ad194.add ((x3_1).toNat * 6)).off + 5, none⟩ = some (.int .i64 ((rd_T52 l0 x3_1).f2)) ∧ w'.cell? (ad194.add ((x3_1).toNat * 6)) = some (.string ((rd_T52 l0 x3_1).f0.f0)) ∧ w'.cell? ⟨(ad194.add ((x3_1).toNat * 6)).block, (ad194.add ((x3_1).toNat * 6)).off + 1, none⟩ = some (.int .i64 ((rd_T52 l0 x3_1).f0.f1)) ∧ w'.cell? ⟨(ad194.add ((x3_1).toNat * 6)).block, (ad194.add ((x3_1).toNat * 6)).off + 2, none⟩ = some (.int .i64 ((rd_T52 l0 x3_1).f0.f2)) ∧ w'.cell? ⟨(ad194.add ((x3_1).toNat * 6)).block, (ad194.add ((x3_1).toNat * 6)).off + 3, none⟩ = some (.int .i64 ((rd_T52 l0 x3_1).f0.f3)) ∧ w'.cell? ⟨(ad194.add ((x3_1).toNat * 6)).block, (ad194.add ((x3_1).toNat * 6)).off + 4, none⟩ = some (.int .i64 ((rd_T52 l0 x3_1).f1)) ∧ w'.cell? ⟨(ad194.add ((x3_1).toNat * 6)).block, (ad194.add ((x3_1).toNat * 6)).off + 5, none⟩ = some (.int .i64 ((rd_T52 l0 x3_1).f2)) ∧ w'.cell? (ad194.add ((x3_1).toNat * 6)) = some (.string ((rd_T52 l0 x3_1).f0.f0)) ∧ w'.cell? ⟨(ad194.add ((x3_1).toNat * 6)).block, (ad194.add ((x3_1).toNat * 6)).off + 1, none⟩ = some (.int .i64 ((rd_T52 l0 x3_1).f0.f1)) ∧ w'.cell? ⟨(ad194.add ((x3_1).toNat * 6)).block, (ad194.add ((x3_1).toNat * 6)).off + 2, none⟩ = some (.int .i64 ((rd_T52 l0 x3_1).f0.f2)) ∧ w'.cell? ⟨(ad194.add ((x3_1).toNat * 6)).block, (ad194.add ((x3_1).toNat * 6)).off + 3, none⟩ = some (.int .i64 ((rd_T52 l0 x3_1).f0.f3)) ∧ w'.cell? ⟨(ad194.add ((x3_1).toNat * 6)).block, (ad194.add ((x3_1).toNat * 6)).off + 4, none⟩ = some (.int .i64 ((rd_T52 l0 x3_1).f1)) ∧ w'.cell? ⟨(ad194.add ((x3_1).toNat * 6)).block, (ad194.add ((x3_1).toNat * 6)).off + 5, none⟩ = some (.int .i64 ((rd_T52 l0 x3_1).f2))) (ds := []) (tf 0 30) (by kernel_rfl) rfl rfl ⟨((HB.out.cell (World.block_lt_of_cell? w _ hw194_0)).trans hw194_0), ((HB.out.cell (World.block_lt_of_cell? w _ hw194_1)).trans hw194_1), ((HB.out.cell (World.block_lt_of_cell? w _ hw194_2)).trans hw194_2), ((HB.out.cell (World.block_lt_of_cell? w _ hw194_3)).trans hw194_3), ((HB.out.cell (World.block_lt_of_cell? w _ hw194_4)).trans hw194_4), ((HB.out.cell (World.block_lt_of_cell? w _ hw194_5)).trans hw194_5), ((HB.out.cell (World.block_lt_of_cell? w _ hw196_0)).trans hw196_0), ((HB.out.cell (World.block_lt_of_cell? w _ hw196_1)).trans hw196_1), ((HB.out.cell (World.block_lt_of_cell? w _ hw196_2)).trans hw196_2), ((HB.out.cell (World.block_lt_of_cell? w _ hw196_3)).trans hw196_3), ((HB.out.cell (World.block_lt_of_cell? w _ hw196_4)).trans hw196_4), ((HB.out.cell (World.block_lt_of_cell? w _ hw196_5)).trans hw196_5), ((HB.out.cell (World.block_lt_of_cell? w _ hw198_0)).trans hw198_0), ((HB.out.cell (World.block_lt_of_cell? w _ hw198_1)).trans hw198_1), ((HB.out.cell (World.block_lt_of_cell? w _ hw198_2)).trans hw198_2), ((HB.out.cell (World.block_lt_of_cell? w _ hw198_3)).trans hw198_3), ((HB.out.cell (World.block_lt_of_cell? w _ hw198_4)).trans hw198_4), ((HB.out.cell (World.block_lt_of_cell? w _ hw198_5)).trans hw198_5), ((HB.out.cell (World.block_lt_of_cell? w _ hw199_0)).trans hw199_0), ((HB.out.cell (World.block_lt_of_cell? w _ hw199_1)).trans hw199_1), ((HB.out.cell (World.block_lt_of_cell? w _ hw199_2)).trans hw199_2), ((HB.out.cell (World.block_lt_of_cell? w _ hw199_3)).trans hw199_3), ((HB.out.cell (World.block_lt_of_cell? w _ hw199_4)).trans hw199_4), ((HB.out.cell (World.block_lt_of_cell? w _ hw199_5)).trans hw199_5)⟩ (fun hHeld => ?_); refine with_tabW contangoref15_Check.tab8 contangoref15_Check.bits8 (fun HT_ HW_ => ?_)
                          generalize wc.drew = w23 at HB hx194_0 hx194_1 hx194_2 hx194_3 hx194_4 hx194_5 hx196_0 hx196_1 hx196_2 hx196_3 hx196_4 hx196_5 hx198_0 hx198_1 hx198_2 hx198_3 hx198_4 hx198_5 hx199_0 hx199_1 hx199_2 hx199_3 hx199_4 hx199_5 hHeld ⊢
                          refine pv_ 0 30 (tf 1 29) HT_ ?_
                          refine pv_ 1 31 (tf 2 28) HT_ ?_
                          refine pv_ 2 32 (tf 3 27) HT_ ?_
                          refine pv_ 3 33 (tf 4 26) HT_ ?_
                          refine take_ (i := 4) (N := some 34) (v := ?_) (a' := ?_) (tf 5 25) rfl rfl (take_ofW HT_.out HW_.out (by kernel_rfl)) (fun _ _ _ h => h) (Or.inl ⟨by rfl, ?_⟩) hHeld ?_ ?_
                          rotate_left
                          · rintro w' ⟨s0, s1, s2, s3, s4, s5, s6, s7, s8, s9, s10, s11, s12, s13, s14, s15, s16, s17, s18, s19, s20, s21, s22, s23⟩
                            go_simp
                            with_reducible rfl
                          rotate_left
                          · exact ap_
                          refine one_ (i := 5) (N := some 35) (tf 6 24) rfl rfl (one_of HT_.out (by kernel_rfl)) (by decide) (fun K hK => ?_)
                          refine goes_ Try.func61 (by kernel_rfl) rfl #[.int .i64 ((rd_T52 l0 x3_1).f1)] (by rfl) rfl rfl pm_ ?_
                          with_reducible refine (contangoref15_lots.calls ((rd_T52 l0 x3_1).f1) true _ A17.out).mono ?_
                          rintro e w' ⟨rfl, ⟨nd, rfl⟩⟩
                          refine ⟨_, rfl, ?_⟩
                          refine hK.out _ _ ⟨((HB.out.cell (World.block_lt_of_cell? w _ hw194_0)).trans hw194_0), ((HB.out.cell (World.block_lt_of_cell? w _ hw194_1)).trans hw194_1), ((HB.out.cell (World.block_lt_of_cell? w _ hw194_2)).trans hw194_2), ((HB.out.cell (World.block_lt_of_cell? w _ hw194_3)).trans hw194_3), ((HB.out.cell (World.block_lt_of_cell? w _ hw194_4)).trans hw194_4), ((HB.out.cell (World.block_lt_of_cell? w _ hw194_5)).trans hw194_5), ((HB.out.cell (World.block_lt_of_cell? w _ hw196_0)).trans hw196_0), ((HB.out.cell (World.block_lt_of_cell? w _ hw196_1)).trans hw196_1), ((HB.out.cell (World.block_lt_of_cell? w _ hw196_2)).trans hw196_2), ((HB.out.cell (World.block_lt_of_cell? w _ hw196_3)).trans hw196_3), ((HB.out.cell (World.block_lt_of_cell? w _ hw196_4)).trans hw196_4), ((HB.out.cell (World.block_lt_of_cell? w _ hw196_5)).trans hw196_5), ((HB.out.cell (World.block_lt_of_cell? w _ hw198_0)).trans hw198_0), ((HB.out.cell (World.block_lt_of_cell? w _ hw198_1)).trans hw198_1), ((HB.out.cell (World.block_lt_of_cell? w _ hw198_2)).trans hw198_2), ((HB.out.cell (World.block_lt_of_cell? w _ hw198_3)).trans hw198_3), ((HB.out.cell (World.block_lt_of_cell? w _ hw198_4)).trans hw198_4), ((HB.out.cell (World.block_lt_of_cell? w _ hw198_5)).trans hw198_5), ((HB.out.cell (World.block_lt_of_cell? w _ hw199_0)).trans hw199_0), ((HB.out.cell (World.block_lt_of_cell? w _ hw199_1)).trans hw199_1), ((HB.out.cell (World.block_lt_of_cell? w _ hw199_2)).trans hw199_2), ((HB.out.cell (World.block_lt_of_cell? w _ hw199_3)).trans hw199_3), ((HB.out.cell (World.block_lt_of_cell? w _ hw199_4)).trans hw199_4), ((HB.out.cell (World.block_lt_of_cell? w _ hw199_5)).trans hw199_5)⟩ (fun hHeld => ?_)
                          clear hK K
                          refine norm_ (a' := ?_) ?_ ?_
                          rotate_left
                          · show Act.put _ (some 35) _ = _
                            simp only [Act.put, List.setIfInBounds_toArray, List.set_cons_zero, List.set_cons_succ, i64_w, i32_w]
                            rfl
                          refine pv_ 6 36 (tf 7 23) HT_ ?_
                          refine pv_ 7 37 (tf 8 22) HT_ ?_
                          refine pv_ 8 38 (tf 9 21) HT_ ?_
                          refine pv_ 9 39 (tf 10 20) HT_ ?_
                          refine pv_ 10 40 (tf 11 19) HT_ ?_
                          refine pv_ 11 41 (tf 12 18) HT_ ?_
                          refine take_ (i := 12) (N := some 42) (v := ?_) (a' := ?_) (tf 13 17) rfl rfl (take_ofW HT_.out HW_.out (by kernel_rfl)) (fun _ _ _ h => h) (Or.inl ⟨by rfl, ?_⟩) hHeld ?_ ?_
                          rotate_left
                          · rintro w' ⟨s0, s1, s2, s3, s4, s5, s6, s7, s8, s9, s10, s11, s12, s13, s14, s15, s16, s17, s18, s19, s20, s21, s22, s23⟩
                            go_simp
                            with_reducible rfl
                          rotate_left
                          · exact ap_
                          refine one_ (i := 13) (N := some 43) (tf 14 16) rfl rfl (one_of HT_.out (by kernel_rfl)) (by decide) (fun K hK => ?_)
                          refine goes_ Try.func61 (by kernel_rfl) rfl #[.int .i64 ((rd_T52 l0 x3_1).f2)] (by rfl) rfl rfl pm_ ?_
                          with_reducible refine (contangoref15_lots.calls ((rd_T52 l0 x3_1).f2) true _ A19.out).mono ?_
                          rintro e w' ⟨rfl, ⟨nd, rfl⟩⟩
                          refine ⟨_, rfl, ?_⟩
                          refine hK.out _ _ ⟨((HB.out.cell (World.block_lt_of_cell? w _ hw194_0)).trans hw194_0), ((HB.out.cell (World.block_lt_of_cell? w _ hw194_1)).trans hw194_1), ((HB.out.cell (World.block_lt_of_cell? w _ hw194_2)).trans hw194_2), ((HB.out.cell (World.block_lt_of_cell? w _ hw194_3)).trans hw194_3), ((HB.out.cell (World.block_lt_of_cell? w _ hw194_4)).trans hw194_4), ((HB.out.cell (World.block_lt_of_cell? w _ hw194_5)).trans hw194_5), ((HB.out.cell (World.block_lt_of_cell? w _ hw196_0)).trans hw196_0), ((HB.out.cell (World.block_lt_of_cell? w _ hw196_1)).trans hw196_1), ((HB.out.cell (World.block_lt_of_cell? w _ hw196_2)).trans hw196_2), ((HB.out.cell (World.block_lt_of_cell? w _ hw196_3)).trans hw196_3), ((HB.out.cell (World.block_lt_of_cell? w _ hw196_4)).trans hw196_4), ((HB.out.cell (World.block_lt_of_cell? w _ hw196_5)).trans hw196_5), ((HB.out.cell (World.block_lt_of_cell? w _ hw198_0)).trans hw198_0), ((HB.out.cell (World.block_lt_of_cell? w _ hw198_1)).trans hw198_1), ((HB.out.cell (World.block_lt_of_cell? w _ hw198_2)).trans hw198_2), ((HB.out.cell (World.block_lt_of_cell? w _ hw198_3)).trans hw198_3), ((HB.out.cell (World.block_lt_of_cell? w _ hw198_4)).trans hw198_4), ((HB.out.cell (World.block_lt_of_cell? w _ hw198_5)).trans hw198_5), ((HB.out.cell (World.block_lt_of_cell? w _ hw199_0)).trans hw199_0), ((HB.out.cell (World.block_lt_of_cell? w _ hw199_1)).trans hw199_1), ((HB.out.cell (World.block_lt_of_cell? w _ hw199_2)).trans hw199_2), ((HB.out.cell (World.block_lt_of_cell? w _ hw199_3)).trans hw199_3), ((HB.out.cell (World.block_lt_of_cell? w _ hw199_4)).trans hw199_4), ((HB.out.cell (World.block_lt_of_cell? w _ hw199_5)).trans hw199_5)⟩ (fun hHeld => ?_)
                          clear hK K
                          refine norm_ (a' := ?_) ?_ ?_
                          rotate_left
                          · show Act.put _ (some 43) _ = _
                            simp only [Act.put, List.setIfInBounds_toArray, List.set_cons_zero, List.set_cons_succ, i64_w, i32_w]
                            rfl
                          refine pv_ 14 44 (tf 15 15) HT_ ?_
                          refine pv_ 15 45 (tf 16 14) HT_ ?_
                          refine pv_ 16 46 (tf 17 13) HT_ ?_
                          refine pv_ 17 47 (tf 18 12) HT_ ?_
                          refine pv_ 18 48 (tf 19 11) HT_ ?_
                          refine pv_ 19 49 (tf 20 10) HT_ ?_
                          refine pv_ 20 50 (tf 21 9) HT_ ?_
                          refine pv_ 22 52 #[true, true, true, true, true, true, true, true, true, true, true, true, true, true, true, true, true, true, true, true, true, false, true, false, false, false, false, false, false, false] HT_ ?_
                          refine pv_ 23 53 #[true, true, true, true, true, true, true, true, true, true, true, true, true, true, true, true, true, true, true, true, true, false, true, true, false, false, false, false, false, false] HT_ ?_
                          refine pv_ 24 54 #[true, true, true, true, true, true, true, true, true, true, true, true, true, true, true, true, true, true, true, true, true, false, true, true, true, false, false, false, false, false] HT_ ?_
                          refine pv_ 25 55 #[true, true, true, true, true, true, true, true, true, true, true, true, true, true, true, true, true, true, true, true, true, false, true, true, true, true, false, false, false, false] HT_ ?_
                          refine take_ (i := 21) (N := some 51) (v := ?_) (a' := ?_) (tf 26 4) rfl rfl (take_ofW HT_.out HW_.out (by kernel_rfl)) (fun _ _ _ h => h) (Or.inl ⟨by rfl, ?_⟩) hHeld ?_ ?_
                          rotate_left
                          · rintro w' ⟨s0, s1, s2, s3, s4, s5, s6, s7, s8, s9, s10, s11, s12, s13, s14, s15, s16, s17, s18, s19, s20, s21, s22, s23⟩
                            go_simp
                            with_reducible rfl
                          rotate_left
                          · exact ap_
                          refine take_ (i := 26) (N := some 56) (v := ?_) (a' := ?_) (tf 27 3) rfl rfl (take_ofW HT_.out HW_.out (by kernel_rfl)) (fun _ _ _ h => h) (Or.inl ⟨by rfl, ?_⟩) hHeld ?_ ?_
                          rotate_left
                          · rintro w' ⟨s0, s1, s2, s3, s4, s5, s6, s7, s8, s9, s10, s11, s12, s13, s14, s15, s16, s17, s18, s19, s20, s21, s22, s23⟩
                            go_simp
                            with_reducible rfl
                          rotate_left
                          · exact ap_
                          refine pv_ 27 57 (tf 28 2) HT_ ?_
                          refine pv_ 28 58 (tf 29 1) HT_ ?_
                          refine pv_ 29 59 (tf 30 0) HT_ ?_
                          refine done_ (done_of HT_.out (by kernel_rfl)) ?_
                          try go_wp2
                          go_roundg kj3
                          case measure => have := HK1.out; have := HJ3.out; omega
                          case rel => exact ⟨(wrap64 (x3_1 + 1)), rf_, H', ⟨by have := HK1.out; have := HJ3.out; omega⟩, ⟨bz0 HB.out⟩⟩
                      · replace c20 := Bool.eq_false_iff.mpr c20
                        subst c20
                        have H1 : (some 18) = some r := by rw [if_neg (show ¬ (false = true) by decide)] at H; exact H
                        clear H
                        have H := H1
                        clear H1
                        obtain rfl := Option.some.inj H
                        try go_wp2
                        have n0_ := Aside0.mk (below_drew1 HB.out)
                        clear HB
                        have HB := n0_
                        clear n0_
                        have p194 : 0 ≤ (x3_1 : Int) := od_
                        have q194 : x3_1 < (l0.length : Int) := od_
                        obtain ⟨ad194, e194, hx194_0, hx194_1, hx194_2, hx194_3, hx194_4, hx194_5⟩ := at_T52 HR0.out x3_1 p194 q194
                        have hw194_5 := hx194_5
                        have hw194_4 := hx194_4
                        have hw194_3 := hx194_3
                        have hw194_2 := hx194_2
                        have hw194_1 := hx194_1
                        have hw194_0 := hx194_0
                        cases e194
                        replace hx194_0 := (HB.out.cell (World.block_lt_of_cell? w _ hx194_0)).trans hx194_0
                        replace hx194_1 := (HB.out.cell (World.block_lt_of_cell? w _ hx194_1)).trans hx194_1
                        replace hx194_2 := (HB.out.cell (World.block_lt_of_cell? w _ hx194_2)).trans hx194_2
                        replace hx194_3 := (HB.out.cell (World.block_lt_of_cell? w _ hx194_3)).trans hx194_3
                        replace hx194_4 := (HB.out.cell (World.block_lt_of_cell? w _ hx194_4)).trans hx194_4
                        replace hx194_5 := (HB.out.cell (World.block_lt_of_cell? w _ hx194_5)).trans hx194_5
                        replace p194 := eq_true p194
                        replace q194 := eq_true q194
                        have p196 : 0 ≤ (x3_1 : Int) := od_
                        have q196 : x3_1 < (l0.length : Int) := od_
                        obtain ⟨ad196, e196, hx196_0, hx196_1, hx196_2, hx196_3, hx196_4, hx196_5⟩ := at_T52 HR0.out x3_1 p196 q196
                        have hw196_5 := hx196_5
                        have hw196_4 := hx196_4
                        have hw196_3 := hx196_3
                        have hw196_2 := hx196_2
                        have hw196_1 := hx196_1
                        have hw196_0 := hx196_0
                        obtain rfl : ad194 = ad196 := (by injection e196)
                        replace hx196_0 := (HB.out.cell (World.block_lt_of_cell? w _ hx196_0)).trans hx196_0
                        replace hx196_1 := (HB.out.cell (World.block_lt_of_cell? w _ hx196_1)).trans hx196_1
                        replace hx196_2 := (HB.out.cell (World.block_lt_of_cell? w _ hx196_2)).trans hx196_2
                        replace hx196_3 := (HB.out.cell (World.block_lt_of_cell? w _ hx196_3)).trans hx196_3
                        replace hx196_4 := (HB.out.cell (World.block_lt_of_cell? w _ hx196_4)).trans hx196_4
                        replace hx196_5 := (HB.out.cell (World.block_lt_of_cell? w _ hx196_5)).trans hx196_5
                        replace p196 := eq_true p196
                        replace q196 := eq_true q196
                        refine start_ (n := 30) (S := fun w' => w'.cell? (ad194.add ((x3_1).toNat * 6)) = some (.string ((rd_T52 l0 x3_1).f0.f0)) ∧ w'.cell? ⟨(ad194.add ((x3_1).toNat * 6)).block, (ad194.add ((x3_1).toNat * 6)).off + 1, none⟩ = some (.int .i64 ((rd_T52 l0 x3_1).f0.f1)) ∧ w'.cell? ⟨(ad194.add ((x3_1).toNat * 6)).block, (ad194.add ((x3_1).toNat * 6)).off + 2, none⟩ = some (.int .i64 ((rd_T52 l0 x3_1).f0.f2)) ∧ w'.cell? ⟨(ad194.add ((x3_1).toNat * 6)).block, (ad194.add ((x3_1).toNat * 6)).off + 3, none⟩ = some (.int .i64 ((rd_T52 l0 x3_1).f0.f3)) ∧ w'.cell? ⟨(ad194.add ((x3_1).toNat * 6)).block, (ad194.add ((x3_1).toNat * 6)).off + 4, none⟩ = some (.int .i64 ((rd_T52 l0 x3_1).f1)) ∧ w'.cell? ⟨(ad194.add ((x3_1).toNat * 6)).block, (ad194.add ((x3_1).toNat * 6)).off + 5, none⟩ = some (.int .i64 ((rd_T52 l0 x3_1).f2)) ∧ w'.cell? (ad194.add ((x3_1).toNat * 6)) = some (.string ((rd_T52 l0 x3_1).f0.f0)) ∧ w'.cell? ⟨(ad194.add ((x3_1).toNat * 6)).block, (ad194.add ((x3_1).toNat * 6)).off + 1, none⟩ = some (.int .i64 ((rd_T52 l0 x3_1).f0.f1)) ∧ w'.cell? ⟨(ad194.add ((x3_1).toNat * 6)).block, (ad194.add ((x3_1).toNat * 6)).off + 2, none⟩ = some (.int .i64 ((rd_T52 l0 x3_1).f0.f2)) ∧ w'.cell? ⟨(ad194.add ((x3_1).toNat * 6)).block, (ad194.add ((x3_1).toNat * 6)).off + 3, none⟩ = some (.int .i64 ((rd_T52 l0 x3_1).f0.f3)) ∧ w'.cell? ⟨(ad194.add ((x3_1).toNat * 6)).block, (ad194.add ((x3_1).toNat * 6)).off + 4, none⟩ = some (.int .i64 ((rd_T52 l0 x3_1).f1)) ∧ w'.cell? ⟨(ad194.add ((x3_1).toNat * 6)).block, (ad194.add ((x3_1).toNat * 6)).off + 5, none⟩ = some (.int .i64 ((rd_T52 l0 x3_1).f2))) (ds := []) (tf 0 30) (by kernel_rfl) rfl rfl ⟨((HB.out.cell (World.block_lt_of_cell? w _ hw194_0)).trans hw194_0), ((HB.out.cell (World.block_lt_of_cell? w _ hw194_1)).trans hw194_1), ((HB.out.cell (World.block_lt_of_cell? w _ hw194_2)).trans hw194_2), ((HB.out.cell (World.block_lt_of_cell? w _ hw194_3)).trans hw194_3), ((HB.out.cell (World.block_lt_of_cell? w _ hw194_4)).trans hw194_4), ((HB.out.cell (World.block_lt_of_cell? w _ hw194_5)).trans hw194_5), ((HB.out.cell (World.block_lt_of_cell? w _ hw196_0)).trans hw196_0), ((HB.out.cell (World.block_lt_of_cell? w _ hw196_1)).trans hw196_1), ((HB.out.cell (World.block_lt_of_cell? w _ hw196_2)).trans hw196_2), ((HB.out.cell (World.block_lt_of_cell? w _ hw196_3)).trans hw196_3), ((HB.out.cell (World.block_lt_of_cell? w _ hw196_4)).trans hw196_4), ((HB.out.cell (World.block_lt_of_cell? w _ hw196_5)).trans hw196_5)⟩ (fun hHeld => ?_); refine with_tabW contangoref15_Check.tab8 contangoref15_Check.bits8 (fun HT_ HW_ => ?_)
                        generalize wc.drew = w24 at HB hx194_0 hx194_1 hx194_2 hx194_3 hx194_4 hx194_5 hx196_0 hx196_1 hx196_2 hx196_3 hx196_4 hx196_5 hHeld ⊢
                        refine pv_ 0 30 (tf 1 29) HT_ ?_
                        refine pv_ 1 31 (tf 2 28) HT_ ?_
                        refine pv_ 2 32 (tf 3 27) HT_ ?_
                        refine pv_ 3 33 (tf 4 26) HT_ ?_
                        refine take_ (i := 4) (N := some 34) (v := ?_) (a' := ?_) (tf 5 25) rfl rfl (take_ofW HT_.out HW_.out (by kernel_rfl)) (fun _ _ _ h => h) (Or.inl ⟨by rfl, ?_⟩) hHeld ?_ ?_
                        rotate_left
                        · rintro w' ⟨s0, s1, s2, s3, s4, s5, s6, s7, s8, s9, s10, s11⟩
                          go_simp
                          with_reducible rfl
                        rotate_left
                        · exact ap_
                        refine one_ (i := 5) (N := some 35) (tf 6 24) rfl rfl (one_of HT_.out (by kernel_rfl)) (by decide) (fun K hK => ?_)
                        refine goes_ Try.func61 (by kernel_rfl) rfl #[.int .i64 ((rd_T52 l0 x3_1).f1)] (by rfl) rfl rfl pm_ ?_
                        with_reducible refine (contangoref15_lots.calls ((rd_T52 l0 x3_1).f1) true _ A17.out).mono ?_
                        rintro e w' ⟨rfl, ⟨nd, rfl⟩⟩
                        refine ⟨_, rfl, ?_⟩
                        refine hK.out _ _ ⟨((HB.out.cell (World.block_lt_of_cell? w _ hw194_0)).trans hw194_0), ((HB.out.cell (World.block_lt_of_cell? w _ hw194_1)).trans hw194_1), ((HB.out.cell (World.block_lt_of_cell? w _ hw194_2)).trans hw194_2), ((HB.out.cell (World.block_lt_of_cell? w _ hw194_3)).trans hw194_3), ((HB.out.cell (World.block_lt_of_cell? w _ hw194_4)).trans hw194_4), ((HB.out.cell (World.block_lt_of_cell? w _ hw194_5)).trans hw194_5), ((HB.out.cell (World.block_lt_of_cell? w _ hw196_0)).trans hw196_0), ((HB.out.cell (World.block_lt_of_cell? w _ hw196_1)).trans hw196_1), ((HB.out.cell (World.block_lt_of_cell? w _ hw196_2)).trans hw196_2), ((HB.out.cell (World.block_lt_of_cell? w _ hw196_3)).trans hw196_3), ((HB.out.cell (World.block_lt_of_cell? w _ hw196_4)).trans hw196_4), ((HB.out.cell (World.block_lt_of_cell? w _ hw196_5)).trans hw196_5)⟩ (fun hHeld => ?_)
                        clear hK K
                        refine norm_ (a' := ?_) ?_ ?_
                        rotate_left
                        · show Act.put _ (some 35) _ = _
                          simp only [Act.put, List.setIfInBounds_toArray, List.set_cons_zero, List.set_cons_succ, i64_w, i32_w]
                          rfl
                        refine pv_ 6 36 (tf 7 23) HT_ ?_
                        refine pv_ 7 37 (tf 8 22) HT_ ?_
                        refine pv_ 8 38 (tf 9 21) HT_ ?_
                        refine pv_ 9 39 (tf 10 20) HT_ ?_
                        refine pv_ 10 40 (tf 11 19) HT_ ?_
                        refine pv_ 11 41 (tf 12 18) HT_ ?_
                        refine take_ (i := 12) (N := some 42) (v := ?_) (a' := ?_) (tf 13 17) rfl rfl (take_ofW HT_.out HW_.out (by kernel_rfl)) (fun _ _ _ h => h) (Or.inl ⟨by rfl, ?_⟩) hHeld ?_ ?_
                        rotate_left
                        · rintro w' ⟨s0, s1, s2, s3, s4, s5, s6, s7, s8, s9, s10, s11⟩
                          go_simp
                          with_reducible rfl
                        rotate_left
                        · exact ap_
                        refine one_ (i := 13) (N := some 43) (tf 14 16) rfl rfl (one_of HT_.out (by kernel_rfl)) (by decide) (fun K hK => ?_)
                        refine goes_ Try.func61 (by kernel_rfl) rfl #[.int .i64 ((rd_T52 l0 x3_1).f2)] (by rfl) rfl rfl pm_ ?_
                        with_reducible refine (contangoref15_lots.calls ((rd_T52 l0 x3_1).f2) false _ A19.out).mono ?_
                        rintro e w' ⟨rfl, ⟨nd, rfl⟩⟩
                        refine ⟨_, rfl, ?_⟩
                        refine hK.out _ _ ⟨((HB.out.cell (World.block_lt_of_cell? w _ hw194_0)).trans hw194_0), ((HB.out.cell (World.block_lt_of_cell? w _ hw194_1)).trans hw194_1), ((HB.out.cell (World.block_lt_of_cell? w _ hw194_2)).trans hw194_2), ((HB.out.cell (World.block_lt_of_cell? w _ hw194_3)).trans hw194_3), ((HB.out.cell (World.block_lt_of_cell? w _ hw194_4)).trans hw194_4), ((HB.out.cell (World.block_lt_of_cell? w _ hw194_5)).trans hw194_5), ((HB.out.cell (World.block_lt_of_cell? w _ hw196_0)).trans hw196_0), ((HB.out.cell (World.block_lt_of_cell? w _ hw196_1)).trans hw196_1), ((HB.out.cell (World.block_lt_of_cell? w _ hw196_2)).trans hw196_2), ((HB.out.cell (World.block_lt_of_cell? w _ hw196_3)).trans hw196_3), ((HB.out.cell (World.block_lt_of_cell? w _ hw196_4)).trans hw196_4), ((HB.out.cell (World.block_lt_of_cell? w _ hw196_5)).trans hw196_5)⟩ (fun hHeld => ?_)
                        clear hK K
                        refine norm_ (a' := ?_) ?_ ?_
                        rotate_left
                        · show Act.put _ (some 43) _ = _
                          simp only [Act.put, List.setIfInBounds_toArray, List.set_cons_zero, List.set_cons_succ, i64_w, i32_w]
                          rfl
                        refine pv_ 14 44 (tf 15 15) HT_ ?_
                        refine pv_ 15 45 (tf 16 14) HT_ ?_
                        refine pv_ 16 46 (tf 17 13) HT_ ?_
                        refine pu_ 17 47 (tf 18 12) HT_ ?_
                        refine pu_ 18 48 (tf 19 11) HT_ ?_
                        refine pu_ 19 49 (tf 20 10) HT_ ?_
                        refine pu_ 20 50 (tf 21 9) HT_ ?_
                        refine pu_ 21 51 (tf 22 8) HT_ ?_
                        refine pu_ 22 52 (tf 23 7) HT_ ?_
                        refine pu_ 23 53 (tf 24 6) HT_ ?_
                        refine pu_ 24 54 (tf 25 5) HT_ ?_
                        refine pu_ 25 55 (tf 26 4) HT_ ?_
                        refine pu_ 26 56 (tf 27 3) HT_ ?_
                        refine pu_ 27 57 (tf 28 2) HT_ ?_
                        refine pu_ 28 58 (tf 29 1) HT_ ?_
                        refine pv_ 29 59 (tf 30 0) HT_ ?_
                        refine done_ (done_of HT_.out (by kernel_rfl)) ?_
                        try go_wp2
                        go_ret
                        exact ⟨by first | rfl | (simp [errW_none, errW_some] <;> rfl) | (simp [*, errW_none, errW_some] <;> rfl), bz0 HB.out⟩
                    · replace c18 := Bool.eq_false_iff.mpr c18
                      subst c18
                      have H1 : (some 18) = some r := by rw [if_neg (show ¬ (false = true) by decide)] at H; exact H
                      clear H
                      have H := H1
                      clear H1
                      obtain rfl := Option.some.inj H
                      try go_wp2
                      have n0_ := Aside0.mk (below_drew1 HB.out)
                      clear HB
                      have HB := n0_
                      clear n0_
                      have p194 : 0 ≤ (x3_1 : Int) := od_
                      have q194 : x3_1 < (l0.length : Int) := od_
                      obtain ⟨ad194, e194, hx194_0, hx194_1, hx194_2, hx194_3, hx194_4, hx194_5⟩ := at_T52 HR0.out x3_1 p194 q194
                      have hw194_5 := hx194_5
                      have hw194_4 := hx194_4
                      have hw194_3 := hx194_3
                      have hw194_2 := hx194_2
                      have hw194_1 := hx194_1
                      have hw194_0 := hx194_0
                      cases e194
                      replace hx194_0 := (HB.out.cell (World.block_lt_of_cell? w _ hx194_0)).trans hx194_0
                      replace hx194_1 := (HB.out.cell (World.block_lt_of_cell? w _ hx194_1)).trans hx194_1
                      replace hx194_2 := (HB.out.cell (World.block_lt_of_cell? w _ hx194_2)).trans hx194_2
                      replace hx194_3 := (HB.out.cell (World.block_lt_of_cell? w _ hx194_3)).trans hx194_3
                      replace hx194_4 := (HB.out.cell (World.block_lt_of_cell? w _ hx194_4)).trans hx194_4
                      replace hx194_5 := (HB.out.cell (World.block_lt_of_cell? w _ hx194_5)).trans hx194_5
                      replace p194 := eq_true p194
                      replace q194 := eq_true q194
                      refine start_ (n := 30) (S := fun w' => w'.cell? (ad194.add ((x3_1).toNat * 6)) = some (.string ((rd_T52 l0 x3_1).f0.f0)) ∧ w'.cell? ⟨(ad194.add ((x3_1).toNat * 6)).block, (ad194.add ((x3_1).toNat * 6)).off + 1, none⟩ = some (.int .i64 ((rd_T52 l0 x3_1).f0.f1)) ∧ w'.cell? ⟨(ad194.add ((x3_1).toNat * 6)).block, (ad194.add ((x3_1).toNat * 6)).off + 2, none⟩ = some (.int .i64 ((rd_T52 l0 x3_1).f0.f2)) ∧ w'.cell? ⟨(ad194.add ((x3_1).toNat * 6)).block, (ad194.add ((x3_1).toNat * 6)).off + 3, none⟩ = some (.int .i64 ((rd_T52 l0 x3_1).f0.f3)) ∧ w'.cell? ⟨(ad194.add ((x3_1).toNat * 6)).block, (ad194.add ((x3_1).toNat * 6)).off + 4, none⟩ = some (.int .i64 ((rd_T52 l0 x3_1).f1)) ∧ w'.cell? ⟨(ad194.add ((x3_1).toNat * 6)).block, (ad194.add ((x3_1).toNat * 6)).off + 5, none⟩ = some (.int .i64 ((rd_T52 l0 x3_1).f2))) (ds := []) (tf 0 30) (by kernel_rfl) rfl rfl ⟨((HB.out.cell (World.block_lt_of_cell? w _ hw194_0)).trans hw194_0), ((HB.out.cell (World.block_lt_of_cell? w _ hw194_1)).trans hw194_1), ((HB.out.cell (World.block_lt_of_cell? w _ hw194_2)).trans hw194_2), ((HB.out.cell (World.block_lt_of_cell? w _ hw194_3)).trans hw194_3), ((HB.out.cell (World.block_lt_of_cell? w _ hw194_4)).trans hw194_4), ((HB.out.cell (World.block_lt_of_cell? w _ hw194_5)).trans hw194_5)⟩ (fun hHeld => ?_); refine with_tabW contangoref15_Check.tab8 contangoref15_Check.bits8 (fun HT_ HW_ => ?_)
                      generalize wc.drew = w25 at HB hx194_0 hx194_1 hx194_2 hx194_3 hx194_4 hx194_5 hHeld ⊢
                      refine pv_ 0 30 (tf 1 29) HT_ ?_
                      refine pv_ 1 31 (tf 2 28) HT_ ?_
                      refine pv_ 2 32 (tf 3 27) HT_ ?_
                      refine pv_ 3 33 (tf 4 26) HT_ ?_
                      refine take_ (i := 4) (N := some 34) (v := ?_) (a' := ?_) (tf 5 25) rfl rfl (take_ofW HT_.out HW_.out (by kernel_rfl)) (fun _ _ _ h => h) (Or.inl ⟨by rfl, ?_⟩) hHeld ?_ ?_
                      rotate_left
                      · rintro w' ⟨s0, s1, s2, s3, s4, s5⟩
                        go_simp
                        with_reducible rfl
                      rotate_left
                      · exact ap_
                      refine one_ (i := 5) (N := some 35) (tf 6 24) rfl rfl (one_of HT_.out (by kernel_rfl)) (by decide) (fun K hK => ?_)
                      refine goes_ Try.func61 (by kernel_rfl) rfl #[.int .i64 ((rd_T52 l0 x3_1).f1)] (by rfl) rfl rfl pm_ ?_
                      with_reducible refine (contangoref15_lots.calls ((rd_T52 l0 x3_1).f1) false _ A17.out).mono ?_
                      rintro e w' ⟨rfl, ⟨nd, rfl⟩⟩
                      refine ⟨_, rfl, ?_⟩
                      refine hK.out _ _ ⟨((HB.out.cell (World.block_lt_of_cell? w _ hw194_0)).trans hw194_0), ((HB.out.cell (World.block_lt_of_cell? w _ hw194_1)).trans hw194_1), ((HB.out.cell (World.block_lt_of_cell? w _ hw194_2)).trans hw194_2), ((HB.out.cell (World.block_lt_of_cell? w _ hw194_3)).trans hw194_3), ((HB.out.cell (World.block_lt_of_cell? w _ hw194_4)).trans hw194_4), ((HB.out.cell (World.block_lt_of_cell? w _ hw194_5)).trans hw194_5)⟩ (fun hHeld => ?_)
                      clear hK K
                      refine norm_ (a' := ?_) ?_ ?_
                      rotate_left
                      · show Act.put _ (some 35) _ = _
                        simp only [Act.put, List.setIfInBounds_toArray, List.set_cons_zero, List.set_cons_succ, i64_w, i32_w]
                        rfl
                      refine pv_ 6 36 (tf 7 23) HT_ ?_
                      refine pv_ 7 37 (tf 8 22) HT_ ?_
                      refine pu_ 8 38 (tf 9 21) HT_ ?_
                      refine pu_ 9 39 (tf 10 20) HT_ ?_
                      refine pu_ 10 40 (tf 11 19) HT_ ?_
                      refine pu_ 11 41 (tf 12 18) HT_ ?_
                      refine pu_ 12 42 (tf 13 17) HT_ ?_
                      refine pu_ 13 43 (tf 14 16) HT_ ?_
                      refine pu_ 14 44 (tf 15 15) HT_ ?_
                      refine pv_ 15 45 (tf 16 14) HT_ ?_
                      refine pv_ 16 46 (tf 17 13) HT_ ?_
                      refine pu_ 17 47 (tf 18 12) HT_ ?_
                      refine pu_ 18 48 (tf 19 11) HT_ ?_
                      refine pu_ 19 49 (tf 20 10) HT_ ?_
                      refine pu_ 20 50 (tf 21 9) HT_ ?_
                      refine pu_ 21 51 (tf 22 8) HT_ ?_
                      refine pu_ 22 52 (tf 23 7) HT_ ?_
                      refine pu_ 23 53 (tf 24 6) HT_ ?_
                      refine pu_ 24 54 (tf 25 5) HT_ ?_
                      refine pu_ 25 55 (tf 26 4) HT_ ?_
                      refine pu_ 26 56 (tf 27 3) HT_ ?_
                      refine pu_ 27 57 (tf 28 2) HT_ ?_
                      refine pu_ 28 58 (tf 29 1) HT_ ?_
                      refine pv_ 29 59 (tf 30 0) HT_ ?_
                      refine done_ (done_of HT_.out (by kernel_rfl)) ?_
                      try go_wp2
                      go_ret
                      exact ⟨by first | rfl | (simp [errW_none, errW_some] <;> rfl) | (simp [*, errW_none, errW_some] <;> rfl), bz0 HB.out⟩
                  · rw [if_neg c16] at H
                    exact absurd H (by simp)
                · rw [if_neg c15] at H
                  exact absurd H (by simp)
        · rw [if_neg c3] at H
          have c3b0 : decide (x3_1 < (l0.length : Int)) = false := decide_eq_false c3
          clear c3
          obtain rfl := Option.some.inj H
          go_wp2
          go_ret
          exact ⟨by first | rfl | (simp [errW_none, errW_some] <;> rfl) | (simp [*, errW_none, errW_some] <;> rfl), bz0 HB.out⟩

end Go.Proofs.Ytjmkdmbgldcleaa.PTearApplies
