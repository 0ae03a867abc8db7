-- Written by a program of this session's (a turned copy of the kit's print, with functions proved by hand).
import Derived.Test.YtmgeoombebkfaaaPDeliverSidesx0
import Derived.Test.YtmgeoombebkfaaaPDeliverSidesx5
import Derived.Test.YtmgeoombebkfaaaPDeliverSidesx13
namespace Go.Proofs.Ytmgeoombebkfaaa.PDeliverSides
open Go.RowKit Go.Proofs.YtmgeoombebkfaaaW.PrintWords Go.Proofs.YtmgeoombebkfaaaW.PrintLast Go.Proofs.YtmgeoombebkfaaaW.PrintMore
attribute [local go_sem] max2_int min2_int max_two min_two max_three min_three max_four min_four Go.Proofs.YtmgeoombebkfaaaHand.run_leq_str Go.Proofs.YtmgeoombebkfaaaHand.run_gtr_str Go.Proofs.YtmgeoombebkfaaaHand.run_geq_str   -- for this text's walks alone
set_option linter.unusedVariables false
set_option linter.unusedSimpArgs false

attribute [local go_sem high] eqA67
/-! ### position_Check: function 42 -/
mutual
def position_Check.l0 : Nat → List (S97) → List (S97) → Int → Int → Option (Int)
  | 0, _, _, _, _ => none
  | k + 1, x0, x8, x9, x10 => if x10 < x9 then (if 0 ≤ x10 then (if x10 < (x8.length : Int) then (if x10 > 0 then (if 0 ≤ (wrap64 (x10 - 1)) then (if (wrap64 (x10 - 1)) < (x0.length : Int) then ((series_Compare.f ((rd_T97 x0 (wrap64 (x10 - 1))).f0.f0) ((rd_T97 x0 (wrap64 (x10 - 1))).f0.f1) ((rd_T97 x0 (wrap64 (x10 - 1))).f0.f2) ((rd_T97 x0 (wrap64 (x10 - 1))).f0.f3) ((rd_T97 x8 x10).f0.f0) ((rd_T97 x8 x10).f0.f1) ((rd_T97 x8 x10).f0.f2) ((rd_T97 x8 x10).f0.f3)).bind fun t185 => (position_Check.j1 k x0 x8 x9 x10 (decide (t185 ≥ 0)) ((rd_T97 x8 x10).f0.f0) ((rd_T97 x8 x10).f0.f1) ((rd_T97 x8 x10).f0.f2) ((rd_T97 x8 x10).f0.f3) ((rd_T97 x8 x10).f1) ((rd_T97 x8 x10).f2))) else (none)) else (none)) else (position_Check.j1 k x0 x8 x9 x10 false ((rd_T97 x8 x10).f0.f0) ((rd_T97 x8 x10).f0.f1) ((rd_T97 x8 x10).f0.f2) ((rd_T97 x8 x10).f0.f3) ((rd_T97 x8 x10).f1) ((rd_T97 x8 x10).f2))) else (none)) else (none)) else (some 0)
def position_Check.j1 : Nat → List (S97) → List (S97) → Int → Int → Bool → ByteArray → Int → Int → Int → Int → Int → Option (Int)
  | 0, _, _, _, _, _, _, _, _, _, _, _ => none
  | k + 1, x0, x8, x9, x10, x28, x184000, x184001, x184002, x184003, x184004, x184005 => if x28 = true then (some 19) else ((position_lots.f x184004).bind fun t186 => (if t186 = true then ((position_lots.f x184005).bind fun t187 => (if t187 = true then (if x184004 = 0 then (if x184005 = 0 then (some 18) else (position_Check.l0 k x0 x8 x9 (wrap64 (x10 + 1)))) else (position_Check.l0 k x0 x8 x9 (wrap64 (x10 + 1)))) else (some 18))) else (some 18)))
end
def position_Check.f (k : Nat) (l0 : List (S97)) : Option (Int) := if (l0.length : Int) > 128 then (some 8) else (position_Check.l0 k l0 l0 (l0.length : Int) 0)
theorem position_Check.mono_l : ∀ k, (∀ y0 y1 y2 y3, LeO (position_Check.l0 k y0 y1 y2 y3) (position_Check.l0 (k + 1) y0 y1 y2 y3)) ∧ (∀ y0 y1 y2 y3 y4 y5 y6 y7 y8 y9 y10, LeO (position_Check.j1 k y0 y1 y2 y3 y4 y5 y6 y7 y8 y9 y10) (position_Check.j1 (k + 1) y0 y1 y2 y3 y4 y5 y6 y7 y8 y9 y10))
  | 0 => ⟨fun _ _ _ _ r h => by simp [position_Check.l0] at h, fun _ _ _ _ _ _ _ _ _ _ _ r h => by simp [position_Check.j1] at h⟩
  | k + 1 => by
    obtain ⟨ih0, ih1⟩ := position_Check.mono_l k
    refine ⟨?_, ?_⟩
    · intro y0 y1 y2 y3
      unfold position_Check.l0
      repeat' first
      | (with_reducible exact ih0 _ _ _ _)
      | (with_reducible exact ih1 _ _ _ _ _ _ _ _ _ _ _)
      | (with_reducible exact LeO.refl _)
      | (with_reducible exact LeO.none _)
      | (with_reducible refine LeO.ite ?_ ?_)
      | (with_reducible refine LeO.bind ?_ (fun _ => ?_))
      | exact ih0 _ _ _ _
      | exact ih1 _ _ _ _ _ _ _ _ _ _ _
      | exact LeO.none _
      | refine LeO.ite ?_ ?_
      | refine LeO.bind ?_ (fun _ => ?_)
    · intro y0 y1 y2 y3 y4 y5 y6 y7 y8 y9 y10
      unfold position_Check.j1
      repeat' first
      | (with_reducible exact ih0 _ _ _ _)
      | (with_reducible exact ih1 _ _ _ _ _ _ _ _ _ _ _)
      | (with_reducible exact LeO.refl _)
      | (with_reducible exact LeO.none _)
      | (with_reducible refine LeO.ite ?_ ?_)
      | (with_reducible refine LeO.bind ?_ (fun _ => ?_))
      | exact ih0 _ _ _ _
      | exact ih1 _ _ _ _ _ _ _ _ _ _ _
      | exact LeO.none _
      | refine LeO.ite ?_ ?_
      | refine LeO.bind ?_ (fun _ => ?_)
theorem position_Check.mono : ∀ a0 k, LeO (position_Check.f k a0) (position_Check.f (k + 1) a0) := by
  intro a0 k
  obtain ⟨ih0, ih1⟩ := position_Check.mono_l k
  unfold position_Check.f
  repeat' first
      | (with_reducible exact ih0 _ _ _ _)
      | (with_reducible exact ih1 _ _ _ _ _ _ _ _ _ _ _)
      | (with_reducible exact LeO.refl _)
      | (with_reducible exact LeO.none _)
      | (with_reducible refine LeO.ite ?_ ?_)
      | (with_reducible refine LeO.bind ?_ (fun _ => ?_))
      | exact ih0 _ _ _ _
      | exact ih1 _ _ _ _ _ _ _ _ _ _ _
      | exact LeO.none _
      | refine LeO.ite ?_ ?_
      | refine LeO.bind ?_ (fun _ => ?_)
def position_Check.T6 : Bool × List (List Nat × List Nat) := (true, [([], []), ([0], [0]), ([1], [1]), ([2], [2]), ([2], [2]), ([4, 2], [2, 4]), ([3, 5, 2], [2, 3, 5]), ([6, 2], [2, 6]), ([7, 2], [2, 7]), ([2], [2]), ([9, 2], [2, 9]), ([8, 10, 2, 2], [2, 8, 10]), ([11, 2], [2, 11]), ([2, 12], [2, 12])])
def position_Check.B6 : List Nat := [0, 1, 3, 7, 7, 23, 63, 127, 255, 7, 519, 2047, 4095, 8191]
theorem position_Check.tab6 : rtab .any (opsOf Try.f42 6) = position_Check.T6 := by kernel_rfl
theorem position_Check.bits6 : waitsOk position_Check.T6.2 position_Check.B6 = true := by kernel_rfl
set_option maxHeartbeats 8000000 in
set_option maxRecDepth 100000 in
theorem position_Check.calls (k : Nat) (A0 : Option Addr) (c0 : Nat) (l0 : List (S97)) (r : Int) (w : World) (hr0 : Kd.C k97 w A0 l0.length l0) (hc0 : l0.length ≤ c0) (h : position_Check.f k l0 = some r) :
    Calls Try.prog 42 #[.slice A0 l0.length c0] w fun e w' => e = .returned (.int .i64 r) ∧ Below w.heap.size w w' := by
 have hu97 := Try.underlying97
 have hu67 := Try.underlying67
 have HR0 := Aside0.mk hr0
 have HC0 := Aside0.mk hc0
 clear hr0 hc0
 have HB := Aside0.mk (Below.refl w.heap.size w)
 have H : (if (l0.length : Int) > 128 then (some 8) else (position_Check.l0 k l0 l0 (l0.length : Int) 0)) = some r := h
 clear h
 by_cases c2 : (l0.length : Int) > 128
 · rw [if_pos c2] at H
   have c2b0 : decide (128 < (l0.length : Int)) = true := decide_eq_true c2
   have c2b1 : decide (128 < l0.length) = true := decide_eq_true (by omega)
   clear c2
   obtain rfl := Option.some.inj H
   go_enter Try.func42, Try.ntmps42
   go_wp2
   go_ret
   exact ⟨by first | rfl | (simp [errW_none, errW_some] <;> rfl) | (simp [*, errW_none, errW_some] <;> rfl), by repeat (first | (with_reducible first | exact HB.out | apply below_alloc | apply pw_below_drewN | apply below_drew1) | exact HB.out)⟩
 rw [if_neg c2] at H
 have c2b0 : decide (128 < (l0.length : Int)) = false := decide_eq_false c2
 have c2b1 : decide (128 < l0.length) = false := decide_eq_false (by omega)
 clear c2
 have H' := Aside0.mk H
 clear H
 go_enter Try.func42, Try.ntmps42
 go_wp2
 go_loopg [10] k (fun kq v10 w' => ∃ (x10_1 : Int), v10 = .int .i64 x10_1 ∧ Aside0 (position_Check.l0 kq l0 l0 (l0.length : Int) x10_1 = some r) ∧ Aside0 (kq ≤ k) ∧ Aside0 (Below w.heap.size w w'))
 case atStart => exact ⟨(0), (by first | rfl | (simp; done) | (simp [*]; done)), H', ⟨Nat.le_refl _⟩, ⟨by repeat (first | (with_reducible first | exact HB.out | apply below_alloc | apply pw_below_drewN | apply below_drew1) | exact HB.out)⟩⟩
 case round =>
  clear H'
  try clear c2
  try clear c2b0
  try clear c2b1
  try clear p2
  obtain ⟨x10_1, rfl, HA, HK1, HB⟩ := hrel
  cases gk with
  | zero => exact absurd HA.out (by simp [position_Check.l0])
  | succ k1 =>
   have H := HA.out
   clear HA
   simp only [position_Check.l0] at H
   by_cases c3 : x10_1 < (l0.length : Int)
   rotate_left
   · rw [if_neg c3] at H
     have c3b0 : decide (x10_1 < (l0.length : Int)) = false := decide_eq_false c3
     clear c3
     obtain rfl := Option.some.inj H
     go_wp2
     go_ret
     exact ⟨by first | rfl | (simp [errW_none, errW_some] <;> rfl) | (simp [*, errW_none, errW_some] <;> rfl), by repeat (first | (with_reducible first | exact HB.out | apply below_alloc | apply pw_below_drewN | apply below_drew1) | exact HB.out)⟩
   rw [if_pos c3] at H
   have c3b0 : decide (x10_1 < (l0.length : Int)) = true := decide_eq_true c3
   clear c3
   by_cases c4 : 0 ≤ x10_1
   rotate_left
   · rw [if_neg c4] at H
     exact absurd H (by simp)
   rw [if_pos c4] at H
   have c4b0 : decide (0 ≤ x10_1) = true := decide_eq_true c4
   clear c4
   by_cases c5 : x10_1 < (l0.length : Int)
   rotate_left
   · rw [if_neg c5] at H
     exact absurd H (by simp)
   rw [if_pos c5] at H
   have c5b0 : decide (x10_1 < (l0.length : Int)) = true := decide_eq_true c5
   clear c5
   have HC6 := Aside0.mk H
   clear H
   have p182 : 0 ≤ (x10_1 : Int) := of_decide_eq_true (by first | (with_reducible assumption) | assumption)
   have q182 : x10_1 < (l0.length : Int) := of_decide_eq_true (by first | (with_reducible assumption) | assumption)
   obtain ⟨ad182, e182, hx182_0, hx182_1, hx182_2, hx182_3, hx182_4, hx182_5⟩ := at_T97 HR0.out x10_1 p182 q182
   cases e182
   replace hx182_0 := (HB.out.cell (World.block_lt_of_cell? w _ hx182_0)).trans hx182_0
   replace hx182_1 := (HB.out.cell (World.block_lt_of_cell? w _ hx182_1)).trans hx182_1
   replace hx182_2 := (HB.out.cell (World.block_lt_of_cell? w _ hx182_2)).trans hx182_2
   replace hx182_3 := (HB.out.cell (World.block_lt_of_cell? w _ hx182_3)).trans hx182_3
   replace hx182_4 := (HB.out.cell (World.block_lt_of_cell? w _ hx182_4)).trans hx182_4
   replace hx182_5 := (HB.out.cell (World.block_lt_of_cell? w _ hx182_5)).trans hx182_5
   replace p182 := eq_true p182
   replace q182 := eq_true q182
   go_upto_region 6 with (first | ((with_reducible refine gate_dst (N := 4) rfl ?_); refine box_event ?hg (N := 4) ?hd (cs := #[.string (⟨#[]⟩ : ByteArray), .int .i64 0, .int .i64 0, .int .i64 0, .int .i64 0, .int .i64 0]) (t := 97) ?hr ?_; (case hd => rfl); (case hg => rfl); (case hr => first | (go_simp; done) | (go_simp; rfl)); intro gb183 hg w7 hbox hb; have n0_ := Aside0.mk (below_step (by repeat (first | (with_reducible first | exact HB.out | apply below_alloc | apply pw_below_drewN | apply below_drew1) | exact HB.out)) hb); have n1_ := Aside0.mk (hbox); have n2_ := Aside0.mk ((by rw [hg]; exact (below_size (by repeat (first | (with_reducible first | exact HB.out | apply below_alloc | apply pw_below_drewN | apply below_drew1) | exact HB.out))) : w.heap.size ≤ gb183)); have n3_ := Aside0.mk ((by rw [hg]; exact (below_size (by repeat (first | (with_reducible first | exact HB.out | apply below_alloc | apply pw_below_drewN | apply below_drew1) | exact HB.out))) : w.heap.size ≤ gb183)); clear HB; have HB := n0_; have BK183 := n1_; have GW183 := n2_; have GE183 := n3_; clear n0_ n1_ n2_ n3_; clear hb hbox hg; have hcz8_0 : w7.cell? ⟨gb183, 0, none⟩ = some (.string (⟨#[]⟩ : ByteArray)) := (blk_cell BK183.out 0).trans rfl; have hcz8_1 : w7.cell? ⟨gb183, 1, none⟩ = some (.int .i64 0) := (blk_cell BK183.out 1).trans rfl; have hcz8_2 : w7.cell? ⟨gb183, 2, none⟩ = some (.int .i64 0) := (blk_cell BK183.out 2).trans rfl; have hcz8_3 : w7.cell? ⟨gb183, 3, none⟩ = some (.int .i64 0) := (blk_cell BK183.out 3).trans rfl; have hcz8_4 : w7.cell? ⟨gb183, 4, none⟩ = some (.int .i64 0) := (blk_cell BK183.out 4).trans rfl; have hcz8_5 : w7.cell? ⟨gb183, 5, none⟩ = some (.int .i64 0) := (blk_cell BK183.out 5).trans rfl; have hfz8_0 := blk_frozen BK183.out 0; have hfz8_1 := blk_frozen BK183.out 1; have hfz8_2 := blk_frozen BK183.out 2; have hfz8_3 := blk_frozen BK183.out 3; have hfz8_4 := blk_frozen BK183.out 4; have hfz8_5 := blk_frozen BK183.out 5))
   (try simp only [Act.put, List.setIfInBounds_toArray, List.set_cons_zero, List.set_cons_succ])
   go_cut [28] (fun v28 wc => ∃ (kq : Nat) (x28_5 : Bool), v28 = .bool x28_5 ∧ Aside0 (position_Check.j1 kq l0 l0 (l0.length : Int) x10_1 x28_5 ((rd_T97 l0 x10_1).f0.f0) ((rd_T97 l0 x10_1).f0.f1) ((rd_T97 l0 x10_1).f0.f2) ((rd_T97 l0 x10_1).f0.f3) ((rd_T97 l0 x10_1).f1) ((rd_T97 l0 x10_1).f2) = some r) ∧ Aside0 (kq ≤ k1) ∧ Aside0 (wc.heap[gb183]? = some (.cells #[.string ((rd_T97 l0 x10_1).f0.f0), .int .i64 ((rd_T97 l0 x10_1).f0.f1), .int .i64 ((rd_T97 l0 x10_1).f0.f2), .int .i64 ((rd_T97 l0 x10_1).f0.f3), .int .i64 ((rd_T97 l0 x10_1).f1), .int .i64 ((rd_T97 l0 x10_1).f2)] 97 (0, 0))) ∧ Aside0 (Below w.heap.size w wc))
   case first =>
    have H := HC6.out
    clear HC6
    by_cases c9 : x10_1 > 0
    rotate_left
    · rw [if_neg c9] at H
      have c9b0 : decide (0 < x10_1) = false := decide_eq_false c9
      clear c9
      (first | rw [c9b0] | (simp only [i64_w, i32_w]; rw [c9b0]) | skip)
      have H' := Aside0.mk H
      clear H
      try go_wp2
      have n0_ : Aside0 (((((((w7.setCell ⟨gb183, 0, none⟩ (.string ((rd_T97 l0 x10_1).f0.f0))).setCell ⟨gb183, 1, none⟩ (.int .i64 ((rd_T97 l0 x10_1).f0.f1))).setCell ⟨gb183, 2, none⟩ (.int .i64 ((rd_T97 l0 x10_1).f0.f2))).setCell ⟨gb183, 3, none⟩ (.int .i64 ((rd_T97 l0 x10_1).f0.f3))).setCell ⟨gb183, 4, none⟩ (.int .i64 ((rd_T97 l0 x10_1).f1))).setCell ⟨gb183, 5, none⟩ (.int .i64 ((rd_T97 l0 x10_1).f2))).heap[gb183]? = some (.cells #[.string ((rd_T97 l0 x10_1).f0.f0), .int .i64 ((rd_T97 l0 x10_1).f0.f1), .int .i64 ((rd_T97 l0 x10_1).f0.f2), .int .i64 ((rd_T97 l0 x10_1).f0.f3), .int .i64 ((rd_T97 l0 x10_1).f1), .int .i64 ((rd_T97 l0 x10_1).f2)] 97 (0, 0))) := ⟨by (with_reducible repeat (first | refine blk_drewN ?_ _ | refine blk_drew ?_ | refine blk_alloc ?_ _)); refine blk_put (cs := #[.string ((rd_T97 l0 x10_1).f0.f0), .int .i64 ((rd_T97 l0 x10_1).f0.f1), .int .i64 ((rd_T97 l0 x10_1).f0.f2), .int .i64 ((rd_T97 l0 x10_1).f0.f3), .int .i64 ((rd_T97 l0 x10_1).f1), .int .i64 0]) ?_ 5 _ rfl; (with_reducible repeat (first | refine blk_drewN ?_ _ | refine blk_drew ?_ | refine blk_alloc ?_ _)); refine blk_put (cs := #[.string ((rd_T97 l0 x10_1).f0.f0), .int .i64 ((rd_T97 l0 x10_1).f0.f1), .int .i64 ((rd_T97 l0 x10_1).f0.f2), .int .i64 ((rd_T97 l0 x10_1).f0.f3), .int .i64 0, .int .i64 0]) ?_ 4 _ rfl; (with_reducible repeat (first | refine blk_drewN ?_ _ | refine blk_drew ?_ | refine blk_alloc ?_ _)); refine blk_put (cs := #[.string ((rd_T97 l0 x10_1).f0.f0), .int .i64 ((rd_T97 l0 x10_1).f0.f1), .int .i64 ((rd_T97 l0 x10_1).f0.f2), .int .i64 0, .int .i64 0, .int .i64 0]) ?_ 3 _ rfl; (with_reducible repeat (first | refine blk_drewN ?_ _ | refine blk_drew ?_ | refine blk_alloc ?_ _)); refine blk_put (cs := #[.string ((rd_T97 l0 x10_1).f0.f0), .int .i64 ((rd_T97 l0 x10_1).f0.f1), .int .i64 0, .int .i64 0, .int .i64 0, .int .i64 0]) ?_ 2 _ rfl; (with_reducible repeat (first | refine blk_drewN ?_ _ | refine blk_drew ?_ | refine blk_alloc ?_ _)); refine blk_put (cs := #[.string ((rd_T97 l0 x10_1).f0.f0), .int .i64 0, .int .i64 0, .int .i64 0, .int .i64 0, .int .i64 0]) ?_ 1 _ rfl; (with_reducible repeat (first | refine blk_drewN ?_ _ | refine blk_drew ?_ | refine blk_alloc ?_ _)); refine blk_put (cs := #[.string (⟨#[]⟩ : ByteArray), .int .i64 0, .int .i64 0, .int .i64 0, .int .i64 0, .int .i64 0]) ?_ 0 _ rfl; (with_reducible repeat (first | refine blk_drewN ?_ _ | refine blk_drew ?_ | refine blk_alloc ?_ _)); exact BK183.out⟩
      have n1_ : Aside0 (Below w.heap.size w ((((((w7.setCell ⟨gb183, 0, none⟩ (.string ((rd_T97 l0 x10_1).f0.f0))).setCell ⟨gb183, 1, none⟩ (.int .i64 ((rd_T97 l0 x10_1).f0.f1))).setCell ⟨gb183, 2, none⟩ (.int .i64 ((rd_T97 l0 x10_1).f0.f2))).setCell ⟨gb183, 3, none⟩ (.int .i64 ((rd_T97 l0 x10_1).f0.f3))).setCell ⟨gb183, 4, none⟩ (.int .i64 ((rd_T97 l0 x10_1).f1))).setCell ⟨gb183, 5, none⟩ (.int .i64 ((rd_T97 l0 x10_1).f2)))) := ⟨by repeat (first | (with_reducible first | exact HB.out | apply below_alloc | apply pw_below_drewN | apply below_drew1 | refine below_set ?_ GE183.out) | exact HB.out)⟩
      (try clear BK183)
      (try clear HB)
      generalize ((((((w7.setCell ⟨gb183, 0, none⟩ (.string ((rd_T97 l0 x10_1).f0.f0))).setCell ⟨gb183, 1, none⟩ (.int .i64 ((rd_T97 l0 x10_1).f0.f1))).setCell ⟨gb183, 2, none⟩ (.int .i64 ((rd_T97 l0 x10_1).f0.f2))).setCell ⟨gb183, 3, none⟩ (.int .i64 ((rd_T97 l0 x10_1).f0.f3))).setCell ⟨gb183, 4, none⟩ (.int .i64 ((rd_T97 l0 x10_1).f1))).setCell ⟨gb183, 5, none⟩ (.int .i64 ((rd_T97 l0 x10_1).f2))) = w17 at n0_ n1_ ⊢
      have BK183 := n0_
      have HB := n1_
      clear n0_ n1_
      have n0_ := Aside0.mk (blk_drew BK183.out)
      have n1_ := Aside0.mk (below_drew1 HB.out)
      clear BK183
      clear HB
      have BK183 := n0_
      have HB := n1_
      clear n0_ n1_
      refine start_ (n := 14) (S := fun w' => True) (ds := []) #[false, false, false, false, false, false, false, false, false, false, false, false, false, false] (by kernel_rfl) rfl rfl trivial (fun hHeld => ?_); refine with_tabW position_Check.tab6 position_Check.bits6 (fun HT_ HW_ => ?_)
      generalize w17.drew = w18 at BK183 HB hHeld ⊢
      refine pure_ (i := 0) (N := some 15) (v := ?_) (a' := ?_) #[true, false, false, false, false, false, false, false, false, false, false, false, false, false] rfl rfl (any_of HT_.out (by kernel_rfl)) (fun _ _ _ h => h) (Or.inl ⟨by rfl, ?_⟩) ?_ ?_
      rotate_left
      · intro w'
        go_simp
        with_reducible rfl
      rotate_left
      · simp only [Act.put, List.setIfInBounds_toArray, List.set_cons_zero, List.set_cons_succ, i64_w, i32_w]
        rfl
      refine pure_ (i := 1) (N := some 16) (v := ?_) (a' := ?_) #[true, true, false, false, false, false, false, false, false, false, false, false, false, false] rfl rfl (any_of HT_.out (by kernel_rfl)) (fun _ _ _ h => h) (Or.inl ⟨by rfl, ?_⟩) ?_ ?_
      rotate_left
      · intro w'
        go_simp
        with_reducible rfl
      rotate_left
      · simp only [Act.put, List.setIfInBounds_toArray, List.set_cons_zero, List.set_cons_succ, i64_w, i32_w]
        rfl
      refine pure_ (i := 2) (N := some 17) (v := ?_) (a' := ?_) #[true, true, true, false, false, false, false, false, false, false, false, false, false, false] rfl rfl (any_of HT_.out (by kernel_rfl)) (fun _ _ _ h => h) (Or.inl ⟨by rfl, ?_⟩) ?_ ?_
      rotate_left
      · intro w'
        go_simp
        with_reducible rfl
      rotate_left
      · simp only [Act.put, List.setIfInBounds_toArray, List.set_cons_zero, List.set_cons_succ, i64_w, i32_w]
        rfl
      refine pure_ (i := 3) (N := some 18) (v := undef) (a' := ?_) #[true, true, true, true, false, false, false, false, false, false, false, false, false, false] rfl rfl (any_of HT_.out (by kernel_rfl)) (fun _ _ _ h => h) (Or.inr ⟨by rfl, rfl⟩) ?_ ?_
      rotate_left
      · simp only [Act.put, List.setIfInBounds_toArray, List.set_cons_zero, List.set_cons_succ, i64_w, i32_w]
        rfl
      refine pure_ (i := 4) (N := some 19) (v := undef) (a' := ?_) #[true, true, true, true, true, false, false, false, false, false, false, false, false, false] rfl rfl (any_of HT_.out (by kernel_rfl)) (fun _ _ _ h => h) (Or.inr ⟨by rfl, rfl⟩) ?_ ?_
      rotate_left
      · simp only [Act.put, List.setIfInBounds_toArray, List.set_cons_zero, List.set_cons_succ, i64_w, i32_w]
        rfl
      refine pure_ (i := 5) (N := some 20) (v := undef) (a' := ?_) #[true, true, true, true, true, true, false, false, false, false, false, false, false, false] rfl rfl (any_of HT_.out (by kernel_rfl)) (fun _ _ _ h => h) (Or.inr ⟨by rfl, rfl⟩) ?_ ?_
      rotate_left
      · simp only [Act.put, List.setIfInBounds_toArray, List.set_cons_zero, List.set_cons_succ, i64_w, i32_w]
        rfl
      refine pure_ (i := 6) (N := some 21) (v := undef) (a' := ?_) #[true, true, true, true, true, true, true, false, false, false, false, false, false, false] rfl rfl (any_of HT_.out (by kernel_rfl)) (fun _ _ _ h => h) (Or.inr ⟨by rfl, rfl⟩) ?_ ?_
      rotate_left
      · simp only [Act.put, List.setIfInBounds_toArray, List.set_cons_zero, List.set_cons_succ, i64_w, i32_w]
        rfl
      refine pure_ (i := 7) (N := some 22) (v := undef) (a' := ?_) #[true, true, true, true, true, true, true, true, false, false, false, false, false, false] rfl rfl (any_of HT_.out (by kernel_rfl)) (fun _ _ _ h => h) (Or.inr ⟨by rfl, rfl⟩) ?_ ?_
      rotate_left
      · simp only [Act.put, List.setIfInBounds_toArray, List.set_cons_zero, List.set_cons_succ, i64_w, i32_w]
        rfl
      refine pure_ (i := 8) (N := some 23) (v := undef) (a' := ?_) #[true, true, true, true, true, true, true, true, true, false, false, false, false, false] rfl rfl (any_of HT_.out (by kernel_rfl)) (fun _ _ _ h => h) (Or.inr ⟨by rfl, rfl⟩) ?_ ?_
      rotate_left
      · simp only [Act.put, List.setIfInBounds_toArray, List.set_cons_zero, List.set_cons_succ, i64_w, i32_w]
        rfl
      refine pure_ (i := 9) (N := some 24) (v := undef) (a' := ?_) #[true, true, true, true, true, true, true, true, true, true, false, false, false, false] rfl rfl (any_of HT_.out (by kernel_rfl)) (fun _ _ _ h => h) (Or.inr ⟨by rfl, rfl⟩) ?_ ?_
      rotate_left
      · simp only [Act.put, List.setIfInBounds_toArray, List.set_cons_zero, List.set_cons_succ, i64_w, i32_w]
        rfl
      refine pure_ (i := 10) (N := some 25) (v := undef) (a' := ?_) #[true, true, true, true, true, true, true, true, true, true, true, false, false, false] rfl rfl (any_of HT_.out (by kernel_rfl)) (fun _ _ _ h => h) (Or.inr ⟨by rfl, rfl⟩) ?_ ?_
      rotate_left
      · simp only [Act.put, List.setIfInBounds_toArray, List.set_cons_zero, List.set_cons_succ, i64_w, i32_w]
        rfl
      refine pure_ (i := 11) (N := some 26) (v := undef) (a' := ?_) #[true, true, true, true, true, true, true, true, true, true, true, true, false, false] rfl rfl (any_of HT_.out (by kernel_rfl)) (fun _ _ _ h => h) (Or.inr ⟨by rfl, rfl⟩) ?_ ?_
      rotate_left
      · simp only [Act.put, List.setIfInBounds_toArray, List.set_cons_zero, List.set_cons_succ, i64_w, i32_w]
        rfl
      refine pure_ (i := 12) (N := some 27) (v := undef) (a' := ?_) #[true, true, true, true, true, true, true, true, true, true, true, true, true, false] rfl rfl (any_of HT_.out (by kernel_rfl)) (fun _ _ _ h => h) (Or.inr ⟨by rfl, rfl⟩) ?_ ?_
      rotate_left
      · simp only [Act.put, List.setIfInBounds_toArray, List.set_cons_zero, List.set_cons_succ, i64_w, i32_w]
        rfl
      refine pure_ (i := 13) (N := some 28) (v := ?_) (a' := ?_) #[true, true, true, true, true, true, true, true, true, true, true, true, true, true] rfl rfl (any_of HT_.out (by kernel_rfl)) (fun _ _ _ h => h) (Or.inl ⟨by rfl, ?_⟩) ?_ ?_
      rotate_left
      · intro w'
        go_simp
        with_reducible rfl
      rotate_left
      · simp only [Act.put, List.setIfInBounds_toArray, List.set_cons_zero, List.set_cons_succ, i64_w, i32_w]
        rfl
      refine done_ (done_of HT_.out (by kernel_rfl)) ?_
      try go_wp2
      go_meet
      case rel => exact ⟨_, (false), (by first | rfl | (simp; done) | (simp [*]; done)), H', ⟨by have := HK1.out; first | omega | exact Nat.le_refl _⟩, ⟨by (with_reducible repeat (first | refine blk_drewN ?_ _ | refine blk_drew ?_ | refine blk_alloc ?_ _)); exact BK183.out⟩, ⟨by repeat (first | (with_reducible first | exact HB.out | apply below_alloc | apply pw_below_drewN | apply below_drew1 | refine below_set ?_ GE183.out) | exact HB.out)⟩⟩
    rw [if_pos c9] at H
    have c9b0 : decide (0 < x10_1) = true := decide_eq_true c9
    clear c9
    (first | rw [c9b0] | (simp only [i64_w, i32_w]; rw [c9b0]) | skip)
    obtain ⟨ji10, hji10⟩ : ∃ j_ : Int, (wrap64 (x10_1 - 1)) = j_ := ⟨_, rfl⟩
    replace H : (if 0 ≤ (ji10) then (if (ji10) < (l0.length : Int) then ((series_Compare.f ((rd_T97 l0 (ji10)).f0.f0) ((rd_T97 l0 (ji10)).f0.f1) ((rd_T97 l0 (ji10)).f0.f2) ((rd_T97 l0 (ji10)).f0.f3) ((rd_T97 l0 x10_1).f0.f0) ((rd_T97 l0 x10_1).f0.f1) ((rd_T97 l0 x10_1).f0.f2) ((rd_T97 l0 x10_1).f0.f3)).bind fun t185 => (position_Check.j1 k1 l0 l0 (l0.length : Int) x10_1 (decide (t185 ≥ 0)) ((rd_T97 l0 x10_1).f0.f0) ((rd_T97 l0 x10_1).f0.f1) ((rd_T97 l0 x10_1).f0.f2) ((rd_T97 l0 x10_1).f0.f3) ((rd_T97 l0 x10_1).f1) ((rd_T97 l0 x10_1).f2))) else (none)) else (none)) = some r := by first | (rw [hji10] at H; exact H) | (simp only [hji10] at H ⊢; exact H)
    have hji10w : (IntKind.i64.wrap (x10_1 - 1)) = ji10 := (i64_w _).trans hji10
    by_cases c11 : 0 ≤ (ji10)
    rotate_left
    · rw [if_neg c11] at H
      exact absurd H (by simp)
    rw [if_pos c11] at H
    have c11b0 : decide (0 ≤ (ji10)) = true := decide_eq_true c11
    clear c11
    by_cases c12 : (ji10) < (l0.length : Int)
    rotate_left
    · rw [if_neg c12] at H
      exact absurd H (by simp)
    rw [if_pos c12] at H
    have c12b0 : decide ((ji10) < (l0.length : Int)) = true := decide_eq_true c12
    clear c12
    replace H := Option.bind_eq_some_iff.mp H
    obtain ⟨t185, A130, H⟩ := H
    replace H : (position_Check.j1 k1 l0 l0 (l0.length : Int) x10_1 (decide (t185 ≥ 0)) ((rd_T97 l0 x10_1).f0.f0) ((rd_T97 l0 x10_1).f0.f1) ((rd_T97 l0 x10_1).f0.f2) ((rd_T97 l0 x10_1).f0.f3) ((rd_T97 l0 x10_1).f1) ((rd_T97 l0 x10_1).f2)) = some r := H
    have A13 := Aside0.mk A130
    clear A130
    have H' := Aside0.mk H
    clear H
    try go_wp2
    have n0_ : Aside0 (((((((w7.setCell ⟨gb183, 0, none⟩ (.string ((rd_T97 l0 x10_1).f0.f0))).setCell ⟨gb183, 1, none⟩ (.int .i64 ((rd_T97 l0 x10_1).f0.f1))).setCell ⟨gb183, 2, none⟩ (.int .i64 ((rd_T97 l0 x10_1).f0.f2))).setCell ⟨gb183, 3, none⟩ (.int .i64 ((rd_T97 l0 x10_1).f0.f3))).setCell ⟨gb183, 4, none⟩ (.int .i64 ((rd_T97 l0 x10_1).f1))).setCell ⟨gb183, 5, none⟩ (.int .i64 ((rd_T97 l0 x10_1).f2))).heap[gb183]? = some (.cells #[.string ((rd_T97 l0 x10_1).f0.f0), .int .i64 ((rd_T97 l0 x10_1).f0.f1), .int .i64 ((rd_T97 l0 x10_1).f0.f2), .int .i64 ((rd_T97 l0 x10_1).f0.f3), .int .i64 ((rd_T97 l0 x10_1).f1), .int .i64 ((rd_T97 l0 x10_1).f2)] 97 (0, 0))) := ⟨by (with_reducible repeat (first | refine blk_drewN ?_ _ | refine blk_drew ?_ | refine blk_alloc ?_ _)); refine blk_put (cs := #[.string ((rd_T97 l0 x10_1).f0.f0), .int .i64 ((rd_T97 l0 x10_1).f0.f1), .int .i64 ((rd_T97 l0 x10_1).f0.f2), .int .i64 ((rd_T97 l0 x10_1).f0.f3), .int .i64 ((rd_T97 l0 x10_1).f1), .int .i64 0]) ?_ 5 _ rfl; (with_reducible repeat (first | refine blk_drewN ?_ _ | refine blk_drew ?_ | refine blk_alloc ?_ _)); refine blk_put (cs := #[.string ((rd_T97 l0 x10_1).f0.f0), .int .i64 ((rd_T97 l0 x10_1).f0.f1), .int .i64 ((rd_T97 l0 x10_1).f0.f2), .int .i64 ((rd_T97 l0 x10_1).f0.f3), .int .i64 0, .int .i64 0]) ?_ 4 _ rfl; (with_reducible repeat (first | refine blk_drewN ?_ _ | refine blk_drew ?_ | refine blk_alloc ?_ _)); refine blk_put (cs := #[.string ((rd_T97 l0 x10_1).f0.f0), .int .i64 ((rd_T97 l0 x10_1).f0.f1), .int .i64 ((rd_T97 l0 x10_1).f0.f2), .int .i64 0, .int .i64 0, .int .i64 0]) ?_ 3 _ rfl; (with_reducible repeat (first | refine blk_drewN ?_ _ | refine blk_drew ?_ | refine blk_alloc ?_ _)); refine blk_put (cs := #[.string ((rd_T97 l0 x10_1).f0.f0), .int .i64 ((rd_T97 l0 x10_1).f0.f1), .int .i64 0, .int .i64 0, .int .i64 0, .int .i64 0]) ?_ 2 _ rfl; (with_reducible repeat (first | refine blk_drewN ?_ _ | refine blk_drew ?_ | refine blk_alloc ?_ _)); refine blk_put (cs := #[.string ((rd_T97 l0 x10_1).f0.f0), .int .i64 0, .int .i64 0, .int .i64 0, .int .i64 0, .int .i64 0]) ?_ 1 _ rfl; (with_reducible repeat (first | refine blk_drewN ?_ _ | refine blk_drew ?_ | refine blk_alloc ?_ _)); refine blk_put (cs := #[.string (⟨#[]⟩ : ByteArray), .int .i64 0, .int .i64 0, .int .i64 0, .int .i64 0, .int .i64 0]) ?_ 0 _ rfl; (with_reducible repeat (first | refine blk_drewN ?_ _ | refine blk_drew ?_ | refine blk_alloc ?_ _)); exact BK183.out⟩
    have n1_ : Aside0 (Below w.heap.size w ((((((w7.setCell ⟨gb183, 0, none⟩ (.string ((rd_T97 l0 x10_1).f0.f0))).setCell ⟨gb183, 1, none⟩ (.int .i64 ((rd_T97 l0 x10_1).f0.f1))).setCell ⟨gb183, 2, none⟩ (.int .i64 ((rd_T97 l0 x10_1).f0.f2))).setCell ⟨gb183, 3, none⟩ (.int .i64 ((rd_T97 l0 x10_1).f0.f3))).setCell ⟨gb183, 4, none⟩ (.int .i64 ((rd_T97 l0 x10_1).f1))).setCell ⟨gb183, 5, none⟩ (.int .i64 ((rd_T97 l0 x10_1).f2)))) := ⟨by repeat (first | (with_reducible first | exact HB.out | apply below_alloc | apply pw_below_drewN | apply below_drew1 | refine below_set ?_ GE183.out) | exact HB.out)⟩
    (try clear BK183)
    (try clear HB)
    generalize ((((((w7.setCell ⟨gb183, 0, none⟩ (.string ((rd_T97 l0 x10_1).f0.f0))).setCell ⟨gb183, 1, none⟩ (.int .i64 ((rd_T97 l0 x10_1).f0.f1))).setCell ⟨gb183, 2, none⟩ (.int .i64 ((rd_T97 l0 x10_1).f0.f2))).setCell ⟨gb183, 3, none⟩ (.int .i64 ((rd_T97 l0 x10_1).f0.f3))).setCell ⟨gb183, 4, none⟩ (.int .i64 ((rd_T97 l0 x10_1).f1))).setCell ⟨gb183, 5, none⟩ (.int .i64 ((rd_T97 l0 x10_1).f2))) = w14 at n0_ n1_ ⊢
    have BK183 := n0_
    have HB := n1_
    clear n0_ n1_
    have n0_ := Aside0.mk (blk_drew BK183.out)
    have n1_ := Aside0.mk (below_drew1 HB.out)
    clear BK183
    clear HB
    have BK183 := n0_
    have HB := n1_
    clear n0_ n1_
    have p184 : 0 ≤ ((ji10) : Int) := of_decide_eq_true (by first | (with_reducible assumption) | assumption)
    have q184 : (ji10) < (l0.length : Int) := of_decide_eq_true (by first | (with_reducible assumption) | assumption)
    obtain ⟨ad184, e184, hx184_0, hx184_1, hx184_2, hx184_3, hx184_4, hx184_5⟩ := at_T97 HR0.out (ji10) p184 q184
    have hw184_5 := hx184_5
    have hw184_4 := hx184_4
    have hw184_3 := hx184_3
    have hw184_2 := hx184_2
    have hw184_1 := hx184_1
    have hw184_0 := hx184_0
    obtain rfl : ad182 = ad184 := (by injection e184)
    replace hx184_0 := (HB.out.cell (World.block_lt_of_cell? w _ hx184_0)).trans hx184_0
    replace hx184_1 := (HB.out.cell (World.block_lt_of_cell? w _ hx184_1)).trans hx184_1
    replace hx184_2 := (HB.out.cell (World.block_lt_of_cell? w _ hx184_2)).trans hx184_2
    replace hx184_3 := (HB.out.cell (World.block_lt_of_cell? w _ hx184_3)).trans hx184_3
    replace hx184_4 := (HB.out.cell (World.block_lt_of_cell? w _ hx184_4)).trans hx184_4
    replace hx184_5 := (HB.out.cell (World.block_lt_of_cell? w _ hx184_5)).trans hx184_5
    replace p184 := eq_true p184
    replace q184 := eq_true q184
    refine start_ (n := 14) (S := fun w' => w'.cell? ⟨gb183, 0, none⟩ = some (.string ((rd_T97 l0 x10_1).f0.f0)) ∧ w'.cell? ⟨gb183, 1, none⟩ = some (.int .i64 ((rd_T97 l0 x10_1).f0.f1)) ∧ w'.cell? ⟨gb183, 2, none⟩ = some (.int .i64 ((rd_T97 l0 x10_1).f0.f2)) ∧ w'.cell? ⟨gb183, 3, none⟩ = some (.int .i64 ((rd_T97 l0 x10_1).f0.f3)) ∧ w'.cell? ⟨gb183, 4, none⟩ = some (.int .i64 ((rd_T97 l0 x10_1).f1)) ∧ w'.cell? ⟨gb183, 5, none⟩ = some (.int .i64 ((rd_T97 l0 x10_1).f2)) ∧ w'.cell? (ad182.add (((ji10)).toNat * 6)) = some (.string ((rd_T97 l0 (ji10)).f0.f0)) ∧ w'.cell? ⟨(ad182.add (((ji10)).toNat * 6)).block, (ad182.add (((ji10)).toNat * 6)).off + 1, none⟩ = some (.int .i64 ((rd_T97 l0 (ji10)).f0.f1)) ∧ w'.cell? ⟨(ad182.add (((ji10)).toNat * 6)).block, (ad182.add (((ji10)).toNat * 6)).off + 2, none⟩ = some (.int .i64 ((rd_T97 l0 (ji10)).f0.f2)) ∧ w'.cell? ⟨(ad182.add (((ji10)).toNat * 6)).block, (ad182.add (((ji10)).toNat * 6)).off + 3, none⟩ = some (.int .i64 ((rd_T97 l0 (ji10)).f0.f3)) ∧ w'.cell? ⟨(ad182.add (((ji10)).toNat * 6)).block, (ad182.add (((ji10)).toNat * 6)).off + 4, none⟩ = some (.int .i64 ((rd_T97 l0 (ji10)).f1)) ∧ w'.cell? ⟨(ad182.add (((ji10)).toNat * 6)).block, (ad182.add (((ji10)).toNat * 6)).off + 5, none⟩ = some (.int .i64 ((rd_T97 l0 (ji10)).f2))) (ds := []) #[false, false, false, false, false, false, false, false, false, false, false, false, false, false] (by kernel_rfl) rfl rfl ⟨(blk_cell BK183.out 0).trans rfl, (blk_cell BK183.out 1).trans rfl, (blk_cell BK183.out 2).trans rfl, (blk_cell BK183.out 3).trans rfl, (blk_cell BK183.out 4).trans rfl, (blk_cell BK183.out 5).trans rfl, ((HB.out.cell (World.block_lt_of_cell? w _ hw184_0)).trans hw184_0), ((HB.out.cell (World.block_lt_of_cell? w _ hw184_1)).trans hw184_1), ((HB.out.cell (World.block_lt_of_cell? w _ hw184_2)).trans hw184_2), ((HB.out.cell (World.block_lt_of_cell? w _ hw184_3)).trans hw184_3), ((HB.out.cell (World.block_lt_of_cell? w _ hw184_4)).trans hw184_4), ((HB.out.cell (World.block_lt_of_cell? w _ hw184_5)).trans hw184_5)⟩ (fun hHeld => ?_); refine with_tabW position_Check.tab6 position_Check.bits6 (fun HT_ HW_ => ?_)
    generalize w14.drew = w15 at BK183 HB hx184_0 hx184_1 hx184_2 hx184_3 hx184_4 hx184_5 hHeld ⊢
    refine pure_ (i := 0) (N := some 15) (v := ?_) (a' := ?_) #[true, false, false, false, false, false, false, false, false, false, false, false, false, false] rfl rfl (any_of HT_.out (by kernel_rfl)) (fun _ _ _ h => h) (Or.inl ⟨by rfl, ?_⟩) ?_ ?_
    rotate_left
    · intro w'
      go_simp
      with_reducible rfl
    rotate_left
    · simp only [Act.put, List.setIfInBounds_toArray, List.set_cons_zero, List.set_cons_succ, i64_w, i32_w]
      rfl
    refine pure_ (i := 1) (N := some 16) (v := ?_) (a' := ?_) #[true, true, false, false, false, false, false, false, false, false, false, false, false, false] rfl rfl (any_of HT_.out (by kernel_rfl)) (fun _ _ _ h => h) (Or.inl ⟨by rfl, ?_⟩) ?_ ?_
    rotate_left
    · intro w'
      go_simp
      with_reducible rfl
    rotate_left
    · simp only [Act.put, List.setIfInBounds_toArray, List.set_cons_zero, List.set_cons_succ, i64_w, i32_w]
      rfl
    refine pure_ (i := 2) (N := some 17) (v := ?_) (a' := ?_) #[true, true, true, false, false, false, false, false, false, false, false, false, false, false] rfl rfl (any_of HT_.out (by kernel_rfl)) (fun _ _ _ h => h) (Or.inl ⟨by rfl, ?_⟩) ?_ ?_
    rotate_left
    · intro w'
      go_simp
      with_reducible rfl
    rotate_left
    · simp only [Act.put, List.setIfInBounds_toArray, List.set_cons_zero, List.set_cons_succ, i64_w, i32_w]
      rfl
    refine pure_ (i := 3) (N := some 18) (v := ?_) (a' := ?_) #[true, true, true, true, false, false, false, false, false, false, false, false, false, false] rfl rfl (any_of HT_.out (by kernel_rfl)) (fun _ _ _ h => h) (Or.inl ⟨by rfl, ?_⟩) ?_ ?_
    rotate_left
    · intro w'
      go_simp
      with_reducible rfl
    rotate_left
    · simp only [Act.put, List.setIfInBounds_toArray, List.set_cons_zero, List.set_cons_succ, i64_w, i32_w]
      rfl
    refine pure_ (i := 4) (N := some 19) (v := ?_) (a' := ?_) #[true, true, true, true, true, false, false, false, false, false, false, false, false, false] rfl rfl (any_of HT_.out (by kernel_rfl)) (fun _ _ _ h => h) (Or.inl ⟨by rfl, ?_⟩) ?_ ?_
    rotate_left
    · intro w'
      go_simp
      with_reducible rfl
    rotate_left
    · simp only [Act.put, List.setIfInBounds_toArray, List.set_cons_zero, List.set_cons_succ, i64_w, i32_w]
      rfl
    refine pure_ (i := 5) (N := some 20) (v := ?_) (a' := ?_) #[true, true, true, true, true, true, false, false, false, false, false, false, false, false] rfl rfl (any_of HT_.out (by kernel_rfl)) (fun _ _ _ h => h) (Or.inl ⟨by rfl, ?_⟩) ?_ ?_
    rotate_left
    · intro w'
      go_simp
      with_reducible rfl
    rotate_left
    · simp only [Act.put, List.setIfInBounds_toArray, List.set_cons_zero, List.set_cons_succ, i64_w, i32_w]
      rfl
    refine pure_ (i := 6) (N := some 21) (v := ?_) (a' := ?_) #[true, true, true, true, true, true, true, false, false, false, false, false, false, false] rfl rfl (any_of HT_.out (by kernel_rfl)) (fun _ _ _ h => h) (Or.inl ⟨by rfl, ?_⟩) ?_ ?_
    rotate_left
    · intro w'
      go_simp
      with_reducible rfl
    rotate_left
    · simp only [Act.put, List.setIfInBounds_toArray, List.set_cons_zero, List.set_cons_succ, i64_w, i32_w]
      rfl
    refine pure_ (i := 7) (N := some 22) (v := ?_) (a' := ?_) #[true, true, true, true, true, true, true, true, false, false, false, false, false, false] rfl rfl (any_of HT_.out (by kernel_rfl)) (fun _ _ _ h => h) (Or.inl ⟨by rfl, ?_⟩) ?_ ?_
    rotate_left
    · intro w'
      go_simp
      with_reducible rfl
    rotate_left
    · simp only [Act.put, List.setIfInBounds_toArray, List.set_cons_zero, List.set_cons_succ, i64_w, i32_w]
      rfl
    refine pure_ (i := 9) (N := some 24) (v := ?_) (a' := ?_) #[true, true, true, true, true, true, true, true, false, true, false, false, false, false] rfl rfl (any_of HT_.out (by kernel_rfl)) (fun _ _ _ h => h) (Or.inl ⟨by rfl, ?_⟩) ?_ ?_
    rotate_left
    · intro w'
      go_simp
      with_reducible rfl
    rotate_left
    · simp only [Act.put, List.setIfInBounds_toArray, List.set_cons_zero, List.set_cons_succ, i64_w, i32_w]
      rfl
    refine take_ (i := 8) (N := some 23) (v := ?_) (a' := ?_) #[true, true, true, true, true, true, true, true, true, true, false, false, false, false] rfl rfl (take_ofW HT_.out HW_.out (by kernel_rfl)) (fun _ _ _ h => h) (Or.inl ⟨by rfl, ?_⟩) hHeld ?_ ?_
    rotate_left
    · rintro w' ⟨s0, s1, s2, s3, s4, s5, s6, s7, s8, s9, s10, s11⟩
      go_simp
      with_reducible rfl
    rotate_left
    · simp only [Act.put, List.setIfInBounds_toArray, List.set_cons_zero, List.set_cons_succ, i64_w, i32_w]
      rfl
    refine take_ (i := 10) (N := some 25) (v := ?_) (a' := ?_) #[true, true, true, true, true, true, true, true, true, true, true, false, false, false] rfl rfl (take_ofW HT_.out HW_.out (by kernel_rfl)) (fun _ _ _ h => h) (Or.inl ⟨by rfl, ?_⟩) hHeld ?_ ?_
    rotate_left
    · rintro w' ⟨s0, s1, s2, s3, s4, s5, s6, s7, s8, s9, s10, s11⟩
      go_simp
      with_reducible rfl
    rotate_left
    · simp only [Act.put, List.setIfInBounds_toArray, List.set_cons_zero, List.set_cons_succ, i64_w, i32_w]
      rfl
    refine one_ (i := 11) (N := some 26) #[true, true, true, true, true, true, true, true, true, true, true, true, false, false] rfl rfl (one_of HT_.out (by kernel_rfl)) (by decide) (fun K hK => ?_)
    refine goes_ Try.func65 (by kernel_rfl) rfl #[.agg #[.string ((rd_T97 l0 (ji10)).f0.f0), .int .i64 ((rd_T97 l0 (ji10)).f0.f1), .int .i64 ((rd_T97 l0 (ji10)).f0.f2), .int .i64 ((rd_T97 l0 (ji10)).f0.f3)], .agg #[.string ((rd_T97 l0 x10_1).f0.f0), .int .i64 ((rd_T97 l0 x10_1).f0.f1), .int .i64 ((rd_T97 l0 x10_1).f0.f2), .int .i64 ((rd_T97 l0 x10_1).f0.f3)]] (by rfl) rfl rfl (by (try simp only [List.map_toArray, List.map_cons, List.map_nil]); first | done | (simp only [hji10]; rfl) | rfl | (simp only [List.length_drop, List.length_take]; rfl)) ?_
    with_reducible refine (series_Compare.calls ((rd_T97 l0 (ji10)).f0.f0) ((rd_T97 l0 (ji10)).f0.f1) ((rd_T97 l0 (ji10)).f0.f2) ((rd_T97 l0 (ji10)).f0.f3) ((rd_T97 l0 x10_1).f0.f0) ((rd_T97 l0 x10_1).f0.f1) ((rd_T97 l0 x10_1).f0.f2) ((rd_T97 l0 x10_1).f0.f3) t185 _ A13.out).mono ?_
    rintro e w16 ⟨rfl, hb⟩
    refine ⟨_, rfl, ?_⟩
    have n0_ := Aside0.mk (blk_below (g := gb183) (o := .cells #[.string ((rd_T97 l0 x10_1).f0.f0), .int .i64 ((rd_T97 l0 x10_1).f0.f1), .int .i64 ((rd_T97 l0 x10_1).f0.f2), .int .i64 ((rd_T97 l0 x10_1).f0.f3), .int .i64 ((rd_T97 l0 x10_1).f1), .int .i64 ((rd_T97 l0 x10_1).f2)] 97 (0, 0)) (by (with_reducible repeat (first | refine blk_drewN ?_ _ | refine blk_drew ?_ | refine blk_alloc ?_ _)); exact BK183.out) hb)
    have n1_ := Aside0.mk (below_step (by repeat (first | (with_reducible first | exact HB.out | apply below_alloc | apply pw_below_drewN | apply below_drew1 | refine below_set ?_ GE183.out) | exact HB.out)) hb)
    clear BK183
    clear HB
    have BK183 := n0_
    have HB := n1_
    clear n0_ n1_
    (try clear hb)
    (try clear hb2)
    (try clear hk)
    (try clear hi)
    refine hK.out _ _ ⟨(blk_cell BK183.out 0).trans rfl, (blk_cell BK183.out 1).trans rfl, (blk_cell BK183.out 2).trans rfl, (blk_cell BK183.out 3).trans rfl, (blk_cell BK183.out 4).trans rfl, (blk_cell BK183.out 5).trans rfl, ((HB.out.cell (World.block_lt_of_cell? w _ hw184_0)).trans hw184_0), ((HB.out.cell (World.block_lt_of_cell? w _ hw184_1)).trans hw184_1), ((HB.out.cell (World.block_lt_of_cell? w _ hw184_2)).trans hw184_2), ((HB.out.cell (World.block_lt_of_cell? w _ hw184_3)).trans hw184_3), ((HB.out.cell (World.block_lt_of_cell? w _ hw184_4)).trans hw184_4), ((HB.out.cell (World.block_lt_of_cell? w _ hw184_5)).trans hw184_5)⟩ (fun hHeld => ?_)
    clear hK K
    refine norm_ (a' := ?_) ?_ ?_
    rotate_left
    · show Act.put _ (some 26) _ = _
      simp only [Act.put, List.setIfInBounds_toArray, List.set_cons_zero, List.set_cons_succ, i64_w, i32_w]
      rfl
    refine pure_ (i := 12) (N := some 27) (v := ?_) (a' := ?_) #[true, true, true, true, true, true, true, true, true, true, true, true, true, false] rfl rfl (any_of HT_.out (by kernel_rfl)) (fun _ _ _ h => h) (Or.inl ⟨by rfl, ?_⟩) ?_ ?_
    rotate_left
    · intro w'
      go_simp
      with_reducible rfl
    rotate_left
    · simp only [Act.put, List.setIfInBounds_toArray, List.set_cons_zero, List.set_cons_succ, i64_w, i32_w]
      rfl
    refine pure_ (i := 13) (N := some 28) (v := ?_) (a' := ?_) #[true, true, true, true, true, true, true, true, true, true, true, true, true, true] rfl rfl (any_of HT_.out (by kernel_rfl)) (fun _ _ _ h => h) (Or.inl ⟨by rfl, ?_⟩) ?_ ?_
    rotate_left
    · intro w'
      go_simp
      with_reducible rfl
    rotate_left
    · simp only [Act.put, List.setIfInBounds_toArray, List.set_cons_zero, List.set_cons_succ, i64_w, i32_w]
      rfl
    refine done_ (done_of HT_.out (by kernel_rfl)) ?_
    try go_wp2
    go_meet
    case rel => exact ⟨_, (decide (t185 ≥ 0)), (by first | rfl | (simp; done) | (simp [*]; done)), H', ⟨by have := HK1.out; first | omega | exact Nat.le_refl _⟩, ⟨by (with_reducible repeat (first | refine blk_drewN ?_ _ | refine blk_drew ?_ | refine blk_alloc ?_ _)); exact BK183.out⟩, ⟨by repeat (first | (with_reducible first | exact HB.out | apply below_alloc | apply pw_below_drewN | apply below_drew1 | refine below_set ?_ GE183.out) | exact HB.out)⟩⟩
   case rest =>
    clear HC6
    try clear c1
    try clear p1
    try clear q1
    try clear hx1
    try clear c2
    try clear c2b0
    try clear c2b1
    try clear p2
    try clear c3
    try clear c3b0
    try clear c4
    try clear c4b0
    try clear c5
    try clear c5b0
    try clear c6
    try clear p6
    try clear c9
    try clear c9b0
    try clear c11
    try clear c11b0
    try clear c12
    try clear c12b0
    try clear p18
    try clear q18
    try clear hx18
    try clear hcz8_0
    try clear hcz8_1
    try clear hcz8_2
    try clear hcz8_3
    try clear hcz8_4
    try clear hcz8_5
    try clear hfz8_0
    try clear hfz8_1
    try clear hfz8_2
    try clear hfz8_3
    try clear hfz8_4
    try clear hfz8_5
    try clear hx182_0
    try clear hx182_1
    try clear hx182_2
    try clear hx182_3
    try clear hx182_4
    try clear hx182_5
    try clear hx184_0
    try clear hx184_1
    try clear hx184_2
    try clear hx184_3
    try clear hx184_4
    try clear hx184_5
    try clear p182
    try clear p184
    try clear p2
    try clear q182
    try clear q184
    obtain ⟨kq, x28_5, rfl, HA, HJ5, BK183, HB⟩ := hcut
    cases kq with
    | zero => exact absurd HA.out (by simp [position_Check.j1])
    | succ kj5 =>
     have H := HA.out
     clear HA
     simp only [position_Check.j1] at H
     by_cases c19 : x28_5 = true
     · subst c19
       have H1 : (some 19) = some r := by rw [if_pos rfl] at H; exact H
       clear H
       have H := H1
       clear H1
       obtain rfl := Option.some.inj H
       go_wp2
       go_ret
       exact ⟨by first | rfl | (simp [errW_none, errW_some] <;> rfl) | (simp [*, errW_none, errW_some] <;> rfl), by repeat (first | (with_reducible first | exact HB.out | apply below_alloc | apply pw_below_drewN | apply below_drew1 | refine below_set ?_ GE183.out) | exact HB.out)⟩
     replace c19 := Bool.eq_false_iff.mpr c19
     subst c19
     have H1 : ((position_lots.f ((rd_T97 l0 x10_1).f1)).bind fun t186 => (if t186 = true then ((position_lots.f ((rd_T97 l0 x10_1).f2)).bind fun t187 => (if t187 = true then (if ((rd_T97 l0 x10_1).f1) = 0 then (if ((rd_T97 l0 x10_1).f2) = 0 then (some 18) else (position_Check.l0 kj5 l0 l0 (l0.length : Int) (wrap64 (x10_1 + 1)))) else (position_Check.l0 kj5 l0 l0 (l0.length : Int) (wrap64 (x10_1 + 1)))) else (some 18))) else (some 18))) = some r := by rw [if_neg (show ¬ (false = true) by decide)] at H; exact H
     clear H
     have H := H1
     clear H1
     replace H := Option.bind_eq_some_iff.mp H
     obtain ⟨t186, A200, H⟩ := H
     replace H : (if t186 = true then ((position_lots.f ((rd_T97 l0 x10_1).f2)).bind fun t187 => (if t187 = true then (if ((rd_T97 l0 x10_1).f1) = 0 then (if ((rd_T97 l0 x10_1).f2) = 0 then (some 18) else (position_Check.l0 kj5 l0 l0 (l0.length : Int) (wrap64 (x10_1 + 1)))) else (position_Check.l0 kj5 l0 l0 (l0.length : Int) (wrap64 (x10_1 + 1)))) else (some 18))) else (some 18)) = some r := H
     have A20 := Aside0.mk A200
     clear A200
     by_cases c21 : t186 = true
     rotate_left
     · replace c21 := Bool.eq_false_iff.mpr c21
       subst c21
       have H1 : (some 18) = some r := by rw [if_neg (show ¬ (false = true) by decide)] at H; exact H
       clear H
       have H := H1
       clear H1
       obtain rfl := Option.some.inj H
       have hcz30_0 : wc.cell? ⟨gb183, 0, none⟩ = some (.string ((rd_T97 l0 x10_1).f0.f0)) := (blk_cell BK183.out 0).trans rfl
       have hcz30_1 : wc.cell? ⟨gb183, 1, none⟩ = some (.int .i64 ((rd_T97 l0 x10_1).f0.f1)) := (blk_cell BK183.out 1).trans rfl
       have hcz30_2 : wc.cell? ⟨gb183, 2, none⟩ = some (.int .i64 ((rd_T97 l0 x10_1).f0.f2)) := (blk_cell BK183.out 2).trans rfl
       have hcz30_3 : wc.cell? ⟨gb183, 3, none⟩ = some (.int .i64 ((rd_T97 l0 x10_1).f0.f3)) := (blk_cell BK183.out 3).trans rfl
       have hcz30_4 : wc.cell? ⟨gb183, 4, none⟩ = some (.int .i64 ((rd_T97 l0 x10_1).f1)) := (blk_cell BK183.out 4).trans rfl
       have hcz30_5 : wc.cell? ⟨gb183, 5, none⟩ = some (.int .i64 ((rd_T97 l0 x10_1).f2)) := (blk_cell BK183.out 5).trans rfl
       have hfz30_0 := blk_frozen BK183.out 0
       have hfz30_1 := blk_frozen BK183.out 1
       have hfz30_2 := blk_frozen BK183.out 2
       have hfz30_3 := blk_frozen BK183.out 3
       have hfz30_4 := blk_frozen BK183.out 4
       have hfz30_5 := blk_frozen BK183.out 5
       go_wp2_with (first | ((with_reducible refine gate_callee (f := 66) rfl ?_); refine goesL_ (some 31) rfl rfl Try.func66 (by kernel_rfl) rfl #[.int .i64 ((rd_T97 l0 x10_1).f1)] rfl (by (try simp only [List.map_toArray, List.map_cons, List.map_nil]); first | done | rfl | (simp only [List.length_drop, List.length_take]; rfl)) ?_; (with_reducible refine (position_lots.calls ((rd_T97 l0 x10_1).f1) false _ A20.out).mono ?_); rintro e w' ⟨rfl, ⟨nd, rfl⟩⟩; refine ⟨_, rfl, ?_⟩))
       go_ret
       exact ⟨by first | rfl | (simp [errW_none, errW_some] <;> rfl) | (simp [*, errW_none, errW_some] <;> rfl), by repeat (first | (with_reducible first | exact HB.out | apply below_alloc | apply pw_below_drewN | apply below_drew1 | refine below_set ?_ GE183.out) | exact HB.out)⟩
     subst c21
     have H1 : ((position_lots.f ((rd_T97 l0 x10_1).f2)).bind fun t187 => (if t187 = true then (if ((rd_T97 l0 x10_1).f1) = 0 then (if ((rd_T97 l0 x10_1).f2) = 0 then (some 18) else (position_Check.l0 kj5 l0 l0 (l0.length : Int) (wrap64 (x10_1 + 1)))) else (position_Check.l0 kj5 l0 l0 (l0.length : Int) (wrap64 (x10_1 + 1)))) else (some 18))) = some r := by rw [if_pos rfl] at H; exact H
     clear H
     have H := H1
     clear H1
     replace H := Option.bind_eq_some_iff.mp H
     obtain ⟨t187, A220, H⟩ := H
     replace H : (if t187 = true then (if ((rd_T97 l0 x10_1).f1) = 0 then (if ((rd_T97 l0 x10_1).f2) = 0 then (some 18) else (position_Check.l0 kj5 l0 l0 (l0.length : Int) (wrap64 (x10_1 + 1)))) else (position_Check.l0 kj5 l0 l0 (l0.length : Int) (wrap64 (x10_1 + 1)))) else (some 18)) = some r := H
     have A22 := Aside0.mk A220
     clear A220
     by_cases c23 : t187 = true
     rotate_left
     · replace c23 := Bool.eq_false_iff.mpr c23
       subst c23
       have H1 : (some 18) = some r := by rw [if_neg (show ¬ (false = true) by decide)] at H; exact H
       clear H
       have H := H1
       clear H1
       obtain rfl := Option.some.inj H
       have hcz29_0 : wc.cell? ⟨gb183, 0, none⟩ = some (.string ((rd_T97 l0 x10_1).f0.f0)) := (blk_cell BK183.out 0).trans rfl
       have hcz29_1 : wc.cell? ⟨gb183, 1, none⟩ = some (.int .i64 ((rd_T97 l0 x10_1).f0.f1)) := (blk_cell BK183.out 1).trans rfl
       have hcz29_2 : wc.cell? ⟨gb183, 2, none⟩ = some (.int .i64 ((rd_T97 l0 x10_1).f0.f2)) := (blk_cell BK183.out 2).trans rfl
       have hcz29_3 : wc.cell? ⟨gb183, 3, none⟩ = some (.int .i64 ((rd_T97 l0 x10_1).f0.f3)) := (blk_cell BK183.out 3).trans rfl
       have hcz29_4 : wc.cell? ⟨gb183, 4, none⟩ = some (.int .i64 ((rd_T97 l0 x10_1).f1)) := (blk_cell BK183.out 4).trans rfl
       have hcz29_5 : wc.cell? ⟨gb183, 5, none⟩ = some (.int .i64 ((rd_T97 l0 x10_1).f2)) := (blk_cell BK183.out 5).trans rfl
       have hfz29_0 := blk_frozen BK183.out 0
       have hfz29_1 := blk_frozen BK183.out 1
       have hfz29_2 := blk_frozen BK183.out 2
       have hfz29_3 := blk_frozen BK183.out 3
       have hfz29_4 := blk_frozen BK183.out 4
       have hfz29_5 := blk_frozen BK183.out 5
       go_wp2_with (first | ((with_reducible refine gate_callee (f := 66) rfl ?_); refine goesL_ (some 31) rfl rfl Try.func66 (by kernel_rfl) rfl #[.int .i64 ((rd_T97 l0 x10_1).f1)] rfl (by (try simp only [List.map_toArray, List.map_cons, List.map_nil]); first | done | rfl | (simp only [List.length_drop, List.length_take]; rfl)) ?_; (with_reducible refine (position_lots.calls ((rd_T97 l0 x10_1).f1) true _ A20.out).mono ?_); rintro e w' ⟨rfl, ⟨nd, rfl⟩⟩; refine ⟨_, rfl, ?_⟩) | (go_at_call 66; (with_reducible refine (position_lots.calls ((rd_T97 l0 x10_1).f2) false _ A22.out).mono ?_); rintro e w' ⟨rfl, ⟨nd, rfl⟩⟩))
       go_ret
       exact ⟨by first | rfl | (simp [errW_none, errW_some] <;> rfl) | (simp [*, errW_none, errW_some] <;> rfl), by repeat (first | (with_reducible first | exact HB.out | apply below_alloc | apply pw_below_drewN | apply below_drew1 | refine below_set ?_ GE183.out) | exact HB.out)⟩
     subst c23
     have H1 : (if ((rd_T97 l0 x10_1).f1) = 0 then (if ((rd_T97 l0 x10_1).f2) = 0 then (some 18) else (position_Check.l0 kj5 l0 l0 (l0.length : Int) (wrap64 (x10_1 + 1)))) else (position_Check.l0 kj5 l0 l0 (l0.length : Int) (wrap64 (x10_1 + 1)))) = some r := by rw [if_pos rfl] at H; exact H
     clear H
     have H := H1
     clear H1
     by_cases c24 : ((rd_T97 l0 x10_1).f1) = 0
     rotate_left
     · rw [if_neg c24] at H
       have c24b0 : (((rd_T97 l0 x10_1).f1) == 0) = false := beq_eq_false_iff_ne.mpr c24
       have c24b1 : (((rd_T97 l0 x10_1).f1) != 0) = true := bne_iff_ne.mpr c24
       have H' := Aside0.mk H
       clear H
       have hcz28_0 : wc.cell? ⟨gb183, 0, none⟩ = some (.string ((rd_T97 l0 x10_1).f0.f0)) := (blk_cell BK183.out 0).trans rfl
       have hcz28_1 : wc.cell? ⟨gb183, 1, none⟩ = some (.int .i64 ((rd_T97 l0 x10_1).f0.f1)) := (blk_cell BK183.out 1).trans rfl
       have hcz28_2 : wc.cell? ⟨gb183, 2, none⟩ = some (.int .i64 ((rd_T97 l0 x10_1).f0.f2)) := (blk_cell BK183.out 2).trans rfl
       have hcz28_3 : wc.cell? ⟨gb183, 3, none⟩ = some (.int .i64 ((rd_T97 l0 x10_1).f0.f3)) := (blk_cell BK183.out 3).trans rfl
       have hcz28_4 : wc.cell? ⟨gb183, 4, none⟩ = some (.int .i64 ((rd_T97 l0 x10_1).f1)) := (blk_cell BK183.out 4).trans rfl
       have hcz28_5 : wc.cell? ⟨gb183, 5, none⟩ = some (.int .i64 ((rd_T97 l0 x10_1).f2)) := (blk_cell BK183.out 5).trans rfl
       have hfz28_0 := blk_frozen BK183.out 0
       have hfz28_1 := blk_frozen BK183.out 1
       have hfz28_2 := blk_frozen BK183.out 2
       have hfz28_3 := blk_frozen BK183.out 3
       have hfz28_4 := blk_frozen BK183.out 4
       have hfz28_5 := blk_frozen BK183.out 5
       go_wp2_with (first | ((with_reducible refine gate_callee (f := 66) rfl ?_); refine goesL_ (some 31) rfl rfl Try.func66 (by kernel_rfl) rfl #[.int .i64 ((rd_T97 l0 x10_1).f1)] rfl (by (try simp only [List.map_toArray, List.map_cons, List.map_nil]); first | done | rfl | (simp only [List.length_drop, List.length_take]; rfl)) ?_; (with_reducible refine (position_lots.calls ((rd_T97 l0 x10_1).f1) true _ A20.out).mono ?_); rintro e w' ⟨rfl, ⟨nd, rfl⟩⟩; refine ⟨_, rfl, ?_⟩) | (go_at_call 66; (with_reducible refine (position_lots.calls ((rd_T97 l0 x10_1).f2) true _ A22.out).mono ?_); rintro e w' ⟨rfl, ⟨nd, rfl⟩⟩))
       go_roundg kj5
       case measure => have := HK1.out; have := HJ5.out; omega
       case rel => exact ⟨(wrap64 (x10_1 + 1)), (by first | rfl | (simp; done) | (simp [*]; done)), H', ⟨by have := HK1.out; have := HJ5.out; omega⟩, ⟨by repeat (first | (with_reducible first | exact HB.out | apply below_alloc | apply pw_below_drewN | apply below_drew1 | refine below_set ?_ GE183.out) | exact HB.out)⟩⟩
     rw [if_pos c24] at H
     have c24b0 : (((rd_T97 l0 x10_1).f1) == 0) = true := beq_iff_eq.mpr c24
     have c24b1 : (((rd_T97 l0 x10_1).f1) != 0) = false := bne_eq_false_iff_eq.mpr c24
     clear c24
     by_cases c25 : ((rd_T97 l0 x10_1).f2) = 0
     · rw [if_pos c25] at H
       have c25b0 : (((rd_T97 l0 x10_1).f2) == 0) = true := beq_iff_eq.mpr c25
       have c25b1 : (((rd_T97 l0 x10_1).f2) != 0) = false := bne_eq_false_iff_eq.mpr c25
       clear c25
       obtain rfl := Option.some.inj H
       have hcz26_0 : wc.cell? ⟨gb183, 0, none⟩ = some (.string ((rd_T97 l0 x10_1).f0.f0)) := (blk_cell BK183.out 0).trans rfl
       have hcz26_1 : wc.cell? ⟨gb183, 1, none⟩ = some (.int .i64 ((rd_T97 l0 x10_1).f0.f1)) := (blk_cell BK183.out 1).trans rfl
       have hcz26_2 : wc.cell? ⟨gb183, 2, none⟩ = some (.int .i64 ((rd_T97 l0 x10_1).f0.f2)) := (blk_cell BK183.out 2).trans rfl
       have hcz26_3 : wc.cell? ⟨gb183, 3, none⟩ = some (.int .i64 ((rd_T97 l0 x10_1).f0.f3)) := (blk_cell BK183.out 3).trans rfl
       have hcz26_4 : wc.cell? ⟨gb183, 4, none⟩ = some (.int .i64 ((rd_T97 l0 x10_1).f1)) := (blk_cell BK183.out 4).trans rfl
       have hcz26_5 : wc.cell? ⟨gb183, 5, none⟩ = some (.int .i64 ((rd_T97 l0 x10_1).f2)) := (blk_cell BK183.out 5).trans rfl
       have hfz26_0 := blk_frozen BK183.out 0
       have hfz26_1 := blk_frozen BK183.out 1
       have hfz26_2 := blk_frozen BK183.out 2
       have hfz26_3 := blk_frozen BK183.out 3
       have hfz26_4 := blk_frozen BK183.out 4
       have hfz26_5 := blk_frozen BK183.out 5
       go_wp2_with (first | ((with_reducible refine gate_callee (f := 66) rfl ?_); refine goesL_ (some 31) rfl rfl Try.func66 (by kernel_rfl) rfl #[.int .i64 ((rd_T97 l0 x10_1).f1)] rfl (by (try simp only [List.map_toArray, List.map_cons, List.map_nil]); first | done | rfl | (simp only [List.length_drop, List.length_take]; rfl)) ?_; (with_reducible refine (position_lots.calls ((rd_T97 l0 x10_1).f1) true _ A20.out).mono ?_); rintro e w' ⟨rfl, ⟨nd, rfl⟩⟩; refine ⟨_, rfl, ?_⟩) | (go_at_call 66; (with_reducible refine (position_lots.calls ((rd_T97 l0 x10_1).f2) true _ A22.out).mono ?_); rintro e w' ⟨rfl, ⟨nd, rfl⟩⟩))
       go_ret
       exact ⟨by first | rfl | (simp [errW_none, errW_some] <;> rfl) | (simp [*, errW_none, errW_some] <;> rfl), by repeat (first | (with_reducible first | exact HB.out | apply below_alloc | apply pw_below_drewN | apply below_drew1 | refine below_set ?_ GE183.out) | exact HB.out)⟩
     rw [if_neg c25] at H
     have c25b0 : (((rd_T97 l0 x10_1).f2) == 0) = false := beq_eq_false_iff_ne.mpr c25
     have c25b1 : (((rd_T97 l0 x10_1).f2) != 0) = true := bne_iff_ne.mpr c25
     have H' := Aside0.mk H
     clear H
     have hcz27_0 : wc.cell? ⟨gb183, 0, none⟩ = some (.string ((rd_T97 l0 x10_1).f0.f0)) := (blk_cell BK183.out 0).trans rfl
     have hcz27_1 : wc.cell? ⟨gb183, 1, none⟩ = some (.int .i64 ((rd_T97 l0 x10_1).f0.f1)) := (blk_cell BK183.out 1).trans rfl
     have hcz27_2 : wc.cell? ⟨gb183, 2, none⟩ = some (.int .i64 ((rd_T97 l0 x10_1).f0.f2)) := (blk_cell BK183.out 2).trans rfl
     have hcz27_3 : wc.cell? ⟨gb183, 3, none⟩ = some (.int .i64 ((rd_T97 l0 x10_1).f0.f3)) := (blk_cell BK183.out 3).trans rfl
     have hcz27_4 : wc.cell? ⟨gb183, 4, none⟩ = some (.int .i64 ((rd_T97 l0 x10_1).f1)) := (blk_cell BK183.out 4).trans rfl
     have hcz27_5 : wc.cell? ⟨gb183, 5, none⟩ = some (.int .i64 ((rd_T97 l0 x10_1).f2)) := (blk_cell BK183.out 5).trans rfl
     have hfz27_0 := blk_frozen BK183.out 0
     have hfz27_1 := blk_frozen BK183.out 1
     have hfz27_2 := blk_frozen BK183.out 2
     have hfz27_3 := blk_frozen BK183.out 3
     have hfz27_4 := blk_frozen BK183.out 4
     have hfz27_5 := blk_frozen BK183.out 5
     go_wp2_with (first | ((with_reducible refine gate_callee (f := 66) rfl ?_); refine goesL_ (some 31) rfl rfl Try.func66 (by kernel_rfl) rfl #[.int .i64 ((rd_T97 l0 x10_1).f1)] rfl (by (try simp only [List.map_toArray, List.map_cons, List.map_nil]); first | done | rfl | (simp only [List.length_drop, List.length_take]; rfl)) ?_; (with_reducible refine (position_lots.calls ((rd_T97 l0 x10_1).f1) true _ A20.out).mono ?_); rintro e w' ⟨rfl, ⟨nd, rfl⟩⟩; refine ⟨_, rfl, ?_⟩) | (go_at_call 66; (with_reducible refine (position_lots.calls ((rd_T97 l0 x10_1).f2) true _ A22.out).mono ?_); rintro e w' ⟨rfl, ⟨nd, rfl⟩⟩))
     go_roundg kj5
     case measure => have := HK1.out; have := HJ5.out; omega
     case rel => exact ⟨(wrap64 (x10_1 + 1)), (by first | rfl | (simp; done) | (simp [*]; done)), H', ⟨by have := HK1.out; have := HJ5.out; omega⟩, ⟨by repeat (first | (with_reducible first | exact HB.out | apply below_alloc | apply pw_below_drewN | apply below_drew1 | refine below_set ?_ GE183.out) | exact HB.out)⟩⟩

/-! ### position_place: function 67 -/
/-- Where the first element of which p holds stands; -1. -/
def idxOf {α : Type} (p : α → Bool) : List α → Int → Int
  | [], _ => -1
  | x :: xs, i => if p x = true then i else idxOf p xs (i + 1)
theorem idxOf_drop {α : Type} (p : α → Bool) (l : List α) (z : α) (i : Nat) (h : i < l.length) : idxOf p (l.drop i) i = if p (l.getD i z) = true then (i : Int) else idxOf p (l.drop (i + 1)) ((i + 1 : Nat) : Int) := by
  rw [List.drop_eq_getElem_cons h]
  simp [idxOf, List.getD_eq_getElem?_getD, List.getElem?_eq_getElem h]
/-- What is asked of a predicate: it may lay blocks of its own. -/
def PredK {α : Type} (P : Program) (d : Kd α) (g : Nat) (lb : Array Value) (p : α → Bool) (w : World) : Prop :=
  ∀ (W : World) (x : α) (cs : List Value), Below w.heap.size w W → d.K W x cs → Calls P g (#[.agg cs.toArray] ++ lb) W fun e w' => e = .returned (.bool (p x)) ∧ Below W.heap.size W w'
theorem PredK.later {α : Type} {P : Program} {d : Kd α} {g : Nat} {lb : Array Value} {p : α → Bool} {w W : World} (h : PredK P d g lb p w) (hb : Below w.heap.size w W) : PredK P d g lb p W :=
  fun W' x cs hb' hk => h W' x cs (below_step hb hb') hk
theorem idxOf_lt {α : Type} (p : α → Bool) (l : List α) (i : Int) : idxOf p l i = -1 ∨ (i ≤ idxOf p l i ∧ idxOf p l i < i + l.length) := by
  induction l generalizing i with
  | nil => exact .inl rfl
  | cons x xs ih =>
    unfold idxOf
    split
    · exact .inr ⟨Int.le_refl _, by simp only [List.length_cons]; omega⟩
    · rcases ih (i + 1) with h | h
      · exact .inl h
      · exact .inr ⟨by omega, by simp only [List.length_cons]; omega⟩

/-- slices.IndexFunc at api.Position. -/
theorem IndexFunc_api_Position.calls (p : S97 → Bool) (g : Nat) (lb : Array Value) (eg : ∀ args w, (callFunc g args).run Try.prog w = .ok (.enter g args) w) (A0 : Option Addr) (c0 : Nat) (l0 : List (S97)) (w : World) (hp : PredK Try.prog k97 g lb p w) (hr0 : Kd.C k97 w A0 l0.length l0) :
    Calls Try.prog 87 #[.slice A0 l0.length c0, .func (.func g) #[] lb] w fun e w' => e = .returned (.int .i64 (idxOf p l0 0)) ∧ Below w.heap.size w w' := by
 have HR0 := Aside0.mk hr0
 have HL := hr0.2.1
 have HP := Aside0.mk hp
 clear hr0 hp
 go_enter Try.func87, Try.ntmps87
 go_wp2
 go_loopg [5, 8] l0.length (fun kq _ v8 w' => ∃ (x8 : Nat), v8 = .int .i64 x8 ∧ kq + x8 = l0.length ∧ Aside0 (idxOf p (l0.drop x8) x8 = idxOf p l0 0) ∧ Aside0 (Below w.heap.size w w'))
 case atStart => exact ⟨0, rfl, by omega, ⟨rfl⟩, ⟨Below.refl _ _⟩⟩
 case round =>
  obtain ⟨x8, rfl, hx, HA, HB⟩ := hrel
  have hsz := HB.out.size
  by_cases hlt : x8 < l0.length
  rotate_left
  · have hxe : x8 = l0.length := by omega
    have HA3 := Aside0.mk (by have := HA.out; rwa [List.drop_eq_nil_of_le (by omega)] at this)
    clear HA
    have hd : decide ((x8 : Int) < (l0.length : Int)) = false := by simp; omega
    clear hxe
    go_wp2
    go_ret
    have := HA3.out
    simp only [idxOf] at this
    exact ⟨congrArg (fun z => Ending.returned (.int .i64 z)) this, HB.out⟩
  obtain ⟨ad, cs, e, hlen, hK, hcell⟩ := Kd.C_get (Kd.C_below HR0.out HB.out) z97 x8 (by omega) (by omega)
  cases e
  have hcall := HP.out wr _ _ HB.out hK
  simp only [Int.toNat_natCast] at hcell hK hcall
  have hg := idxOf_drop p l0 z97 x8 hlt
  have HA2 := Aside0.mk (HA.out ▸ hg).symm
  clear hg HA
  simp only [show k97.sz = 6 from rfl] at hcell
  clear hlen
  obtain rfl := k97_open hK
  have h0 := hcell 0 _ rfl
  have h1 := hcell 1 _ rfl; rw [add_field _ _ 1 (by omega)] at h1
  have h2 := hcell 2 _ rfl; rw [add_field _ _ 2 (by omega)] at h2
  have h3 := hcell 3 _ rfl; rw [add_field _ _ 3 (by omega)] at h3
  have h4 := hcell 4 _ rfl; rw [add_field _ _ 4 (by omega)] at h4
  have h5 := hcell 5 _ rfl; rw [add_field _ _ 5 (by omega)] at h5
  clear hcell hK
  simp only [Nat.add_zero] at h0
  generalize hy : l0.getD x8 z97 = y at *
  clear hy
  by_cases hq : p y = true
  · have HA3 := Aside0.mk (by have := HA2.out; rwa [if_pos hq] at this)
    rw [hq] at hcall
    clear hq HA2
    go_wp2_with ((with_reducible refine hcall.mono ?_); rintro e w' ⟨rfl, hb'⟩)
    go_ret
    have := HA3.out
    exact ⟨congrArg (fun z => Ending.returned (.int .i64 z)) this, below_step HB.out hb'⟩
  have hq2 : p y = false := by simpa using hq
  have HA3 := Aside0.mk (by have := HA2.out; rwa [if_neg hq] at this)
  rw [hq2] at hcall
  clear hq hq2 HA2
  go_wp2_with ((with_reducible refine hcall.mono ?_); rintro e w' ⟨rfl, hb'⟩)
  go_roundg (l0.length - (x8 + 1))
  case measure => omega
  case rel => exact ⟨x8 + 1, by go_num, by omega, HA3, ⟨below_step HB.out hb'⟩⟩

-- NEEDS
/-- A position of a series. -/
def position_place.q (a1_0 : ByteArray) (a1_1 a1_2 a1_3 : Int) (x : S97) : Bool := eqD67 x.f0.f0 a1_0 x.f0.f1 a1_1 x.f0.f2 a1_2 x.f0.f3 a1_3
/-- The place of the first position of a series; -1. -/
def position_place.f (l0 : List S97) (a1_0 : ByteArray) (a1_1 : Int) (a1_2 : Int) (a1_3 : Int) : Option Int := some (idxOf (position_place.q a1_0 a1_1 a1_2 a1_3) l0 0)
theorem position_place.pred (a1_0 : ByteArray) (a1_1 a1_2 a1_3 : Int) (w : World) (b : Nat) (hb : w.heap[b]? = some (.cells #[.string a1_0, .int .i64 a1_1, .int .i64 a1_2, .int .i64 a1_3] 67 (0, 0))) :
    PredK Try.prog k97 88 #[.pointer (some ⟨b, 0, none⟩)] (position_place.q a1_0 a1_1 a1_2 a1_3) w := by
  intro W x cs hW hK
  obtain rfl := k97_open hK
  have hb' := blk_below hb hW
  have h0 : W.cell? ⟨b, 0, none⟩ = some (.string a1_0) := (blk_cell hb' 0).trans rfl
  have h1 : W.cell? ⟨b, 1, none⟩ = some (.int .i64 a1_1) := (blk_cell hb' 1).trans rfl
  have h2 : W.cell? ⟨b, 2, none⟩ = some (.int .i64 a1_2) := (blk_cell hb' 2).trans rfl
  have h3 : W.cell? ⟨b, 3, none⟩ = some (.int .i64 a1_3) := (blk_cell hb' 3).trans rfl
  have hlt := blk_lt hb'
  clear hb hb' hK
  go_enter Try.func88, Try.ntmps88
  go_wp2
  go_ret
  exact ⟨rfl, (Below.refl _ _).alloc (Nat.le_refl _) _⟩
set_option maxHeartbeats 800000 in
set_option maxRecDepth 100000 in
theorem position_place.calls (A0 : Option Addr) (c0 : Nat) (l0 : List (S97)) (a1_0 : ByteArray) (a1_1 : Int) (a1_2 : Int) (a1_3 : Int) (r : Int) (w : World) (hr0 : Kd.C k97 w A0 l0.length l0) (hc0 : l0.length ≤ c0) (h : position_place.f l0 a1_0 a1_1 a1_2 a1_3 = some r) :
    Calls Try.prog 67 #[.slice A0 l0.length c0, .agg #[.string a1_0, .int .i64 a1_1, .int .i64 a1_2, .int .i64 a1_3]] w fun e w' => e = .returned (.int .i64 r) ∧ Below w.heap.size w w' := by
 have HR0 := Aside0.mk hr0
 have HC0 := Aside0.mk hc0
 obtain rfl := Option.some.inj h
 clear hr0 hc0 h
 go_enter Try.func67, Try.ntmps67
 go_wp2_with fail
 refine (IndexFunc_api_Position.calls _ 88 _ (enters_of Try.func88 (by kernel_rfl) rfl) A0 c0 l0 _ (position_place.pred a1_0 a1_1 a1_2 a1_3 _ _ (blk_new _ _)) (Kd.C_alloc HR0.out _)).mono ?_
 rintro e w2 ⟨rfl, hb⟩
 have HB := Aside0.mk (below_step (below_alloc (Below.refl _ w) _) hb)
 clear hb
 go_wp2
 go_ret
 exact ⟨rfl, HB.out⟩

/-! ### position_Find: function 43 -/
def position_Find.f (l0 : List (S97)) (a1_0 : ByteArray) (a1_1 : Int) (a1_2 : Int) (a1_3 : Int) : Option (ByteArray × Int × Int × Int × Int × Int) := (position_place.f l0 a1_0 a1_1 a1_2 a1_3).bind fun t190 => (if t190 ≥ 0 then (if 0 ≤ t190 then (if t190 < (l0.length : Int) then (some ((rd_T97 l0 t190).f0.f0, (rd_T97 l0 t190).f0.f1, (rd_T97 l0 t190).f0.f2, (rd_T97 l0 t190).f0.f3, (rd_T97 l0 t190).f1, (rd_T97 l0 t190).f2)) else (none)) else (none)) else (some (a1_0, a1_1, a1_2, a1_3, 0, 0)))
set_option maxHeartbeats 8000000 in
set_option maxRecDepth 100000 in
theorem position_Find.calls (A0 : Option Addr) (c0 : Nat) (l0 : List (S97)) (a1_0 : ByteArray) (a1_1 : Int) (a1_2 : Int) (a1_3 : Int) (r1 : ByteArray) (r2 : Int) (r3 : Int) (r4 : Int) (r5 : Int) (r6 : Int) (w : World) (hr0 : Kd.C k97 w A0 l0.length l0) (hc0 : l0.length ≤ c0) (h : position_Find.f l0 a1_0 a1_1 a1_2 a1_3 = some (r1, r2, r3, r4, r5, r6)) :
    Calls Try.prog 43 #[.slice A0 l0.length c0, .agg #[.string a1_0, .int .i64 a1_1, .int .i64 a1_2, .int .i64 a1_3]] w fun e w' => e = .returned (.agg #[.string r1, .int .i64 r2, .int .i64 r3, .int .i64 r4, .int .i64 r5, .int .i64 r6]) ∧ Below w.heap.size w w' := by
 have hu67 := Try.underlying67
 have hu97 := Try.underlying97
 have HR0 := Aside0.mk hr0
 have HC0 := Aside0.mk hc0
 clear hr0 hc0
 have HB := Aside0.mk (Below.refl w.heap.size w)
 have H : ((position_place.f l0 a1_0 a1_1 a1_2 a1_3).bind fun t190 => (if t190 ≥ 0 then (if 0 ≤ t190 then (if t190 < (l0.length : Int) then (some ((rd_T97 l0 t190).f0.f0, (rd_T97 l0 t190).f0.f1, (rd_T97 l0 t190).f0.f2, (rd_T97 l0 t190).f0.f3, (rd_T97 l0 t190).f1, (rd_T97 l0 t190).f2)) else (none)) else (none)) else (some (a1_0, a1_1, a1_2, a1_3, 0, 0)))) = some (r1, r2, r3, r4, r5, r6) := h
 clear h
 replace H := Option.bind_eq_some_iff.mp H
 obtain ⟨t190, A30, H⟩ := H
 replace H : (if t190 ≥ 0 then (if 0 ≤ t190 then (if t190 < (l0.length : Int) then (some ((rd_T97 l0 t190).f0.f0, (rd_T97 l0 t190).f0.f1, (rd_T97 l0 t190).f0.f2, (rd_T97 l0 t190).f0.f3, (rd_T97 l0 t190).f1, (rd_T97 l0 t190).f2)) else (none)) else (none)) else (some (a1_0, a1_1, a1_2, a1_3, 0, 0))) = some (r1, r2, r3, r4, r5, r6) := H
 have A3 := Aside0.mk A30
 clear A30
 by_cases c4 : t190 ≥ 0
 rotate_left
 · rw [if_neg c4] at H
   have c4b0 : decide (0 ≤ t190) = false := decide_eq_false c4
   clear c4
   simp only [Option.some.injEq, Prod.mk.injEq] at H
   obtain ⟨rfl, rfl, rfl, rfl, rfl, rfl⟩ := H
   go_enter Try.func43, Try.ntmps43
   go_wp2_with (first | ((with_reducible refine gate_dst (N := 3) rfl ?_); refine box_event ?hg (N := 3) ?hd (cs := #[.string a1_0, .int .i64 a1_1, .int .i64 a1_2, .int .i64 a1_3]) (t := 67) ?hr ?_; (case hd => rfl); (case hg => rfl); (case hr => first | (go_simp; done) | (go_simp; rfl)); intro gb188 hg w13 hbox hb; have n0_ := Aside0.mk (below_step (by repeat (first | (with_reducible first | exact HB.out | apply below_alloc | apply pw_below_drewN | apply below_drew1) | exact HB.out)) hb); have n1_ := Aside0.mk (hbox); have n2_ := Aside0.mk ((by rw [hg]; exact (below_size (by repeat (first | (with_reducible first | exact HB.out | apply below_alloc | apply pw_below_drewN | apply below_drew1) | exact HB.out))) : w.heap.size ≤ gb188)); have n3_ := Aside0.mk ((by rw [hg]; exact (below_size (by repeat (first | (with_reducible first | exact HB.out | apply below_alloc | apply pw_below_drewN | apply below_drew1) | exact HB.out))) : w.heap.size ≤ gb188)); clear HB; have HB := n0_; have BK188 := n1_; have GW188 := n2_; have GE188 := n3_; clear n0_ n1_ n2_ n3_; clear hb hbox hg) | ((with_reducible refine gate_dst (N := 4) rfl ?_); refine box_event ?hg (N := 4) ?hd (cs := #[.string (⟨#[]⟩ : ByteArray), .int .i64 0, .int .i64 0, .int .i64 0, .int .i64 0, .int .i64 0]) (t := 97) ?hr ?_; (case hd => rfl); (case hg => rfl); (case hr => first | (go_simp; done) | (go_simp; rfl)); intro gb189 hg w14 hbox hb; have n0_ := Aside0.mk (blk_below (g := gb188) (o := .cells #[.string a1_0, .int .i64 a1_1, .int .i64 a1_2, .int .i64 a1_3] 67 (0, 0)) (by (with_reducible repeat (first | refine blk_drewN ?_ _ | refine blk_drew ?_ | refine blk_alloc ?_ _)); exact BK188.out) hb); have n1_ := Aside0.mk (below_step (by repeat (first | (with_reducible first | exact HB.out | apply below_alloc | apply pw_below_drewN | apply below_drew1 | refine below_set ?_ GE188.out) | exact HB.out)) hb); have n2_ := Aside0.mk (hbox); have n3_ := Aside0.mk ((by rw [hg]; exact (below_size (by repeat (first | (with_reducible first | exact HB.out | apply below_alloc | apply pw_below_drewN | apply below_drew1 | refine below_set ?_ GE188.out) | exact HB.out))) : w.heap.size ≤ gb189)); have n4_ := Aside0.mk ((by rw [hg]; exact (below_size (by repeat (first | (with_reducible first | exact HB.out | apply below_alloc | apply pw_below_drewN | apply below_drew1 | refine below_set ?_ GE188.out) | exact HB.out))) : w.heap.size ≤ gb189)); have n5_ := Aside0.mk ((by rw [hg]; exact Nat.ne_of_lt (blk_lt (g := gb188) (o := .cells #[.string a1_0, .int .i64 a1_1, .int .i64 a1_2, .int .i64 a1_3] 67 (0, 0)) (by (with_reducible repeat (first | refine blk_drewN ?_ _ | refine blk_drew ?_ | refine blk_alloc ?_ _)); exact BK188.out)) : gb188 ≠ gb189)); have n6_ := Aside0.mk ((by rw [hg]; exact Nat.ne_of_gt (blk_lt (g := gb188) (o := .cells #[.string a1_0, .int .i64 a1_1, .int .i64 a1_2, .int .i64 a1_3] 67 (0, 0)) (by (with_reducible repeat (first | refine blk_drewN ?_ _ | refine blk_drew ?_ | refine blk_alloc ?_ _)); exact BK188.out)) : gb189 ≠ gb188)); clear BK188; clear HB; have BK188 := n0_; have HB := n1_; have BK189 := n2_; have GW189 := n3_; have GE189 := n4_; have NB188_189 := n5_; have NB189_188 := n6_; clear n0_ n1_ n2_ n3_ n4_ n5_ n6_; clear hb hbox hg; have hnb15 := NB188_189.out; have hnc15 := NB189_188.out; have hcz16_0 : w14.cell? ⟨gb188, 0, none⟩ = some (.string a1_0) := (blk_cell BK188.out 0).trans rfl; have hcz16_1 : w14.cell? ⟨gb188, 1, none⟩ = some (.int .i64 a1_1) := (blk_cell BK188.out 1).trans rfl; have hcz16_2 : w14.cell? ⟨gb188, 2, none⟩ = some (.int .i64 a1_2) := (blk_cell BK188.out 2).trans rfl; have hcz16_3 : w14.cell? ⟨gb188, 3, none⟩ = some (.int .i64 a1_3) := (blk_cell BK188.out 3).trans rfl; have hfz16_0 := blk_frozen BK188.out 0; have hfz16_1 := blk_frozen BK188.out 1; have hfz16_2 := blk_frozen BK188.out 2; have hfz16_3 := blk_frozen BK188.out 3) | ((with_reducible refine gate_callee (f := 67) rfl ?_); refine goesL_ (some 8) rfl rfl Try.func67 (by kernel_rfl) rfl #[.slice A0 l0.length c0, .agg #[.string a1_0, .int .i64 a1_1, .int .i64 a1_2, .int .i64 a1_3]] rfl (by (try simp only [List.map_toArray, List.map_cons, List.map_nil]); first | done | rfl | (simp only [List.length_drop, List.length_take]; rfl)) ?_; (with_reducible refine (position_place.calls _ _ l0 a1_0 a1_1 a1_2 a1_3 t190 _ ?side1 ?side2 A3.out).mono ?_); (case side1 => repeat (first | exact (Kd.C_below HR0.out HB.out) | (with_reducible refine Kd.C_alloc ?_ _) | (with_reducible refine Kd.C_drewN ?_ _) | (with_reducible refine Kd.C_drew ?_))); (case side2 => exact HC0.out); rintro e w17 ⟨rfl, hb⟩; refine ⟨_, rfl, ?_⟩; have n0_ := Aside0.mk (blk_below (g := gb188) (o := .cells #[.string a1_0, .int .i64 a1_1, .int .i64 a1_2, .int .i64 a1_3] 67 (0, 0)) (by (with_reducible repeat (first | refine blk_drewN ?_ _ | refine blk_drew ?_ | refine blk_alloc ?_ _)); exact BK188.out) hb); have n1_ := Aside0.mk (blk_below (g := gb189) (o := .cells #[.string (⟨#[]⟩ : ByteArray), .int .i64 0, .int .i64 0, .int .i64 0, .int .i64 0, .int .i64 0] 97 (0, 0)) (by (with_reducible repeat (first | refine blk_drewN ?_ _ | refine blk_drew ?_ | refine blk_alloc ?_ _)); exact BK189.out) hb); have n2_ := Aside0.mk (below_step (by repeat (first | (with_reducible first | exact HB.out | apply below_alloc | apply pw_below_drewN | apply below_drew1 | refine below_set ?_ GE188.out | refine below_set ?_ GE189.out) | exact HB.out)) hb); clear BK188; clear BK189; clear HB; have BK188 := n0_; have BK189 := n1_; have HB := n2_; clear n0_ n1_ n2_; (try clear hb); (try clear hb2); (try clear hk); (try clear hi); have hcz18_0 : w17.cell? ⟨gb188, 0, none⟩ = some (.string a1_0) := (blk_cell BK188.out 0).trans rfl; have hcz18_1 : w17.cell? ⟨gb188, 1, none⟩ = some (.int .i64 a1_1) := (blk_cell BK188.out 1).trans rfl; have hcz18_2 : w17.cell? ⟨gb188, 2, none⟩ = some (.int .i64 a1_2) := (blk_cell BK188.out 2).trans rfl; have hcz18_3 : w17.cell? ⟨gb188, 3, none⟩ = some (.int .i64 a1_3) := (blk_cell BK188.out 3).trans rfl; have hfz18_0 := blk_frozen BK188.out 0; have hfz18_1 := blk_frozen BK188.out 1; have hfz18_2 := blk_frozen BK188.out 2; have hfz18_3 := blk_frozen BK188.out 3; have hcz19_0 : w17.cell? ⟨gb189, 0, none⟩ = some (.string (⟨#[]⟩ : ByteArray)) := (blk_cell BK189.out 0).trans rfl; have hcz19_1 : w17.cell? ⟨gb189, 1, none⟩ = some (.int .i64 0) := (blk_cell BK189.out 1).trans rfl; have hcz19_2 : w17.cell? ⟨gb189, 2, none⟩ = some (.int .i64 0) := (blk_cell BK189.out 2).trans rfl; have hcz19_3 : w17.cell? ⟨gb189, 3, none⟩ = some (.int .i64 0) := (blk_cell BK189.out 3).trans rfl; have hcz19_4 : w17.cell? ⟨gb189, 4, none⟩ = some (.int .i64 0) := (blk_cell BK189.out 4).trans rfl; have hcz19_5 : w17.cell? ⟨gb189, 5, none⟩ = some (.int .i64 0) := (blk_cell BK189.out 5).trans rfl; have hfz19_0 := blk_frozen BK189.out 0; have hfz19_1 := blk_frozen BK189.out 1; have hfz19_2 := blk_frozen BK189.out 2; have hfz19_3 := blk_frozen BK189.out 3; have hfz19_4 := blk_frozen BK189.out 4; have hfz19_5 := blk_frozen BK189.out 5))
   refine bodyPost_ret (results_cell_row rfl _ _ gb189 97 #[.string a1_0, .int .i64 a1_1, .int .i64 a1_2, .int .i64 a1_3, .int .i64 0, .int .i64 0] (0, 0) _ rfl (by (with_reducible repeat (first | refine blk_drewN ?_ _ | refine blk_drew ?_ | refine blk_alloc ?_ _)); refine blk_put (cs := #[.string a1_0, .int .i64 a1_1, .int .i64 a1_2, .int .i64 a1_3, .int .i64 0, .int .i64 0]) ?_ 5 _ rfl; (with_reducible repeat (first | refine blk_drewN ?_ _ | refine blk_drew ?_ | refine blk_alloc ?_ _)); refine blk_put (cs := #[.string a1_0, .int .i64 a1_1, .int .i64 a1_2, .int .i64 a1_3, .int .i64 0, .int .i64 0]) ?_ 4 _ rfl; (with_reducible repeat (first | refine blk_drewN ?_ _ | refine blk_drew ?_ | refine blk_alloc ?_ _)); refine blk_put (cs := #[.string a1_0, .int .i64 a1_1, .int .i64 a1_2, .int .i64 0, .int .i64 0, .int .i64 0]) ?_ 3 _ rfl; (with_reducible repeat (first | refine blk_drewN ?_ _ | refine blk_drew ?_ | refine blk_alloc ?_ _)); refine blk_put (cs := #[.string a1_0, .int .i64 a1_1, .int .i64 0, .int .i64 0, .int .i64 0, .int .i64 0]) ?_ 2 _ rfl; (with_reducible repeat (first | refine blk_drewN ?_ _ | refine blk_drew ?_ | refine blk_alloc ?_ _)); refine blk_put (cs := #[.string a1_0, .int .i64 0, .int .i64 0, .int .i64 0, .int .i64 0, .int .i64 0]) ?_ 1 _ rfl; (with_reducible repeat (first | refine blk_drewN ?_ _ | refine blk_drew ?_ | refine blk_alloc ?_ _)); refine blk_put (cs := #[.string (⟨#[]⟩ : ByteArray), .int .i64 0, .int .i64 0, .int .i64 0, .int .i64 0, .int .i64 0]) ?_ 0 _ rfl; (with_reducible repeat (first | refine blk_drewN ?_ _ | refine blk_drew ?_ | refine blk_alloc ?_ _)); exact BK189.out) Try.underlying97 rfl (by kernel_rfl)) rfl ?_
   exact ⟨by first | rfl | (simp [errW_none, errW_some] <;> rfl) | (simp [*, errW_none, errW_some] <;> rfl), by repeat (first | (with_reducible first | exact HB.out | apply below_alloc | apply pw_below_drewN | apply below_drew1 | refine below_set ?_ GE188.out | refine below_set ?_ GE189.out) | exact HB.out)⟩
 rw [if_pos c4] at H
 have c4b0 : decide (0 ≤ t190) = true := decide_eq_true c4
 clear c4
 by_cases c5 : 0 ≤ t190
 rotate_left
 · rw [if_neg c5] at H
   exact absurd H (by simp)
 rw [if_pos c5] at H
 have c5b0 : decide (0 ≤ t190) = true := decide_eq_true c5
 clear c5
 by_cases c6 : t190 < (l0.length : Int)
 rotate_left
 · rw [if_neg c6] at H
   exact absurd H (by simp)
 rw [if_pos c6] at H
 have c6b0 : decide (t190 < (l0.length : Int)) = true := decide_eq_true c6
 clear c6
 simp only [Option.some.injEq, Prod.mk.injEq] at H
 obtain ⟨rfl, rfl, rfl, rfl, rfl, rfl⟩ := H
 go_enter Try.func43, Try.ntmps43
 go_wp2_with (first | ((with_reducible refine gate_dst (N := 3) rfl ?_); refine box_event ?hg (N := 3) ?hd (cs := #[.string a1_0, .int .i64 a1_1, .int .i64 a1_2, .int .i64 a1_3]) (t := 67) ?hr ?_; (case hd => rfl); (case hg => rfl); (case hr => first | (go_simp; done) | (go_simp; rfl)); intro gb188 hg w7 hbox hb; have n0_ := Aside0.mk (below_step (by repeat (first | (with_reducible first | exact HB.out | apply below_alloc | apply pw_below_drewN | apply below_drew1) | exact HB.out)) hb); have n1_ := Aside0.mk (hbox); have n2_ := Aside0.mk ((by rw [hg]; exact (below_size (by repeat (first | (with_reducible first | exact HB.out | apply below_alloc | apply pw_below_drewN | apply below_drew1) | exact HB.out))) : w.heap.size ≤ gb188)); have n3_ := Aside0.mk ((by rw [hg]; exact (below_size (by repeat (first | (with_reducible first | exact HB.out | apply below_alloc | apply pw_below_drewN | apply below_drew1) | exact HB.out))) : w.heap.size ≤ gb188)); clear HB; have HB := n0_; have BK188 := n1_; have GW188 := n2_; have GE188 := n3_; clear n0_ n1_ n2_ n3_; clear hb hbox hg) | ((with_reducible refine gate_dst (N := 4) rfl ?_); refine box_event ?hg (N := 4) ?hd (cs := #[.string (⟨#[]⟩ : ByteArray), .int .i64 0, .int .i64 0, .int .i64 0, .int .i64 0, .int .i64 0]) (t := 97) ?hr ?_; (case hd => rfl); (case hg => rfl); (case hr => first | (go_simp; done) | (go_simp; rfl)); intro gb189 hg w8 hbox hb; have n0_ := Aside0.mk (blk_below (g := gb188) (o := .cells #[.string a1_0, .int .i64 a1_1, .int .i64 a1_2, .int .i64 a1_3] 67 (0, 0)) (by (with_reducible repeat (first | refine blk_drewN ?_ _ | refine blk_drew ?_ | refine blk_alloc ?_ _)); exact BK188.out) hb); have n1_ := Aside0.mk (below_step (by repeat (first | (with_reducible first | exact HB.out | apply below_alloc | apply pw_below_drewN | apply below_drew1 | refine below_set ?_ GE188.out) | exact HB.out)) hb); have n2_ := Aside0.mk (hbox); have n3_ := Aside0.mk ((by rw [hg]; exact (below_size (by repeat (first | (with_reducible first | exact HB.out | apply below_alloc | apply pw_below_drewN | apply below_drew1 | refine below_set ?_ GE188.out) | exact HB.out))) : w.heap.size ≤ gb189)); have n4_ := Aside0.mk ((by rw [hg]; exact (below_size (by repeat (first | (with_reducible first | exact HB.out | apply below_alloc | apply pw_below_drewN | apply below_drew1 | refine below_set ?_ GE188.out) | exact HB.out))) : w.heap.size ≤ gb189)); have n5_ := Aside0.mk ((by rw [hg]; exact Nat.ne_of_lt (blk_lt (g := gb188) (o := .cells #[.string a1_0, .int .i64 a1_1, .int .i64 a1_2, .int .i64 a1_3] 67 (0, 0)) (by (with_reducible repeat (first | refine blk_drewN ?_ _ | refine blk_drew ?_ | refine blk_alloc ?_ _)); exact BK188.out)) : gb188 ≠ gb189)); have n6_ := Aside0.mk ((by rw [hg]; exact Nat.ne_of_gt (blk_lt (g := gb188) (o := .cells #[.string a1_0, .int .i64 a1_1, .int .i64 a1_2, .int .i64 a1_3] 67 (0, 0)) (by (with_reducible repeat (first | refine blk_drewN ?_ _ | refine blk_drew ?_ | refine blk_alloc ?_ _)); exact BK188.out)) : gb189 ≠ gb188)); clear BK188; clear HB; have BK188 := n0_; have HB := n1_; have BK189 := n2_; have GW189 := n3_; have GE189 := n4_; have NB188_189 := n5_; have NB189_188 := n6_; clear n0_ n1_ n2_ n3_ n4_ n5_ n6_; clear hb hbox hg; have hnb9 := NB188_189.out; have hnc9 := NB189_188.out; have hcz10_0 : w8.cell? ⟨gb188, 0, none⟩ = some (.string a1_0) := (blk_cell BK188.out 0).trans rfl; have hcz10_1 : w8.cell? ⟨gb188, 1, none⟩ = some (.int .i64 a1_1) := (blk_cell BK188.out 1).trans rfl; have hcz10_2 : w8.cell? ⟨gb188, 2, none⟩ = some (.int .i64 a1_2) := (blk_cell BK188.out 2).trans rfl; have hcz10_3 : w8.cell? ⟨gb188, 3, none⟩ = some (.int .i64 a1_3) := (blk_cell BK188.out 3).trans rfl; have hfz10_0 := blk_frozen BK188.out 0; have hfz10_1 := blk_frozen BK188.out 1; have hfz10_2 := blk_frozen BK188.out 2; have hfz10_3 := blk_frozen BK188.out 3) | ((with_reducible refine gate_callee (f := 67) rfl ?_); refine goesL_ (some 8) rfl rfl Try.func67 (by kernel_rfl) rfl #[.slice A0 l0.length c0, .agg #[.string a1_0, .int .i64 a1_1, .int .i64 a1_2, .int .i64 a1_3]] rfl (by (try simp only [List.map_toArray, List.map_cons, List.map_nil]); first | done | rfl | (simp only [List.length_drop, List.length_take]; rfl)) ?_; (with_reducible refine (position_place.calls _ _ l0 a1_0 a1_1 a1_2 a1_3 t190 _ ?side1 ?side2 A3.out).mono ?_); (case side1 => repeat (first | exact (Kd.C_below HR0.out HB.out) | (with_reducible refine Kd.C_alloc ?_ _) | (with_reducible refine Kd.C_drewN ?_ _) | (with_reducible refine Kd.C_drew ?_))); (case side2 => exact HC0.out); rintro e w11 ⟨rfl, hb⟩; refine ⟨_, rfl, ?_⟩; have n0_ := Aside0.mk (blk_below (g := gb188) (o := .cells #[.string a1_0, .int .i64 a1_1, .int .i64 a1_2, .int .i64 a1_3] 67 (0, 0)) (by (with_reducible repeat (first | refine blk_drewN ?_ _ | refine blk_drew ?_ | refine blk_alloc ?_ _)); exact BK188.out) hb); have n1_ := Aside0.mk (blk_below (g := gb189) (o := .cells #[.string (⟨#[]⟩ : ByteArray), .int .i64 0, .int .i64 0, .int .i64 0, .int .i64 0, .int .i64 0] 97 (0, 0)) (by (with_reducible repeat (first | refine blk_drewN ?_ _ | refine blk_drew ?_ | refine blk_alloc ?_ _)); exact BK189.out) hb); have n2_ := Aside0.mk (below_step (by repeat (first | (with_reducible first | exact HB.out | apply below_alloc | apply pw_below_drewN | apply below_drew1 | refine below_set ?_ GE188.out | refine below_set ?_ GE189.out) | exact HB.out)) hb); clear BK188; clear BK189; clear HB; have BK188 := n0_; have BK189 := n1_; have HB := n2_; clear n0_ n1_ n2_; (try clear hb); (try clear hb2); (try clear hk); (try clear hi); have p191 : 0 ≤ (t190 : Int) := of_decide_eq_true (by first | (with_reducible assumption) | assumption); have q191 : t190 < (l0.length : Int) := of_decide_eq_true (by first | (with_reducible assumption) | assumption); obtain ⟨ad191, e191, hx191_0, hx191_1, hx191_2, hx191_3, hx191_4, hx191_5⟩ := at_T97 HR0.out t190 p191 q191; cases e191; replace hx191_0 := (HB.out.cell (World.block_lt_of_cell? w _ hx191_0)).trans hx191_0; replace hx191_1 := (HB.out.cell (World.block_lt_of_cell? w _ hx191_1)).trans hx191_1; replace hx191_2 := (HB.out.cell (World.block_lt_of_cell? w _ hx191_2)).trans hx191_2; replace hx191_3 := (HB.out.cell (World.block_lt_of_cell? w _ hx191_3)).trans hx191_3; replace hx191_4 := (HB.out.cell (World.block_lt_of_cell? w _ hx191_4)).trans hx191_4; replace hx191_5 := (HB.out.cell (World.block_lt_of_cell? w _ hx191_5)).trans hx191_5; replace p191 := eq_true p191; replace q191 := eq_true q191; have hcz12_0 : w11.cell? ⟨gb189, 0, none⟩ = some (.string (⟨#[]⟩ : ByteArray)) := (blk_cell BK189.out 0).trans rfl; have hcz12_1 : w11.cell? ⟨gb189, 1, none⟩ = some (.int .i64 0) := (blk_cell BK189.out 1).trans rfl; have hcz12_2 : w11.cell? ⟨gb189, 2, none⟩ = some (.int .i64 0) := (blk_cell BK189.out 2).trans rfl; have hcz12_3 : w11.cell? ⟨gb189, 3, none⟩ = some (.int .i64 0) := (blk_cell BK189.out 3).trans rfl; have hcz12_4 : w11.cell? ⟨gb189, 4, none⟩ = some (.int .i64 0) := (blk_cell BK189.out 4).trans rfl; have hcz12_5 : w11.cell? ⟨gb189, 5, none⟩ = some (.int .i64 0) := (blk_cell BK189.out 5).trans rfl; have hfz12_0 := blk_frozen BK189.out 0; have hfz12_1 := blk_frozen BK189.out 1; have hfz12_2 := blk_frozen BK189.out 2; have hfz12_3 := blk_frozen BK189.out 3; have hfz12_4 := blk_frozen BK189.out 4; have hfz12_5 := blk_frozen BK189.out 5))
 refine bodyPost_ret (results_cell_row rfl _ _ gb189 97 #[.string ((rd_T97 l0 t190).f0.f0), .int .i64 ((rd_T97 l0 t190).f0.f1), .int .i64 ((rd_T97 l0 t190).f0.f2), .int .i64 ((rd_T97 l0 t190).f0.f3), .int .i64 ((rd_T97 l0 t190).f1), .int .i64 ((rd_T97 l0 t190).f2)] (0, 0) _ rfl (by (with_reducible repeat (first | refine blk_drewN ?_ _ | refine blk_drew ?_ | refine blk_alloc ?_ _)); refine blk_put (cs := #[.string ((rd_T97 l0 t190).f0.f0), .int .i64 ((rd_T97 l0 t190).f0.f1), .int .i64 ((rd_T97 l0 t190).f0.f2), .int .i64 ((rd_T97 l0 t190).f0.f3), .int .i64 ((rd_T97 l0 t190).f1), .int .i64 0]) ?_ 5 _ rfl; (with_reducible repeat (first | refine blk_drewN ?_ _ | refine blk_drew ?_ | refine blk_alloc ?_ _)); refine blk_put (cs := #[.string ((rd_T97 l0 t190).f0.f0), .int .i64 ((rd_T97 l0 t190).f0.f1), .int .i64 ((rd_T97 l0 t190).f0.f2), .int .i64 ((rd_T97 l0 t190).f0.f3), .int .i64 0, .int .i64 0]) ?_ 4 _ rfl; (with_reducible repeat (first | refine blk_drewN ?_ _ | refine blk_drew ?_ | refine blk_alloc ?_ _)); refine blk_put (cs := #[.string ((rd_T97 l0 t190).f0.f0), .int .i64 ((rd_T97 l0 t190).f0.f1), .int .i64 ((rd_T97 l0 t190).f0.f2), .int .i64 0, .int .i64 0, .int .i64 0]) ?_ 3 _ rfl; (with_reducible repeat (first | refine blk_drewN ?_ _ | refine blk_drew ?_ | refine blk_alloc ?_ _)); refine blk_put (cs := #[.string ((rd_T97 l0 t190).f0.f0), .int .i64 ((rd_T97 l0 t190).f0.f1), .int .i64 0, .int .i64 0, .int .i64 0, .int .i64 0]) ?_ 2 _ rfl; (with_reducible repeat (first | refine blk_drewN ?_ _ | refine blk_drew ?_ | refine blk_alloc ?_ _)); refine blk_put (cs := #[.string ((rd_T97 l0 t190).f0.f0), .int .i64 0, .int .i64 0, .int .i64 0, .int .i64 0, .int .i64 0]) ?_ 1 _ rfl; (with_reducible repeat (first | refine blk_drewN ?_ _ | refine blk_drew ?_ | refine blk_alloc ?_ _)); refine blk_put (cs := #[.string (⟨#[]⟩ : ByteArray), .int .i64 0, .int .i64 0, .int .i64 0, .int .i64 0, .int .i64 0]) ?_ 0 _ rfl; (with_reducible repeat (first | refine blk_drewN ?_ _ | refine blk_drew ?_ | refine blk_alloc ?_ _)); exact BK189.out) Try.underlying97 rfl (by kernel_rfl)) rfl ?_
 exact ⟨by first | rfl | (simp [errW_none, errW_some] <;> rfl) | (simp [*, errW_none, errW_some] <;> rfl), by repeat (first | (with_reducible first | exact HB.out | apply below_alloc | apply pw_below_drewN | apply below_drew1 | refine below_set ?_ GE188.out | refine below_set ?_ GE189.out) | exact HB.out)⟩

end Go.Proofs.Ytmgeoombebkfaaa.PDeliverSides
