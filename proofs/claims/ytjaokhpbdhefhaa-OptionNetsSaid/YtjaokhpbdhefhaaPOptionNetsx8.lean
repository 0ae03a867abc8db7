-- Written by a program of this session's (a turned copy of the kit's print, with functions proved by hand).
import Derived.Test.YtjaokhpbdhefhaaPOptionNetsx0
import Derived.Test.YtjaokhpbdhefhaaPOptionNetsx6
import Derived.Test.YtjaokhpbdhefhaaPOptionNetsx7
namespace Go.Proofs.Ytjaokhpbdhefhaa.POptionNets
open Go.RowKit Go.Proofs.YtjaokhpbdhefhaaW.PrintWords Go.Proofs.YtjaokhpbdhefhaaW.PrintLast Go.Proofs.YtjaokhpbdhefhaaW.PrintMore
attribute [local go_sem] max2_int min2_int max_two min_two max_three min_three max_four min_four Go.Proofs.YtjaokhpbdhefhaaHand.run_leq_str Go.Proofs.YtjaokhpbdhefhaaHand.run_gtr_str Go.Proofs.YtjaokhpbdhefhaaHand.run_geq_str   -- for this text's walks alone
set_option linter.unusedVariables false
set_option linter.unusedSimpArgs false

/-! ### mark_CheckAll: function 35 -/
abbrev y8 : Bool := true
abbrev n8 : Bool := false
mutual
def mark_CheckAll.l0 : Nat → List (S63) → List (S63) → Int → Int → Option (Int)
  | 0, _, _, _, _ => none
  | k + 1, x0, x8, x9, x10 => if x10 < x9 then (if 0 ≤ x10 then (if x10 < (x8.length : Int) then (if x10 > 0 then (if 0 ≤ (wrap64 (x10 - 1)) then (if (wrap64 (x10 - 1)) < (x0.length : Int) then ((series_Compare.f ((rd_T63 x0 (wrap64 (x10 - 1))).f0.f0) ((rd_T63 x0 (wrap64 (x10 - 1))).f0.f1) ((rd_T63 x0 (wrap64 (x10 - 1))).f0.f2) ((rd_T63 x0 (wrap64 (x10 - 1))).f0.f3) ((rd_T63 x8 x10).f0.f0) ((rd_T63 x8 x10).f0.f1) ((rd_T63 x8 x10).f0.f2) ((rd_T63 x8 x10).f0.f3)).bind fun t146 => (mark_CheckAll.j1 k x0 x8 x9 x10 (decide (t146 ≥ 0)) ((rd_T63 x8 x10).f0.f0) ((rd_T63 x8 x10).f0.f1) ((rd_T63 x8 x10).f0.f2) ((rd_T63 x8 x10).f0.f3) ((rd_T63 x8 x10).f1))) else (none)) else (none)) else (mark_CheckAll.j1 k x0 x8 x9 x10 false ((rd_T63 x8 x10).f0.f0) ((rd_T63 x8 x10).f0.f1) ((rd_T63 x8 x10).f0.f2) ((rd_T63 x8 x10).f0.f3) ((rd_T63 x8 x10).f1))) else (none)) else (none)) else (some 0)
def mark_CheckAll.j1 : Nat → List (S63) → List (S63) → Int → Int → Bool → ByteArray → Int → Int → Int → Int → Option (Int)
  | 0, _, _, _, _, _, _, _, _, _, _ => none
  | k + 1, x0, x8, x9, x10, x28, x145000, x145001, x145002, x145003, x145004 => if x28 = true then (some 19) else ((mark_price.f x145004).bind fun t147 => (if t147 = true then (mark_CheckAll.l0 k x0 x8 x9 (wrap64 (x10 + 1))) else (some 17)))
end
def mark_CheckAll.f (k : Nat) (l0 : List (S63)) : Option (Int) := if (l0.length : Int) > 128 then (some 8) else (mark_CheckAll.l0 k l0 l0 (l0.length : Int) 0)
theorem mark_CheckAll.mono_l : ∀ k, (∀ y0 y1 y2 y3, LeO (mark_CheckAll.l0 k y0 y1 y2 y3) (mark_CheckAll.l0 (k + 1) y0 y1 y2 y3)) ∧ (∀ y0 y1 y2 y3 y4 y5 y6 y7 y8 y9, LeO (mark_CheckAll.j1 k y0 y1 y2 y3 y4 y5 y6 y7 y8 y9) (mark_CheckAll.j1 (k + 1) y0 y1 y2 y3 y4 y5 y6 y7 y8 y9))
  | 0 => ⟨fun _ _ _ _ r h => by simp [mark_CheckAll.l0] at h, fun _ _ _ _ _ _ _ _ _ _ r h => by simp [mark_CheckAll.j1] at h⟩
  | k + 1 => by
    obtain ⟨ih0, ih1⟩ := mark_CheckAll.mono_l k
    refine ⟨?_, ?_⟩
    · intro y0 y1 y2 y3
      unfold mark_CheckAll.l0
      repeat' first
      | (with_reducible exact ih0 _ _ _ _)
      | (with_reducible exact ih1 _ _ _ _ _ _ _ _ _ _)
      | (with_reducible exact LeO.refl _)
      | (with_reducible exact LeO.none _)
      | (with_reducible refine LeO.ite ?_ ?_)
      | (with_reducible refine LeO.bind ?_ (fun _ => ?_))
      | exact ih0 _ _ _ _
      | exact ih1 _ _ _ _ _ _ _ _ _ _
      | exact LeO.none _
      | refine LeO.ite ?_ ?_
      | refine LeO.bind ?_ (fun _ => ?_)
    · intro y0 y1 y2 y3 y4 y5 y6 y7 y8 y9
      unfold mark_CheckAll.j1
      repeat' first
      | (with_reducible exact ih0 _ _ _ _)
      | (with_reducible exact ih1 _ _ _ _ _ _ _ _ _ _)
      | (with_reducible exact LeO.refl _)
      | (with_reducible exact LeO.none _)
      | (with_reducible refine LeO.ite ?_ ?_)
      | (with_reducible refine LeO.bind ?_ (fun _ => ?_))
      | exact ih0 _ _ _ _
      | exact ih1 _ _ _ _ _ _ _ _ _ _
      | exact LeO.none _
      | refine LeO.ite ?_ ?_
      | refine LeO.bind ?_ (fun _ => ?_)
theorem mark_CheckAll.mono : ∀ a0 k, LeO (mark_CheckAll.f k a0) (mark_CheckAll.f (k + 1) a0) := by
  intro a0 k
  obtain ⟨ih0, ih1⟩ := mark_CheckAll.mono_l k
  unfold mark_CheckAll.f
  repeat' first
      | (with_reducible exact ih0 _ _ _ _)
      | (with_reducible exact ih1 _ _ _ _ _ _ _ _ _ _)
      | (with_reducible exact LeO.refl _)
      | (with_reducible exact LeO.none _)
      | (with_reducible refine LeO.ite ?_ ?_)
      | (with_reducible refine LeO.bind ?_ (fun _ => ?_))
      | exact ih0 _ _ _ _
      | exact ih1 _ _ _ _ _ _ _ _ _ _
      | exact LeO.none _
      | refine LeO.ite ?_ ?_
      | refine LeO.bind ?_ (fun _ => ?_)
def mark_CheckAll.T6 : Bool × List (List Nat × List Nat) := (true, [([], []), ([0], [0]), ([1], [1]), ([2], [2]), ([2], [2]), ([4, 2], [2, 4]), ([3, 5, 2], [2, 3, 5]), ([6, 2], [2, 6]), ([7, 2], [2, 7]), ([2], [2]), ([9, 2], [2, 9]), ([8, 10, 2, 2], [2, 8, 10]), ([11, 2], [2, 11]), ([2, 12], [2, 12])])
def mark_CheckAll.B6 : List Nat := [0, 1, 3, 7, 7, 23, 63, 127, 255, 7, 519, 2047, 4095, 8191]
theorem mark_CheckAll.tab6 : rtab .any (opsOf Try.f35 6) = mark_CheckAll.T6 := by kernel_rfl
theorem mark_CheckAll.bits6 : waitsOk mark_CheckAll.T6.2 mark_CheckAll.B6 = true := by kernel_rfl
set_option maxHeartbeats 8000000 in
set_option maxRecDepth 100000 in
theorem mark_CheckAll.calls (k : Nat) (A0 : Option Addr) (c0 : Nat) (l0 : List (S63)) (r : Int) (w : World) (hr0 : Kd.C k63 w A0 l0.length l0) (hc0 : l0.length ≤ c0) (h : mark_CheckAll.f k l0 = some r) :
    Calls Try.prog 35 #[.slice A0 l0.length c0] w fun e w' => e = .returned (.int .i64 r) ∧ Below w.heap.size w w' := by
 have hu63 := Try.underlying63
 have hu23 := Try.underlying23
 have HR0 := Aside0.mk hr0
 have HC0 := Aside0.mk hc0
 clear hr0 hc0
 have HB := Aside0.mk (Below.refl w.heap.size w)
 have H : (if (l0.length : Int) > 128 then (some 8) else (mark_CheckAll.l0 k l0 l0 (l0.length : Int) 0)) = some r := h
 clear h
 by_cases c2 : (l0.length : Int) > 128
 · rw [if_pos c2] at H
   have c2b0 : decide (128 < (l0.length : Int)) = true := decide_eq_true c2
   have c2b1 : decide (128 < l0.length) = true := decide_eq_true (by omega)
   clear c2
   obtain rfl := Option.some.inj H
   go_enter Try.func35, Try.ntmps35
   go_wp2
   go_ret
   exact ⟨by first | rfl | (simp [errW_none, errW_some] <;> rfl) | (simp [*, errW_none, errW_some] <;> rfl), by repeat (with_reducible first | exact HB.out | apply below_alloc | apply pw_below_drewN | apply below_drew1)⟩
 rw [if_neg c2] at H
 have c2b0 : decide (128 < (l0.length : Int)) = false := decide_eq_false c2
 have c2b1 : decide (128 < l0.length) = false := decide_eq_false (by omega)
 clear c2
 have H' := Aside0.mk H
 clear H
 go_enter Try.func35, Try.ntmps35
 go_wp2
 go_loopg [10] k (fun kq v10 w' => ∃ (x10_1 : Int), v10 = .int .i64 x10_1 ∧ Aside0 (mark_CheckAll.l0 kq l0 l0 (l0.length : Int) x10_1 = some r) ∧ Aside0 (kq ≤ k) ∧ Aside0 (Below w.heap.size w w'))
 case atStart => exact ⟨(0), (by first | rfl | (simp; done) | (simp [*]; done)), H', ⟨Nat.le_refl _⟩, ⟨by repeat (with_reducible first | exact HB.out | apply below_alloc | apply pw_below_drewN | apply below_drew1)⟩⟩
 case round =>
  clear H'
  try clear c2
  try clear c2b0
  try clear c2b1
  try clear p2
  obtain ⟨x10_1, rfl, HA, HK1, HB⟩ := hrel
  cases gk with
  | zero => exact absurd HA.out (by simp [mark_CheckAll.l0])
  | succ k1 =>
   have H := HA.out
   clear HA
   simp only [mark_CheckAll.l0] at H
   by_cases c3 : x10_1 < (l0.length : Int)
   rotate_left
   · rw [if_neg c3] at H
     have c3b0 : decide (x10_1 < (l0.length : Int)) = false := decide_eq_false c3
     clear c3
     obtain rfl := Option.some.inj H
     go_wp2
     go_ret
     exact ⟨by first | rfl | (simp [errW_none, errW_some] <;> rfl) | (simp [*, errW_none, errW_some] <;> rfl), by repeat (with_reducible first | exact HB.out | apply below_alloc | apply pw_below_drewN | apply below_drew1)⟩
   rw [if_pos c3] at H
   have c3b0 : decide (x10_1 < (l0.length : Int)) = true := decide_eq_true c3
   clear c3
   by_cases c4 : 0 ≤ x10_1
   rotate_left
   · rw [if_neg c4] at H
     exact absurd H (by simp)
   rw [if_pos c4] at H
   have c4b0 : decide (0 ≤ x10_1) = true := decide_eq_true c4
   clear c4
   by_cases c5 : x10_1 < (l0.length : Int)
   rotate_left
   · rw [if_neg c5] at H
     exact absurd H (by simp)
   rw [if_pos c5] at H
   have c5b0 : decide (x10_1 < (l0.length : Int)) = true := decide_eq_true c5
   clear c5
   have HC6 := Aside0.mk H
   clear H
   have p143 : 0 ≤ (x10_1 : Int) := of_decide_eq_true (by first | (with_reducible assumption) | assumption)
   have q143 : x10_1 < (l0.length : Int) := of_decide_eq_true (by first | (with_reducible assumption) | assumption)
   obtain ⟨ad143, e143, hx143_0, hx143_1, hx143_2, hx143_3, hx143_4⟩ := at_T63 HR0.out x10_1 p143 q143
   cases e143
   replace hx143_0 := (HB.out.cell (World.block_lt_of_cell? w _ hx143_0)).trans hx143_0
   replace hx143_1 := (HB.out.cell (World.block_lt_of_cell? w _ hx143_1)).trans hx143_1
   replace hx143_2 := (HB.out.cell (World.block_lt_of_cell? w _ hx143_2)).trans hx143_2
   replace hx143_3 := (HB.out.cell (World.block_lt_of_cell? w _ hx143_3)).trans hx143_3
   replace hx143_4 := (HB.out.cell (World.block_lt_of_cell? w _ hx143_4)).trans hx143_4
   replace p143 := eq_true p143
   replace q143 := eq_true q143
   go_upto_region 6 with (first | ((with_reducible refine gate_dst (N := 4) rfl ?_); refine box_event ?hg (N := 4) ?hd (cs := #[.string (⟨#[]⟩ : ByteArray), .int .i64 0, .int .i64 0, .int .i64 0, .int .i64 0]) (t := 63) ?hr ?_; (case hd => rfl); (case hg => rfl); (case hr => first | (go_simp; done) | (go_simp; rfl)); intro gb144 hg w7 hbox hb; have n0_ := Aside0.mk (below_step (by repeat (with_reducible first | exact HB.out | apply below_alloc | apply pw_below_drewN | apply below_drew1)) hb); have n1_ := Aside0.mk (hbox); have n2_ := Aside0.mk ((by rw [hg]; exact (below_size (by repeat (with_reducible first | exact HB.out | apply below_alloc | apply pw_below_drewN | apply below_drew1))) : w.heap.size ≤ gb144)); have n3_ := n2_; clear HB; have HB := n0_; have BK144 := n1_; have GW144 := n2_; have GE144 := n3_; clear n0_ n1_ n2_ n3_; clear hb hbox hg; have hcz8_0 : w7.cell? ⟨gb144, 0, none⟩ = some (.string (⟨#[]⟩ : ByteArray)) := (blk_cell BK144.out 0).trans rfl; have hcz8_1 : w7.cell? ⟨gb144, 1, none⟩ = some (.int .i64 0) := (blk_cell BK144.out 1).trans rfl; have hcz8_2 : w7.cell? ⟨gb144, 2, none⟩ = some (.int .i64 0) := (blk_cell BK144.out 2).trans rfl; have hcz8_3 : w7.cell? ⟨gb144, 3, none⟩ = some (.int .i64 0) := (blk_cell BK144.out 3).trans rfl; have hcz8_4 : w7.cell? ⟨gb144, 4, none⟩ = some (.int .i64 0) := (blk_cell BK144.out 4).trans rfl; have hfz8_0 := blk_frozen BK144.out 0; have hfz8_1 := blk_frozen BK144.out 1; have hfz8_2 := blk_frozen BK144.out 2; have hfz8_3 := blk_frozen BK144.out 3; have hfz8_4 := blk_frozen BK144.out 4))
   (try simp only [Act.put, List.setIfInBounds_toArray, List.set_cons_zero, List.set_cons_succ])
   go_cut [28] (fun v28 wc => ∃ (kq : Nat) (x28_5 : Bool), v28 = .bool x28_5 ∧ Aside0 (mark_CheckAll.j1 kq l0 l0 (l0.length : Int) x10_1 x28_5 ((rd_T63 l0 x10_1).f0.f0) ((rd_T63 l0 x10_1).f0.f1) ((rd_T63 l0 x10_1).f0.f2) ((rd_T63 l0 x10_1).f0.f3) ((rd_T63 l0 x10_1).f1) = some r) ∧ Aside0 (kq ≤ k1) ∧ Aside0 (wc.heap[gb144]? = some (.cells #[.string ((rd_T63 l0 x10_1).f0.f0), .int .i64 ((rd_T63 l0 x10_1).f0.f1), .int .i64 ((rd_T63 l0 x10_1).f0.f2), .int .i64 ((rd_T63 l0 x10_1).f0.f3), .int .i64 ((rd_T63 l0 x10_1).f1)] 63 (0, 0))) ∧ Aside0 (Below w.heap.size w wc))
   case first =>
    have H := HC6.out
    clear HC6
    by_cases c9 : x10_1 > 0
    rotate_left
    · rw [if_neg c9] at H
      have c9b0 : decide (0 < x10_1) = false := decide_eq_false c9
      clear c9
      (first | rw [c9b0] | (simp only [i64_w, i32_w]; rw [c9b0]) | skip)
      have H' := Aside0.mk H
      clear H
      try go_wp2
      have n0_ : Aside0 ((((((w7.setCell ⟨gb144, 0, none⟩ (.string ((rd_T63 l0 x10_1).f0.f0))).setCell ⟨gb144, 1, none⟩ (.int .i64 ((rd_T63 l0 x10_1).f0.f1))).setCell ⟨gb144, 2, none⟩ (.int .i64 ((rd_T63 l0 x10_1).f0.f2))).setCell ⟨gb144, 3, none⟩ (.int .i64 ((rd_T63 l0 x10_1).f0.f3))).setCell ⟨gb144, 4, none⟩ (.int .i64 ((rd_T63 l0 x10_1).f1))).heap[gb144]? = some (.cells #[.string ((rd_T63 l0 x10_1).f0.f0), .int .i64 ((rd_T63 l0 x10_1).f0.f1), .int .i64 ((rd_T63 l0 x10_1).f0.f2), .int .i64 ((rd_T63 l0 x10_1).f0.f3), .int .i64 ((rd_T63 l0 x10_1).f1)] 63 (0, 0))) := ⟨by (with_reducible repeat (first | refine blk_drewN ?_ _ | refine blk_drew ?_ | refine blk_alloc ?_ _)); refine blk_put (cs := #[.string ((rd_T63 l0 x10_1).f0.f0), .int .i64 ((rd_T63 l0 x10_1).f0.f1), .int .i64 ((rd_T63 l0 x10_1).f0.f2), .int .i64 ((rd_T63 l0 x10_1).f0.f3), .int .i64 0]) ?_ 4 _ rfl; (with_reducible repeat (first | refine blk_drewN ?_ _ | refine blk_drew ?_ | refine blk_alloc ?_ _)); refine blk_put (cs := #[.string ((rd_T63 l0 x10_1).f0.f0), .int .i64 ((rd_T63 l0 x10_1).f0.f1), .int .i64 ((rd_T63 l0 x10_1).f0.f2), .int .i64 0, .int .i64 0]) ?_ 3 _ rfl; (with_reducible repeat (first | refine blk_drewN ?_ _ | refine blk_drew ?_ | refine blk_alloc ?_ _)); refine blk_put (cs := #[.string ((rd_T63 l0 x10_1).f0.f0), .int .i64 ((rd_T63 l0 x10_1).f0.f1), .int .i64 0, .int .i64 0, .int .i64 0]) ?_ 2 _ rfl; (with_reducible repeat (first | refine blk_drewN ?_ _ | refine blk_drew ?_ | refine blk_alloc ?_ _)); refine blk_put (cs := #[.string ((rd_T63 l0 x10_1).f0.f0), .int .i64 0, .int .i64 0, .int .i64 0, .int .i64 0]) ?_ 1 _ rfl; (with_reducible repeat (first | refine blk_drewN ?_ _ | refine blk_drew ?_ | refine blk_alloc ?_ _)); refine blk_put (cs := #[.string (⟨#[]⟩ : ByteArray), .int .i64 0, .int .i64 0, .int .i64 0, .int .i64 0]) ?_ 0 _ rfl; (with_reducible repeat (first | refine blk_drewN ?_ _ | refine blk_drew ?_ | refine blk_alloc ?_ _)); exact BK144.out⟩
      have n1_ : Aside0 (Below w.heap.size w (((((w7.setCell ⟨gb144, 0, none⟩ (.string ((rd_T63 l0 x10_1).f0.f0))).setCell ⟨gb144, 1, none⟩ (.int .i64 ((rd_T63 l0 x10_1).f0.f1))).setCell ⟨gb144, 2, none⟩ (.int .i64 ((rd_T63 l0 x10_1).f0.f2))).setCell ⟨gb144, 3, none⟩ (.int .i64 ((rd_T63 l0 x10_1).f0.f3))).setCell ⟨gb144, 4, none⟩ (.int .i64 ((rd_T63 l0 x10_1).f1)))) := ⟨by repeat (with_reducible first | exact HB.out | apply below_alloc | apply pw_below_drewN | apply below_drew1 | refine below_set ?_ GE144.out)⟩
      (try clear BK144)
      (try clear HB)
      generalize (((((w7.setCell ⟨gb144, 0, none⟩ (.string ((rd_T63 l0 x10_1).f0.f0))).setCell ⟨gb144, 1, none⟩ (.int .i64 ((rd_T63 l0 x10_1).f0.f1))).setCell ⟨gb144, 2, none⟩ (.int .i64 ((rd_T63 l0 x10_1).f0.f2))).setCell ⟨gb144, 3, none⟩ (.int .i64 ((rd_T63 l0 x10_1).f0.f3))).setCell ⟨gb144, 4, none⟩ (.int .i64 ((rd_T63 l0 x10_1).f1))) = w17 at n0_ n1_ ⊢
      have BK144 := n0_
      have HB := n1_
      clear n0_ n1_
      have n0_ := Aside0.mk (blk_drew BK144.out)
      have n1_ := Aside0.mk (below_drew1 HB.out)
      clear BK144
      clear HB
      have BK144 := n0_
      have HB := n1_
      clear n0_ n1_
      refine start_ (n := 14) (S := fun w' => True) (ds := []) #[n8, n8, n8, n8, n8, n8, n8, n8, n8, n8, n8, n8, n8, n8] (by kernel_rfl) rfl rfl trivial (fun hHeld => ?_); refine with_tabW mark_CheckAll.tab6 mark_CheckAll.bits6 (fun HT_ HW_ => ?_)
      generalize w17.drew = w18 at BK144 HB hHeld ⊢
      refine pure_ (i := 0) (N := some 15) (v := ?_) (a' := ?_) #[y8, n8, n8, n8, n8, n8, n8, n8, n8, n8, n8, n8, n8, n8] rfl rfl (any_of HT_.out (by kernel_rfl)) (fun _ _ _ h => h) (Or.inl ⟨by rfl, ?_⟩) ?_ ?_
      rotate_left
      · intro w'
        go_simp
        with_reducible rfl
      rotate_left
      · simp only [Act.put, List.setIfInBounds_toArray, List.set_cons_zero, List.set_cons_succ, i64_w, i32_w]
        rfl
      refine pure_ (i := 1) (N := some 16) (v := ?_) (a' := ?_) #[y8, y8, n8, n8, n8, n8, n8, n8, n8, n8, n8, n8, n8, n8] rfl rfl (any_of HT_.out (by kernel_rfl)) (fun _ _ _ h => h) (Or.inl ⟨by rfl, ?_⟩) ?_ ?_
      rotate_left
      · intro w'
        go_simp
        with_reducible rfl
      rotate_left
      · simp only [Act.put, List.setIfInBounds_toArray, List.set_cons_zero, List.set_cons_succ, i64_w, i32_w]
        rfl
      refine pure_ (i := 2) (N := some 17) (v := ?_) (a' := ?_) #[y8, y8, y8, n8, n8, n8, n8, n8, n8, n8, n8, n8, n8, n8] rfl rfl (any_of HT_.out (by kernel_rfl)) (fun _ _ _ h => h) (Or.inl ⟨by rfl, ?_⟩) ?_ ?_
      rotate_left
      · intro w'
        go_simp
        with_reducible rfl
      rotate_left
      · simp only [Act.put, List.setIfInBounds_toArray, List.set_cons_zero, List.set_cons_succ, i64_w, i32_w]
        rfl
      refine pure_ (i := 3) (N := some 18) (v := undef) (a' := ?_) #[y8, y8, y8, y8, n8, n8, n8, n8, n8, n8, n8, n8, n8, n8] rfl rfl (any_of HT_.out (by kernel_rfl)) (fun _ _ _ h => h) (Or.inr ⟨by rfl, rfl⟩) ?_ ?_
      rotate_left
      · simp only [Act.put, List.setIfInBounds_toArray, List.set_cons_zero, List.set_cons_succ, i64_w, i32_w]
        rfl
      refine pure_ (i := 4) (N := some 19) (v := undef) (a' := ?_) #[y8, y8, y8, y8, y8, n8, n8, n8, n8, n8, n8, n8, n8, n8] rfl rfl (any_of HT_.out (by kernel_rfl)) (fun _ _ _ h => h) (Or.inr ⟨by rfl, rfl⟩) ?_ ?_
      rotate_left
      · simp only [Act.put, List.setIfInBounds_toArray, List.set_cons_zero, List.set_cons_succ, i64_w, i32_w]
        rfl
      refine pure_ (i := 5) (N := some 20) (v := undef) (a' := ?_) #[y8, y8, y8, y8, y8, y8, n8, n8, n8, n8, n8, n8, n8, n8] rfl rfl (any_of HT_.out (by kernel_rfl)) (fun _ _ _ h => h) (Or.inr ⟨by rfl, rfl⟩) ?_ ?_
      rotate_left
      · simp only [Act.put, List.setIfInBounds_toArray, List.set_cons_zero, List.set_cons_succ, i64_w, i32_w]
        rfl
      refine pure_ (i := 6) (N := some 21) (v := undef) (a' := ?_) #[y8, y8, y8, y8, y8, y8, y8, n8, n8, n8, n8, n8, n8, n8] rfl rfl (any_of HT_.out (by kernel_rfl)) (fun _ _ _ h => h) (Or.inr ⟨by rfl, rfl⟩) ?_ ?_
      rotate_left
      · simp only [Act.put, List.setIfInBounds_toArray, List.set_cons_zero, List.set_cons_succ, i64_w, i32_w]
        rfl
      refine pure_ (i := 7) (N := some 22) (v := undef) (a' := ?_) #[y8, y8, y8, y8, y8, y8, y8, y8, n8, n8, n8, n8, n8, n8] rfl rfl (any_of HT_.out (by kernel_rfl)) (fun _ _ _ h => h) (Or.inr ⟨by rfl, rfl⟩) ?_ ?_
      rotate_left
      · simp only [Act.put, List.setIfInBounds_toArray, List.set_cons_zero, List.set_cons_succ, i64_w, i32_w]
        rfl
      refine pure_ (i := 8) (N := some 23) (v := undef) (a' := ?_) #[y8, y8, y8, y8, y8, y8, y8, y8, y8, n8, n8, n8, n8, n8] rfl rfl (any_of HT_.out (by kernel_rfl)) (fun _ _ _ h => h) (Or.inr ⟨by rfl, rfl⟩) ?_ ?_
      rotate_left
      · simp only [Act.put, List.setIfInBounds_toArray, List.set_cons_zero, List.set_cons_succ, i64_w, i32_w]
        rfl
      refine pure_ (i := 9) (N := some 24) (v := undef) (a' := ?_) #[y8, y8, y8, y8, y8, y8, y8, y8, y8, y8, n8, n8, n8, n8] rfl rfl (any_of HT_.out (by kernel_rfl)) (fun _ _ _ h => h) (Or.inr ⟨by rfl, rfl⟩) ?_ ?_
      rotate_left
      · simp only [Act.put, List.setIfInBounds_toArray, List.set_cons_zero, List.set_cons_succ, i64_w, i32_w]
        rfl
      refine pure_ (i := 10) (N := some 25) (v := undef) (a' := ?_) #[y8, y8, y8, y8, y8, y8, y8, y8, y8, y8, y8, n8, n8, n8] rfl rfl (any_of HT_.out (by kernel_rfl)) (fun _ _ _ h => h) (Or.inr ⟨by rfl, rfl⟩) ?_ ?_
      rotate_left
      · simp only [Act.put, List.setIfInBounds_toArray, List.set_cons_zero, List.set_cons_succ, i64_w, i32_w]
        rfl
      refine pure_ (i := 11) (N := some 26) (v := undef) (a' := ?_) #[y8, y8, y8, y8, y8, y8, y8, y8, y8, y8, y8, y8, n8, n8] rfl rfl (any_of HT_.out (by kernel_rfl)) (fun _ _ _ h => h) (Or.inr ⟨by rfl, rfl⟩) ?_ ?_
      rotate_left
      · simp only [Act.put, List.setIfInBounds_toArray, List.set_cons_zero, List.set_cons_succ, i64_w, i32_w]
        rfl
      refine pure_ (i := 12) (N := some 27) (v := undef) (a' := ?_) #[y8, y8, y8, y8, y8, y8, y8, y8, y8, y8, y8, y8, y8, n8] rfl rfl (any_of HT_.out (by kernel_rfl)) (fun _ _ _ h => h) (Or.inr ⟨by rfl, rfl⟩) ?_ ?_
      rotate_left
      · simp only [Act.put, List.setIfInBounds_toArray, List.set_cons_zero, List.set_cons_succ, i64_w, i32_w]
        rfl
      refine pure_ (i := 13) (N := some 28) (v := ?_) (a' := ?_) #[y8, y8, y8, y8, y8, y8, y8, y8, y8, y8, y8, y8, y8, y8] rfl rfl (any_of HT_.out (by kernel_rfl)) (fun _ _ _ h => h) (Or.inl ⟨by rfl, ?_⟩) ?_ ?_
      rotate_left
      · intro w'
        go_simp
        with_reducible rfl
      rotate_left
      · simp only [Act.put, List.setIfInBounds_toArray, List.set_cons_zero, List.set_cons_succ, i64_w, i32_w]
        rfl
      refine done_ (done_of HT_.out (by kernel_rfl)) ?_
      try go_wp2
      go_meet
      case rel => exact ⟨_, (false), (by first | rfl | (simp; done) | (simp [*]; done)), H', ⟨by have := HK1.out; first | omega | exact Nat.le_refl _⟩, ⟨by (with_reducible repeat (first | refine blk_drewN ?_ _ | refine blk_drew ?_ | refine blk_alloc ?_ _)); exact BK144.out⟩, ⟨by repeat (with_reducible first | exact HB.out | apply below_alloc | apply pw_below_drewN | apply below_drew1 | refine below_set ?_ GE144.out)⟩⟩
    rw [if_pos c9] at H
    have c9b0 : decide (0 < x10_1) = true := decide_eq_true c9
    clear c9
    (first | rw [c9b0] | (simp only [i64_w, i32_w]; rw [c9b0]) | skip)
    obtain ⟨ji10, hji10⟩ : ∃ j_ : Int, (wrap64 (x10_1 - 1)) = j_ := ⟨_, rfl⟩
    replace H : (if 0 ≤ (ji10) then (if (ji10) < (l0.length : Int) then ((series_Compare.f ((rd_T63 l0 (ji10)).f0.f0) ((rd_T63 l0 (ji10)).f0.f1) ((rd_T63 l0 (ji10)).f0.f2) ((rd_T63 l0 (ji10)).f0.f3) ((rd_T63 l0 x10_1).f0.f0) ((rd_T63 l0 x10_1).f0.f1) ((rd_T63 l0 x10_1).f0.f2) ((rd_T63 l0 x10_1).f0.f3)).bind fun t146 => (mark_CheckAll.j1 k1 l0 l0 (l0.length : Int) x10_1 (decide (t146 ≥ 0)) ((rd_T63 l0 x10_1).f0.f0) ((rd_T63 l0 x10_1).f0.f1) ((rd_T63 l0 x10_1).f0.f2) ((rd_T63 l0 x10_1).f0.f3) ((rd_T63 l0 x10_1).f1))) else (none)) else (none)) = some r := by first | (rw [hji10] at H; exact H) | (simp only [hji10] at H ⊢; exact H)
    have hji10w : (IntKind.i64.wrap (x10_1 - 1)) = ji10 := (i64_w _).trans hji10
    by_cases c11 : 0 ≤ (ji10)
    rotate_left
    · rw [if_neg c11] at H
      exact absurd H (by simp)
    rw [if_pos c11] at H
    have c11b0 : decide (0 ≤ (ji10)) = true := decide_eq_true c11
    clear c11
    by_cases c12 : (ji10) < (l0.length : Int)
    rotate_left
    · rw [if_neg c12] at H
      exact absurd H (by simp)
    rw [if_pos c12] at H
    have c12b0 : decide ((ji10) < (l0.length : Int)) = true := decide_eq_true c12
    clear c12
    replace H := Option.bind_eq_some_iff.mp H
    obtain ⟨t146, A130, H⟩ := H
    replace H : (mark_CheckAll.j1 k1 l0 l0 (l0.length : Int) x10_1 (decide (t146 ≥ 0)) ((rd_T63 l0 x10_1).f0.f0) ((rd_T63 l0 x10_1).f0.f1) ((rd_T63 l0 x10_1).f0.f2) ((rd_T63 l0 x10_1).f0.f3) ((rd_T63 l0 x10_1).f1)) = some r := H
    have A13 := Aside0.mk A130
    clear A130
    have H' := Aside0.mk H
    clear H
    try go_wp2
    have n0_ : Aside0 ((((((w7.setCell ⟨gb144, 0, none⟩ (.string ((rd_T63 l0 x10_1).f0.f0))).setCell ⟨gb144, 1, none⟩ (.int .i64 ((rd_T63 l0 x10_1).f0.f1))).setCell ⟨gb144, 2, none⟩ (.int .i64 ((rd_T63 l0 x10_1).f0.f2))).setCell ⟨gb144, 3, none⟩ (.int .i64 ((rd_T63 l0 x10_1).f0.f3))).setCell ⟨gb144, 4, none⟩ (.int .i64 ((rd_T63 l0 x10_1).f1))).heap[gb144]? = some (.cells #[.string ((rd_T63 l0 x10_1).f0.f0), .int .i64 ((rd_T63 l0 x10_1).f0.f1), .int .i64 ((rd_T63 l0 x10_1).f0.f2), .int .i64 ((rd_T63 l0 x10_1).f0.f3), .int .i64 ((rd_T63 l0 x10_1).f1)] 63 (0, 0))) := ⟨by (with_reducible repeat (first | refine blk_drewN ?_ _ | refine blk_drew ?_ | refine blk_alloc ?_ _)); refine blk_put (cs := #[.string ((rd_T63 l0 x10_1).f0.f0), .int .i64 ((rd_T63 l0 x10_1).f0.f1), .int .i64 ((rd_T63 l0 x10_1).f0.f2), .int .i64 ((rd_T63 l0 x10_1).f0.f3), .int .i64 0]) ?_ 4 _ rfl; (with_reducible repeat (first | refine blk_drewN ?_ _ | refine blk_drew ?_ | refine blk_alloc ?_ _)); refine blk_put (cs := #[.string ((rd_T63 l0 x10_1).f0.f0), .int .i64 ((rd_T63 l0 x10_1).f0.f1), .int .i64 ((rd_T63 l0 x10_1).f0.f2), .int .i64 0, .int .i64 0]) ?_ 3 _ rfl; (with_reducible repeat (first | refine blk_drewN ?_ _ | refine blk_drew ?_ | refine blk_alloc ?_ _)); refine blk_put (cs := #[.string ((rd_T63 l0 x10_1).f0.f0), .int .i64 ((rd_T63 l0 x10_1).f0.f1), .int .i64 0, .int .i64 0, .int .i64 0]) ?_ 2 _ rfl; (with_reducible repeat (first | refine blk_drewN ?_ _ | refine blk_drew ?_ | refine blk_alloc ?_ _)); refine blk_put (cs := #[.string ((rd_T63 l0 x10_1).f0.f0), .int .i64 0, .int .i64 0, .int .i64 0, .int .i64 0]) ?_ 1 _ rfl; (with_reducible repeat (first | refine blk_drewN ?_ _ | refine blk_drew ?_ | refine blk_alloc ?_ _)); refine blk_put (cs := #[.string (⟨#[]⟩ : ByteArray), .int .i64 0, .int .i64 0, .int .i64 0, .int .i64 0]) ?_ 0 _ rfl; (with_reducible repeat (first | refine blk_drewN ?_ _ | refine blk_drew ?_ | refine blk_alloc ?_ _)); exact BK144.out⟩
    have n1_ : Aside0 (Below w.heap.size w (((((w7.setCell ⟨gb144, 0, none⟩ (.string ((rd_T63 l0 x10_1).f0.f0))).setCell ⟨gb144, 1, none⟩ (.int .i64 ((rd_T63 l0 x10_1).f0.f1))).setCell ⟨gb144, 2, none⟩ (.int .i64 ((rd_T63 l0 x10_1).f0.f2))).setCell ⟨gb144, 3, none⟩ (.int .i64 ((rd_T63 l0 x10_1).f0.f3))).setCell ⟨gb144, 4, none⟩ (.int .i64 ((rd_T63 l0 x10_1).f1)))) := ⟨by repeat (with_reducible first | exact HB.out | apply below_alloc | apply pw_below_drewN | apply below_drew1 | refine below_set ?_ GE144.out)⟩
    (try clear BK144)
    (try clear HB)
    generalize (((((w7.setCell ⟨gb144, 0, none⟩ (.string ((rd_T63 l0 x10_1).f0.f0))).setCell ⟨gb144, 1, none⟩ (.int .i64 ((rd_T63 l0 x10_1).f0.f1))).setCell ⟨gb144, 2, none⟩ (.int .i64 ((rd_T63 l0 x10_1).f0.f2))).setCell ⟨gb144, 3, none⟩ (.int .i64 ((rd_T63 l0 x10_1).f0.f3))).setCell ⟨gb144, 4, none⟩ (.int .i64 ((rd_T63 l0 x10_1).f1))) = w14 at n0_ n1_ ⊢
    have BK144 := n0_
    have HB := n1_
    clear n0_ n1_
    have n0_ := Aside0.mk (blk_drew BK144.out)
    have n1_ := Aside0.mk (below_drew1 HB.out)
    clear BK144
    clear HB
    have BK144 := n0_
    have HB := n1_
    clear n0_ n1_
    have p145 : 0 ≤ ((ji10) : Int) := of_decide_eq_true (by first | (with_reducible assumption) | assumption)
    have q145 : (ji10) < (l0.length : Int) := of_decide_eq_true (by first | (with_reducible assumption) | assumption)
    obtain ⟨ad145, e145, hx145_0, hx145_1, hx145_2, hx145_3, hx145_4⟩ := at_T63 HR0.out (ji10) p145 q145
    have hw145_4 := hx145_4
    have hw145_3 := hx145_3
    have hw145_2 := hx145_2
    have hw145_1 := hx145_1
    have hw145_0 := hx145_0
    obtain rfl : ad143 = ad145 := (by injection e145)
    replace hx145_0 := (HB.out.cell (World.block_lt_of_cell? w _ hx145_0)).trans hx145_0
    replace hx145_1 := (HB.out.cell (World.block_lt_of_cell? w _ hx145_1)).trans hx145_1
    replace hx145_2 := (HB.out.cell (World.block_lt_of_cell? w _ hx145_2)).trans hx145_2
    replace hx145_3 := (HB.out.cell (World.block_lt_of_cell? w _ hx145_3)).trans hx145_3
    replace hx145_4 := (HB.out.cell (World.block_lt_of_cell? w _ hx145_4)).trans hx145_4
    replace p145 := eq_true p145
    replace q145 := eq_true q145
    refine start_ (n := 14) (S := fun w' => w'.cell? ⟨gb144, 0, none⟩ = some (.string ((rd_T63 l0 x10_1).f0.f0)) ∧ w'.cell? ⟨gb144, 1, none⟩ = some (.int .i64 ((rd_T63 l0 x10_1).f0.f1)) ∧ w'.cell? ⟨gb144, 2, none⟩ = some (.int .i64 ((rd_T63 l0 x10_1).f0.f2)) ∧ w'.cell? ⟨gb144, 3, none⟩ = some (.int .i64 ((rd_T63 l0 x10_1).f0.f3)) ∧ w'.cell? ⟨gb144, 4, none⟩ = some (.int .i64 ((rd_T63 l0 x10_1).f1)) ∧ w'.cell? (ad143.add (((ji10)).toNat * 5)) = some (.string ((rd_T63 l0 (ji10)).f0.f0)) ∧ w'.cell? ⟨(ad143.add (((ji10)).toNat * 5)).block, (ad143.add (((ji10)).toNat * 5)).off + 1, none⟩ = some (.int .i64 ((rd_T63 l0 (ji10)).f0.f1)) ∧ w'.cell? ⟨(ad143.add (((ji10)).toNat * 5)).block, (ad143.add (((ji10)).toNat * 5)).off + 2, none⟩ = some (.int .i64 ((rd_T63 l0 (ji10)).f0.f2)) ∧ w'.cell? ⟨(ad143.add (((ji10)).toNat * 5)).block, (ad143.add (((ji10)).toNat * 5)).off + 3, none⟩ = some (.int .i64 ((rd_T63 l0 (ji10)).f0.f3)) ∧ w'.cell? ⟨(ad143.add (((ji10)).toNat * 5)).block, (ad143.add (((ji10)).toNat * 5)).off + 4, none⟩ = some (.int .i64 ((rd_T63 l0 (ji10)).f1))) (ds := []) #[n8, n8, n8, n8, n8, n8, n8, n8, n8, n8, n8, n8, n8, n8] (by kernel_rfl) rfl rfl ⟨(blk_cell BK144.out 0).trans rfl, (blk_cell BK144.out 1).trans rfl, (blk_cell BK144.out 2).trans rfl, (blk_cell BK144.out 3).trans rfl, (blk_cell BK144.out 4).trans rfl, ((HB.out.cell (World.block_lt_of_cell? w _ hw145_0)).trans hw145_0), ((HB.out.cell (World.block_lt_of_cell? w _ hw145_1)).trans hw145_1), ((HB.out.cell (World.block_lt_of_cell? w _ hw145_2)).trans hw145_2), ((HB.out.cell (World.block_lt_of_cell? w _ hw145_3)).trans hw145_3), ((HB.out.cell (World.block_lt_of_cell? w _ hw145_4)).trans hw145_4)⟩ (fun hHeld => ?_); refine with_tabW mark_CheckAll.tab6 mark_CheckAll.bits6 (fun HT_ HW_ => ?_)
    generalize w14.drew = w15 at BK144 HB hx145_0 hx145_1 hx145_2 hx145_3 hx145_4 hHeld ⊢
    refine pure_ (i := 0) (N := some 15) (v := ?_) (a' := ?_) #[y8, n8, n8, n8, n8, n8, n8, n8, n8, n8, n8, n8, n8, n8] rfl rfl (any_of HT_.out (by kernel_rfl)) (fun _ _ _ h => h) (Or.inl ⟨by rfl, ?_⟩) ?_ ?_
    rotate_left
    · intro w'
      go_simp
      with_reducible rfl
    rotate_left
    · simp only [Act.put, List.setIfInBounds_toArray, List.set_cons_zero, List.set_cons_succ, i64_w, i32_w]
      rfl
    refine pure_ (i := 1) (N := some 16) (v := ?_) (a' := ?_) #[y8, y8, n8, n8, n8, n8, n8, n8, n8, n8, n8, n8, n8, n8] rfl rfl (any_of HT_.out (by kernel_rfl)) (fun _ _ _ h => h) (Or.inl ⟨by rfl, ?_⟩) ?_ ?_
    rotate_left
    · intro w'
      go_simp
      with_reducible rfl
    rotate_left
    · simp only [Act.put, List.setIfInBounds_toArray, List.set_cons_zero, List.set_cons_succ, i64_w, i32_w]
      rfl
    refine pure_ (i := 2) (N := some 17) (v := ?_) (a' := ?_) #[y8, y8, y8, n8, n8, n8, n8, n8, n8, n8, n8, n8, n8, n8] rfl rfl (any_of HT_.out (by kernel_rfl)) (fun _ _ _ h => h) (Or.inl ⟨by rfl, ?_⟩) ?_ ?_
    rotate_left
    · intro w'
      go_simp
      with_reducible rfl
    rotate_left
    · simp only [Act.put, List.setIfInBounds_toArray, List.set_cons_zero, List.set_cons_succ, i64_w, i32_w]
      rfl
    refine pure_ (i := 3) (N := some 18) (v := ?_) (a' := ?_) #[y8, y8, y8, y8, n8, n8, n8, n8, n8, n8, n8, n8, n8, n8] rfl rfl (any_of HT_.out (by kernel_rfl)) (fun _ _ _ h => h) (Or.inl ⟨by rfl, ?_⟩) ?_ ?_
    rotate_left
    · intro w'
      go_simp
      with_reducible rfl
    rotate_left
    · simp only [Act.put, List.setIfInBounds_toArray, List.set_cons_zero, List.set_cons_succ, i64_w, i32_w]
      rfl
    refine pure_ (i := 4) (N := some 19) (v := ?_) (a' := ?_) #[y8, y8, y8, y8, y8, n8, n8, n8, n8, n8, n8, n8, n8, n8] rfl rfl (any_of HT_.out (by kernel_rfl)) (fun _ _ _ h => h) (Or.inl ⟨by rfl, ?_⟩) ?_ ?_
    rotate_left
    · intro w'
      go_simp
      with_reducible rfl
    rotate_left
    · simp only [Act.put, List.setIfInBounds_toArray, List.set_cons_zero, List.set_cons_succ, i64_w, i32_w]
      rfl
    refine pure_ (i := 5) (N := some 20) (v := ?_) (a' := ?_) #[y8, y8, y8, y8, y8, y8, n8, n8, n8, n8, n8, n8, n8, n8] rfl rfl (any_of HT_.out (by kernel_rfl)) (fun _ _ _ h => h) (Or.inl ⟨by rfl, ?_⟩) ?_ ?_
    rotate_left
    · intro w'
      go_simp
      with_reducible rfl
    rotate_left
    · simp only [Act.put, List.setIfInBounds_toArray, List.set_cons_zero, List.set_cons_succ, i64_w, i32_w]
      rfl
    refine pure_ (i := 6) (N := some 21) (v := ?_) (a' := ?_) #[y8, y8, y8, y8, y8, y8, y8, n8, n8, n8, n8, n8, n8, n8] rfl rfl (any_of HT_.out (by kernel_rfl)) (fun _ _ _ h => h) (Or.inl ⟨by rfl, ?_⟩) ?_ ?_
    rotate_left
    · intro w'
      go_simp
      with_reducible rfl
    rotate_left
    · simp only [Act.put, List.setIfInBounds_toArray, List.set_cons_zero, List.set_cons_succ, i64_w, i32_w]
      rfl
    refine pure_ (i := 7) (N := some 22) (v := ?_) (a' := ?_) #[y8, y8, y8, y8, y8, y8, y8, y8, n8, n8, n8, n8, n8, n8] rfl rfl (any_of HT_.out (by kernel_rfl)) (fun _ _ _ h => h) (Or.inl ⟨by rfl, ?_⟩) ?_ ?_
    rotate_left
    · intro w'
      go_simp
      with_reducible rfl
    rotate_left
    · simp only [Act.put, List.setIfInBounds_toArray, List.set_cons_zero, List.set_cons_succ, i64_w, i32_w]
      rfl
    refine pure_ (i := 9) (N := some 24) (v := ?_) (a' := ?_) #[y8, y8, y8, y8, y8, y8, y8, y8, n8, y8, n8, n8, n8, n8] rfl rfl (any_of HT_.out (by kernel_rfl)) (fun _ _ _ h => h) (Or.inl ⟨by rfl, ?_⟩) ?_ ?_
    rotate_left
    · intro w'
      go_simp
      with_reducible rfl
    rotate_left
    · simp only [Act.put, List.setIfInBounds_toArray, List.set_cons_zero, List.set_cons_succ, i64_w, i32_w]
      rfl
    refine take_ (i := 8) (N := some 23) (v := ?_) (a' := ?_) #[y8, y8, y8, y8, y8, y8, y8, y8, y8, y8, n8, n8, n8, n8] rfl rfl (take_ofW HT_.out HW_.out (by kernel_rfl)) (fun _ _ _ h => h) (Or.inl ⟨by rfl, ?_⟩) hHeld ?_ ?_
    rotate_left
    · rintro w' ⟨s0, s1, s2, s3, s4, s5, s6, s7, s8, s9⟩
      go_simp
      with_reducible rfl
    rotate_left
    · simp only [Act.put, List.setIfInBounds_toArray, List.set_cons_zero, List.set_cons_succ, i64_w, i32_w]
      rfl
    refine take_ (i := 10) (N := some 25) (v := ?_) (a' := ?_) #[y8, y8, y8, y8, y8, y8, y8, y8, y8, y8, y8, n8, n8, n8] rfl rfl (take_ofW HT_.out HW_.out (by kernel_rfl)) (fun _ _ _ h => h) (Or.inl ⟨by rfl, ?_⟩) hHeld ?_ ?_
    rotate_left
    · rintro w' ⟨s0, s1, s2, s3, s4, s5, s6, s7, s8, s9⟩
      go_simp
      with_reducible rfl
    rotate_left
    · simp only [Act.put, List.setIfInBounds_toArray, List.set_cons_zero, List.set_cons_succ, i64_w, i32_w]
      rfl
    refine one_ (i := 11) (N := some 26) #[y8, y8, y8, y8, y8, y8, y8, y8, y8, y8, y8, y8, n8, n8] rfl rfl (one_of HT_.out (by kernel_rfl)) (by decide) (fun K hK => ?_)
    refine goes_ Try.func50 (by kernel_rfl) rfl #[.agg #[.string ((rd_T63 l0 (ji10)).f0.f0), .int .i64 ((rd_T63 l0 (ji10)).f0.f1), .int .i64 ((rd_T63 l0 (ji10)).f0.f2), .int .i64 ((rd_T63 l0 (ji10)).f0.f3)], .agg #[.string ((rd_T63 l0 x10_1).f0.f0), .int .i64 ((rd_T63 l0 x10_1).f0.f1), .int .i64 ((rd_T63 l0 x10_1).f0.f2), .int .i64 ((rd_T63 l0 x10_1).f0.f3)]] (by rfl) rfl rfl (by (try simp only [List.map_toArray, List.map_cons, List.map_nil]); first | done | (simp only [hji10]; rfl) | rfl | (simp only [List.length_drop, List.length_take]; rfl)) ?_
    with_reducible refine (series_Compare.calls ((rd_T63 l0 (ji10)).f0.f0) ((rd_T63 l0 (ji10)).f0.f1) ((rd_T63 l0 (ji10)).f0.f2) ((rd_T63 l0 (ji10)).f0.f3) ((rd_T63 l0 x10_1).f0.f0) ((rd_T63 l0 x10_1).f0.f1) ((rd_T63 l0 x10_1).f0.f2) ((rd_T63 l0 x10_1).f0.f3) t146 _ A13.out).mono ?_
    rintro e w16 ⟨rfl, hb⟩
    refine ⟨_, rfl, ?_⟩
    have n0_ := Aside0.mk (blk_below (g := gb144) (o := .cells #[.string ((rd_T63 l0 x10_1).f0.f0), .int .i64 ((rd_T63 l0 x10_1).f0.f1), .int .i64 ((rd_T63 l0 x10_1).f0.f2), .int .i64 ((rd_T63 l0 x10_1).f0.f3), .int .i64 ((rd_T63 l0 x10_1).f1)] 63 (0, 0)) (by (with_reducible repeat (first | refine blk_drewN ?_ _ | refine blk_drew ?_ | refine blk_alloc ?_ _)); exact BK144.out) hb)
    have n1_ := Aside0.mk (below_step (by repeat (with_reducible first | exact HB.out | apply below_alloc | apply pw_below_drewN | apply below_drew1 | refine below_set ?_ GE144.out)) hb)
    clear BK144
    clear HB
    have BK144 := n0_
    have HB := n1_
    clear n0_ n1_
    (try clear hb)
    (try clear hb2)
    (try clear hk)
    (try clear hi)
    refine hK.out _ _ ⟨(blk_cell BK144.out 0).trans rfl, (blk_cell BK144.out 1).trans rfl, (blk_cell BK144.out 2).trans rfl, (blk_cell BK144.out 3).trans rfl, (blk_cell BK144.out 4).trans rfl, ((HB.out.cell (World.block_lt_of_cell? w _ hw145_0)).trans hw145_0), ((HB.out.cell (World.block_lt_of_cell? w _ hw145_1)).trans hw145_1), ((HB.out.cell (World.block_lt_of_cell? w _ hw145_2)).trans hw145_2), ((HB.out.cell (World.block_lt_of_cell? w _ hw145_3)).trans hw145_3), ((HB.out.cell (World.block_lt_of_cell? w _ hw145_4)).trans hw145_4)⟩ (fun hHeld => ?_)
    clear hK K
    refine norm_ (a' := ?_) ?_ ?_
    rotate_left
    · show Act.put _ (some 26) _ = _
      simp only [Act.put, List.setIfInBounds_toArray, List.set_cons_zero, List.set_cons_succ, i64_w, i32_w]
      rfl
    refine pure_ (i := 12) (N := some 27) (v := ?_) (a' := ?_) #[y8, y8, y8, y8, y8, y8, y8, y8, y8, y8, y8, y8, y8, n8] rfl rfl (any_of HT_.out (by kernel_rfl)) (fun _ _ _ h => h) (Or.inl ⟨by rfl, ?_⟩) ?_ ?_
    rotate_left
    · intro w'
      go_simp
      with_reducible rfl
    rotate_left
    · simp only [Act.put, List.setIfInBounds_toArray, List.set_cons_zero, List.set_cons_succ, i64_w, i32_w]
      rfl
    refine pure_ (i := 13) (N := some 28) (v := ?_) (a' := ?_) #[y8, y8, y8, y8, y8, y8, y8, y8, y8, y8, y8, y8, y8, y8] rfl rfl (any_of HT_.out (by kernel_rfl)) (fun _ _ _ h => h) (Or.inl ⟨by rfl, ?_⟩) ?_ ?_
    rotate_left
    · intro w'
      go_simp
      with_reducible rfl
    rotate_left
    · simp only [Act.put, List.setIfInBounds_toArray, List.set_cons_zero, List.set_cons_succ, i64_w, i32_w]
      rfl
    refine done_ (done_of HT_.out (by kernel_rfl)) ?_
    try go_wp2
    go_meet
    case rel => exact ⟨_, (decide (t146 ≥ 0)), (by first | rfl | (simp; done) | (simp [*]; done)), H', ⟨by have := HK1.out; first | omega | exact Nat.le_refl _⟩, ⟨by (with_reducible repeat (first | refine blk_drewN ?_ _ | refine blk_drew ?_ | refine blk_alloc ?_ _)); exact BK144.out⟩, ⟨by repeat (with_reducible first | exact HB.out | apply below_alloc | apply pw_below_drewN | apply below_drew1 | refine below_set ?_ GE144.out)⟩⟩
   case rest =>
    clear HC6
    try clear c1
    try clear p1
    try clear q1
    try clear hx1
    try clear c2
    try clear c2b0
    try clear c2b1
    try clear p2
    try clear c3
    try clear c3b0
    try clear c4
    try clear c4b0
    try clear c5
    try clear c5b0
    try clear p6
    try clear c9
    try clear c9b0
    try clear c11
    try clear c11b0
    try clear c12
    try clear c12b0
    try clear p14
    try clear q14
    try clear hx14
    try clear hcz8_0
    try clear hcz8_1
    try clear hcz8_2
    try clear hcz8_3
    try clear hcz8_4
    try clear hfz8_0
    try clear hfz8_1
    try clear hfz8_2
    try clear hfz8_3
    try clear hfz8_4
    try clear hx143_0
    try clear hx143_1
    try clear hx143_2
    try clear hx143_3
    try clear hx143_4
    try clear hx145_0
    try clear hx145_1
    try clear hx145_2
    try clear hx145_3
    try clear hx145_4
    try clear p143
    try clear p145
    try clear p2
    try clear q143
    try clear q145
    obtain ⟨kq, x28_5, rfl, HA, HJ5, BK144, HB⟩ := hcut
    cases kq with
    | zero => exact absurd HA.out (by simp [mark_CheckAll.j1])
    | succ kj5 =>
     have H := HA.out
     clear HA
     simp only [mark_CheckAll.j1] at H
     by_cases c19 : x28_5 = true
     · subst c19
       have H1 : (some 19) = some r := by rw [if_pos rfl] at H; exact H
       clear H
       have H := H1
       clear H1
       obtain rfl := Option.some.inj H
       go_wp2
       go_ret
       exact ⟨by first | rfl | (simp [errW_none, errW_some] <;> rfl) | (simp [*, errW_none, errW_some] <;> rfl), by repeat (with_reducible first | exact HB.out | apply below_alloc | apply pw_below_drewN | apply below_drew1 | refine below_set ?_ GE144.out)⟩
     replace c19 := Bool.eq_false_iff.mpr c19
     subst c19
     have H1 : ((mark_price.f ((rd_T63 l0 x10_1).f1)).bind fun t147 => (if t147 = true then (mark_CheckAll.l0 kj5 l0 l0 (l0.length : Int) (wrap64 (x10_1 + 1))) else (some 17))) = some r := by rw [if_neg (show ¬ (false = true) by decide)] at H; exact H
     clear H
     have H := H1
     clear H1
     replace H := Option.bind_eq_some_iff.mp H
     obtain ⟨t147, A200, H⟩ := H
     replace H : (if t147 = true then (mark_CheckAll.l0 kj5 l0 l0 (l0.length : Int) (wrap64 (x10_1 + 1))) else (some 17)) = some r := H
     have A20 := Aside0.mk A200
     clear A200
     by_cases c21 : t147 = true
     rotate_left
     · replace c21 := Bool.eq_false_iff.mpr c21
       subst c21
       have H1 : (some 17) = some r := by rw [if_neg (show ¬ (false = true) by decide)] at H; exact H
       clear H
       have H := H1
       clear H1
       obtain rfl := Option.some.inj H
       have hcz23_0 : wc.cell? ⟨gb144, 0, none⟩ = some (.string ((rd_T63 l0 x10_1).f0.f0)) := (blk_cell BK144.out 0).trans rfl
       have hcz23_1 : wc.cell? ⟨gb144, 1, none⟩ = some (.int .i64 ((rd_T63 l0 x10_1).f0.f1)) := (blk_cell BK144.out 1).trans rfl
       have hcz23_2 : wc.cell? ⟨gb144, 2, none⟩ = some (.int .i64 ((rd_T63 l0 x10_1).f0.f2)) := (blk_cell BK144.out 2).trans rfl
       have hcz23_3 : wc.cell? ⟨gb144, 3, none⟩ = some (.int .i64 ((rd_T63 l0 x10_1).f0.f3)) := (blk_cell BK144.out 3).trans rfl
       have hcz23_4 : wc.cell? ⟨gb144, 4, none⟩ = some (.int .i64 ((rd_T63 l0 x10_1).f1)) := (blk_cell BK144.out 4).trans rfl
       have hfz23_0 := blk_frozen BK144.out 0
       have hfz23_1 := blk_frozen BK144.out 1
       have hfz23_2 := blk_frozen BK144.out 2
       have hfz23_3 := blk_frozen BK144.out 3
       have hfz23_4 := blk_frozen BK144.out 4
       go_wp2_with (first | ((with_reducible refine gate_callee (f := 52) rfl ?_); refine goesL_ (some 31) rfl rfl Try.func52 (by kernel_rfl) rfl #[.int .i64 ((rd_T63 l0 x10_1).f1)] rfl (by (try simp only [List.map_toArray, List.map_cons, List.map_nil]); first | done | rfl | (simp only [List.length_drop, List.length_take]; rfl)) ?_; (with_reducible refine (mark_price.calls ((rd_T63 l0 x10_1).f1) false _ A20.out).mono ?_); rintro e w' ⟨rfl, ⟨nd, rfl⟩⟩; refine ⟨_, rfl, ?_⟩))
       go_ret
       exact ⟨by first | rfl | (simp [errW_none, errW_some] <;> rfl) | (simp [*, errW_none, errW_some] <;> rfl), by repeat (with_reducible first | exact HB.out | apply below_alloc | apply pw_below_drewN | apply below_drew1 | refine below_set ?_ GE144.out)⟩
     subst c21
     have H1 : (mark_CheckAll.l0 kj5 l0 l0 (l0.length : Int) (wrap64 (x10_1 + 1))) = some r := by rw [if_pos rfl] at H; exact H
     clear H
     have H := H1
     clear H1
     have H' := Aside0.mk H
     clear H
     have hcz22_0 : wc.cell? ⟨gb144, 0, none⟩ = some (.string ((rd_T63 l0 x10_1).f0.f0)) := (blk_cell BK144.out 0).trans rfl
     have hcz22_1 : wc.cell? ⟨gb144, 1, none⟩ = some (.int .i64 ((rd_T63 l0 x10_1).f0.f1)) := (blk_cell BK144.out 1).trans rfl
     have hcz22_2 : wc.cell? ⟨gb144, 2, none⟩ = some (.int .i64 ((rd_T63 l0 x10_1).f0.f2)) := (blk_cell BK144.out 2).trans rfl
     have hcz22_3 : wc.cell? ⟨gb144, 3, none⟩ = some (.int .i64 ((rd_T63 l0 x10_1).f0.f3)) := (blk_cell BK144.out 3).trans rfl
     have hcz22_4 : wc.cell? ⟨gb144, 4, none⟩ = some (.int .i64 ((rd_T63 l0 x10_1).f1)) := (blk_cell BK144.out 4).trans rfl
     have hfz22_0 := blk_frozen BK144.out 0
     have hfz22_1 := blk_frozen BK144.out 1
     have hfz22_2 := blk_frozen BK144.out 2
     have hfz22_3 := blk_frozen BK144.out 3
     have hfz22_4 := blk_frozen BK144.out 4
     go_wp2_with (first | ((with_reducible refine gate_callee (f := 52) rfl ?_); refine goesL_ (some 31) rfl rfl Try.func52 (by kernel_rfl) rfl #[.int .i64 ((rd_T63 l0 x10_1).f1)] rfl (by (try simp only [List.map_toArray, List.map_cons, List.map_nil]); first | done | rfl | (simp only [List.length_drop, List.length_take]; rfl)) ?_; (with_reducible refine (mark_price.calls ((rd_T63 l0 x10_1).f1) true _ A20.out).mono ?_); rintro e w' ⟨rfl, ⟨nd, rfl⟩⟩; refine ⟨_, rfl, ?_⟩))
     go_roundg kj5
     case measure => have := HK1.out; have := HJ5.out; omega
     case rel => exact ⟨(wrap64 (x10_1 + 1)), (by first | rfl | (simp; done) | (simp [*]; done)), H', ⟨by have := HK1.out; have := HJ5.out; omega⟩, ⟨by repeat (with_reducible first | exact HB.out | apply below_alloc | apply pw_below_drewN | apply below_drew1 | refine below_set ?_ GE144.out)⟩⟩

/-! ### product_Find: function 53 -/
/-- Where the first element of which p holds stands; -1. -/
def idxOf {α : Type} (p : α → Bool) : List α → Int → Int
  | [], _ => -1
  | x :: xs, i => if p x = true then i else idxOf p xs (i + 1)
theorem idxOf_drop {α : Type} (p : α → Bool) (l : List α) (z : α) (i : Nat) (h : i < l.length) : idxOf p (l.drop i) i = if p (l.getD i z) = true then (i : Int) else idxOf p (l.drop (i + 1)) ((i + 1 : Nat) : Int) := by
  rw [List.drop_eq_getElem_cons h]
  simp [idxOf, List.getD_eq_getElem?_getD, List.getElem?_eq_getElem h]
/-- What is asked of a predicate: it may lay blocks of its own. -/
def PredK {α : Type} (P : Program) (d : Kd α) (g : Nat) (lb : Array Value) (p : α → Bool) (w : World) : Prop :=
  ∀ (W : World) (x : α) (cs : List Value), Below w.heap.size w W → d.K W x cs → Calls P g (#[.agg cs.toArray] ++ lb) W fun e w' => e = .returned (.bool (p x)) ∧ Below W.heap.size W w'
theorem PredK.later {α : Type} {P : Program} {d : Kd α} {g : Nat} {lb : Array Value} {p : α → Bool} {w W : World} (h : PredK P d g lb p w) (hb : Below w.heap.size w W) : PredK P d g lb p W :=
  fun W' x cs hb' hk => h W' x cs (below_step hb hb') hk
theorem idxOf_lt {α : Type} (p : α → Bool) (l : List α) (i : Int) : idxOf p l i = -1 ∨ (i ≤ idxOf p l i ∧ idxOf p l i < i + l.length) := by
  induction l generalizing i with
  | nil => exact .inl rfl
  | cons x xs ih =>
    unfold idxOf
    split
    · exact .inr ⟨Int.le_refl _, by simp only [List.length_cons]; omega⟩
    · rcases ih (i + 1) with h | h
      · exact .inl h
      · exact .inr ⟨by omega, by simp only [List.length_cons]; omega⟩

/-- The first of a list that is so, and whether there is one. -/
def firstOf {α : Type} (p : α → Bool) (z : α) : List α → α × Bool
  | [] => (z, false)
  | x :: xs => if p x = true then (x, true) else firstOf p z xs
theorem firstOf_drop {α : Type} (p : α → Bool) (l : List α) (z : α) (i : Nat) (h : i < l.length) : firstOf p z (l.drop i) = if p (l.getD i z) = true then (l.getD i z, true) else firstOf p z (l.drop (i + 1)) := by
  rw [List.drop_eq_getElem_cons h]
  simp [firstOf, List.getD_eq_getElem?_getD, List.getElem?_eq_getElem h]
/-- product.first at api.Product. -/
theorem first_api_Product.calls (p : S29 → Bool) (g : Nat) (lb : Array Value) (eg : ∀ args w, (callFunc g args).run Try.prog w = .ok (.enter g args) w) (A0 : Option Addr) (c0 : Nat) (l0 : List (S29)) (w : World) (hp : PredK Try.prog k29 g lb p w) (hr0 : Kd.C k29 w A0 l0.length l0) :
    Calls Try.prog 66 #[.slice A0 l0.length c0, .func (.func g) #[] lb] w fun e w' => e = .returned (.tuple #[.agg #[.string (firstOf p z29 l0).1.f0, .int .i64 (firstOf p z29 l0).1.f1, .int .i64 (firstOf p z29 l0).1.f2, .int .i64 (firstOf p z29 l0).1.f3, .int .i64 (firstOf p z29 l0).1.f4, .int .i64 (firstOf p z29 l0).1.f5, .bool (firstOf p z29 l0).1.f6], .bool (firstOf p z29 l0).2]) ∧ Below w.heap.size w w' := by
 have HR0 := Aside0.mk hr0
 have HL := hr0.2.1
 have HP := Aside0.mk hp
 clear hr0 hp
 go_enter Try.func66, Try.ntmps66
 go_wp2
 go_loopg [7, 11] l0.length (fun kq _ v11 w' => ∃ (x8 : Nat), v11 = .int .i64 x8 ∧ kq + x8 = l0.length ∧ Aside0 (firstOf p z29 (l0.drop x8) = firstOf p z29 l0) ∧ Aside0 (w'.heap[w.heap.size]? = some (.cells #[.string (⟨#[]⟩ : ByteArray), .int .i64 0, .int .i64 0, .int .i64 0, .int .i64 0, .int .i64 0, .bool false] 29 (0, 0))) ∧ Aside0 (Below w.heap.size w w'))
 case atStart => exact ⟨0, rfl, by omega, ⟨rfl⟩, ⟨blk_new _ _⟩, ⟨(Below.refl _ _).alloc (Nat.le_refl _) _⟩⟩
 case round =>
  obtain ⟨x8, rfl, hx, HA, BK, HB⟩ := hrel
  have hsz := HB.out.size
  have hltb := blk_lt BK.out
  by_cases hlt : x8 < l0.length
  rotate_left
  · have hxe : x8 = l0.length := by omega
    have HA3 := Aside0.mk (by have := HA.out; rwa [List.drop_eq_nil_of_le (by omega)] at this)
    clear HA
    have hd : decide ((x8 : Int) < (l0.length : Int)) = false := by simp; omega
    clear hxe
    have hz0 : wr.cell? ⟨w.heap.size, 0, none⟩ = some (.string (⟨#[]⟩ : ByteArray)) := (blk_cell BK.out 0).trans rfl
    have hf0 := blk_frozen BK.out 0
    have hz1 : wr.cell? ⟨w.heap.size, 1, none⟩ = some (.int .i64 0) := (blk_cell BK.out 1).trans rfl
    have hf1 := blk_frozen BK.out 1
    have hz2 : wr.cell? ⟨w.heap.size, 2, none⟩ = some (.int .i64 0) := (blk_cell BK.out 2).trans rfl
    have hf2 := blk_frozen BK.out 2
    have hz3 : wr.cell? ⟨w.heap.size, 3, none⟩ = some (.int .i64 0) := (blk_cell BK.out 3).trans rfl
    have hf3 := blk_frozen BK.out 3
    have hz4 : wr.cell? ⟨w.heap.size, 4, none⟩ = some (.int .i64 0) := (blk_cell BK.out 4).trans rfl
    have hf4 := blk_frozen BK.out 4
    have hz5 : wr.cell? ⟨w.heap.size, 5, none⟩ = some (.int .i64 0) := (blk_cell BK.out 5).trans rfl
    have hf5 := blk_frozen BK.out 5
    have hz6 : wr.cell? ⟨w.heap.size, 6, none⟩ = some (.bool false) := (blk_cell BK.out 6).trans rfl
    have hf6 := blk_frozen BK.out 6
    go_wp2
    refine bodyPost_ret (results_ct rfl _ _ w.heap.size 29 #[.string (⟨#[]⟩ : ByteArray), .int .i64 0, .int .i64 0, .int .i64 0, .int .i64 0, .int .i64 0, .bool false] (0, 0) _ rfl ?_ Try.underlying29 rfl (by kernel_rfl)) rfl ?_
    rotate_left
    · have hh := HA3.out
      rw [← hh]
      exact ⟨rfl, by repeat (first | (with_reducible first | exact HB.out | refine below_set ?_ (Nat.le_refl _) | refine below_alloc ?_ _) | exact HB.out)⟩
    skip
    (with_reducible repeat (first | refine blk_drewN ?_ _ | refine blk_drew ?_ | refine blk_alloc ?_ _))
    refine blk_put (cs := #[.string (⟨#[]⟩ : ByteArray), .int .i64 0, .int .i64 0, .int .i64 0, .int .i64 0, .int .i64 0, .bool false]) ?_ 6 _ rfl
    (with_reducible repeat (first | refine blk_drewN ?_ _ | refine blk_drew ?_ | refine blk_alloc ?_ _))
    refine blk_put (cs := #[.string (⟨#[]⟩ : ByteArray), .int .i64 0, .int .i64 0, .int .i64 0, .int .i64 0, .int .i64 0, .bool false]) ?_ 5 _ rfl
    (with_reducible repeat (first | refine blk_drewN ?_ _ | refine blk_drew ?_ | refine blk_alloc ?_ _))
    refine blk_put (cs := #[.string (⟨#[]⟩ : ByteArray), .int .i64 0, .int .i64 0, .int .i64 0, .int .i64 0, .int .i64 0, .bool false]) ?_ 4 _ rfl
    (with_reducible repeat (first | refine blk_drewN ?_ _ | refine blk_drew ?_ | refine blk_alloc ?_ _))
    refine blk_put (cs := #[.string (⟨#[]⟩ : ByteArray), .int .i64 0, .int .i64 0, .int .i64 0, .int .i64 0, .int .i64 0, .bool false]) ?_ 3 _ rfl
    (with_reducible repeat (first | refine blk_drewN ?_ _ | refine blk_drew ?_ | refine blk_alloc ?_ _))
    refine blk_put (cs := #[.string (⟨#[]⟩ : ByteArray), .int .i64 0, .int .i64 0, .int .i64 0, .int .i64 0, .int .i64 0, .bool false]) ?_ 2 _ rfl
    (with_reducible repeat (first | refine blk_drewN ?_ _ | refine blk_drew ?_ | refine blk_alloc ?_ _))
    refine blk_put (cs := #[.string (⟨#[]⟩ : ByteArray), .int .i64 0, .int .i64 0, .int .i64 0, .int .i64 0, .int .i64 0, .bool false]) ?_ 1 _ rfl
    (with_reducible repeat (first | refine blk_drewN ?_ _ | refine blk_drew ?_ | refine blk_alloc ?_ _))
    refine blk_put (cs := #[.string (⟨#[]⟩ : ByteArray), .int .i64 0, .int .i64 0, .int .i64 0, .int .i64 0, .int .i64 0, .bool false]) ?_ 0 _ rfl
    (with_reducible repeat (first | refine blk_drewN ?_ _ | refine blk_drew ?_ | refine blk_alloc ?_ _))
    exact BK.out
  obtain ⟨ad, cs, e, hlen, hK, hcell⟩ := Kd.C_get (Kd.C_below HR0.out HB.out) z29 x8 (by omega) (by omega)
  cases e
  have hcall := HP.out (wr.alloc (.cells cs.toArray 29 (0, 0))) _ _ (HB.out.alloc (by omega) _) (k29.K_below ((Below.refl _ wr).alloc (Nat.le_refl _) _) hK)
  simp only [Int.toNat_natCast] at hcell hK hcall
  have hg := firstOf_drop p l0 z29 x8 hlt
  have HA2 := Aside0.mk (HA.out ▸ hg).symm
  clear hg HA
  simp only [show k29.sz = 7 from rfl] at hcell
  clear hlen
  obtain rfl := k29_open hK
  have h0 := hcell 0 _ rfl
  have h1 := hcell 1 _ rfl; rw [add_field _ _ 1 (by omega)] at h1
  have h2 := hcell 2 _ rfl; rw [add_field _ _ 2 (by omega)] at h2
  have h3 := hcell 3 _ rfl; rw [add_field _ _ 3 (by omega)] at h3
  have h4 := hcell 4 _ rfl; rw [add_field _ _ 4 (by omega)] at h4
  have h5 := hcell 5 _ rfl; rw [add_field _ _ 5 (by omega)] at h5
  have h6 := hcell 6 _ rfl; rw [add_field _ _ 6 (by omega)] at h6
  clear hcell hK
  simp only [Nat.add_zero] at h0
  generalize hy : l0.getD x8 z29 = y at *
  clear hy
  by_cases hq : p y = true
  rotate_left
  · have hq2 : p y = false := by simpa using hq
    have HA3 := Aside0.mk (by have := HA2.out; rwa [if_neg hq] at this)
    rw [hq2] at hcall
    clear hq hq2 HA2
    go_wp2_with ((with_reducible refine hcall.mono ?_); rintro e w' ⟨rfl, hb'⟩; have BK2 := Aside0.mk (blk_below (blk_alloc BK.out (.cells #[.string y.f0, .int .i64 y.f1, .int .i64 y.f2, .int .i64 y.f3, .int .i64 y.f4, .int .i64 y.f5, .bool y.f6] 29 (0, 0))) hb'); have HB2 := Aside0.mk (below_step (HB.out.alloc hsz (.cells #[.string y.f0, .int .i64 y.f1, .int .i64 y.f2, .int .i64 y.f3, .int .i64 y.f4, .int .i64 y.f5, .bool y.f6] 29 (0, 0))) hb'))
    go_roundg (l0.length - (x8 + 1))
    case measure => omega
    case rel => exact ⟨x8 + 1, by go_num, by omega, HA3, BK2, HB2⟩
  have HA3 := Aside0.mk (by have := HA2.out; rwa [if_pos hq] at this)
  rw [hq] at hcall
  clear hq HA2
  go_wp2_with ((with_reducible refine hcall.mono ?_); rintro e w' ⟨rfl, hb'⟩; have BY := blk_below (blk_new wr (.cells #[.string y.f0, .int .i64 y.f1, .int .i64 y.f2, .int .i64 y.f3, .int .i64 y.f4, .int .i64 y.f5, .bool y.f6] 29 (0, 0))) hb'; have BK2 := Aside0.mk (blk_below (blk_alloc BK.out (.cells #[.string y.f0, .int .i64 y.f1, .int .i64 y.f2, .int .i64 y.f3, .int .i64 y.f4, .int .i64 y.f5, .bool y.f6] 29 (0, 0))) hb'); have HB2 := Aside0.mk (below_step (HB.out.alloc hsz (.cells #[.string y.f0, .int .i64 y.f1, .int .i64 y.f2, .int .i64 y.f3, .int .i64 y.f4, .int .i64 y.f5, .bool y.f6] 29 (0, 0))) hb'); have hy0 : w'.cell? ⟨wr.heap.size, 0, none⟩ = some (.string y.f0) := (blk_cell BY 0).trans rfl; have hy1 : w'.cell? ⟨wr.heap.size, 1, none⟩ = some (.int .i64 y.f1) := (blk_cell BY 1).trans rfl; have hy2 : w'.cell? ⟨wr.heap.size, 2, none⟩ = some (.int .i64 y.f2) := (blk_cell BY 2).trans rfl; have hy3 : w'.cell? ⟨wr.heap.size, 3, none⟩ = some (.int .i64 y.f3) := (blk_cell BY 3).trans rfl; have hy4 : w'.cell? ⟨wr.heap.size, 4, none⟩ = some (.int .i64 y.f4) := (blk_cell BY 4).trans rfl; have hy5 : w'.cell? ⟨wr.heap.size, 5, none⟩ = some (.int .i64 y.f5) := (blk_cell BY 5).trans rfl; have hy6 : w'.cell? ⟨wr.heap.size, 6, none⟩ = some (.bool y.f6) := (blk_cell BY 6).trans rfl; have hz0 : w'.cell? ⟨w.heap.size, 0, none⟩ = some (.string (⟨#[]⟩ : ByteArray)) := (blk_cell BK2.out 0).trans rfl; have hf0 := blk_frozen BK2.out 0; have hz1 : w'.cell? ⟨w.heap.size, 1, none⟩ = some (.int .i64 0) := (blk_cell BK2.out 1).trans rfl; have hf1 := blk_frozen BK2.out 1; have hz2 : w'.cell? ⟨w.heap.size, 2, none⟩ = some (.int .i64 0) := (blk_cell BK2.out 2).trans rfl; have hf2 := blk_frozen BK2.out 2; have hz3 : w'.cell? ⟨w.heap.size, 3, none⟩ = some (.int .i64 0) := (blk_cell BK2.out 3).trans rfl; have hf3 := blk_frozen BK2.out 3; have hz4 : w'.cell? ⟨w.heap.size, 4, none⟩ = some (.int .i64 0) := (blk_cell BK2.out 4).trans rfl; have hf4 := blk_frozen BK2.out 4; have hz5 : w'.cell? ⟨w.heap.size, 5, none⟩ = some (.int .i64 0) := (blk_cell BK2.out 5).trans rfl; have hf5 := blk_frozen BK2.out 5; have hz6 : w'.cell? ⟨w.heap.size, 6, none⟩ = some (.bool false) := (blk_cell BK2.out 6).trans rfl; have hf6 := blk_frozen BK2.out 6; have hltb2 := blk_lt BK2.out; have hlty := blk_lt BY; clear BY hb')
  refine bodyPost_ret (results_ct rfl _ _ w.heap.size 29 #[.string y.f0, .int .i64 y.f1, .int .i64 y.f2, .int .i64 y.f3, .int .i64 y.f4, .int .i64 y.f5, .bool y.f6] (0, 0) _ rfl ?_ Try.underlying29 rfl (by kernel_rfl)) rfl ?_
  rotate_left
  · have hh := HA3.out
    rw [← hh]
    exact ⟨rfl, by repeat (first | (with_reducible first | exact HB2.out | refine below_set ?_ (Nat.le_refl _)) | exact HB2.out)⟩
  skip
  (with_reducible repeat (first | refine blk_drewN ?_ _ | refine blk_drew ?_ | refine blk_alloc ?_ _))
  refine blk_put (cs := #[.string y.f0, .int .i64 y.f1, .int .i64 y.f2, .int .i64 y.f3, .int .i64 y.f4, .int .i64 y.f5, .bool false]) ?_ 6 _ rfl
  (with_reducible repeat (first | refine blk_drewN ?_ _ | refine blk_drew ?_ | refine blk_alloc ?_ _))
  refine blk_put (cs := #[.string y.f0, .int .i64 y.f1, .int .i64 y.f2, .int .i64 y.f3, .int .i64 y.f4, .int .i64 0, .bool false]) ?_ 5 _ rfl
  (with_reducible repeat (first | refine blk_drewN ?_ _ | refine blk_drew ?_ | refine blk_alloc ?_ _))
  refine blk_put (cs := #[.string y.f0, .int .i64 y.f1, .int .i64 y.f2, .int .i64 y.f3, .int .i64 0, .int .i64 0, .bool false]) ?_ 4 _ rfl
  (with_reducible repeat (first | refine blk_drewN ?_ _ | refine blk_drew ?_ | refine blk_alloc ?_ _))
  refine blk_put (cs := #[.string y.f0, .int .i64 y.f1, .int .i64 y.f2, .int .i64 0, .int .i64 0, .int .i64 0, .bool false]) ?_ 3 _ rfl
  (with_reducible repeat (first | refine blk_drewN ?_ _ | refine blk_drew ?_ | refine blk_alloc ?_ _))
  refine blk_put (cs := #[.string y.f0, .int .i64 y.f1, .int .i64 0, .int .i64 0, .int .i64 0, .int .i64 0, .bool false]) ?_ 2 _ rfl
  (with_reducible repeat (first | refine blk_drewN ?_ _ | refine blk_drew ?_ | refine blk_alloc ?_ _))
  refine blk_put (cs := #[.string y.f0, .int .i64 0, .int .i64 0, .int .i64 0, .int .i64 0, .int .i64 0, .bool false]) ?_ 1 _ rfl
  (with_reducible repeat (first | refine blk_drewN ?_ _ | refine blk_drew ?_ | refine blk_alloc ?_ _))
  refine blk_put (cs := #[.string (⟨#[]⟩ : ByteArray), .int .i64 0, .int .i64 0, .int .i64 0, .int .i64 0, .int .i64 0, .bool false]) ?_ 0 _ rfl
  (with_reducible repeat (first | refine blk_drewN ?_ _ | refine blk_drew ?_ | refine blk_alloc ?_ _))
  exact BK2.out

-- NEEDS
/-- The first product of a name. -/
def product_Find.f (l0 : List S29) (a1 : ByteArray) : Option (ByteArray × Int × Int × Int × Int × Int × Bool × Bool) :=
  some ((firstOf (fun x : S29 => x.f0.toList == a1.toList) z29 l0).1.f0, (firstOf (fun x : S29 => x.f0.toList == a1.toList) z29 l0).1.f1, (firstOf (fun x : S29 => x.f0.toList == a1.toList) z29 l0).1.f2, (firstOf (fun x : S29 => x.f0.toList == a1.toList) z29 l0).1.f3, (firstOf (fun x : S29 => x.f0.toList == a1.toList) z29 l0).1.f4, (firstOf (fun x : S29 => x.f0.toList == a1.toList) z29 l0).1.f5, (firstOf (fun x : S29 => x.f0.toList == a1.toList) z29 l0).1.f6, (firstOf (fun x : S29 => x.f0.toList == a1.toList) z29 l0).2)
theorem product_Find.pred (a1 : ByteArray) (w : World) (b : Nat) (hb : w.heap[b]? = some (.cells #[.string a1] 9 (0, 0))) :
    PredK Try.prog k29 67 #[.pointer (some ⟨b, 0, none⟩)] (fun x : S29 => x.f0.toList == a1.toList) w := by
  intro W x cs hW hK
  obtain rfl := k29_open hK
  have hb' := blk_below hb hW
  have h0 : W.cell? ⟨b, 0, none⟩ = some (.string a1) := (blk_cell hb' 0).trans rfl
  have hlt := blk_lt hb'
  clear hb hb' hK
  go_enter Try.func67, Try.ntmps67
  go_wp2
  go_ret
  exact ⟨rfl, (Below.refl _ _).alloc (Nat.le_refl _) _⟩
set_option maxHeartbeats 800000 in
set_option maxRecDepth 100000 in
theorem product_Find.calls (A0 : Option Addr) (c0 : Nat) (l0 : List (S29)) (a1 : ByteArray) (r1 : ByteArray) (r2 : Int) (r3 : Int) (r4 : Int) (r5 : Int) (r6 : Int) (r7 : Bool) (r8 : Bool) (w : World) (hr0 : Kd.C k29 w A0 l0.length l0) (hc0 : l0.length ≤ c0) (h : product_Find.f l0 a1 = some (r1, r2, r3, r4, r5, r6, r7, r8)) :
    Calls Try.prog 53 #[.slice A0 l0.length c0, .string a1] w fun e w' => e = .returned (.tuple #[.agg #[.string r1, .int .i64 r2, .int .i64 r3, .int .i64 r4, .int .i64 r5, .int .i64 r6, .bool r7], .bool r8]) ∧ Below w.heap.size w w' := by
 have HR0 := Aside0.mk hr0
 have HC0 := Aside0.mk hc0
 have H := h
 clear hr0 hc0 h
 unfold product_Find.f at H
 simp only [Option.some.injEq, Prod.mk.injEq] at H
 obtain ⟨rfl, rfl, rfl, rfl, rfl, rfl, rfl, rfl⟩ := H
 generalize hx : firstOf (fun x : S29 => x.f0.toList == a1.toList) z29 l0 = x
 obtain ⟨y, b⟩ := x
 have HX := Aside0.mk hx
 clear hx
 go_enter Try.func53, Try.ntmps53
 go_wp2_with fail
 refine (first_api_Product.calls (fun x : S29 => x.f0.toList == a1.toList) 67 _ (enters_of Try.func67 (by kernel_rfl) rfl) A0 c0 l0 _ (product_Find.pred a1 _ _ (blk_alloc (blk_new _ _) _)) (Kd.C_alloc (Kd.C_alloc HR0.out _) _)).mono ?_
 rintro e w2 ⟨he, hb⟩
 rw [HX.out] at he
 subst he
 clear HX
 have HB := Aside0.mk (below_step (below_alloc (below_alloc (Below.refl _ w) (.cells #[.string a1] 9 (0, 0))) (.cells #[.string (⟨#[]⟩ : ByteArray), .int .i64 0, .int .i64 0, .int .i64 0, .int .i64 0, .int .i64 0, .bool false] 29 (0, 0))) hb)
 have BZ := Aside0.mk (blk_below (blk_new (w.alloc (.cells #[.string a1] 9 (0, 0))) (.cells #[.string (⟨#[]⟩ : ByteArray), .int .i64 0, .int .i64 0, .int .i64 0, .int .i64 0, .int .i64 0, .bool false] 29 (0, 0))) hb)
 have BZ2 : Aside0 (w2.heap[w.heap.size + 1]? = some (.cells #[.string (⟨#[]⟩ : ByteArray), .int .i64 0, .int .i64 0, .int .i64 0, .int .i64 0, .int .i64 0, .bool false] 29 (0, 0))) := ⟨by have := BZ.out; rwa [World.size_alloc] at this⟩
 clear BZ hb
 have hz0 : w2.cell? ⟨w.heap.size + 1, 0, none⟩ = some (.string (⟨#[]⟩ : ByteArray)) := (blk_cell BZ2.out 0).trans rfl
 have hz1 : w2.cell? ⟨w.heap.size + 1, 1, none⟩ = some (.int .i64 0) := (blk_cell BZ2.out 1).trans rfl
 have hz2 : w2.cell? ⟨w.heap.size + 1, 2, none⟩ = some (.int .i64 0) := (blk_cell BZ2.out 2).trans rfl
 have hz3 : w2.cell? ⟨w.heap.size + 1, 3, none⟩ = some (.int .i64 0) := (blk_cell BZ2.out 3).trans rfl
 have hz4 : w2.cell? ⟨w.heap.size + 1, 4, none⟩ = some (.int .i64 0) := (blk_cell BZ2.out 4).trans rfl
 have hz5 : w2.cell? ⟨w.heap.size + 1, 5, none⟩ = some (.int .i64 0) := (blk_cell BZ2.out 5).trans rfl
 have hz6 : w2.cell? ⟨w.heap.size + 1, 6, none⟩ = some (.bool false) := (blk_cell BZ2.out 6).trans rfl
 have hf0 := blk_frozen BZ2.out 0
 have hf1 := blk_frozen BZ2.out 1
 have hf2 := blk_frozen BZ2.out 2
 have hf3 := blk_frozen BZ2.out 3
 have hf4 := blk_frozen BZ2.out 4
 have hf5 := blk_frozen BZ2.out 5
 have hf6 := blk_frozen BZ2.out 6
 have hlt := blk_lt BZ2.out
 go_wp2
 refine bodyPost_ret (results_ct rfl _ _ (w.heap.size + 1) 29 #[.string y.f0, .int .i64 y.f1, .int .i64 y.f2, .int .i64 y.f3, .int .i64 y.f4, .int .i64 y.f5, .bool y.f6] (0, 0) _ rfl ?_ Try.underlying29 rfl (by kernel_rfl)) rfl ?_
 rotate_left
 · exact ⟨rfl, by repeat (first | (with_reducible first | exact HB.out | refine below_set ?_ (Nat.le_succ _)) | exact HB.out)⟩
 skip
 refine blk_put (cs := #[.string y.f0, .int .i64 y.f1, .int .i64 y.f2, .int .i64 y.f3, .int .i64 y.f4, .int .i64 y.f5, .bool false]) ?_ 6 _ rfl
 refine blk_put (cs := #[.string y.f0, .int .i64 y.f1, .int .i64 y.f2, .int .i64 y.f3, .int .i64 y.f4, .int .i64 0, .bool false]) ?_ 5 _ rfl
 refine blk_put (cs := #[.string y.f0, .int .i64 y.f1, .int .i64 y.f2, .int .i64 y.f3, .int .i64 0, .int .i64 0, .bool false]) ?_ 4 _ rfl
 refine blk_put (cs := #[.string y.f0, .int .i64 y.f1, .int .i64 y.f2, .int .i64 0, .int .i64 0, .int .i64 0, .bool false]) ?_ 3 _ rfl
 refine blk_put (cs := #[.string y.f0, .int .i64 y.f1, .int .i64 0, .int .i64 0, .int .i64 0, .int .i64 0, .bool false]) ?_ 2 _ rfl
 refine blk_put (cs := #[.string y.f0, .int .i64 0, .int .i64 0, .int .i64 0, .int .i64 0, .int .i64 0, .bool false]) ?_ 1 _ rfl
 refine blk_put (cs := #[.string (⟨#[]⟩ : ByteArray), .int .i64 0, .int .i64 0, .int .i64 0, .int .i64 0, .int .i64 0, .bool false]) ?_ 0 _ rfl
 exact BZ2.out

end Go.Proofs.Ytjaokhpbdhefhaa.POptionNets
