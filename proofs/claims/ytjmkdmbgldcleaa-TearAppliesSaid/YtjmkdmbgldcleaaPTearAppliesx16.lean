import Derived.Test.YtjmkdmbgldcleaaPTearAppliesx0
import Derived.Test.YtjmkdmbgldcleaaPTearAppliesx1
namespace Go.Proofs.Ytjmkdmbgldcleaa.PTearApplies
open Go.RowKit Go.Proofs.YtjmkdmbgldcleaaW.PrintWords Go.Proofs.YtjmkdmbgldcleaaW.PrintLast Go.Proofs.YtjmkdmbgldcleaaW.PrintMore
attribute [local go_sem] max2_int min2_int max_two min_two max_three min_three max_four min_four Go.Proofs.YtjmkdmbgldcleaaHand.run_leq_str Go.Proofs.YtjmkdmbgldcleaaHand.run_gtr_str Go.Proofs.YtjmkdmbgldcleaaHand.run_geq_str   -- for this text's walks alone
set_option linter.unusedVariables false
set_option linter.unusedSimpArgs false

attribute [local go_sem high] eqA24
/-! ### contangoref50_less: function 38 -/
mutual
def contangoref50_less.l0 : Nat → List (S52) → Bool → Int → List (S52) → Int → ByteArray → Int → Int → Int → Option ((List (S52)))
  | 0, _, _, _, _, _, _, _, _, _ => none
  | k + 1, x0, x2, x3, x9, x10, x206000, x206001, x206002, x206003 => if x10 < (x0.length : Int) then (if 0 ≤ x10 then (if (eqD24 ((rd_T52 x0 x10).f0.f0) x206000 ((rd_T52 x0 x10).f0.f1) x206001 ((rd_T52 x0 x10).f0.f2) x206002 ((rd_T52 x0 x10).f0.f3) x206003) = true then (contangoref50_less.j1 k x0 x2 x3 x9 x10 x2 x206000 x206001 x206002 x206003 ((rd_T52 x0 x10).f0.f0) ((rd_T52 x0 x10).f0.f1) ((rd_T52 x0 x10).f0.f2) ((rd_T52 x0 x10).f0.f3) ((rd_T52 x0 x10).f1) ((rd_T52 x0 x10).f2)) else (contangoref50_less.j1 k x0 x2 x3 x9 x10 false x206000 x206001 x206002 x206003 ((rd_T52 x0 x10).f0.f0) ((rd_T52 x0 x10).f0.f1) ((rd_T52 x0 x10).f0.f2) ((rd_T52 x0 x10).f0.f3) ((rd_T52 x0 x10).f1) ((rd_T52 x0 x10).f2))) else (none)) else (some x9)
def contangoref50_less.j1 : Nat → List (S52) → Bool → Int → List (S52) → Int → Bool → ByteArray → Int → Int → Int → ByteArray → Int → Int → Int → Int → Int → Option ((List (S52)))
  | 0, _, _, _, _, _, _, _, _, _, _, _, _, _, _, _, _ => none
  | k + 1, x0, x2, x3, x9, x10, x28, x206000, x206001, x206002, x206003, x208000, x208001, x208002, x208003, x208004, x208005 => if x28 = true then (contangoref50_less.j2 k x0 x2 x3 x9 x10 x206000 x206001 x206002 x206003 x208000 x208001 x208002 x208003 (wrap64 (x208004 - x3)) x208005) else (contangoref50_less.j2 k x0 x2 x3 x9 x10 x206000 x206001 x206002 x206003 x208000 x208001 x208002 x208003 x208004 x208005)
def contangoref50_less.j2 : Nat → List (S52) → Bool → Int → List (S52) → Int → ByteArray → Int → Int → Int → ByteArray → Int → Int → Int → Int → Int → Option ((List (S52)))
  | 0, _, _, _, _, _, _, _, _, _, _, _, _, _, _, _ => none
  | k + 1, x0, x2, x3, x9, x10, x206000, x206001, x206002, x206003, x208000, x208001, x208002, x208003, x208004, x208005 => if (eqD24 x208000 x206000 x208001 x206001 x208002 x206002 x208003 x206003) = true then (contangoref50_less.j3 k x0 x2 x3 x9 x10 (!x2) x206000 x206001 x206002 x206003 x208000 x208001 x208002 x208003 x208004 x208005) else (contangoref50_less.j3 k x0 x2 x3 x9 x10 false x206000 x206001 x206002 x206003 x208000 x208001 x208002 x208003 x208004 x208005)
def contangoref50_less.j3 : Nat → List (S52) → Bool → Int → List (S52) → Int → Bool → ByteArray → Int → Int → Int → ByteArray → Int → Int → Int → Int → Int → Option ((List (S52)))
  | 0, _, _, _, _, _, _, _, _, _, _, _, _, _, _, _, _ => none
  | k + 1, x0, x2, x3, x9, x10, x41, x206000, x206001, x206002, x206003, x208000, x208001, x208002, x208003, x208004, x208005 => if x41 = true then (if x208004 > 0 then (if x9.length < 2513169434916 then (contangoref50_less.l0 k x0 x2 x3 (x9 ++ [(⟨(⟨x208000, x208001, x208002, x208003⟩ : S24), x208004, wrap64 (x208005 - x3)⟩ : S52)]) (wrap64 (x10 + 1)) x206000 x206001 x206002 x206003) else (none)) else (if (wrap64 (x208005 - x3)) > 0 then (if x9.length < 2513169434916 then (contangoref50_less.l0 k x0 x2 x3 (x9 ++ [(⟨(⟨x208000, x208001, x208002, x208003⟩ : S24), x208004, wrap64 (x208005 - x3)⟩ : S52)]) (wrap64 (x10 + 1)) x206000 x206001 x206002 x206003) else (none)) else (contangoref50_less.l0 k x0 x2 x3 x9 (wrap64 (x10 + 1)) x206000 x206001 x206002 x206003))) else (if x208004 > 0 then (if x9.length < 2513169434916 then (contangoref50_less.l0 k x0 x2 x3 (x9 ++ [(⟨(⟨x208000, x208001, x208002, x208003⟩ : S24), x208004, x208005⟩ : S52)]) (wrap64 (x10 + 1)) x206000 x206001 x206002 x206003) else (none)) else (if x208005 > 0 then (if x9.length < 2513169434916 then (contangoref50_less.l0 k x0 x2 x3 (x9 ++ [(⟨(⟨x208000, x208001, x208002, x208003⟩ : S24), x208004, x208005⟩ : S52)]) (wrap64 (x10 + 1)) x206000 x206001 x206002 x206003) else (none)) else (contangoref50_less.l0 k x0 x2 x3 x9 (wrap64 (x10 + 1)) x206000 x206001 x206002 x206003)))
end
def contangoref50_less.f (k : Nat) (l0 : List (S52)) (a1_0 : ByteArray) (a1_1 : Int) (a1_2 : Int) (a1_3 : Int) (a2 : Bool) (a3 : Int) : Option ((List (S52))) := contangoref50_less.l0 k l0 a2 a3 ([] : List (S52)) 0 a1_0 a1_1 a1_2 a1_3
theorem contangoref50_less.mono_l : ∀ k, (∀ y0 y1 y2 y3 y4 y5 y6 y7 y8, LeO (contangoref50_less.l0 k y0 y1 y2 y3 y4 y5 y6 y7 y8) (contangoref50_less.l0 (k + 1) y0 y1 y2 y3 y4 y5 y6 y7 y8)) ∧ (∀ y0 y1 y2 y3 y4 y5 y6 y7 y8 y9 y10 y11 y12 y13 y14 y15, LeO (contangoref50_less.j1 k y0 y1 y2 y3 y4 y5 y6 y7 y8 y9 y10 y11 y12 y13 y14 y15) (contangoref50_less.j1 (k + 1) y0 y1 y2 y3 y4 y5 y6 y7 y8 y9 y10 y11 y12 y13 y14 y15)) ∧ (∀ y0 y1 y2 y3 y4 y5 y6 y7 y8 y9 y10 y11 y12 y13 y14, LeO (contangoref50_less.j2 k y0 y1 y2 y3 y4 y5 y6 y7 y8 y9 y10 y11 y12 y13 y14) (contangoref50_less.j2 (k + 1) y0 y1 y2 y3 y4 y5 y6 y7 y8 y9 y10 y11 y12 y13 y14)) ∧ (∀ y0 y1 y2 y3 y4 y5 y6 y7 y8 y9 y10 y11 y12 y13 y14 y15, LeO (contangoref50_less.j3 k y0 y1 y2 y3 y4 y5 y6 y7 y8 y9 y10 y11 y12 y13 y14 y15) (contangoref50_less.j3 (k + 1) y0 y1 y2 y3 y4 y5 y6 y7 y8 y9 y10 y11 y12 y13 y14 y15))
  | 0 => ⟨fun _ _ _ _ _ _ _ _ _ r h => by simp [contangoref50_less.l0] at h, fun _ _ _ _ _ _ _ _ _ _ _ _ _ _ _ _ r h => by simp [contangoref50_less.j1] at h, fun _ _ _ _ _ _ _ _ _ _ _ _ _ _ _ r h => by simp [contangoref50_less.j2] at h, fun _ _ _ _ _ _ _ _ _ _ _ _ _ _ _ _ r h => by simp [contangoref50_less.j3] at h⟩
  | k + 1 => by
    obtain ⟨ih0, ih1, ih2, ih3⟩ := contangoref50_less.mono_l k
    refine ⟨?_, ?_, ?_, ?_⟩
    · intro y0 y1 y2 y3 y4 y5 y6 y7 y8
      unfold contangoref50_less.l0
      repeat' first
      | (with_reducible exact ih0 _ _ _ _ _ _ _ _ _)
      | (with_reducible exact ih1 _ _ _ _ _ _ _ _ _ _ _ _ _ _ _ _)
      | (with_reducible exact ih2 _ _ _ _ _ _ _ _ _ _ _ _ _ _ _)
      | (with_reducible exact ih3 _ _ _ _ _ _ _ _ _ _ _ _ _ _ _ _)
      | (with_reducible exact LeO.refl _)
      | (with_reducible exact LeO.none _)
      | (with_reducible refine LeO.ite ?_ ?_)
      | (with_reducible refine LeO.bind ?_ (fun _ => ?_))
      | exact LeO.none _
      | refine LeO.ite ?_ ?_
      | refine LeO.bind ?_ (fun _ => ?_)
    · intro y0 y1 y2 y3 y4 y5 y6 y7 y8 y9 y10 y11 y12 y13 y14 y15
      unfold contangoref50_less.j1
      repeat' first
      | (with_reducible exact ih0 _ _ _ _ _ _ _ _ _)
      | (with_reducible exact ih1 _ _ _ _ _ _ _ _ _ _ _ _ _ _ _ _)
      | (with_reducible exact ih2 _ _ _ _ _ _ _ _ _ _ _ _ _ _ _)
      | (with_reducible exact ih3 _ _ _ _ _ _ _ _ _ _ _ _ _ _ _ _)
      | (with_reducible exact LeO.refl _)
      | (with_reducible exact LeO.none _)
      | (with_reducible refine LeO.ite ?_ ?_)
      | (with_reducible refine LeO.bind ?_ (fun _ => ?_))
      | exact LeO.none _
      | refine LeO.ite ?_ ?_
      | refine LeO.bind ?_ (fun _ => ?_)
    · intro y0 y1 y2 y3 y4 y5 y6 y7 y8 y9 y10 y11 y12 y13 y14
      unfold contangoref50_less.j2
      repeat' first
      | (with_reducible exact ih0 _ _ _ _ _ _ _ _ _)
      | (with_reducible exact ih1 _ _ _ _ _ _ _ _ _ _ _ _ _ _ _ _)
      | (with_reducible exact ih2 _ _ _ _ _ _ _ _ _ _ _ _ _ _ _)
      | (with_reducible exact ih3 _ _ _ _ _ _ _ _ _ _ _ _ _ _ _ _)
      | (with_reducible exact LeO.refl _)
      | (with_reducible exact LeO.none _)
      | (with_reducible refine LeO.ite ?_ ?_)
      | (with_reducible refine LeO.bind ?_ (fun _ => ?_))
      | exact LeO.none _
      | refine LeO.ite ?_ ?_
      | refine LeO.bind ?_ (fun _ => ?_)
    · intro y0 y1 y2 y3 y4 y5 y6 y7 y8 y9 y10 y11 y12 y13 y14 y15
      unfold contangoref50_less.j3
      repeat' first
      | (with_reducible exact ih0 _ _ _ _ _ _ _ _ _)
      | (with_reducible exact ih1 _ _ _ _ _ _ _ _ _ _ _ _ _ _ _ _)
      | (with_reducible exact ih2 _ _ _ _ _ _ _ _ _ _ _ _ _ _ _)
      | (with_reducible exact ih3 _ _ _ _ _ _ _ _ _ _ _ _ _ _ _ _)
      | (with_reducible exact LeO.refl _)
      | (with_reducible exact LeO.none _)
      | (with_reducible refine LeO.ite ?_ ?_)
      | (with_reducible refine LeO.bind ?_ (fun _ => ?_))
      | exact LeO.none _
      | refine LeO.ite ?_ ?_
      | refine LeO.bind ?_ (fun _ => ?_)
theorem contangoref50_less.mono : ∀ a0 a1 a2 a3 a4 a5 a6 k, LeO (contangoref50_less.f k a0 a1 a2 a3 a4 a5 a6) (contangoref50_less.f (k + 1) a0 a1 a2 a3 a4 a5 a6) := by
  intro a0 a1 a2 a3 a4 a5 a6 k
  obtain ⟨ih0, ih1, ih2, ih3⟩ := contangoref50_less.mono_l k
  unfold contangoref50_less.f
  repeat' first
      | (with_reducible exact ih0 _ _ _ _ _ _ _ _ _)
      | (with_reducible exact ih1 _ _ _ _ _ _ _ _ _ _ _ _ _ _ _ _)
      | (with_reducible exact ih2 _ _ _ _ _ _ _ _ _ _ _ _ _ _ _)
      | (with_reducible exact ih3 _ _ _ _ _ _ _ _ _ _ _ _ _ _ _ _)
      | (with_reducible exact LeO.refl _)
      | (with_reducible exact LeO.none _)
      | (with_reducible refine LeO.ite ?_ ?_)
      | (with_reducible refine LeO.bind ?_ (fun _ => ?_))
      | exact LeO.none _
      | refine LeO.ite ?_ ?_
      | refine LeO.bind ?_ (fun _ => ?_)
set_option maxHeartbeats 8000000 in
set_option maxRecDepth 100000 in
theorem contangoref50_less.calls (k : Nat) (A0 : Option Addr) (c0 : Nat) (l0 : List (S52)) (a1_0 : ByteArray) (a1_1 : Int) (a1_2 : Int) (a1_3 : Int) (a2 : Bool) (a3 : Int) (r : List (S52)) (w : World) (hr0 : Kd.C k52 w A0 l0.length l0) (hc0 : l0.length ≤ c0) (h : contangoref50_less.f k l0 a1_0 a1_1 a1_2 a1_3 a2 a3 = some r) :
    Calls Try.prog 38 #[.slice A0 l0.length c0, .agg #[.string a1_0, .int .i64 a1_1, .int .i64 a1_2, .int .i64 a1_3], .bool a2, .int .i64 a3] w fun e w' => ∃ v0_ : Value, e = .returned (v0_) ∧ Kd.R k52 52 w' w.heap.size (fun _ => True) v0_ r ∧ Below w.heap.size w w' := by
  have hu24 := Try.underlying24
  have hu52 := Try.underlying52
  have HR0 := Aside0.mk hr0
  have HC0 := Aside0.mk hc0
  clear hr0 hc0
  have HB := Aside0.mk (Below.refl w.heap.size w)
  have H : (contangoref50_less.l0 k l0 a2 a3 ([] : List (S52)) 0 a1_0 a1_1 a1_2 a1_3) = some r := h
  clear h
  have H' := Aside0.mk H
  clear H
  go_enter Try.func38, Try.ntmps38
  go_wp2_with (first | ((with_reducible refine gate_dst (N := 5) rfl ?_); refine box_event ?hg (N := 5) ?hd (cs := #[.string a1_0, .int .i64 a1_1, .int .i64 a1_2, .int .i64 a1_3]) (t := 24) ?hr ?_; (case hd => rfl); (case hg => rfl); (case hr => first | (go_simp; done) | (go_simp; rfl)); intro gb205 hg w5 hbox hb; have n0_ := Aside0.mk (below_step (bz0 HB.out) hb); have n1_ := Aside0.mk (hbox); have n2_ := Aside0.mk ((by rw [hg]; exact (below_size (bz0 HB.out)) : w.heap.size ≤ gb205)); have n3_ := Aside0.mk ((by rw [hg]; exact (below_size (bz0 HB.out)) : w.heap.size ≤ gb205)); clear HB; have HB := n0_; have BK205 := n1_; have GW205 := n2_; have GE205 := n3_; clear n0_ n1_ n2_ n3_; clear hb hbox hg))
  go_loopg [9, 10] k (fun kq v9 v10 w' => ∃ (x9_1 : List (S52)) (x10_1 : Int), v10 = .int .i64 x10_1 ∧ Aside0 (contangoref50_less.l0 kq l0 a2 a3 x9_1 x10_1 a1_0 a1_1 a1_2 a1_3 = some r) ∧ Aside0 (kq ≤ k) ∧ Aside0 (Kd.R k52 52 w' w.heap.size (fun _ => True) v9 x9_1) ∧ Aside0 (w'.heap[gb205]? = some (.cells #[.string a1_0, .int .i64 a1_1, .int .i64 a1_2, .int .i64 a1_3] 24 (0, 0))) ∧ Aside0 (Below w.heap.size w w'))
  case atStart => exact ⟨(([] : List (S52))), (0), rf_, H', ⟨Nat.le_refl _⟩, ⟨by first | exact Kd.R_nil _ _ _ _ _ | exact Kd.N_nil _ _ _ _ _ | exact Kd.V_nil _ _ _ _ _ | exact Kd.Q_nil _ _ _ _ _ | exact Kd.S_nil _ _ _ _ _⟩, ⟨by (with_reducible repeat (first | refine blk_drewN ?_ _ | refine blk_drew ?_ | refine blk_alloc ?_ _)); exact BK205.out⟩, ⟨bz1 HB.out GE205.out⟩⟩
  case round =>
    clear H'
    try clear p2
    try clear c3
    obtain ⟨x9_1, x10_1, rfl, HA, HK1, HO_9, BK205, HB⟩ := hrel
    cases gk with
    | zero => exact absurd HA.out (by simp [contangoref50_less.l0])
    | succ k1 =>
      have H := HA.out
      clear HA
      simp only [contangoref50_less.l0] at H
      by_cases c6 : x10_1 < (l0.length : Int)
      · rw [if_pos c6] at H
        have c6b0 : decide (x10_1 < (l0.length : Int)) = true := decide_eq_true c6
        clear c6
        by_cases c7 : 0 ≤ x10_1
        · rw [if_pos c7] at H
          have c7b0 : decide (0 ≤ x10_1) = true := decide_eq_true c7
          clear c7
          have HC8 := Aside0.mk H
          clear H
          have p206 : 0 ≤ (x10_1 : Int) := od_
          have q206 : x10_1 < (l0.length : Int) := od_
          obtain ⟨ad206, e206, hx206_0, hx206_1, hx206_2, hx206_3, hx206_4, hx206_5⟩ := at_T52 HR0.out x10_1 p206 q206
          cases e206
          replace hx206_0 := (HB.out.cell (World.block_lt_of_cell? w _ hx206_0)).trans hx206_0
          replace hx206_1 := (HB.out.cell (World.block_lt_of_cell? w _ hx206_1)).trans hx206_1
          replace hx206_2 := (HB.out.cell (World.block_lt_of_cell? w _ hx206_2)).trans hx206_2
          replace hx206_3 := (HB.out.cell (World.block_lt_of_cell? w _ hx206_3)).trans hx206_3
          replace hx206_4 := (HB.out.cell (World.block_lt_of_cell? w _ hx206_4)).trans hx206_4
          replace hx206_5 := (HB.out.cell (World.block_lt_of_cell? w _ hx206_5)).trans hx206_5
          replace p206 := eq_true p206
          replace q206 := eq_true q206
          go_upto_region 6 with (first | ((with_reducible refine gate_dst (N := 11) rfl ?_); refine box_event ?hg (N := 11) ?hd (cs := #[.string (⟨#[]⟩ : ByteArray), .int .i64 0, .int .i64 0, .int .i64 0, .int .i64 0, .int .i64 0]) (t := 52) ?hr ?_; (case hd => rfl); (case hg => rfl); (case hr => first | (go_simp; done) | (go_simp; rfl)); intro gb207 hg w9 hbox hb; have n0_ := Aside0.mk (Kd.R_below (Kd.R_elderB (br_ HO_9.out) gb207 (Nat.le_of_eq hg.symm)) hb); have n1_ := Aside0.mk (blk_below (g := gb205) (o := .cells #[.string a1_0, .int .i64 a1_1, .int .i64 a1_2, .int .i64 a1_3] 24 (0, 0)) (bk_ BK205.out) hb); have n2_ := Aside0.mk (below_step (bz1 HB.out GE205.out) hb); have n3_ := Aside0.mk (hbox); have n4_ := Aside0.mk ((by rw [hg]; exact (below_size (bz1 HB.out GE205.out)) : w.heap.size ≤ gb207)); have n5_ := Aside0.mk ((by rw [hg]; exact (below_size (bz1 HB.out GE205.out)) : w.heap.size ≤ gb207)); have n6_ := Aside0.mk ((by rw [hg]; exact Nat.ne_of_lt (blk_lt (g := gb205) (o := .cells #[.string a1_0, .int .i64 a1_1, .int .i64 a1_2, .int .i64 a1_3] 24 (0, 0)) (bk_ BK205.out)) : gb205 ≠ gb207)); have n7_ := Aside0.mk ((by rw [hg]; exact Nat.ne_of_gt (blk_lt (g := gb205) (o := .cells #[.string a1_0, .int .i64 a1_1, .int .i64 a1_2, .int .i64 a1_3] 24 (0, 0)) (bk_ BK205.out)) : gb207 ≠ gb205)); clear HO_9; clear BK205; clear HB; have HO_9 := n0_; have BK205 := n1_; have HB := n2_; have BK207 := n3_; have GW207 := n4_; have GE207 := n5_; have NB205_207 := n6_; have NB207_205 := n7_; clear n0_ n1_ n2_ n3_ n4_ n5_ n6_ n7_; clear hb hbox hg; have hnb10 := NB207_205.out; have hnc10 := NB205_207.out; have hcz11_0 : w9.cell? ⟨gb207, 0, none⟩ = some (.string (⟨#[]⟩ : ByteArray)) := (blk_cell BK207.out 0).trans rfl; have hcz11_1 : w9.cell? ⟨gb207, 1, none⟩ = some (.int .i64 0) := (blk_cell BK207.out 1).trans rfl; have hcz11_2 : w9.cell? ⟨gb207, 2, none⟩ = some (.int .i64 0) := (blk_cell BK207.out 2).trans rfl; have hcz11_3 : w9.cell? ⟨gb207, 3, none⟩ = some (.int .i64 0) := (blk_cell BK207.out 3).trans rfl; have hcz11_4 : w9.cell? ⟨gb207, 4, none⟩ = some (.int .i64 0) := (blk_cell BK207.out 4).trans rfl; have hcz11_5 : w9.cell? ⟨gb207, 5, none⟩ = some (.int .i64 0) := (blk_cell BK207.out 5).trans rfl; have hfz11_0 := blk_frozen BK207.out 0; have hfz11_1 := blk_frozen BK207.out 1; have hfz11_2 := blk_frozen BK207.out 2; have hfz11_3 := blk_frozen BK207.out 3; have hfz11_4 := blk_frozen BK207.out 4; have hfz11_5 := blk_frozen BK207.out 5))
          (try simp only [Act.put, List.setIfInBounds_toArray, List.set_cons_zero, List.set_cons_succ])
          go_cut [28] (fun v28 wc => ∃ (kq : Nat) (x28_7 : Bool), v28 = .bool x28_7 ∧ Aside0 (contangoref50_less.j1 kq l0 a2 a3 x9_1 x10_1 x28_7 a1_0 a1_1 a1_2 a1_3 ((rd_T52 l0 x10_1).f0.f0) ((rd_T52 l0 x10_1).f0.f1) ((rd_T52 l0 x10_1).f0.f2) ((rd_T52 l0 x10_1).f0.f3) ((rd_T52 l0 x10_1).f1) ((rd_T52 l0 x10_1).f2) = some r) ∧ Aside0 (kq ≤ k1) ∧ Aside0 (Kd.R k52 52 wc w.heap.size (fun k_ => k_ ≠ gb207) u9 x9_1) ∧ Aside0 (wc.heap[gb205]? = some (.cells #[.string a1_0, .int .i64 a1_1, .int .i64 a1_2, .int .i64 a1_3] 24 (0, 0))) ∧ Aside0 (wc.heap[gb207]? = some (.cells #[.string ((rd_T52 l0 x10_1).f0.f0), .int .i64 ((rd_T52 l0 x10_1).f0.f1), .int .i64 ((rd_T52 l0 x10_1).f0.f2), .int .i64 ((rd_T52 l0 x10_1).f0.f3), .int .i64 ((rd_T52 l0 x10_1).f1), .int .i64 ((rd_T52 l0 x10_1).f2)] 52 (0, 0))) ∧ Aside0 (Below w.heap.size w wc))
          case first =>
            have H := HC8.out
            clear HC8
            by_cases c12 : (eqD24 ((rd_T52 l0 x10_1).f0.f0) a1_0 ((rd_T52 l0 x10_1).f0.f1) a1_1 ((rd_T52 l0 x10_1).f0.f2) a1_2 ((rd_T52 l0 x10_1).f0.f3) a1_3) = true
            · rw [if_pos c12] at H
              have c12b0 : (eqD24 ((rd_T52 l0 x10_1).f0.f0) a1_0 ((rd_T52 l0 x10_1).f0.f1) a1_1 ((rd_T52 l0 x10_1).f0.f2) a1_2 ((rd_T52 l0 x10_1).f0.f3) a1_3) = true := c12
              clear c12
              (first | rw [c12b0] | (simp only [i64_w, i32_w]; rw [c12b0]) | skip)
              have H' := Aside0.mk H
              clear H
              have hnb13 := NB207_205.out
              have hnc13 := NB205_207.out
              have hcz14_0 : w9.cell? ⟨gb207, 0, none⟩ = some (.string (⟨#[]⟩ : ByteArray)) := (blk_cell BK207.out 0).trans rfl
              have hcz14_1 : w9.cell? ⟨gb207, 1, none⟩ = some (.int .i64 0) := (blk_cell BK207.out 1).trans rfl
              have hcz14_2 : w9.cell? ⟨gb207, 2, none⟩ = some (.int .i64 0) := (blk_cell BK207.out 2).trans rfl
              have hcz14_3 : w9.cell? ⟨gb207, 3, none⟩ = some (.int .i64 0) := (blk_cell BK207.out 3).trans rfl
              have hcz14_4 : w9.cell? ⟨gb207, 4, none⟩ = some (.int .i64 0) := (blk_cell BK207.out 4).trans rfl
              have hcz14_5 : w9.cell? ⟨gb207, 5, none⟩ = some (.int .i64 0) := (blk_cell BK207.out 5).trans rfl
              have hfz14_0 := blk_frozen BK207.out 0
              have hfz14_1 := blk_frozen BK207.out 1
              have hfz14_2 := blk_frozen BK207.out 2
              have hfz14_3 := blk_frozen BK207.out 3
              have hfz14_4 := blk_frozen BK207.out 4
              have hfz14_5 := blk_frozen BK207.out 5
              have hcz15_0 : w9.cell? ⟨gb205, 0, none⟩ = some (.string a1_0) := (blk_cell BK205.out 0).trans rfl
              have hcz15_1 : w9.cell? ⟨gb205, 1, none⟩ = some (.int .i64 a1_1) := (blk_cell BK205.out 1).trans rfl
              have hcz15_2 : w9.cell? ⟨gb205, 2, none⟩ = some (.int .i64 a1_2) := (blk_cell BK205.out 2).trans rfl
              have hcz15_3 : w9.cell? ⟨gb205, 3, none⟩ = some (.int .i64 a1_3) := (blk_cell BK205.out 3).trans rfl
              have hfz15_0 := blk_frozen BK205.out 0
              have hfz15_1 := blk_frozen BK205.out 1
              have hfz15_2 := blk_frozen BK205.out 2
              have hfz15_3 := blk_frozen BK205.out 3
              go_wp2
              go_meet
              case rel => exact ⟨_, (a2), rf_, H', ⟨by have := HK1.out; first | omega | exact Nat.le_refl _⟩, ⟨by (with_reducible repeat (first | apply Kd.R_alloc | apply Kd.R_drewN | apply Kd.R_drew)); exact Kd.R_mono (Kd.R_far (p := ⟨gb207, 5, none⟩) (Kd.R_far (p := ⟨gb207, 4, none⟩) (Kd.R_far (p := ⟨gb207, 3, none⟩) (Kd.R_far (p := ⟨gb207, 2, none⟩) (Kd.R_far (p := ⟨gb207, 1, none⟩) (Kd.R_far (p := ⟨gb207, 0, none⟩) (Kd.R_mono HO_9.out (fun k_ hk => (⟨hk, hk.2⟩ : _ ∧ k_ ≠ gb207))) (fun _ hk => hk.2) (.string ((rd_T52 l0 x10_1).f0.f0))) (fun _ hk => hk.2) (.int .i64 ((rd_T52 l0 x10_1).f0.f1))) (fun _ hk => hk.2) (.int .i64 ((rd_T52 l0 x10_1).f0.f2))) (fun _ hk => hk.2) (.int .i64 ((rd_T52 l0 x10_1).f0.f3))) (fun _ hk => hk.2) (.int .i64 ((rd_T52 l0 x10_1).f1))) (fun _ hk => hk.2) (.int .i64 ((rd_T52 l0 x10_1).f2))) (fun _ hk => hk.1.2)⟩, ⟨by (with_reducible repeat (first | refine blk_drewN ?_ _ | refine blk_drew ?_ | refine blk_alloc ?_ _)); refine blk_far ?_ NB205_207.out _; (with_reducible repeat (first | refine blk_drewN ?_ _ | refine blk_drew ?_ | refine blk_alloc ?_ _)); refine blk_far ?_ NB205_207.out _; (with_reducible repeat (first | refine blk_drewN ?_ _ | refine blk_drew ?_ | refine blk_alloc ?_ _)); refine blk_far ?_ NB205_207.out _; (with_reducible repeat (first | refine blk_drewN ?_ _ | refine blk_drew ?_ | refine blk_alloc ?_ _)); refine blk_far ?_ NB205_207.out _; (with_reducible repeat (first | refine blk_drewN ?_ _ | refine blk_drew ?_ | refine blk_alloc ?_ _)); refine blk_far ?_ NB205_207.out _; (with_reducible repeat (first | refine blk_drewN ?_ _ | refine blk_drew ?_ | refine blk_alloc ?_ _)); refine blk_far ?_ NB205_207.out _; (with_reducible repeat (first | refine blk_drewN ?_ _ | refine blk_drew ?_ | refine blk_alloc ?_ _)); exact BK205.out⟩, ⟨by (with_reducible repeat (first | refine blk_drewN ?_ _ | refine blk_drew ?_ | refine blk_alloc ?_ _)); refine blk_put (cs := #[.string ((rd_T52 l0 x10_1).f0.f0), .int .i64 ((rd_T52 l0 x10_1).f0.f1), .int .i64 ((rd_T52 l0 x10_1).f0.f2), .int .i64 ((rd_T52 l0 x10_1).f0.f3), .int .i64 ((rd_T52 l0 x10_1).f1), .int .i64 0]) ?_ 5 _ rfl; (with_reducible repeat (first | refine blk_drewN ?_ _ | refine blk_drew ?_ | refine blk_alloc ?_ _)); refine blk_put (cs := #[.string ((rd_T52 l0 x10_1).f0.f0), .int .i64 ((rd_T52 l0 x10_1).f0.f1), .int .i64 ((rd_T52 l0 x10_1).f0.f2), .int .i64 ((rd_T52 l0 x10_1).f0.f3), .int .i64 0, .int .i64 0]) ?_ 4 _ rfl; (with_reducible repeat (first | refine blk_drewN ?_ _ | refine blk_drew ?_ | refine blk_alloc ?_ _)); refine blk_put (cs := #[.string ((rd_T52 l0 x10_1).f0.f0), .int .i64 ((rd_T52 l0 x10_1).f0.f1), .int .i64 ((rd_T52 l0 x10_1).f0.f2), .int .i64 0, .int .i64 0, .int .i64 0]) ?_ 3 _ rfl; (with_reducible repeat (first | refine blk_drewN ?_ _ | refine blk_drew ?_ | refine blk_alloc ?_ _)); refine blk_put (cs := #[.string ((rd_T52 l0 x10_1).f0.f0), .int .i64 ((rd_T52 l0 x10_1).f0.f1), .int .i64 0, .int .i64 0, .int .i64 0, .int .i64 0]) ?_ 2 _ rfl; (with_reducible repeat (first | refine blk_drewN ?_ _ | refine blk_drew ?_ | refine blk_alloc ?_ _)); refine blk_put (cs := #[.string ((rd_T52 l0 x10_1).f0.f0), .int .i64 0, .int .i64 0, .int .i64 0, .int .i64 0, .int .i64 0]) ?_ 1 _ rfl; (with_reducible repeat (first | refine blk_drewN ?_ _ | refine blk_drew ?_ | refine blk_alloc ?_ _)); refine blk_put (cs := #[.string (⟨#[]⟩ : ByteArray), .int .i64 0, .int .i64 0, .int .i64 0, .int .i64 0, .int .i64 0]) ?_ 0 _ rfl; (with_reducible repeat (first | refine blk_drewN ?_ _ | refine blk_drew ?_ | refine blk_alloc ?_ _)); exact BK207.out⟩, ⟨bz2 HB.out GE205.out GE207.out⟩⟩
            · rw [if_neg c12] at H
              have c12b0 : (eqD24 ((rd_T52 l0 x10_1).f0.f0) a1_0 ((rd_T52 l0 x10_1).f0.f1) a1_1 ((rd_T52 l0 x10_1).f0.f2) a1_2 ((rd_T52 l0 x10_1).f0.f3) a1_3) = false := by simpa using c12
              clear c12
              (first | rw [c12b0] | (simp only [i64_w, i32_w]; rw [c12b0]) | skip)
              have H' := Aside0.mk H
              clear H
              have hnb16 := NB207_205.out
              have hnc16 := NB205_207.out
              have hcz17_0 : w9.cell? ⟨gb207, 0, none⟩ = some (.string (⟨#[]⟩ : ByteArray)) := (blk_cell BK207.out 0).trans rfl
              have hcz17_1 : w9.cell? ⟨gb207, 1, none⟩ = some (.int .i64 0) := (blk_cell BK207.out 1).trans rfl
              have hcz17_2 : w9.cell? ⟨gb207, 2, none⟩ = some (.int .i64 0) := (blk_cell BK207.out 2).trans rfl
              have hcz17_3 : w9.cell? ⟨gb207, 3, none⟩ = some (.int .i64 0) := (blk_cell BK207.out 3).trans rfl
              have hcz17_4 : w9.cell? ⟨gb207, 4, none⟩ = some (.int .i64 0) := (blk_cell BK207.out 4).trans rfl
              have hcz17_5 : w9.cell? ⟨gb207, 5, none⟩ = some (.int .i64 0) := (blk_cell BK207.out 5).trans rfl
              have hfz17_0 := blk_frozen BK207.out 0
              have hfz17_1 := blk_frozen BK207.out 1
              have hfz17_2 := blk_frozen BK207.out 2
              have hfz17_3 := blk_frozen BK207.out 3
              have hfz17_4 := blk_frozen BK207.out 4
              have hfz17_5 := blk_frozen BK207.out 5
              have hcz18_0 : w9.cell? ⟨gb205, 0, none⟩ = some (.string a1_0) := (blk_cell BK205.out 0).trans rfl
              have hcz18_1 : w9.cell? ⟨gb205, 1, none⟩ = some (.int .i64 a1_1) := (blk_cell BK205.out 1).trans rfl
              have hcz18_2 : w9.cell? ⟨gb205, 2, none⟩ = some (.int .i64 a1_2) := (blk_cell BK205.out 2).trans rfl
              have hcz18_3 : w9.cell? ⟨gb205, 3, none⟩ = some (.int .i64 a1_3) := (blk_cell BK205.out 3).trans rfl
              have hfz18_0 := blk_frozen BK205.out 0
              have hfz18_1 := blk_frozen BK205.out 1
              have hfz18_2 := blk_frozen BK205.out 2
              have hfz18_3 := blk_frozen BK205.out 3
              go_wp2
              go_meet
              case rel => exact ⟨_, (false), rf_, H', ⟨by have := HK1.out; first | omega | exact Nat.le_refl _⟩, ⟨by (with_reducible repeat (first | apply Kd.R_alloc | apply Kd.R_drewN | apply Kd.R_drew)); exact Kd.R_mono (Kd.R_far (p := ⟨gb207, 5, none⟩) (Kd.R_far (p := ⟨gb207, 4, none⟩) (Kd.R_far (p := ⟨gb207, 3, none⟩) (Kd.R_far (p := ⟨gb207, 2, none⟩) (Kd.R_far (p := ⟨gb207, 1, none⟩) (Kd.R_far (p := ⟨gb207, 0, none⟩) (Kd.R_mono HO_9.out (fun k_ hk => (⟨hk, hk.2⟩ : _ ∧ k_ ≠ gb207))) (fun _ hk => hk.2) (.string ((rd_T52 l0 x10_1).f0.f0))) (fun _ hk => hk.2) (.int .i64 ((rd_T52 l0 x10_1).f0.f1))) (fun _ hk => hk.2) (.int .i64 ((rd_T52 l0 x10_1).f0.f2))) (fun _ hk => hk.2) (.int .i64 ((rd_T52 l0 x10_1).f0.f3))) (fun _ hk => hk.2) (.int .i64 ((rd_T52 l0 x10_1).f1))) (fun _ hk => hk.2) (.int .i64 ((rd_T52 l0 x10_1).f2))) (fun _ hk => hk.1.2)⟩, ⟨by (with_reducible repeat (first | refine blk_drewN ?_ _ | refine blk_drew ?_ | refine blk_alloc ?_ _)); refine blk_far ?_ NB205_207.out _; (with_reducible repeat (first | refine blk_drewN ?_ _ | refine blk_drew ?_ | refine blk_alloc ?_ _)); refine blk_far ?_ NB205_207.out _; (with_reducible repeat (first | refine blk_drewN ?_ _ | refine blk_drew ?_ | refine blk_alloc ?_ _)); refine blk_far ?_ NB205_207.out _; (with_reducible repeat (first | refine blk_drewN ?_ _ | refine blk_drew ?_ | refine blk_alloc ?_ _)); refine blk_far ?_ NB205_207.out _; (with_reducible repeat (first | refine blk_drewN ?_ _ | refine blk_drew ?_ | refine blk_alloc ?_ _)); refine blk_far ?_ NB205_207.out _; (with_reducible repeat (first | refine blk_drewN ?_ _ | refine blk_drew ?_ | refine blk_alloc ?_ _)); refine blk_far ?_ NB205_207.out _; (with_reducible repeat (first | refine blk_drewN ?_ _ | refine blk_drew ?_ | refine blk_alloc ?_ _)); exact BK205.out⟩, ⟨by (with_reducible repeat (first | refine blk_drewN ?_ _ | refine blk_drew ?_ | refine blk_alloc ?_ _)); refine blk_put (cs := #[.string ((rd_T52 l0 x10_1).f0.f0), .int .i64 ((rd_T52 l0 x10_1).f0.f1), .int .i64 ((rd_T52 l0 x10_1).f0.f2), .int .i64 ((rd_T52 l0 x10_1).f0.f3), .int .i64 ((rd_T52 l0 x10_1).f1), .int .i64 0]) ?_ 5 _ rfl; (with_reducible repeat (first | refine blk_drewN ?_ _ | refine blk_drew ?_ | refine blk_alloc ?_ _)); refine blk_put (cs := #[.string ((rd_T52 l0 x10_1).f0.f0), .int .i64 ((rd_T52 l0 x10_1).f0.f1), .int .i64 ((rd_T52 l0 x10_1).f0.f2), .int .i64 ((rd_T52 l0 x10_1).f0.f3), .int .i64 0, .int .i64 0]) ?_ 4 _ rfl; (with_reducible repeat (first | refine blk_drewN ?_ _ | refine blk_drew ?_ | refine blk_alloc ?_ _)); refine blk_put (cs := #[.string ((rd_T52 l0 x10_1).f0.f0), .int .i64 ((rd_T52 l0 x10_1).f0.f1), .int .i64 ((rd_T52 l0 x10_1).f0.f2), .int .i64 0, .int .i64 0, .int .i64 0]) ?_ 3 _ rfl; (with_reducible repeat (first | refine blk_drewN ?_ _ | refine blk_drew ?_ | refine blk_alloc ?_ _)); refine blk_put (cs := #[.string ((rd_T52 l0 x10_1).f0.f0), .int .i64 ((rd_T52 l0 x10_1).f0.f1), .int .i64 0, .int .i64 0, .int .i64 0, .int .i64 0]) ?_ 2 _ rfl; (with_reducible repeat (first | refine blk_drewN ?_ _ | refine blk_drew ?_ | refine blk_alloc ?_ _)); refine blk_put (cs := #[.string ((rd_T52 l0 x10_1).f0.f0), .int .i64 0, .int .i64 0, .int .i64 0, .int .i64 0, .int .i64 0]) ?_ 1 _ rfl; (with_reducible repeat (first | refine blk_drewN ?_ _ | refine blk_drew ?_ | refine blk_alloc ?_ _)); refine blk_put (cs := #[.string (⟨#[]⟩ : ByteArray), .int .i64 0, .int .i64 0, .int .i64 0, .int .i64 0, .int .i64 0]) ?_ 0 _ rfl; (with_reducible repeat (first | refine blk_drewN ?_ _ | refine blk_drew ?_ | refine blk_alloc ?_ _)); exact BK207.out⟩, ⟨bz2 HB.out GE205.out GE207.out⟩⟩
          case rest =>
            clear HC8
            try clear c1
            try clear p2
            try clear q2
            try clear hx2
            try clear c3
            try clear c6
            try clear c6b0
            try clear c7
            try clear c7b0
            try clear c10
            try clear c12
            try clear c12b0
            try clear c13
            try clear c16
            try clear hcz11_0
            try clear hcz11_1
            try clear hcz11_2
            try clear hcz11_3
            try clear hcz11_4
            try clear hcz11_5
            try clear hcz14_0
            try clear hcz14_1
            try clear hcz14_2
            try clear hcz14_3
            try clear hcz14_4
            try clear hcz14_5
            try clear hcz15_0
            try clear hcz15_1
            try clear hcz15_2
            try clear hcz15_3
            try clear hcz17_0
            try clear hcz17_1
            try clear hcz17_2
            try clear hcz17_3
            try clear hcz17_4
            try clear hcz17_5
            try clear hcz18_0
            try clear hcz18_1
            try clear hcz18_2
            try clear hcz18_3
            try clear hfz11_0
            try clear hfz11_1
            try clear hfz11_2
            try clear hfz11_3
            try clear hfz11_4
            try clear hfz11_5
            try clear hfz14_0
            try clear hfz14_1
            try clear hfz14_2
            try clear hfz14_3
            try clear hfz14_4
            try clear hfz14_5
            try clear hfz15_0
            try clear hfz15_1
            try clear hfz15_2
            try clear hfz15_3
            try clear hfz17_0
            try clear hfz17_1
            try clear hfz17_2
            try clear hfz17_3
            try clear hfz17_4
            try clear hfz17_5
            try clear hfz18_0
            try clear hfz18_1
            try clear hfz18_2
            try clear hfz18_3
            try clear hx206_0
            try clear hx206_1
            try clear hx206_2
            try clear hx206_3
            try clear hx206_4
            try clear hx206_5
            try clear p2
            try clear p206
            try clear q206
            obtain ⟨kq, x28_7, rfl, HA, HJ7, HO_9, BK205, BK207, HB⟩ := hcut
            cases kq with
            | zero => exact absurd HA.out (by simp [contangoref50_less.j1])
            | succ kj7 =>
              have H := HA.out
              clear HA
              simp only [contangoref50_less.j1] at H
              have HC19 := Aside0.mk H
              clear H
              go_upto_if 28 with (fail)
              go_cut [] (fun wc => ∃ (kq : Nat) (x208004_18 : Int), Aside0 (contangoref50_less.j2 kq l0 a2 a3 x9_1 x10_1 a1_0 a1_1 a1_2 a1_3 ((rd_T52 l0 x10_1).f0.f0) ((rd_T52 l0 x10_1).f0.f1) ((rd_T52 l0 x10_1).f0.f2) ((rd_T52 l0 x10_1).f0.f3) x208004_18 ((rd_T52 l0 x10_1).f2) = some r) ∧ Aside0 (kq ≤ kj7) ∧ Aside0 (Kd.R k52 52 wc w.heap.size (fun k_ => k_ ≠ gb207) u9 x9_1) ∧ Aside0 (wc.heap[gb205]? = some (.cells #[.string a1_0, .int .i64 a1_1, .int .i64 a1_2, .int .i64 a1_3] 24 (0, 0))) ∧ Aside0 (wc.heap[gb207]? = some (.cells #[.string ((rd_T52 l0 x10_1).f0.f0), .int .i64 ((rd_T52 l0 x10_1).f0.f1), .int .i64 ((rd_T52 l0 x10_1).f0.f2), .int .i64 ((rd_T52 l0 x10_1).f0.f3), .int .i64 x208004_18, .int .i64 ((rd_T52 l0 x10_1).f2)] 52 (0, 0))) ∧ Aside0 (Below w.heap.size w wc))
              case first =>
                have H := HC19.out
                clear HC19
                by_cases c20 : x28_7 = true
                · subst c20
                  have H1 : (contangoref50_less.j2 kj7 l0 a2 a3 x9_1 x10_1 a1_0 a1_1 a1_2 a1_3 ((rd_T52 l0 x10_1).f0.f0) ((rd_T52 l0 x10_1).f0.f1) ((rd_T52 l0 x10_1).f0.f2) ((rd_T52 l0 x10_1).f0.f3) (wrap64 (((rd_T52 l0 x10_1).f1) - a3)) ((rd_T52 l0 x10_1).f2)) = some r := by rw [if_pos rfl] at H; exact H
                  clear H
                  have H := H1
                  clear H1
                  have H' := Aside0.mk H
                  clear H
                  have hnb21 := NB207_205.out
                  have hnc21 := NB205_207.out
                  have hcz22_0 : wc.cell? ⟨gb207, 0, none⟩ = some (.string ((rd_T52 l0 x10_1).f0.f0)) := (blk_cell BK207.out 0).trans rfl
                  have hcz22_1 : wc.cell? ⟨gb207, 1, none⟩ = some (.int .i64 ((rd_T52 l0 x10_1).f0.f1)) := (blk_cell BK207.out 1).trans rfl
                  have hcz22_2 : wc.cell? ⟨gb207, 2, none⟩ = some (.int .i64 ((rd_T52 l0 x10_1).f0.f2)) := (blk_cell BK207.out 2).trans rfl
                  have hcz22_3 : wc.cell? ⟨gb207, 3, none⟩ = some (.int .i64 ((rd_T52 l0 x10_1).f0.f3)) := (blk_cell BK207.out 3).trans rfl
                  have hcz22_4 : wc.cell? ⟨gb207, 4, none⟩ = some (.int .i64 ((rd_T52 l0 x10_1).f1)) := (blk_cell BK207.out 4).trans rfl
                  have hcz22_5 : wc.cell? ⟨gb207, 5, none⟩ = some (.int .i64 ((rd_T52 l0 x10_1).f2)) := (blk_cell BK207.out 5).trans rfl
                  have hfz22_0 := blk_frozen BK207.out 0
                  have hfz22_1 := blk_frozen BK207.out 1
                  have hfz22_2 := blk_frozen BK207.out 2
                  have hfz22_3 := blk_frozen BK207.out 3
                  have hfz22_4 := blk_frozen BK207.out 4
                  have hfz22_5 := blk_frozen BK207.out 5
                  go_wp2
                  go_meet
                  case rel => exact ⟨_, (wrap64 (((rd_T52 l0 x10_1).f1) - a3)), H', ⟨by have := HK1.out; have := HJ7.out; first | omega | exact Nat.le_refl _⟩, ⟨by (with_reducible repeat (first | apply Kd.R_alloc | apply Kd.R_drewN | apply Kd.R_drew)); exact Kd.R_mono (Kd.R_far (p := ⟨gb207, 4, none⟩) (Kd.R_mono HO_9.out (fun k_ hk => (⟨hk, hk⟩ : _ ∧ k_ ≠ gb207))) (fun _ hk => hk.2) (.int .i64 (wrap64 (((rd_T52 l0 x10_1).f1) - a3)))) (fun _ hk => hk.1)⟩, ⟨by (with_reducible repeat (first | refine blk_drewN ?_ _ | refine blk_drew ?_ | refine blk_alloc ?_ _)); refine blk_far ?_ NB205_207.out _; (with_reducible repeat (first | refine blk_drewN ?_ _ | refine blk_drew ?_ | refine blk_alloc ?_ _)); exact BK205.out⟩, ⟨by (with_reducible repeat (first | refine blk_drewN ?_ _ | refine blk_drew ?_ | refine blk_alloc ?_ _)); refine blk_put (cs := #[.string ((rd_T52 l0 x10_1).f0.f0), .int .i64 ((rd_T52 l0 x10_1).f0.f1), .int .i64 ((rd_T52 l0 x10_1).f0.f2), .int .i64 ((rd_T52 l0 x10_1).f0.f3), .int .i64 ((rd_T52 l0 x10_1).f1), .int .i64 ((rd_T52 l0 x10_1).f2)]) ?_ 4 _ rfl; (with_reducible repeat (first | refine blk_drewN ?_ _ | refine blk_drew ?_ | refine blk_alloc ?_ _)); exact BK207.out⟩, ⟨bz2 HB.out GE205.out GE207.out⟩⟩
                · replace c20 := Bool.eq_false_iff.mpr c20
                  subst c20
                  have H1 : (contangoref50_less.j2 kj7 l0 a2 a3 x9_1 x10_1 a1_0 a1_1 a1_2 a1_3 ((rd_T52 l0 x10_1).f0.f0) ((rd_T52 l0 x10_1).f0.f1) ((rd_T52 l0 x10_1).f0.f2) ((rd_T52 l0 x10_1).f0.f3) ((rd_T52 l0 x10_1).f1) ((rd_T52 l0 x10_1).f2)) = some r := by rw [if_neg (show ¬ (false = true) by decide)] at H; exact H
                  clear H
                  have H := H1
                  clear H1
                  have H' := Aside0.mk H
                  clear H
                  go_wp2
                  go_meet
                  case rel => exact ⟨_, (((rd_T52 l0 x10_1).f1)), H', ⟨by have := HK1.out; have := HJ7.out; first | omega | exact Nat.le_refl _⟩, ⟨by (with_reducible repeat (first | apply Kd.R_alloc | apply Kd.R_drewN | apply Kd.R_drew)); exact HO_9.out⟩, ⟨by (with_reducible repeat (first | refine blk_drewN ?_ _ | refine blk_drew ?_ | refine blk_alloc ?_ _)); exact BK205.out⟩, ⟨by (with_reducible repeat (first | refine blk_drewN ?_ _ | refine blk_drew ?_ | refine blk_alloc ?_ _)); exact BK207.out⟩, ⟨bz2 HB.out GE205.out GE207.out⟩⟩
              case rest =>
                clear HC19
                try clear c1
                try clear c2
                try clear p2
                try clear q2
                try clear hx2
                try clear c3
                try clear c6
                try clear c6b0
                try clear p6
                try clear c7
                try clear c7b0
                try clear c10
                try clear c12
                try clear c12b0
                try clear c13
                try clear c16
                try clear c20
                try clear p20
                try clear q20
                try clear hx20
                try clear c21
                try clear hcz11_0
                try clear hcz11_1
                try clear hcz11_2
                try clear hcz11_3
                try clear hcz11_4
                try clear hcz11_5
                try clear hcz14_0
                try clear hcz14_1
                try clear hcz14_2
                try clear hcz14_3
                try clear hcz14_4
                try clear hcz14_5
                try clear hcz15_0
                try clear hcz15_1
                try clear hcz15_2
                try clear hcz15_3
                try clear hcz17_0
                try clear hcz17_1
                try clear hcz17_2
                try clear hcz17_3
                try clear hcz17_4
                try clear hcz17_5
                try clear hcz18_0
                try clear hcz18_1
                try clear hcz18_2
                try clear hcz18_3
                try clear hcz22_0
                try clear hcz22_1
                try clear hcz22_2
                try clear hcz22_3
                try clear hcz22_4
                try clear hcz22_5
                try clear hfz11_0
                try clear hfz11_1
                try clear hfz11_2
                try clear hfz11_3
                try clear hfz11_4
                try clear hfz11_5
                try clear hfz14_0
                try clear hfz14_1
                try clear hfz14_2
                try clear hfz14_3
                try clear hfz14_4
                try clear hfz14_5
                try clear hfz15_0
                try clear hfz15_1
                try clear hfz15_2
                try clear hfz15_3
                try clear hfz17_0
                try clear hfz17_1
                try clear hfz17_2
                try clear hfz17_3
                try clear hfz17_4
                try clear hfz17_5
                try clear hfz18_0
                try clear hfz18_1
                try clear hfz18_2
                try clear hfz18_3
                try clear hfz22_0
                try clear hfz22_1
                try clear hfz22_2
                try clear hfz22_3
                try clear hfz22_4
                try clear hfz22_5
                try clear hx206_0
                try clear hx206_1
                try clear hx206_2
                try clear hx206_3
                try clear hx206_4
                try clear hx206_5
                try clear p2
                try clear p206
                try clear q2
                try clear q206
                obtain ⟨kq, x208004_18, HA, HJ18, HO_9, BK205, BK207, HB⟩ := hcut
                cases kq with
                | zero => exact absurd HA.out (by simp [contangoref50_less.j2])
                | succ kj18 =>
                  have H := HA.out
                  clear HA
                  simp only [contangoref50_less.j2] at H
                  have HC23 := Aside0.mk H
                  clear H
                  go_upto_region 8 with (fail)
                  go_cut [41] (fun v41 wc => ∃ (kq : Nat) (x41_22 : Bool), v41 = .bool x41_22 ∧ Aside0 (contangoref50_less.j3 kq l0 a2 a3 x9_1 x10_1 x41_22 a1_0 a1_1 a1_2 a1_3 ((rd_T52 l0 x10_1).f0.f0) ((rd_T52 l0 x10_1).f0.f1) ((rd_T52 l0 x10_1).f0.f2) ((rd_T52 l0 x10_1).f0.f3) x208004_18 ((rd_T52 l0 x10_1).f2) = some r) ∧ Aside0 (kq ≤ kj18) ∧ Aside0 (Kd.R k52 52 wc w.heap.size (fun k_ => k_ ≠ gb207) u9 x9_1) ∧ Aside0 (wc.heap[gb205]? = some (.cells #[.string a1_0, .int .i64 a1_1, .int .i64 a1_2, .int .i64 a1_3] 24 (0, 0))) ∧ Aside0 (wc.heap[gb207]? = some (.cells #[.string ((rd_T52 l0 x10_1).f0.f0), .int .i64 ((rd_T52 l0 x10_1).f0.f1), .int .i64 ((rd_T52 l0 x10_1).f0.f2), .int .i64 ((rd_T52 l0 x10_1).f0.f3), .int .i64 x208004_18, .int .i64 ((rd_T52 l0 x10_1).f2)] 52 (0, 0))) ∧ Aside0 (Below w.heap.size w wc))
                  case first =>
                    have H := HC23.out
                    clear HC23
                    by_cases c24 : (eqD24 ((rd_T52 l0 x10_1).f0.f0) a1_0 ((rd_T52 l0 x10_1).f0.f1) a1_1 ((rd_T52 l0 x10_1).f0.f2) a1_2 ((rd_T52 l0 x10_1).f0.f3) a1_3) = true
                    · rw [if_pos c24] at H
                      have c24b0 : (eqD24 ((rd_T52 l0 x10_1).f0.f0) a1_0 ((rd_T52 l0 x10_1).f0.f1) a1_1 ((rd_T52 l0 x10_1).f0.f2) a1_2 ((rd_T52 l0 x10_1).f0.f3) a1_3) = true := c24
                      clear c24
                      (first | rw [c24b0] | (simp only [i64_w, i32_w]; rw [c24b0]) | skip)
                      have H' := Aside0.mk H
                      clear H
                      have hnb25 := NB207_205.out
                      have hnc25 := NB205_207.out
                      have hcz26_0 : wc.cell? ⟨gb207, 0, none⟩ = some (.string ((rd_T52 l0 x10_1).f0.f0)) := (blk_cell BK207.out 0).trans rfl
                      have hcz26_1 : wc.cell? ⟨gb207, 1, none⟩ = some (.int .i64 ((rd_T52 l0 x10_1).f0.f1)) := (blk_cell BK207.out 1).trans rfl
                      have hcz26_2 : wc.cell? ⟨gb207, 2, none⟩ = some (.int .i64 ((rd_T52 l0 x10_1).f0.f2)) := (blk_cell BK207.out 2).trans rfl
                      have hcz26_3 : wc.cell? ⟨gb207, 3, none⟩ = some (.int .i64 ((rd_T52 l0 x10_1).f0.f3)) := (blk_cell BK207.out 3).trans rfl
                      have hcz26_4 : wc.cell? ⟨gb207, 4, none⟩ = some (.int .i64 x208004_18) := (blk_cell BK207.out 4).trans rfl
                      have hcz26_5 : wc.cell? ⟨gb207, 5, none⟩ = some (.int .i64 ((rd_T52 l0 x10_1).f2)) := (blk_cell BK207.out 5).trans rfl
                      have hfz26_0 := blk_frozen BK207.out 0
                      have hfz26_1 := blk_frozen BK207.out 1
                      have hfz26_2 := blk_frozen BK207.out 2
                      have hfz26_3 := blk_frozen BK207.out 3
                      have hfz26_4 := blk_frozen BK207.out 4
                      have hfz26_5 := blk_frozen BK207.out 5
                      have hcz27_0 : wc.cell? ⟨gb205, 0, none⟩ = some (.string a1_0) := (blk_cell BK205.out 0).trans rfl
                      have hcz27_1 : wc.cell? ⟨gb205, 1, none⟩ = some (.int .i64 a1_1) := (blk_cell BK205.out 1).trans rfl
                      have hcz27_2 : wc.cell? ⟨gb205, 2, none⟩ = some (.int .i64 a1_2) := (blk_cell BK205.out 2).trans rfl
                      have hcz27_3 : wc.cell? ⟨gb205, 3, none⟩ = some (.int .i64 a1_3) := (blk_cell BK205.out 3).trans rfl
                      have hfz27_0 := blk_frozen BK205.out 0
                      have hfz27_1 := blk_frozen BK205.out 1
                      have hfz27_2 := blk_frozen BK205.out 2
                      have hfz27_3 := blk_frozen BK205.out 3
                      go_wp2
                      go_meet
                      case rel => exact ⟨_, (!a2), rf_, H', ⟨by have := HK1.out; have := HJ7.out; have := HJ18.out; first | omega | exact Nat.le_refl _⟩, ⟨by (with_reducible repeat (first | apply Kd.R_alloc | apply Kd.R_drewN | apply Kd.R_drew)); exact HO_9.out⟩, ⟨by (with_reducible repeat (first | refine blk_drewN ?_ _ | refine blk_drew ?_ | refine blk_alloc ?_ _)); exact BK205.out⟩, ⟨by (with_reducible repeat (first | refine blk_drewN ?_ _ | refine blk_drew ?_ | refine blk_alloc ?_ _)); exact BK207.out⟩, ⟨bz2 HB.out GE205.out GE207.out⟩⟩
                    · rw [if_neg c24] at H
                      have c24b0 : (eqD24 ((rd_T52 l0 x10_1).f0.f0) a1_0 ((rd_T52 l0 x10_1).f0.f1) a1_1 ((rd_T52 l0 x10_1).f0.f2) a1_2 ((rd_T52 l0 x10_1).f0.f3) a1_3) = false := by simpa using c24
                      clear c24
                      (first | rw [c24b0] | (simp only [i64_w, i32_w]; rw [c24b0]) | skip)
                      have H' := Aside0.mk H
                      clear H
                      have hnb28 := NB207_205.out
                      have hnc28 := NB205_207.out
                      have hcz29_0 : wc.cell? ⟨gb207, 0, none⟩ = some (.string ((rd_T52 l0 x10_1).f0.f0)) := (blk_cell BK207.out 0).trans rfl
                      have hcz29_1 : wc.cell? ⟨gb207, 1, none⟩ = some (.int .i64 ((rd_T52 l0 x10_1).f0.f1)) := (blk_cell BK207.out 1).trans rfl
                      have hcz29_2 : wc.cell? ⟨gb207, 2, none⟩ = some (.int .i64 ((rd_T52 l0 x10_1).f0.f2)) := (blk_cell BK207.out 2).trans rfl
                      have hcz29_3 : wc.cell? ⟨gb207, 3, none⟩ = some (.int .i64 ((rd_T52 l0 x10_1).f0.f3)) := (blk_cell BK207.out 3).trans rfl
                      have hcz29_4 : wc.cell? ⟨gb207, 4, none⟩ = some (.int .i64 x208004_18) := (blk_cell BK207.out 4).trans rfl
                      have hcz29_5 : wc.cell? ⟨gb207, 5, none⟩ = some (.int .i64 ((rd_T52 l0 x10_1).f2)) := (blk_cell BK207.out 5).trans rfl
                      have hfz29_0 := blk_frozen BK207.out 0
                      have hfz29_1 := blk_frozen BK207.out 1
                      have hfz29_2 := blk_frozen BK207.out 2
                      have hfz29_3 := blk_frozen BK207.out 3
                      have hfz29_4 := blk_frozen BK207.out 4
                      have hfz29_5 := blk_frozen BK207.out 5
                      have hcz30_0 : wc.cell? ⟨gb205, 0, none⟩ = some (.string a1_0) := (blk_cell BK205.out 0).trans rfl
                      have hcz30_1 : wc.cell? ⟨gb205, 1, none⟩ = some (.int .i64 a1_1) := (blk_cell BK205.out 1).trans rfl
                      have hcz30_2 : wc.cell? ⟨gb205, 2, none⟩ = some (.int .i64 a1_2) := (blk_cell BK205.out 2).trans rfl
                      have hcz30_3 : wc.cell? ⟨gb205, 3, none⟩ = some (.int .i64 a1_3) := (blk_cell BK205.out 3).trans rfl
                      have hfz30_0 := blk_frozen BK205.out 0
                      have hfz30_1 := blk_frozen BK205.out 1
                      have hfz30_2 := blk_frozen BK205.out 2
                      have hfz30_3 := blk_frozen BK205.out 3
                      go_wp2
                      go_meet
                      case rel => exact ⟨_, (false), rf_, H', ⟨by have := HK1.out; have := HJ7.out; have := HJ18.out; first | omega | exact Nat.le_refl _⟩, ⟨by (with_reducible repeat (first | apply Kd.R_alloc | apply Kd.R_drewN | apply Kd.R_drew)); exact HO_9.out⟩, ⟨by (with_reducible repeat (first | refine blk_drewN ?_ _ | refine blk_drew ?_ | refine blk_alloc ?_ _)); exact BK205.out⟩, ⟨by (with_reducible repeat (first | refine blk_drewN ?_ _ | refine blk_drew ?_ | refine blk_alloc ?_ _)); exact BK207.out⟩, ⟨bz2 HB.out GE205.out GE207.out⟩⟩
                  case rest =>
                    clear HC23
                    try clear c1
                    try clear c2
                    try clear p2
                    try clear q2
                    try clear hx2
                    try clear c3
                    try clear c6
                    try clear c6b0
                    try clear p6
                    try clear c7
                    try clear c7b0
                    try clear c10
                    try clear c12
                    try clear c12b0
                    try clear c13
                    try clear c16
                    try clear c20
                    try clear p20
                    try clear q20
                    try clear hx20
                    try clear c21
                    try clear c24
                    try clear c24b0
                    try clear c25
                    try clear c28
                    try clear hcz11_0
                    try clear hcz11_1
                    try clear hcz11_2
                    try clear hcz11_3
                    try clear hcz11_4
                    try clear hcz11_5
                    try clear hcz14_0
                    try clear hcz14_1
                    try clear hcz14_2
                    try clear hcz14_3
                    try clear hcz14_4
                    try clear hcz14_5
                    try clear hcz15_0
                    try clear hcz15_1
                    try clear hcz15_2
                    try clear hcz15_3
                    try clear hcz17_0
                    try clear hcz17_1
                    try clear hcz17_2
                    try clear hcz17_3
                    try clear hcz17_4
                    try clear hcz17_5
                    try clear hcz18_0
                    try clear hcz18_1
                    try clear hcz18_2
                    try clear hcz18_3
                    try clear hcz22_0
                    try clear hcz22_1
                    try clear hcz22_2
                    try clear hcz22_3
                    try clear hcz22_4
                    try clear hcz22_5
                    try clear hcz26_0
                    try clear hcz26_1
                    try clear hcz26_2
                    try clear hcz26_3
                    try clear hcz26_4
                    try clear hcz26_5
                    try clear hcz27_0
                    try clear hcz27_1
                    try clear hcz27_2
                    try clear hcz27_3
                    try clear hcz29_0
                    try clear hcz29_1
                    try clear hcz29_2
                    try clear hcz29_3
                    try clear hcz29_4
                    try clear hcz29_5
                    try clear hcz30_0
                    try clear hcz30_1
                    try clear hcz30_2
                    try clear hcz30_3
                    try clear hfz11_0
                    try clear hfz11_1
                    try clear hfz11_2
                    try clear hfz11_3
                    try clear hfz11_4
                    try clear hfz11_5
                    try clear hfz14_0
                    try clear hfz14_1
                    try clear hfz14_2
                    try clear hfz14_3
                    try clear hfz14_4
                    try clear hfz14_5
                    try clear hfz15_0
                    try clear hfz15_1
                    try clear hfz15_2
                    try clear hfz15_3
                    try clear hfz17_0
                    try clear hfz17_1
                    try clear hfz17_2
                    try clear hfz17_3
                    try clear hfz17_4
                    try clear hfz17_5
                    try clear hfz18_0
                    try clear hfz18_1
                    try clear hfz18_2
                    try clear hfz18_3
                    try clear hfz22_0
                    try clear hfz22_1
                    try clear hfz22_2
                    try clear hfz22_3
                    try clear hfz22_4
                    try clear hfz22_5
                    try clear hfz26_0
                    try clear hfz26_1
                    try clear hfz26_2
                    try clear hfz26_3
                    try clear hfz26_4
                    try clear hfz26_5
                    try clear hfz27_0
                    try clear hfz27_1
                    try clear hfz27_2
                    try clear hfz27_3
                    try clear hfz29_0
                    try clear hfz29_1
                    try clear hfz29_2
                    try clear hfz29_3
                    try clear hfz29_4
                    try clear hfz29_5
                    try clear hfz30_0
                    try clear hfz30_1
                    try clear hfz30_2
                    try clear hfz30_3
                    try clear hx206_0
                    try clear hx206_1
                    try clear hx206_2
                    try clear hx206_3
                    try clear hx206_4
                    try clear hx206_5
                    try clear p2
                    try clear p20
                    try clear p206
                    try clear p6
                    try clear q2
                    try clear q20
                    try clear q206
                    obtain ⟨kq, x41_22, rfl, HA, HJ22, HO_9, BK205, BK207, HB⟩ := hcut
                    cases kq with
                    | zero => exact absurd HA.out (by simp [contangoref50_less.j3])
                    | succ kj22 =>
                      have H := HA.out
                      clear HA
                      simp only [contangoref50_less.j3] at H
                      by_cases c31 : x41_22 = true
                      · subst c31
                        have H1 : (if x208004_18 > 0 then (if x9_1.length < 2513169434916 then (contangoref50_less.l0 kj22 l0 a2 a3 (x9_1 ++ [(⟨(⟨((rd_T52 l0 x10_1).f0.f0), ((rd_T52 l0 x10_1).f0.f1), ((rd_T52 l0 x10_1).f0.f2), ((rd_T52 l0 x10_1).f0.f3)⟩ : S24), x208004_18, wrap64 (((rd_T52 l0 x10_1).f2) - a3)⟩ : S52)]) (wrap64 (x10_1 + 1)) a1_0 a1_1 a1_2 a1_3) else (none)) else (if (wrap64 (((rd_T52 l0 x10_1).f2) - a3)) > 0 then (if x9_1.length < 2513169434916 then (contangoref50_less.l0 kj22 l0 a2 a3 (x9_1 ++ [(⟨(⟨((rd_T52 l0 x10_1).f0.f0), ((rd_T52 l0 x10_1).f0.f1), ((rd_T52 l0 x10_1).f0.f2), ((rd_T52 l0 x10_1).f0.f3)⟩ : S24), x208004_18, wrap64 (((rd_T52 l0 x10_1).f2) - a3)⟩ : S52)]) (wrap64 (x10_1 + 1)) a1_0 a1_1 a1_2 a1_3) else (none)) else (contangoref50_less.l0 kj22 l0 a2 a3 x9_1 (wrap64 (x10_1 + 1)) a1_0 a1_1 a1_2 a1_3))) = some r := by rw [if_pos rfl] at H; exact H
                        clear H
                        have H := H1
                        clear H1
                        by_cases c32 : x208004_18 > 0
                        · rw [if_pos c32] at H
                          have c32b0 : decide (0 < x208004_18) = true := decide_eq_true c32
                          clear c32
                          by_cases c33 : x9_1.length < 2513169434916
                          · rw [if_pos c33] at H
                            have LMc33 := Aside0.mk c33
                            clear c33
                            obtain ⟨y208, hy208⟩ : ∃ y_ : List (S52), y_ = (x9_1 ++ [(⟨(⟨((rd_T52 l0 x10_1).f0.f0), ((rd_T52 l0 x10_1).f0.f1), ((rd_T52 l0 x10_1).f0.f2), ((rd_T52 l0 x10_1).f0.f3)⟩ : S24), x208004_18, wrap64 (((rd_T52 l0 x10_1).f2) - a3)⟩ : S52)]) := ⟨_, rfl⟩
                            replace H : (contangoref50_less.l0 kj22 l0 a2 a3 y208 (wrap64 (x10_1 + 1)) a1_0 a1_1 a1_2 a1_3) = some r := by first | (rw [hy208]; with_reducible exact H) | (have H2_ := (Option.bind_some _ _).symm.trans H; rw [hy208]; with_reducible exact H2_) | (have H2_ := (Option.bind_some _ _).symm.trans H; with_reducible exact H2_) | with_reducible exact H | (rw [hy208]; exact H) | exact H
                            have Ny208 := Aside0.mk hy208
                            clear hy208
                            have H' := Aside0.mk H
                            clear H
                            have hnb34 := NB207_205.out
                            have hnc34 := NB205_207.out
                            have hcz35_0 : wc.cell? ⟨gb207, 0, none⟩ = some (.string ((rd_T52 l0 x10_1).f0.f0)) := (blk_cell BK207.out 0).trans rfl
                            have hcz35_1 : wc.cell? ⟨gb207, 1, none⟩ = some (.int .i64 ((rd_T52 l0 x10_1).f0.f1)) := (blk_cell BK207.out 1).trans rfl
                            have hcz35_2 : wc.cell? ⟨gb207, 2, none⟩ = some (.int .i64 ((rd_T52 l0 x10_1).f0.f2)) := (blk_cell BK207.out 2).trans rfl
                            have hcz35_3 : wc.cell? ⟨gb207, 3, none⟩ = some (.int .i64 ((rd_T52 l0 x10_1).f0.f3)) := (blk_cell BK207.out 3).trans rfl
                            have hcz35_4 : wc.cell? ⟨gb207, 4, none⟩ = some (.int .i64 x208004_18) := (blk_cell BK207.out 4).trans rfl
                            have hcz35_5 : wc.cell? ⟨gb207, 5, none⟩ = some (.int .i64 ((rd_T52 l0 x10_1).f2)) := (blk_cell BK207.out 5).trans rfl
                            have hfz35_0 := blk_frozen BK207.out 0
                            have hfz35_1 := blk_frozen BK207.out 1
                            have hfz35_2 := blk_frozen BK207.out 2
                            have hfz35_3 := blk_frozen BK207.out 3
                            have hfz35_4 := blk_frozen BK207.out 4
                            have hfz35_5 := blk_frozen BK207.out 5
                            go_wp2_with (first | ((with_reducible refine gate_builtin (b := .append) (xs := #[.tmp 55, .tmp 57]) rfl ?_); at_builtin; refine Kd.R_append k52 (w0 := w) w.heap.size rfl (.tmp 55) (.tmp 57) 56 52 (.agg #[(.string ⟨#[]⟩), (.int .i64 0), (.int .i64 0), (.int .i64 0), (.int .i64 0), (.int .i64 0)]) 56 rfl Try.underlying56 info52 rfl (by decide) (by omega) u9 x9_1 (⟨(⟨((rd_T52 l0 x10_1).f0.f0), ((rd_T52 l0 x10_1).f0.f1), ((rd_T52 l0 x10_1).f0.f2), ((rd_T52 l0 x10_1).f0.f3)⟩ : S24), x208004_18, wrap64 (((rd_T52 l0 x10_1).f2) - a3)⟩ : S52) [.string ((rd_T52 l0 x10_1).f0.f0), .int .i64 ((rd_T52 l0 x10_1).f0.f1), .int .i64 ((rd_T52 l0 x10_1).f0.f2), .int .i64 ((rd_T52 l0 x10_1).f0.f3), .int .i64 x208004_18, .int .i64 (wrap64 (((rd_T52 l0 x10_1).f2) - a3))] (fun k_ => k_ ≠ gb207) (fun _ => False) rfl (by first | (go_simp; done) | (go_simp; rfl)) ?aP (fun _ hk => hk.elim) ?aF ?aO ?aB ?aS ?aL ?_; (case aP => exact k52_mkM _ _ _ (⟨(⟨((rd_T52 l0 x10_1).f0.f0), ((rd_T52 l0 x10_1).f0.f1), ((rd_T52 l0 x10_1).f0.f2), ((rd_T52 l0 x10_1).f0.f3)⟩ : S24), x208004_18, wrap64 (((rd_T52 l0 x10_1).f2) - a3)⟩ : S52)); (case aB => exact (bz2 HB.out GE205.out GE207.out)); (case aF => exact (fun k_ hk => Kd.freshB (g := gb207) (o := .cells #[.string ((rd_T52 l0 x10_1).f0.f0), .int .i64 ((rd_T52 l0 x10_1).f0.f1), .int .i64 ((rd_T52 l0 x10_1).f0.f2), .int .i64 ((rd_T52 l0 x10_1).f0.f3), .int .i64 x208004_18, .int .i64 (wrap64 (((rd_T52 l0 x10_1).f2) - a3))] 52 (0, 0)) (by (with_reducible repeat (first | refine blk_drewN ?_ _ | refine blk_drew ?_ | refine blk_alloc ?_ _)); refine blk_put (cs := #[.string ((rd_T52 l0 x10_1).f0.f0), .int .i64 ((rd_T52 l0 x10_1).f0.f1), .int .i64 ((rd_T52 l0 x10_1).f0.f2), .int .i64 ((rd_T52 l0 x10_1).f0.f3), .int .i64 x208004_18, .int .i64 ((rd_T52 l0 x10_1).f2)]) ?_ 5 _ rfl; (with_reducible repeat (first | refine blk_drewN ?_ _ | refine blk_drew ?_ | refine blk_alloc ?_ _)); exact BK207.out) k_ hk)); (case aO => exact (by (with_reducible repeat (first | apply Kd.R_alloc | apply Kd.R_drewN | apply Kd.R_drew)); exact Kd.R_mono (Kd.R_far (p := ⟨gb207, 5, none⟩) (Kd.R_mono HO_9.out (fun k_ hk => (⟨hk, hk⟩ : _ ∧ k_ ≠ gb207))) (fun _ hk => hk.2) (.int .i64 (wrap64 (((rd_T52 l0 x10_1).f2) - a3)))) (fun _ hk => hk.1))); (case aS => exact (below_size (bz2 HB.out GE205.out GE207.out))); (case aL => have := LMc33.out; omega); intro v209 w36 ho hb hg hat; rw [← Ny208.out] at ho; have n0_ := Aside0.mk (blk_grown (g := gb205) (o := .cells #[.string a1_0, .int .i64 a1_1, .int .i64 a1_2, .int .i64 a1_3] 24 (0, 0)) (by (with_reducible repeat (first | refine blk_drewN ?_ _ | refine blk_drew ?_ | refine blk_alloc ?_ _)); refine blk_far ?_ NB205_207.out _; (with_reducible repeat (first | refine blk_drewN ?_ _ | refine blk_drew ?_ | refine blk_alloc ?_ _)); exact BK205.out) hg (Kd.R_ne HO_9.out BK205.out (by decide))); have n1_ := Aside0.mk (blk_grown (g := gb207) (o := .cells #[.string ((rd_T52 l0 x10_1).f0.f0), .int .i64 ((rd_T52 l0 x10_1).f0.f1), .int .i64 ((rd_T52 l0 x10_1).f0.f2), .int .i64 ((rd_T52 l0 x10_1).f0.f3), .int .i64 x208004_18, .int .i64 (wrap64 (((rd_T52 l0 x10_1).f2) - a3))] 52 (0, 0)) (by (with_reducible repeat (first | refine blk_drewN ?_ _ | refine blk_drew ?_ | refine blk_alloc ?_ _)); refine blk_put (cs := #[.string ((rd_T52 l0 x10_1).f0.f0), .int .i64 ((rd_T52 l0 x10_1).f0.f1), .int .i64 ((rd_T52 l0 x10_1).f0.f2), .int .i64 ((rd_T52 l0 x10_1).f0.f3), .int .i64 x208004_18, .int .i64 ((rd_T52 l0 x10_1).f2)]) ?_ 5 _ rfl; (with_reducible repeat (first | refine blk_drewN ?_ _ | refine blk_drew ?_ | refine blk_alloc ?_ _)); exact BK207.out) hg (Kd.R_away HO_9.out (fun _ hk => hk))); have n2_ := Aside0.mk (hb); have n3_ := Aside0.mk (ho); clear BK205; clear BK207; clear HB; clear HO_9; have BK205 := n0_; have BK207 := n1_; have HB := n2_; have HO210 := n3_; clear n0_ n1_ n2_ n3_; clear ho hb hg hat))
                            go_roundg kj22
                            case measure => have := HK1.out; have := HJ7.out; have := HJ18.out; have := HJ22.out; omega
                            case rel => exact ⟨(y208), (wrap64 (x10_1 + 1)), rf_, H', ⟨by have := HK1.out; have := HJ7.out; have := HJ18.out; have := HJ22.out; omega⟩, ⟨by (with_reducible repeat (first | apply Kd.R_alloc | apply Kd.R_drewN | apply Kd.R_drew)); exact Kd.R_mono HO210.out (fun _ hk => trivial)⟩, ⟨by (with_reducible repeat (first | refine blk_drewN ?_ _ | refine blk_drew ?_ | refine blk_alloc ?_ _)); exact BK205.out⟩, ⟨bz2 HB.out GE205.out GE207.out⟩⟩
                          · rw [if_neg c33] at H
                            exact absurd H (by simp)
                        · rw [if_neg c32] at H
                          have c32b0 : decide (0 < x208004_18) = false := decide_eq_false c32
                          clear c32
                          by_cases c37 : (wrap64 (((rd_T52 l0 x10_1).f2) - a3)) > 0
                          · rw [if_pos c37] at H
                            have c37b0 : decide (0 < (wrap64 (((rd_T52 l0 x10_1).f2) - a3))) = true := decide_eq_true c37
                            clear c37
                            by_cases c38 : x9_1.length < 2513169434916
                            · rw [if_pos c38] at H
                              have LMc38 := Aside0.mk c38
                              clear c38
                              obtain ⟨y211, hy211⟩ : ∃ y_ : List (S52), y_ = (x9_1 ++ [(⟨(⟨((rd_T52 l0 x10_1).f0.f0), ((rd_T52 l0 x10_1).f0.f1), ((rd_T52 l0 x10_1).f0.f2), ((rd_T52 l0 x10_1).f0.f3)⟩ : S24), x208004_18, wrap64 (((rd_T52 l0 x10_1).f2) - a3)⟩ : S52)]) := ⟨_, rfl⟩
                              replace H : (contangoref50_less.l0 kj22 l0 a2 a3 y211 (wrap64 (x10_1 + 1)) a1_0 a1_1 a1_2 a1_3) = some r := by first | (rw [hy211]; with_reducible exact H) | (have H2_ := (Option.bind_some _ _).symm.trans H; rw [hy211]; with_reducible exact H2_) | (have H2_ := (Option.bind_some _ _).symm.trans H; with_reducible exact H2_) | with_reducible exact H | (rw [hy211]; exact H) | exact H
                              have Ny211 := Aside0.mk hy211
                              clear hy211
                              have H' := Aside0.mk H
                              clear H
                              have hnb39 := NB207_205.out
                              have hnc39 := NB205_207.out
                              have hcz40_0 : wc.cell? ⟨gb207, 0, none⟩ = some (.string ((rd_T52 l0 x10_1).f0.f0)) := (blk_cell BK207.out 0).trans rfl
                              have hcz40_1 : wc.cell? ⟨gb207, 1, none⟩ = some (.int .i64 ((rd_T52 l0 x10_1).f0.f1)) := (blk_cell BK207.out 1).trans rfl
                              have hcz40_2 : wc.cell? ⟨gb207, 2, none⟩ = some (.int .i64 ((rd_T52 l0 x10_1).f0.f2)) := (blk_cell BK207.out 2).trans rfl
                              have hcz40_3 : wc.cell? ⟨gb207, 3, none⟩ = some (.int .i64 ((rd_T52 l0 x10_1).f0.f3)) := (blk_cell BK207.out 3).trans rfl
                              have hcz40_4 : wc.cell? ⟨gb207, 4, none⟩ = some (.int .i64 x208004_18) := (blk_cell BK207.out 4).trans rfl
                              have hcz40_5 : wc.cell? ⟨gb207, 5, none⟩ = some (.int .i64 ((rd_T52 l0 x10_1).f2)) := (blk_cell BK207.out 5).trans rfl
                              have hfz40_0 := blk_frozen BK207.out 0
                              have hfz40_1 := blk_frozen BK207.out 1
                              have hfz40_2 := blk_frozen BK207.out 2
                              have hfz40_3 := blk_frozen BK207.out 3
                              have hfz40_4 := blk_frozen BK207.out 4
                              have hfz40_5 := blk_frozen BK207.out 5
                              go_wp2_with (first | ((with_reducible refine gate_builtin (b := .append) (xs := #[.tmp 55, .tmp 57]) rfl ?_); at_builtin; refine Kd.R_append k52 (w0 := w) w.heap.size rfl (.tmp 55) (.tmp 57) 56 52 (.agg #[(.string ⟨#[]⟩), (.int .i64 0), (.int .i64 0), (.int .i64 0), (.int .i64 0), (.int .i64 0)]) 56 rfl Try.underlying56 info52 rfl (by decide) (by omega) u9 x9_1 (⟨(⟨((rd_T52 l0 x10_1).f0.f0), ((rd_T52 l0 x10_1).f0.f1), ((rd_T52 l0 x10_1).f0.f2), ((rd_T52 l0 x10_1).f0.f3)⟩ : S24), x208004_18, wrap64 (((rd_T52 l0 x10_1).f2) - a3)⟩ : S52) [.string ((rd_T52 l0 x10_1).f0.f0), .int .i64 ((rd_T52 l0 x10_1).f0.f1), .int .i64 ((rd_T52 l0 x10_1).f0.f2), .int .i64 ((rd_T52 l0 x10_1).f0.f3), .int .i64 x208004_18, .int .i64 (wrap64 (((rd_T52 l0 x10_1).f2) - a3))] (fun k_ => k_ ≠ gb207) (fun _ => False) rfl (by first | (go_simp; done) | (go_simp; rfl)) ?aP (fun _ hk => hk.elim) ?aF ?aO ?aB ?aS ?aL ?_; (case aP => exact k52_mkM _ _ _ (⟨(⟨((rd_T52 l0 x10_1).f0.f0), ((rd_T52 l0 x10_1).f0.f1), ((rd_T52 l0 x10_1).f0.f2), ((rd_T52 l0 x10_1).f0.f3)⟩ : S24), x208004_18, wrap64 (((rd_T52 l0 x10_1).f2) - a3)⟩ : S52)); (case aB => exact (bz2 HB.out GE205.out GE207.out)); (case aF => exact (fun k_ hk => Kd.freshB (g := gb207) (o := .cells #[.string ((rd_T52 l0 x10_1).f0.f0), .int .i64 ((rd_T52 l0 x10_1).f0.f1), .int .i64 ((rd_T52 l0 x10_1).f0.f2), .int .i64 ((rd_T52 l0 x10_1).f0.f3), .int .i64 x208004_18, .int .i64 (wrap64 (((rd_T52 l0 x10_1).f2) - a3))] 52 (0, 0)) (by (with_reducible repeat (first | refine blk_drewN ?_ _ | refine blk_drew ?_ | refine blk_alloc ?_ _)); refine blk_put (cs := #[.string ((rd_T52 l0 x10_1).f0.f0), .int .i64 ((rd_T52 l0 x10_1).f0.f1), .int .i64 ((rd_T52 l0 x10_1).f0.f2), .int .i64 ((rd_T52 l0 x10_1).f0.f3), .int .i64 x208004_18, .int .i64 ((rd_T52 l0 x10_1).f2)]) ?_ 5 _ rfl; (with_reducible repeat (first | refine blk_drewN ?_ _ | refine blk_drew ?_ | refine blk_alloc ?_ _)); exact BK207.out) k_ hk)); (case aO => exact (by (with_reducible repeat (first | apply Kd.R_alloc | apply Kd.R_drewN | apply Kd.R_drew)); exact Kd.R_mono (Kd.R_far (p := ⟨gb207, 5, none⟩) (Kd.R_mono HO_9.out (fun k_ hk => (⟨hk, hk⟩ : _ ∧ k_ ≠ gb207))) (fun _ hk => hk.2) (.int .i64 (wrap64 (((rd_T52 l0 x10_1).f2) - a3)))) (fun _ hk => hk.1))); (case aS => exact (below_size (bz2 HB.out GE205.out GE207.out))); (case aL => have := LMc38.out; omega); intro v212 w41 ho hb hg hat; rw [← Ny211.out] at ho; have n0_ := Aside0.mk (blk_grown (g := gb205) (o := .cells #[.string a1_0, .int .i64 a1_1, .int .i64 a1_2, .int .i64 a1_3] 24 (0, 0)) (by (with_reducible repeat (first | refine blk_drewN ?_ _ | refine blk_drew ?_ | refine blk_alloc ?_ _)); refine blk_far ?_ NB205_207.out _; (with_reducible repeat (first | refine blk_drewN ?_ _ | refine blk_drew ?_ | refine blk_alloc ?_ _)); exact BK205.out) hg (Kd.R_ne HO_9.out BK205.out (by decide))); have n1_ := Aside0.mk (blk_grown (g := gb207) (o := .cells #[.string ((rd_T52 l0 x10_1).f0.f0), .int .i64 ((rd_T52 l0 x10_1).f0.f1), .int .i64 ((rd_T52 l0 x10_1).f0.f2), .int .i64 ((rd_T52 l0 x10_1).f0.f3), .int .i64 x208004_18, .int .i64 (wrap64 (((rd_T52 l0 x10_1).f2) - a3))] 52 (0, 0)) (by (with_reducible repeat (first | refine blk_drewN ?_ _ | refine blk_drew ?_ | refine blk_alloc ?_ _)); refine blk_put (cs := #[.string ((rd_T52 l0 x10_1).f0.f0), .int .i64 ((rd_T52 l0 x10_1).f0.f1), .int .i64 ((rd_T52 l0 x10_1).f0.f2), .int .i64 ((rd_T52 l0 x10_1).f0.f3), .int .i64 x208004_18, .int .i64 ((rd_T52 l0 x10_1).f2)]) ?_ 5 _ rfl; (with_reducible repeat (first | refine blk_drewN ?_ _ | refine blk_drew ?_ | refine blk_alloc ?_ _)); exact BK207.out) hg (Kd.R_away HO_9.out (fun _ hk => hk))); have n2_ := Aside0.mk (hb); have n3_ := Aside0.mk (ho); clear BK205; clear BK207; clear HB; clear HO_9; have BK205 := n0_; have BK207 := n1_; have HB := n2_; have HO213 := n3_; clear n0_ n1_ n2_ n3_; clear ho hb hg hat))
                              go_roundg kj22
                              case measure => have := HK1.out; have := HJ7.out; have := HJ18.out; have := HJ22.out; omega
                              case rel => exact ⟨(y211), (wrap64 (x10_1 + 1)), rf_, H', ⟨by have := HK1.out; have := HJ7.out; have := HJ18.out; have := HJ22.out; omega⟩, ⟨by (with_reducible repeat (first | apply Kd.R_alloc | apply Kd.R_drewN | apply Kd.R_drew)); exact Kd.R_mono HO213.out (fun _ hk => trivial)⟩, ⟨by (with_reducible repeat (first | refine blk_drewN ?_ _ | refine blk_drew ?_ | refine blk_alloc ?_ _)); exact BK205.out⟩, ⟨bz2 HB.out GE205.out GE207.out⟩⟩
                            · rw [if_neg c38] at H
                              exact absurd H (by simp)
                          · rw [if_neg c37] at H
                            have c37b0 : decide (0 < (wrap64 (((rd_T52 l0 x10_1).f2) - a3))) = false := decide_eq_false c37
                            clear c37
                            have H' := Aside0.mk H
                            clear H
                            have hnb42 := NB207_205.out
                            have hnc42 := NB205_207.out
                            have hcz43_0 : wc.cell? ⟨gb207, 0, none⟩ = some (.string ((rd_T52 l0 x10_1).f0.f0)) := (blk_cell BK207.out 0).trans rfl
                            have hcz43_1 : wc.cell? ⟨gb207, 1, none⟩ = some (.int .i64 ((rd_T52 l0 x10_1).f0.f1)) := (blk_cell BK207.out 1).trans rfl
                            have hcz43_2 : wc.cell? ⟨gb207, 2, none⟩ = some (.int .i64 ((rd_T52 l0 x10_1).f0.f2)) := (blk_cell BK207.out 2).trans rfl
                            have hcz43_3 : wc.cell? ⟨gb207, 3, none⟩ = some (.int .i64 ((rd_T52 l0 x10_1).f0.f3)) := (blk_cell BK207.out 3).trans rfl
                            have hcz43_4 : wc.cell? ⟨gb207, 4, none⟩ = some (.int .i64 x208004_18) := (blk_cell BK207.out 4).trans rfl
                            have hcz43_5 : wc.cell? ⟨gb207, 5, none⟩ = some (.int .i64 ((rd_T52 l0 x10_1).f2)) := (blk_cell BK207.out 5).trans rfl
                            have hfz43_0 := blk_frozen BK207.out 0
                            have hfz43_1 := blk_frozen BK207.out 1
                            have hfz43_2 := blk_frozen BK207.out 2
                            have hfz43_3 := blk_frozen BK207.out 3
                            have hfz43_4 := blk_frozen BK207.out 4
                            have hfz43_5 := blk_frozen BK207.out 5
                            go_wp2
                            go_roundg kj22
                            case measure => have := HK1.out; have := HJ7.out; have := HJ18.out; have := HJ22.out; omega
                            case rel => exact ⟨(x9_1), (wrap64 (x10_1 + 1)), (by first | rfl | (simp; done) | (simp [i64_w]; done) | (simp [*]; done)), H', ⟨by have := HK1.out; have := HJ7.out; have := HJ18.out; have := HJ22.out; omega⟩, ⟨by (with_reducible repeat (first | apply Kd.R_alloc | apply Kd.R_drewN | apply Kd.R_drew)); exact Kd.R_mono (Kd.R_far (p := ⟨gb207, 5, none⟩) (Kd.R_mono HO_9.out (fun k_ hk => (⟨hk, hk⟩ : _ ∧ k_ ≠ gb207))) (fun _ hk => hk.2) (.int .i64 (wrap64 (((rd_T52 l0 x10_1).f2) - a3)))) (fun _ hk => trivial)⟩, ⟨by (with_reducible repeat (first | refine blk_drewN ?_ _ | refine blk_drew ?_ | refine blk_alloc ?_ _)); refine blk_far ?_ NB205_207.out _; (with_reducible repeat (first | refine blk_drewN ?_ _ | refine blk_drew ?_ | refine blk_alloc ?_ _)); exact BK205.out⟩, ⟨bz2 HB.out GE205.out GE207.out⟩⟩
                      · replace c31 := Bool.eq_false_iff.mpr c31
                        subst c31
                        have H1 : (if x208004_18 > 0 then (if x9_1.length < 2513169434916 then (contangoref50_less.l0 kj22 l0 a2 a3 (x9_1 ++ [(⟨(⟨((rd_T52 l0 x10_1).f0.f0), ((rd_T52 l0 x10_1).f0.f1), ((rd_T52 l0 x10_1).f0.f2), ((rd_T52 l0 x10_1).f0.f3)⟩ : S24), x208004_18, ((rd_T52 l0 x10_1).f2)⟩ : S52)]) (wrap64 (x10_1 + 1)) a1_0 a1_1 a1_2 a1_3) else (none)) else (if ((rd_T52 l0 x10_1).f2) > 0 then (if x9_1.length < 2513169434916 then (contangoref50_less.l0 kj22 l0 a2 a3 (x9_1 ++ [(⟨(⟨((rd_T52 l0 x10_1).f0.f0), ((rd_T52 l0 x10_1).f0.f1), ((rd_T52 l0 x10_1).f0.f2), ((rd_T52 l0 x10_1).f0.f3)⟩ : S24), x208004_18, ((rd_T52 l0 x10_1).f2)⟩ : S52)]) (wrap64 (x10_1 + 1)) a1_0 a1_1 a1_2 a1_3) else (none)) else (contangoref50_less.l0 kj22 l0 a2 a3 x9_1 (wrap64 (x10_1 + 1)) a1_0 a1_1 a1_2 a1_3))) = some r := by rw [if_neg (show ¬ (false = true) by decide)] at H; exact H
                        clear H
                        have H := H1
                        clear H1
                        by_cases c44 : x208004_18 > 0
                        · rw [if_pos c44] at H
                          have c44b0 : decide (0 < x208004_18) = true := decide_eq_true c44
                          clear c44
                          by_cases c45 : x9_1.length < 2513169434916
                          · rw [if_pos c45] at H
                            have LMc45 := Aside0.mk c45
                            clear c45
                            obtain ⟨y214, hy214⟩ : ∃ y_ : List (S52), y_ = (x9_1 ++ [(⟨(⟨((rd_T52 l0 x10_1).f0.f0), ((rd_T52 l0 x10_1).f0.f1), ((rd_T52 l0 x10_1).f0.f2), ((rd_T52 l0 x10_1).f0.f3)⟩ : S24), x208004_18, ((rd_T52 l0 x10_1).f2)⟩ : S52)]) := ⟨_, rfl⟩
                            replace H : (contangoref50_less.l0 kj22 l0 a2 a3 y214 (wrap64 (x10_1 + 1)) a1_0 a1_1 a1_2 a1_3) = some r := by first | (rw [hy214]; with_reducible exact H) | (have H2_ := (Option.bind_some _ _).symm.trans H; rw [hy214]; with_reducible exact H2_) | (have H2_ := (Option.bind_some _ _).symm.trans H; with_reducible exact H2_) | with_reducible exact H | (rw [hy214]; exact H) | exact H
                            have Ny214 := Aside0.mk hy214
                            clear hy214
                            have H' := Aside0.mk H
                            clear H
                            have hnb46 := NB207_205.out
                            have hnc46 := NB205_207.out
                            have hcz47_0 : wc.cell? ⟨gb207, 0, none⟩ = some (.string ((rd_T52 l0 x10_1).f0.f0)) := (blk_cell BK207.out 0).trans rfl
                            have hcz47_1 : wc.cell? ⟨gb207, 1, none⟩ = some (.int .i64 ((rd_T52 l0 x10_1).f0.f1)) := (blk_cell BK207.out 1).trans rfl
                            have hcz47_2 : wc.cell? ⟨gb207, 2, none⟩ = some (.int .i64 ((rd_T52 l0 x10_1).f0.f2)) := (blk_cell BK207.out 2).trans rfl
                            have hcz47_3 : wc.cell? ⟨gb207, 3, none⟩ = some (.int .i64 ((rd_T52 l0 x10_1).f0.f3)) := (blk_cell BK207.out 3).trans rfl
                            have hcz47_4 : wc.cell? ⟨gb207, 4, none⟩ = some (.int .i64 x208004_18) := (blk_cell BK207.out 4).trans rfl
                            have hcz47_5 : wc.cell? ⟨gb207, 5, none⟩ = some (.int .i64 ((rd_T52 l0 x10_1).f2)) := (blk_cell BK207.out 5).trans rfl
                            have hfz47_0 := blk_frozen BK207.out 0
                            have hfz47_1 := blk_frozen BK207.out 1
                            have hfz47_2 := blk_frozen BK207.out 2
                            have hfz47_3 := blk_frozen BK207.out 3
                            have hfz47_4 := blk_frozen BK207.out 4
                            have hfz47_5 := blk_frozen BK207.out 5
                            go_wp2_with (first | ((with_reducible refine gate_builtin (b := .append) (xs := #[.tmp 55, .tmp 57]) rfl ?_); at_builtin; refine Kd.R_append k52 (w0 := w) w.heap.size rfl (.tmp 55) (.tmp 57) 56 52 (.agg #[(.string ⟨#[]⟩), (.int .i64 0), (.int .i64 0), (.int .i64 0), (.int .i64 0), (.int .i64 0)]) 56 rfl Try.underlying56 info52 rfl (by decide) (by omega) u9 x9_1 (⟨(⟨((rd_T52 l0 x10_1).f0.f0), ((rd_T52 l0 x10_1).f0.f1), ((rd_T52 l0 x10_1).f0.f2), ((rd_T52 l0 x10_1).f0.f3)⟩ : S24), x208004_18, ((rd_T52 l0 x10_1).f2)⟩ : S52) [.string ((rd_T52 l0 x10_1).f0.f0), .int .i64 ((rd_T52 l0 x10_1).f0.f1), .int .i64 ((rd_T52 l0 x10_1).f0.f2), .int .i64 ((rd_T52 l0 x10_1).f0.f3), .int .i64 x208004_18, .int .i64 ((rd_T52 l0 x10_1).f2)] (fun k_ => k_ ≠ gb207) (fun _ => False) rfl rfl ?aP (fun _ hk => hk.elim) ?aF ?aO ?aB ?aS ?aL ?_; (case aP => exact k52_mkM _ _ _ (⟨(⟨((rd_T52 l0 x10_1).f0.f0), ((rd_T52 l0 x10_1).f0.f1), ((rd_T52 l0 x10_1).f0.f2), ((rd_T52 l0 x10_1).f0.f3)⟩ : S24), x208004_18, ((rd_T52 l0 x10_1).f2)⟩ : S52)); (case aB => exact (bz2 HB.out GE205.out GE207.out)); (case aF => exact (fun k_ hk => Kd.freshB (g := gb207) (o := .cells #[.string ((rd_T52 l0 x10_1).f0.f0), .int .i64 ((rd_T52 l0 x10_1).f0.f1), .int .i64 ((rd_T52 l0 x10_1).f0.f2), .int .i64 ((rd_T52 l0 x10_1).f0.f3), .int .i64 x208004_18, .int .i64 ((rd_T52 l0 x10_1).f2)] 52 (0, 0)) (bk_ BK207.out) k_ hk)); (case aO => exact (br_ HO_9.out)); (case aS => exact (below_size (bz2 HB.out GE205.out GE207.out))); (case aL => have := LMc45.out; omega); intro v215 w48 ho hb hg hat; rw [← Ny214.out] at ho; have n0_ := Aside0.mk (blk_grown (g := gb205) (o := .cells #[.string a1_0, .int .i64 a1_1, .int .i64 a1_2, .int .i64 a1_3] 24 (0, 0)) (bk_ BK205.out) hg (Kd.R_ne HO_9.out BK205.out (by decide))); have n1_ := Aside0.mk (blk_grown (g := gb207) (o := .cells #[.string ((rd_T52 l0 x10_1).f0.f0), .int .i64 ((rd_T52 l0 x10_1).f0.f1), .int .i64 ((rd_T52 l0 x10_1).f0.f2), .int .i64 ((rd_T52 l0 x10_1).f0.f3), .int .i64 x208004_18, .int .i64 ((rd_T52 l0 x10_1).f2)] 52 (0, 0)) (bk_ BK207.out) hg (Kd.R_away HO_9.out (fun _ hk => hk))); have n2_ := Aside0.mk (hb); have n3_ := Aside0.mk (ho); clear BK205; clear BK207; clear HB; clear HO_9; have BK205 := n0_; have BK207 := n1_; have HB := n2_; have HO216 := n3_; clear n0_ n1_ n2_ n3_; clear ho hb hg hat))
                            go_roundg kj22
                            case measure => have := HK1.out; have := HJ7.out; have := HJ18.out; have := HJ22.out; omega
                            case rel => exact ⟨(y214), (wrap64 (x10_1 + 1)), rf_, H', ⟨by have := HK1.out; have := HJ7.out; have := HJ18.out; have := HJ22.out; omega⟩, ⟨by (with_reducible repeat (first | apply Kd.R_alloc | apply Kd.R_drewN | apply Kd.R_drew)); exact Kd.R_mono HO216.out (fun _ hk => trivial)⟩, ⟨by (with_reducible repeat (first | refine blk_drewN ?_ _ | refine blk_drew ?_ | refine blk_alloc ?_ _)); exact BK205.out⟩, ⟨bz2 HB.out GE205.out GE207.out⟩⟩
                          · rw [if_neg c45] at H
                            exact absurd H (by simp)
                        · rw [if_neg c44] at H
                          have c44b0 : decide (0 < x208004_18) = false := decide_eq_false c44
                          clear c44
                          by_cases c49 : ((rd_T52 l0 x10_1).f2) > 0
                          · rw [if_pos c49] at H
                            have c49b0 : decide (0 < ((rd_T52 l0 x10_1).f2)) = true := decide_eq_true c49
                            clear c49
                            by_cases c50 : x9_1.length < 2513169434916
                            · rw [if_pos c50] at H
                              have LMc50 := Aside0.mk c50
                              clear c50
                              obtain ⟨y217, hy217⟩ : ∃ y_ : List (S52), y_ = (x9_1 ++ [(⟨(⟨((rd_T52 l0 x10_1).f0.f0), ((rd_T52 l0 x10_1).f0.f1), ((rd_T52 l0 x10_1).f0.f2), ((rd_T52 l0 x10_1).f0.f3)⟩ : S24), x208004_18, ((rd_T52 l0 x10_1).f2)⟩ : S52)]) := ⟨_, rfl⟩
                              replace H : (contangoref50_less.l0 kj22 l0 a2 a3 y217 (wrap64 (x10_1 + 1)) a1_0 a1_1 a1_2 a1_3) = some r := by first | (rw [hy217]; with_reducible exact H) | (have H2_ := (Option.bind_some _ _).symm.trans H; rw [hy217]; with_reducible exact H2_) | (have H2_ := (Option.bind_some _ _).symm.trans H; with_reducible exact H2_) | with_reducible exact H | (rw [hy217]; exact H) | exact H
                              have Ny217 := Aside0.mk hy217
                              clear hy217
                              have H' := Aside0.mk H
                              clear H
                              have hnb51 := NB207_205.out
                              have hnc51 := NB205_207.out
                              have hcz52_0 : wc.cell? ⟨gb207, 0, none⟩ = some (.string ((rd_T52 l0 x10_1).f0.f0)) := (blk_cell BK207.out 0).trans rfl
                              have hcz52_1 : wc.cell? ⟨gb207, 1, none⟩ = some (.int .i64 ((rd_T52 l0 x10_1).f0.f1)) := (blk_cell BK207.out 1).trans rfl
                              have hcz52_2 : wc.cell? ⟨gb207, 2, none⟩ = some (.int .i64 ((rd_T52 l0 x10_1).f0.f2)) := (blk_cell BK207.out 2).trans rfl
                              have hcz52_3 : wc.cell? ⟨gb207, 3, none⟩ = some (.int .i64 ((rd_T52 l0 x10_1).f0.f3)) := (blk_cell BK207.out 3).trans rfl
                              have hcz52_4 : wc.cell? ⟨gb207, 4, none⟩ = some (.int .i64 x208004_18) := (blk_cell BK207.out 4).trans rfl
                              have hcz52_5 : wc.cell? ⟨gb207, 5, none⟩ = some (.int .i64 ((rd_T52 l0 x10_1).f2)) := (blk_cell BK207.out 5).trans rfl
                              have hfz52_0 := blk_frozen BK207.out 0
                              have hfz52_1 := blk_frozen BK207.out 1
                              have hfz52_2 := blk_frozen BK207.out 2
                              have hfz52_3 := blk_frozen BK207.out 3
                              have hfz52_4 := blk_frozen BK207.out 4
                              have hfz52_5 := blk_frozen BK207.out 5
                              go_wp2_with (first | ((with_reducible refine gate_builtin (b := .append) (xs := #[.tmp 55, .tmp 57]) rfl ?_); at_builtin; refine Kd.R_append k52 (w0 := w) w.heap.size rfl (.tmp 55) (.tmp 57) 56 52 (.agg #[(.string ⟨#[]⟩), (.int .i64 0), (.int .i64 0), (.int .i64 0), (.int .i64 0), (.int .i64 0)]) 56 rfl Try.underlying56 info52 rfl (by decide) (by omega) u9 x9_1 (⟨(⟨((rd_T52 l0 x10_1).f0.f0), ((rd_T52 l0 x10_1).f0.f1), ((rd_T52 l0 x10_1).f0.f2), ((rd_T52 l0 x10_1).f0.f3)⟩ : S24), x208004_18, ((rd_T52 l0 x10_1).f2)⟩ : S52) [.string ((rd_T52 l0 x10_1).f0.f0), .int .i64 ((rd_T52 l0 x10_1).f0.f1), .int .i64 ((rd_T52 l0 x10_1).f0.f2), .int .i64 ((rd_T52 l0 x10_1).f0.f3), .int .i64 x208004_18, .int .i64 ((rd_T52 l0 x10_1).f2)] (fun k_ => k_ ≠ gb207) (fun _ => False) rfl rfl ?aP (fun _ hk => hk.elim) ?aF ?aO ?aB ?aS ?aL ?_; (case aP => exact k52_mkM _ _ _ (⟨(⟨((rd_T52 l0 x10_1).f0.f0), ((rd_T52 l0 x10_1).f0.f1), ((rd_T52 l0 x10_1).f0.f2), ((rd_T52 l0 x10_1).f0.f3)⟩ : S24), x208004_18, ((rd_T52 l0 x10_1).f2)⟩ : S52)); (case aB => exact (bz2 HB.out GE205.out GE207.out)); (case aF => exact (fun k_ hk => Kd.freshB (g := gb207) (o := .cells #[.string ((rd_T52 l0 x10_1).f0.f0), .int .i64 ((rd_T52 l0 x10_1).f0.f1), .int .i64 ((rd_T52 l0 x10_1).f0.f2), .int .i64 ((rd_T52 l0 x10_1).f0.f3), .int .i64 x208004_18, .int .i64 ((rd_T52 l0 x10_1).f2)] 52 (0, 0)) (bk_ BK207.out) k_ hk)); (case aO => exact (br_ HO_9.out)); (case aS => exact (below_size (bz2 HB.out GE205.out GE207.out))); (case aL => have := LMc50.out; omega); intro v218 w53 ho hb hg hat; rw [← Ny217.out] at ho; have n0_ := Aside0.mk (blk_grown (g := gb205) (o := .cells #[.string a1_0, .int .i64 a1_1, .int .i64 a1_2, .int .i64 a1_3] 24 (0, 0)) (bk_ BK205.out) hg (Kd.R_ne HO_9.out BK205.out (by decide))); have n1_ := Aside0.mk (blk_grown (g := gb207) (o := .cells #[.string ((rd_T52 l0 x10_1).f0.f0), .int .i64 ((rd_T52 l0 x10_1).f0.f1), .int .i64 ((rd_T52 l0 x10_1).f0.f2), .int .i64 ((rd_T52 l0 x10_1).f0.f3), .int .i64 x208004_18, .int .i64 ((rd_T52 l0 x10_1).f2)] 52 (0, 0)) (bk_ BK207.out) hg (Kd.R_away HO_9.out (fun _ hk => hk))); have n2_ := Aside0.mk (hb); have n3_ := Aside0.mk (ho); clear BK205; clear BK207; clear HB; clear HO_9; have BK205 := n0_; have BK207 := n1_; have HB := n2_; have HO219 := n3_; clear n0_ n1_ n2_ n3_; clear ho hb hg hat))
                              go_roundg kj22
                              case measure => have := HK1.out; have := HJ7.out; have := HJ18.out; have := HJ22.out; omega
                              case rel => exact ⟨(y217), (wrap64 (x10_1 + 1)), rf_, H', ⟨by have := HK1.out; have := HJ7.out; have := HJ18.out; have := HJ22.out; omega⟩, ⟨by (with_reducible repeat (first | apply Kd.R_alloc | apply Kd.R_drewN | apply Kd.R_drew)); exact Kd.R_mono HO219.out (fun _ hk => trivial)⟩, ⟨by (with_reducible repeat (first | refine blk_drewN ?_ _ | refine blk_drew ?_ | refine blk_alloc ?_ _)); exact BK205.out⟩, ⟨bz2 HB.out GE205.out GE207.out⟩⟩
                            · rw [if_neg c50] at H
                              exact absurd H (by simp)
                          · rw [if_neg c49] at H
                            have c49b0 : decide (0 < ((rd_T52 l0 x10_1).f2)) = false := decide_eq_false c49
                            clear c49
                            have H' := Aside0.mk H
                            clear H
                            have hnb54 := NB207_205.out
                            have hnc54 := NB205_207.out
                            have hcz55_0 : wc.cell? ⟨gb207, 0, none⟩ = some (.string ((rd_T52 l0 x10_1).f0.f0)) := (blk_cell BK207.out 0).trans rfl
                            have hcz55_1 : wc.cell? ⟨gb207, 1, none⟩ = some (.int .i64 ((rd_T52 l0 x10_1).f0.f1)) := (blk_cell BK207.out 1).trans rfl
                            have hcz55_2 : wc.cell? ⟨gb207, 2, none⟩ = some (.int .i64 ((rd_T52 l0 x10_1).f0.f2)) := (blk_cell BK207.out 2).trans rfl
                            have hcz55_3 : wc.cell? ⟨gb207, 3, none⟩ = some (.int .i64 ((rd_T52 l0 x10_1).f0.f3)) := (blk_cell BK207.out 3).trans rfl
                            have hcz55_4 : wc.cell? ⟨gb207, 4, none⟩ = some (.int .i64 x208004_18) := (blk_cell BK207.out 4).trans rfl
                            have hcz55_5 : wc.cell? ⟨gb207, 5, none⟩ = some (.int .i64 ((rd_T52 l0 x10_1).f2)) := (blk_cell BK207.out 5).trans rfl
                            have hfz55_0 := blk_frozen BK207.out 0
                            have hfz55_1 := blk_frozen BK207.out 1
                            have hfz55_2 := blk_frozen BK207.out 2
                            have hfz55_3 := blk_frozen BK207.out 3
                            have hfz55_4 := blk_frozen BK207.out 4
                            have hfz55_5 := blk_frozen BK207.out 5
                            go_wp2
                            go_roundg kj22
                            case measure => have := HK1.out; have := HJ7.out; have := HJ18.out; have := HJ22.out; omega
                            case rel => exact ⟨(x9_1), (wrap64 (x10_1 + 1)), rf_, H', ⟨by have := HK1.out; have := HJ7.out; have := HJ18.out; have := HJ22.out; omega⟩, ⟨by (with_reducible repeat (first | apply Kd.R_alloc | apply Kd.R_drewN | apply Kd.R_drew)); exact Kd.R_mono HO_9.out (fun _ hk => trivial)⟩, ⟨by (with_reducible repeat (first | refine blk_drewN ?_ _ | refine blk_drew ?_ | refine blk_alloc ?_ _)); exact BK205.out⟩, ⟨bz2 HB.out GE205.out GE207.out⟩⟩
        · rw [if_neg c7] at H
          exact absurd H (by simp)
      · rw [if_neg c6] at H
        have c6b0 : decide (x10_1 < (l0.length : Int)) = false := decide_eq_false c6
        clear c6
        obtain rfl := Option.some.inj H
        go_wp2
        go_ret
        exact ⟨_, by first | rfl | (simp [errW_none, errW_some] <;> rfl) | (simp [*, errW_none, errW_some] <;> rfl), by (with_reducible repeat (first | apply Kd.R_alloc | apply Kd.R_drewN | apply Kd.R_drew)); exact HO_9.out, bz1 HB.out GE205.out⟩

end Go.Proofs.Ytjmkdmbgldcleaa.PTearApplies
