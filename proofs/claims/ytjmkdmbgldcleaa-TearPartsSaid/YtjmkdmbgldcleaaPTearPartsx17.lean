import Derived.Test.YtjmkdmbgldcleaaPTearPartsx0
import Derived.Test.YtjmkdmbgldcleaaPTearPartsx12
import Derived.Test.YtjmkdmbgldcleaaPTearPartsx15
import Derived.Test.YtjmkdmbgldcleaaPTearPartsx16
namespace Go.Proofs.Ytjmkdmbgldcleaa.PTearParts
open Go.RowKit Go.Proofs.YtjmkdmbgldcleaaW.PrintWords Go.Proofs.YtjmkdmbgldcleaaW.PrintLast Go.Proofs.YtjmkdmbgldcleaaW.PrintMore
attribute [local go_sem] max2_int min2_int max_two min_two max_three min_three max_four min_four Go.Proofs.YtjmkdmbgldcleaaHand.run_leq_str Go.Proofs.YtjmkdmbgldcleaaHand.run_gtr_str Go.Proofs.YtjmkdmbgldcleaaHand.run_geq_str   -- for this text's walks alone
set_option linter.unusedVariables false
set_option linter.unusedSimpArgs false

/-! ### contangoref50_Parts: function 11 -/
mutual
def contangoref50_Parts.j0 : Nat → List (S58) → Bool → Int → Bool → ByteArray → Int → Int → Int → Option ((List (S62)) × Int)
  | 0, _, _, _, _, _, _, _, _ => none
  | k + 1, x0, x2, x3, x29, x231000, x231001, x231002, x231003 => if x29 = true then (some (([] : List (S62)), 18)) else (contangoref50_Parts.l0 k x0 x2 x3 ([] : List Int) 0 0 x231000 x231001 x231002 x231003)
def contangoref50_Parts.l0 : Nat → List (S58) → Bool → Int → List Int → Int → Int → ByteArray → Int → Int → Int → Option ((List (S62)) × Int)
  | 0, _, _, _, _, _, _, _, _, _, _ => none
  | k + 1, x0, x2, x3, x11, x12, x13, x231000, x231001, x231002, x231003 => if x13 < (x0.length : Int) then (if 0 ≤ x13 then ((contangoref15_Find.f k ((rd_T58 x0 x13).f1) x231000 x231001 x231002 x231003).bind fun bt233 => ((contangoref50_side.f bt233.1 bt233.2.1 bt233.2.2.1 bt233.2.2.2.1 bt233.2.2.2.2.1 bt233.2.2.2.2.2 x2).bind fun t239 => (if x11.length < 17592186044416 then (contangoref50_Parts.l0 k x0 x2 x3 (x11 ++ [t239]) (wrap64 (x12 + t239)) (wrap64 (x13 + 1)) x231000 x231001 x231002 x231003) else (none)))) else (none)) else (if x3 > x12 then (some (([] : List (S62)), 30)) else (if x3 = 0 then (some (([] : List (S62)), 0)) else ((contangoref02_Split.f k x3 x11).bind fun bt243 => (if bt243.2 = 0 then (contangoref50_Parts.l1 k x0 ([] : List (S62)) bt243.1 0) else (some (([] : List (S62)), bt243.2))))))
def contangoref50_Parts.l1 : Nat → List (S58) → List (S62) → List Int → Int → Option ((List (S62)) × Int)
  | 0, _, _, _, _ => none
  | k + 1, x0, x15, x16, x18 => if x18 < (x0.length : Int) then (if 0 ≤ x18 then (if x18 < (x16.length : Int) then (if (rd x16 x18) > 0 then (if x15.length < 3518437208883 then (contangoref50_Parts.l1 k x0 (x15 ++ [(⟨(⟨(rd_T58 x0 x18).f0.f0, (rd_T58 x0 x18).f0.f1⟩ : S55), rd x16 x18⟩ : S62)]) x16 (wrap64 (x18 + 1))) else (none)) else (contangoref50_Parts.l1 k x0 x15 x16 (wrap64 (x18 + 1)))) else (none)) else (none)) else (some (x15, 0))
end
def contangoref50_Parts.f (k : Nat) (l0 : List (S58)) (a1_0 : ByteArray) (a1_1 : Int) (a1_2 : Int) (a1_3 : Int) (a2 : Bool) (a3 : Int) : Option ((List (S62)) × Int) := (contangoref50_check.f k l0).bind fun t231 => (if t231 = 0 then (if a3 < 0 then (contangoref50_Parts.j0 k l0 a2 a3 true a1_0 a1_1 a1_2 a1_3) else (contangoref50_Parts.j0 k l0 a2 a3 (decide (a3 > 1048576)) a1_0 a1_1 a1_2 a1_3)) else (some (([] : List (S62)), t231)))
theorem contangoref50_Parts.mono_l : ∀ k, (∀ y0 y1 y2 y3 y4 y5 y6 y7, LeO (contangoref50_Parts.j0 k y0 y1 y2 y3 y4 y5 y6 y7) (contangoref50_Parts.j0 (k + 1) y0 y1 y2 y3 y4 y5 y6 y7)) ∧ (∀ y0 y1 y2 y3 y4 y5 y6 y7 y8 y9, LeO (contangoref50_Parts.l0 k y0 y1 y2 y3 y4 y5 y6 y7 y8 y9) (contangoref50_Parts.l0 (k + 1) y0 y1 y2 y3 y4 y5 y6 y7 y8 y9)) ∧ (∀ y0 y1 y2 y3, LeO (contangoref50_Parts.l1 k y0 y1 y2 y3) (contangoref50_Parts.l1 (k + 1) y0 y1 y2 y3))
  | 0 => ⟨fun _ _ _ _ _ _ _ _ r h => by simp [contangoref50_Parts.j0] at h, fun _ _ _ _ _ _ _ _ _ _ r h => by simp [contangoref50_Parts.l0] at h, fun _ _ _ _ r h => by simp [contangoref50_Parts.l1] at h⟩
  | k + 1 => by
    obtain ⟨ih0, ih1, ih2⟩ := contangoref50_Parts.mono_l k
    refine ⟨?_, ?_, ?_⟩
    · intro y0 y1 y2 y3 y4 y5 y6 y7
      unfold contangoref50_Parts.j0
      repeat' first
      | (with_reducible exact ih0 _ _ _ _ _ _ _ _)
      | (with_reducible exact ih1 _ _ _ _ _ _ _ _ _ _)
      | (with_reducible exact ih2 _ _ _ _)
      | (with_reducible exact contangoref02_Split.mono _ _ _)
      | (with_reducible exact contangoref15_Find.mono _ _ _ _ _ _)
      | (with_reducible exact contangoref50_check.mono _ _)
      | (with_reducible exact LeO.refl _)
      | (with_reducible exact LeO.none _)
      | (with_reducible refine LeO.ite ?_ ?_)
      | (with_reducible refine LeO.bind ?_ (fun _ => ?_))
      | exact LeO.none _
      | refine LeO.ite ?_ ?_
      | refine LeO.bind ?_ (fun _ => ?_)
    · intro y0 y1 y2 y3 y4 y5 y6 y7 y8 y9
      unfold contangoref50_Parts.l0
      repeat' first
      | (with_reducible exact ih0 _ _ _ _ _ _ _ _)
      | (with_reducible exact ih1 _ _ _ _ _ _ _ _ _ _)
      | (with_reducible exact ih2 _ _ _ _)
      | (with_reducible exact contangoref02_Split.mono _ _ _)
      | (with_reducible exact contangoref15_Find.mono _ _ _ _ _ _)
      | (with_reducible exact contangoref50_check.mono _ _)
      | (with_reducible exact LeO.refl _)
      | (with_reducible exact LeO.none _)
      | (with_reducible refine LeO.ite ?_ ?_)
      | (with_reducible refine LeO.bind ?_ (fun _ => ?_))
      | exact LeO.none _
      | refine LeO.ite ?_ ?_
      | refine LeO.bind ?_ (fun _ => ?_)
    · intro y0 y1 y2 y3
      unfold contangoref50_Parts.l1
      repeat' first
      | (with_reducible exact ih0 _ _ _ _ _ _ _ _)
      | (with_reducible exact ih1 _ _ _ _ _ _ _ _ _ _)
      | (with_reducible exact ih2 _ _ _ _)
      | (with_reducible exact contangoref02_Split.mono _ _ _)
      | (with_reducible exact contangoref15_Find.mono _ _ _ _ _ _)
      | (with_reducible exact contangoref50_check.mono _ _)
      | (with_reducible exact LeO.refl _)
      | (with_reducible exact LeO.none _)
      | (with_reducible refine LeO.ite ?_ ?_)
      | (with_reducible refine LeO.bind ?_ (fun _ => ?_))
      | exact LeO.none _
      | refine LeO.ite ?_ ?_
      | refine LeO.bind ?_ (fun _ => ?_)
theorem contangoref50_Parts.mono : ∀ a0 a1 a2 a3 a4 a5 a6 k, LeO (contangoref50_Parts.f k a0 a1 a2 a3 a4 a5 a6) (contangoref50_Parts.f (k + 1) a0 a1 a2 a3 a4 a5 a6) := by
  intro a0 a1 a2 a3 a4 a5 a6 k
  obtain ⟨ih0, ih1, ih2⟩ := contangoref50_Parts.mono_l k
  unfold contangoref50_Parts.f
  repeat' first
      | (with_reducible exact ih0 _ _ _ _ _ _ _ _)
      | (with_reducible exact ih1 _ _ _ _ _ _ _ _ _ _)
      | (with_reducible exact ih2 _ _ _ _)
      | (with_reducible exact contangoref02_Split.mono _ _ _)
      | (with_reducible exact contangoref15_Find.mono _ _ _ _ _ _)
      | (with_reducible exact contangoref50_check.mono _ _)
      | (with_reducible exact LeO.refl _)
      | (with_reducible exact LeO.none _)
      | (with_reducible refine LeO.ite ?_ ?_)
      | (with_reducible refine LeO.bind ?_ (fun _ => ?_))
      | exact LeO.none _
      | refine LeO.ite ?_ ?_
      | refine LeO.bind ?_ (fun _ => ?_)
def contangoref50_Parts.T11 : Bool × List (List Nat × List Nat) := (true, [([], []), ([], []), ([0, 1], [0, 1]), ([2], [2]), ([3], [3]), ([], []), ([4, 5], [4, 5]), ([], []), ([6, 7, 6], [6, 7]), ([8, 8, 0, 1, 2, 3, 4, 5, 6, 7, 8], [8])])
def contangoref50_Parts.B11 : List Nat := [0, 0, 3, 7, 15, 0, 63, 0, 255, 511]
theorem contangoref50_Parts.tab11 : rtab .any (opsOf Try.f11 11) = contangoref50_Parts.T11 := by kernel_rfl
theorem contangoref50_Parts.bits11 : waitsOk contangoref50_Parts.T11.2 contangoref50_Parts.B11 = true := by kernel_rfl
def contangoref50_Parts.T26 : Bool × List (List Nat × List Nat) := (true, [([], []), ([], []), ([], []), ([1, 2], [1, 2]), ([3], [3]), ([4], [4]), ([], []), ([], []), ([6, 7], [6, 7]), ([8], [8]), ([5, 9], [5, 9]), ([10], [10]), ([0, 11], [0, 11]), ([12, 12, 0, 1, 2, 3, 4, 5, 6, 7, 8, 9, 10, 11, 12], [0, 12])])
def contangoref50_Parts.B26 : List Nat := [0, 0, 0, 6, 14, 30, 0, 0, 192, 448, 1022, 2046, 4095, 8191]
theorem contangoref50_Parts.tab26 : rtab .any (opsOf Try.f11 26) = contangoref50_Parts.T26 := by kernel_rfl
theorem contangoref50_Parts.bits26 : waitsOk contangoref50_Parts.T26.2 contangoref50_Parts.B26 = true := by kernel_rfl
set_option maxHeartbeats 8000000 in
set_option maxRecDepth 100000 in
theorem contangoref50_Parts.calls (k : Nat) (A0 : Option Addr) (c0 : Nat) (l0 : List (S58)) (a1_0 : ByteArray) (a1_1 : Int) (a1_2 : Int) (a1_3 : Int) (a2 : Bool) (a3 : Int) (r1 : List (S62)) (r2 : Int) (w : World) (hr0 : Kd.C k58 w A0 l0.length l0) (hc0 : l0.length ≤ c0) (h : contangoref50_Parts.f k l0 a1_0 a1_1 a1_2 a1_3 a2 a3 = some (r1, r2)) :
    Calls Try.prog 11 #[.slice A0 l0.length c0, .agg #[.string a1_0, .int .i64 a1_1, .int .i64 a1_2, .int .i64 a1_3], .bool a2, .int .i64 a3] w fun e w' => ∃ v0_ : Value, e = .returned (.tuple #[v0_, .int .i64 r2]) ∧ Kd.R k62 62 w' w.heap.size (fun _ => True) v0_ r1 ∧ Below w.heap.size w w' := by
  have hu24 := Try.underlying24
  have hu55 := Try.underlying55
  have hu62 := Try.underlying62
  have HR0 := Aside0.mk hr0
  have HC0 := Aside0.mk hc0
  clear hr0 hc0
  have HB := Aside0.mk (Below.refl w.heap.size w)
  have H : ((contangoref50_check.f k l0).bind fun t231 => (if t231 = 0 then (if a3 < 0 then (contangoref50_Parts.j0 k l0 a2 a3 true a1_0 a1_1 a1_2 a1_3) else (contangoref50_Parts.j0 k l0 a2 a3 (decide (a3 > 1048576)) a1_0 a1_1 a1_2 a1_3)) else (some (([] : List (S62)), t231)))) = some (r1, r2) := h
  clear h
  replace H := Option.bind_eq_some_iff.mp H
  obtain ⟨t231, A50, H⟩ := H
  replace H : (if t231 = 0 then (if a3 < 0 then (contangoref50_Parts.j0 k l0 a2 a3 true a1_0 a1_1 a1_2 a1_3) else (contangoref50_Parts.j0 k l0 a2 a3 (decide (a3 > 1048576)) a1_0 a1_1 a1_2 a1_3)) else (some (([] : List (S62)), t231))) = some (r1, r2) := H
  have A5 := Aside0.mk A50
  clear A50
  by_cases c6 : t231 = 0
  · rw [if_pos c6] at H
    have c6b0 : (t231 == 0) = true := beq_iff_eq.mpr c6
    have c6b1 : (t231 != 0) = false := bne_eq_false_iff_eq.mpr c6
    clear c6
    have HC7 := Aside0.mk H
    clear H
    go_enter Try.func11, Try.ntmps11
    go_upto_region 4 with (first | ((with_reducible refine gate_dst (N := 5) rfl ?_); refine box_event ?hg (N := 5) ?hd (cs := #[.string a1_0, .int .i64 a1_1, .int .i64 a1_2, .int .i64 a1_3]) (t := 24) ?hr ?_; (case hd => rfl); (case hg => rfl); (case hr => first | (go_simp; done) | (go_simp; rfl)); intro gb230 hg w8 hbox hb; have n0_ := Aside0.mk (below_step (bz0 HB.out) hb); have n1_ := Aside0.mk (hbox); have n2_ := Aside0.mk ((by rw [hg]; exact (below_size (bz0 HB.out)) : w.heap.size ≤ gb230)); have n3_ := Aside0.mk ((by rw [hg]; exact (below_size (bz0 HB.out)) : w.heap.size ≤ gb230)); clear HB; have HB := n0_; have BK230 := n1_; have GW230 := n2_; have GE230 := n3_; clear n0_ n1_ n2_ n3_; clear hb hbox hg) | ((with_reducible refine gate_callee (f := 28) rfl ?_); refine goesL_ (some 20) rfl rfl Try.func28 (by kernel_rfl) rfl #[.slice A0 l0.length c0] rfl pm_ ?_; (with_reducible refine (contangoref50_check.calls k _ _ l0 t231 _ ?side1 ?side2 A5.out).mono ?_); (case side1 => repeat (first | exact (Kd.C_below HR0.out HB.out) | (with_reducible refine Kd.C_alloc ?_ _) | (with_reducible refine Kd.C_drewN ?_ _) | (with_reducible refine Kd.C_drew ?_))); (case side2 => exact HC0.out); rintro e w9 ⟨rfl, hb⟩; refine ⟨_, rfl, ?_⟩; have n0_ := Aside0.mk (blk_below (g := gb230) (o := .cells #[.string a1_0, .int .i64 a1_1, .int .i64 a1_2, .int .i64 a1_3] 24 (0, 0)) (bk_ BK230.out) hb); have n1_ := Aside0.mk (below_step (bz1 HB.out GE230.out) hb); clear BK230; clear HB; have BK230 := n0_; have HB := n1_; clear n0_ n1_; (try clear hb); (try clear hb2); (try clear hk); (try clear hi)))
    (try simp only [Act.put, List.setIfInBounds_toArray, List.set_cons_zero, List.set_cons_succ])
    go_cut [29] (fun v29 wc => ∃ (kq : Nat) (x29_6 : Bool), v29 = .bool x29_6 ∧ Aside0 (contangoref50_Parts.j0 kq l0 a2 a3 x29_6 a1_0 a1_1 a1_2 a1_3 = some (r1, r2)) ∧ Aside0 (kq ≤ k) ∧ Aside0 (wc.heap[gb230]? = some (.cells #[.string a1_0, .int .i64 a1_1, .int .i64 a1_2, .int .i64 a1_3] 24 (0, 0))) ∧ Aside0 (Below w.heap.size w wc))
    case first =>
      have H := HC7.out
      clear HC7
      by_cases c10 : a3 < 0
      · rw [if_pos c10] at H
        have c10b0 : decide (a3 < 0) = true := decide_eq_true c10
        clear c10
        (first | rw [c10b0] | (simp only [i64_w, i32_w]; rw [c10b0]) | skip)
        have H' := Aside0.mk H
        clear H
        go_wp2
        go_meet
        case rel => exact ⟨_, (true), rf_, H', ⟨by first | omega | exact Nat.le_refl _⟩, ⟨by (with_reducible repeat (first | refine blk_drewN ?_ _ | refine blk_drew ?_ | refine blk_alloc ?_ _)); exact BK230.out⟩, ⟨bz1 HB.out GE230.out⟩⟩
      · rw [if_neg c10] at H
        have c10b0 : decide (a3 < 0) = false := decide_eq_false c10
        clear c10
        (first | rw [c10b0] | (simp only [i64_w, i32_w]; rw [c10b0]) | skip)
        have H' := Aside0.mk H
        clear H
        go_wp2
        go_meet
        case rel => exact ⟨_, (decide (a3 > 1048576)), rf_, H', ⟨by first | omega | exact Nat.le_refl _⟩, ⟨by (with_reducible repeat (first | refine blk_drewN ?_ _ | refine blk_drew ?_ | refine blk_alloc ?_ _)); exact BK230.out⟩, ⟨bz1 HB.out GE230.out⟩⟩
    case rest =>
      clear HC7
      try clear c1
      try clear c2
      try clear p2
      try clear c6
      try clear c6b0
      try clear c6b1
      try clear c10
      try clear c10b0
      obtain ⟨kq, x29_6, rfl, HA, HJ6, BK230, HB⟩ := hcut
      cases kq with
      | zero => exact absurd HA.out (by simp [contangoref50_Parts.j0])
      | succ kj6 =>
        have H := HA.out
        clear HA
        simp only [contangoref50_Parts.j0] at H
        by_cases c11 : x29_6 = true
        · subst c11
          have H1 : (some (([] : List (S62)), 18)) = some (r1, r2) := by rw [if_pos rfl] at H; exact H
          clear H
          have H := H1
          clear H1
          simp only [Option.some.injEq, Prod.mk.injEq] at H
          obtain ⟨rfl, rfl⟩ := H
          go_wp2
          go_ret2
          exact ⟨_, by first | rfl | (simp [errW_none, errW_some] <;> rfl) | (simp [*, errW_none, errW_some] <;> rfl), by first | exact Kd.R_nil _ _ _ _ _ | exact Kd.N_nil _ _ _ _ _ | exact Kd.V_nil _ _ _ _ _ | exact Kd.Q_nil _ _ _ _ _ | exact Kd.S_nil _ _ _ _ _, bz1 HB.out GE230.out⟩
        · replace c11 := Bool.eq_false_iff.mpr c11
          subst c11
          have H1 : (contangoref50_Parts.l0 kj6 l0 a2 a3 ([] : List Int) 0 0 a1_0 a1_1 a1_2 a1_3) = some (r1, r2) := by rw [if_neg (show ¬ (false = true) by decide)] at H; exact H
          clear H
          have H := H1
          clear H1
          have H' := Aside0.mk H
          clear H
          go_wp2
          go_loopg [11, 12, 13] kj6 (fun kq v11 v12 v13 w' => ∃ (x11_2 : List Int) (x12_2 : Int) (x13_2 : Int), v12 = .int .i64 x12_2 ∧ v13 = .int .i64 x13_2 ∧ Aside0 (contangoref50_Parts.l0 kq l0 a2 a3 x11_2 x12_2 x13_2 a1_0 a1_1 a1_2 a1_3 = some (r1, r2)) ∧ Aside0 (kq ≤ kj6) ∧ Aside0 (Kd.R (Kd.int .i64) 3 w' w.heap.size (fun _ => True) v11 x11_2) ∧ Aside0 (w'.heap[gb230]? = some (.cells #[.string a1_0, .int .i64 a1_1, .int .i64 a1_2, .int .i64 a1_3] 24 (0, 0))) ∧ Aside0 (Below w.heap.size w w'))
          case atStart => exact ⟨(([] : List Int)), (0), (0), rf_, rf_, H', ⟨Nat.le_refl _⟩, ⟨by first | exact Kd.R_nil _ _ _ _ _ | exact Kd.N_nil _ _ _ _ _ | exact Kd.V_nil _ _ _ _ _ | exact Kd.Q_nil _ _ _ _ _ | exact Kd.S_nil _ _ _ _ _⟩, ⟨by (with_reducible repeat (first | refine blk_drewN ?_ _ | refine blk_drew ?_ | refine blk_alloc ?_ _)); exact BK230.out⟩, ⟨bz1 HB.out GE230.out⟩⟩
          case round =>
            clear H'
            try clear c1
            try clear c2
            try clear p2
            try clear c6
            try clear c6b0
            try clear c6b1
            try clear c10
            try clear c10b0
            try clear c11
            try clear p2
            obtain ⟨x11_2, x12_2, x13_2, rfl, rfl, HA, HK2, HO_11, BK230, HB⟩ := hrel
            cases gk with
            | zero => exact absurd HA.out (by simp [contangoref50_Parts.l0])
            | succ k2 =>
              have H := HA.out
              clear HA
              simp only [contangoref50_Parts.l0] at H
              by_cases c12 : x13_2 < (l0.length : Int)
              · rw [if_pos c12] at H
                have c12b0 : decide (x13_2 < (l0.length : Int)) = true := decide_eq_true c12
                clear c12
                by_cases c13 : 0 ≤ x13_2
                · rw [if_pos c13] at H
                  have c13b0 : decide (0 ≤ x13_2) = true := decide_eq_true c13
                  clear c13
                  replace H := Option.bind_eq_some_iff.mp H
                  obtain ⟨⟨t233, t234, t235, t236, t237, t238⟩, A140, H⟩ := H
                  replace H : ((contangoref50_side.f t233 t234 t235 t236 t237 t238 a2).bind fun t239 => (if x11_2.length < 17592186044416 then (contangoref50_Parts.l0 k2 l0 a2 a3 (x11_2 ++ [t239]) (wrap64 (x12_2 + t239)) (wrap64 (x13_2 + 1)) a1_0 a1_1 a1_2 a1_3) else (none))) = some (r1, r2) := H
                  have A14 := Aside0.mk A140
                  clear A140
                  replace H := Option.bind_eq_some_iff.mp H
                  obtain ⟨t239, A150, H⟩ := H
                  replace H : (if x11_2.length < 17592186044416 then (contangoref50_Parts.l0 k2 l0 a2 a3 (x11_2 ++ [t239]) (wrap64 (x12_2 + t239)) (wrap64 (x13_2 + 1)) a1_0 a1_1 a1_2 a1_3) else (none)) = some (r1, r2) := H
                  have A15 := Aside0.mk A150
                  clear A150
                  by_cases c16 : x11_2.length < 17592186044416
                  · rw [if_pos c16] at H
                    have LMc16 := Aside0.mk c16
                    clear c16
                    obtain ⟨y240, hy240⟩ : ∃ y_ : List Int, y_ = (x11_2 ++ [t239]) := ⟨_, rfl⟩
                    replace H : (contangoref50_Parts.l0 k2 l0 a2 a3 y240 (wrap64 (x12_2 + t239)) (wrap64 (x13_2 + 1)) a1_0 a1_1 a1_2 a1_3) = some (r1, r2) := by first | (rw [hy240]; with_reducible exact H) | (have H2_ := (Option.bind_some _ _).symm.trans H; rw [hy240]; with_reducible exact H2_) | (have H2_ := (Option.bind_some _ _).symm.trans H; with_reducible exact H2_) | with_reducible exact H | (rw [hy240]; exact H) | exact H
                    have Ny240 := Aside0.mk hy240
                    clear hy240
                    have H' := Aside0.mk H
                    clear H
                    try go_wp2
                    have n0_ := Aside0.mk (Kd.R_drew HO_11.out)
                    have n1_ := Aside0.mk (blk_drew BK230.out)
                    have n2_ := Aside0.mk (below_drew1 HB.out)
                    clear HO_11
                    clear BK230
                    clear HB
                    have HO_11 := n0_
                    have BK230 := n1_
                    have HB := n2_
                    clear n0_ n1_ n2_
                    have p232 : 0 ≤ (x13_2 : Int) := od_
                    have q232 : x13_2 < (l0.length : Int) := od_
                    obtain ⟨ad232, A232_2, c232_2, e232, hx232_0, hx232_1, hx232_2, hl232_2, hi232_2⟩ := at_T58 HR0.out x13_2 p232 q232
                    have hw232_2 := hx232_2
                    have hw232_1 := hx232_1
                    have hw232_0 := hx232_0
                    cases e232
                    replace hx232_0 := (HB.out.cell (World.block_lt_of_cell? w _ hx232_0)).trans hx232_0
                    replace hx232_1 := (HB.out.cell (World.block_lt_of_cell? w _ hx232_1)).trans hx232_1
                    replace hx232_2 := (HB.out.cell (World.block_lt_of_cell? w _ hx232_2)).trans hx232_2
                    have HR232_2 := Aside0.mk hi232_2
                    have HC232_2 := Aside0.mk hl232_2
                    clear hi232_2 hl232_2
                    replace p232 := eq_true p232
                    replace q232 := eq_true q232
                    refine start_ (n := 10) (S := fun w' => w'.cell? ⟨gb230, 0, none⟩ = some (.string a1_0) ∧ w'.cell? ⟨gb230, 1, none⟩ = some (.int .i64 a1_1) ∧ w'.cell? ⟨gb230, 2, none⟩ = some (.int .i64 a1_2) ∧ w'.cell? ⟨gb230, 3, none⟩ = some (.int .i64 a1_3) ∧ w'.cell? (ad232.add ((x13_2).toNat * 3)) = some (.string ((rd_T58 l0 x13_2).f0.f0)) ∧ w'.cell? ⟨(ad232.add ((x13_2).toNat * 3)).block, (ad232.add ((x13_2).toNat * 3)).off + 1, none⟩ = some (.string ((rd_T58 l0 x13_2).f0.f1)) ∧ w'.cell? ⟨(ad232.add ((x13_2).toNat * 3)).block, (ad232.add ((x13_2).toNat * 3)).off + 2, none⟩ = some (.slice A232_2 ((rd_T58 l0 x13_2).f1).length c232_2)) (ds := []) (tf 0 10) (by kernel_rfl) rfl rfl ⟨(blk_cell BK230.out 0).trans rfl, (blk_cell BK230.out 1).trans rfl, (blk_cell BK230.out 2).trans rfl, (blk_cell BK230.out 3).trans rfl, ((HB.out.cell (World.block_lt_of_cell? w _ hw232_0)).trans hw232_0), ((HB.out.cell (World.block_lt_of_cell? w _ hw232_1)).trans hw232_1), ((HB.out.cell (World.block_lt_of_cell? w _ hw232_2)).trans hw232_2)⟩ (fun hHeld => ?_); refine with_tabW contangoref50_Parts.tab11 contangoref50_Parts.bits11 (fun HT_ HW_ => ?_)
                    generalize wr.drew = w17 at HO_11 BK230 HB HR232_2 hx232_0 hx232_1 hx232_2 hHeld ⊢
                    refine pv_ 0 36 (tf 1 9) HT_ ?_
                    refine pv_ 1 37 (tf 2 8) HT_ ?_
                    refine pv_ 2 38 (tf 3 7) HT_ ?_
                    refine pv_ 3 39 (tf 4 6) HT_ ?_
                    refine pv_ 7 43 #[true, true, true, true, false, false, false, true, false, false] HT_ ?_
                    refine take_ (i := 4) (N := some 40) (v := ?_) (a' := ?_) #[true, true, true, true, true, false, false, true, false, false] rfl rfl (take_ofW HT_.out HW_.out (by kernel_rfl)) (fun _ _ _ h => h) (Or.inl ⟨by rfl, ?_⟩) hHeld ?_ ?_
                    rotate_left
                    · rintro w' ⟨s0, s1, s2, s3, s4, s5, s6⟩
                      go_simp
                      with_reducible rfl
                    rotate_left
                    · exact ap_
                    refine take_ (i := 5) (N := some 41) (v := ?_) (a' := ?_) #[true, true, true, true, true, true, false, true, false, false] rfl rfl (take_ofW HT_.out HW_.out (by kernel_rfl)) (fun _ _ _ h => h) (Or.inl ⟨by rfl, ?_⟩) hHeld ?_ ?_
                    rotate_left
                    · rintro w' ⟨s0, s1, s2, s3, s4, s5, s6⟩
                      go_simp
                      with_reducible rfl
                    rotate_left
                    · exact ap_
                    refine one_ (i := 6) (N := some 42) (tf 8 2) rfl rfl (one_of HT_.out (by kernel_rfl)) (by decide) (fun K hK => ?_)
                    refine goes_ Try.func19 (by kernel_rfl) rfl #[.slice A232_2 ((rd_T58 l0 x13_2).f1).length c232_2, .agg #[.string a1_0, .int .i64 a1_1, .int .i64 a1_2, .int .i64 a1_3]] (by rfl) rfl rfl pm_ ?_
                    with_reducible refine (contangoref15_Find.calls k2 _ _ ((rd_T58 l0 x13_2).f1) a1_0 a1_1 a1_2 a1_3 t233 t234 t235 t236 t237 t238 _ ?side1 ?side2 A14.out).mono ?_
                    (case side1 => repeat (first | exact (Kd.C_below HR232_2.out HB.out) | (with_reducible refine Kd.C_alloc ?_ _) | (with_reducible refine Kd.C_drewN ?_ _) | (with_reducible refine Kd.C_drew ?_)))
                    (case side2 => exact HC232_2.out)
                    rintro e w18 ⟨rfl, hb⟩
                    refine ⟨_, rfl, ?_⟩
                    have n0_ := Aside0.mk (Kd.R_below (br_ HO_11.out) hb)
                    have n1_ := Aside0.mk (blk_below (g := gb230) (o := .cells #[.string a1_0, .int .i64 a1_1, .int .i64 a1_2, .int .i64 a1_3] 24 (0, 0)) (bk_ BK230.out) hb)
                    have n2_ := Aside0.mk (below_step (bz1 HB.out GE230.out) hb)
                    clear HO_11
                    clear BK230
                    clear HB
                    have HO_11 := n0_
                    have BK230 := n1_
                    have HB := n2_
                    clear n0_ n1_ n2_
                    (try clear hb)
                    (try clear hb2)
                    (try clear hk)
                    (try clear hi)
                    refine hK.out _ _ ⟨(blk_cell BK230.out 0).trans rfl, (blk_cell BK230.out 1).trans rfl, (blk_cell BK230.out 2).trans rfl, (blk_cell BK230.out 3).trans rfl, ((HB.out.cell (World.block_lt_of_cell? w _ hw232_0)).trans hw232_0), ((HB.out.cell (World.block_lt_of_cell? w _ hw232_1)).trans hw232_1), ((HB.out.cell (World.block_lt_of_cell? w _ hw232_2)).trans hw232_2)⟩ (fun hHeld => ?_)
                    clear hK K
                    refine norm_ (a' := ?_) ?_ ?_
                    rotate_left
                    · show Act.put _ (some 42) _ = _
                      simp only [Act.put, List.setIfInBounds_toArray, List.set_cons_zero, List.set_cons_succ, i64_w, i32_w]
                      rfl
                    refine one_ (i := 8) (N := some 44) (tf 9 1) rfl rfl (one_of HT_.out (by kernel_rfl)) (by decide) (fun K hK => ?_)
                    refine goes_ Try.func29 (by kernel_rfl) rfl #[.agg #[.string t233, .int .i64 t234, .int .i64 t235, .int .i64 t236, .int .i64 t237, .int .i64 t238], .bool a2] (by rfl) rfl rfl pm_ ?_
                    with_reducible refine (contangoref50_side.calls t233 t234 t235 t236 t237 t238 a2 t239 _ A15.out).mono ?_
                    rintro e w19 ⟨rfl, hb⟩
                    refine ⟨_, rfl, ?_⟩
                    have n0_ := Aside0.mk (Kd.R_below (br_ HO_11.out) hb)
                    have n1_ := Aside0.mk (blk_below (g := gb230) (o := .cells #[.string a1_0, .int .i64 a1_1, .int .i64 a1_2, .int .i64 a1_3] 24 (0, 0)) (bk_ BK230.out) hb)
                    have n2_ := Aside0.mk (below_step (bz1 HB.out GE230.out) hb)
                    clear HO_11
                    clear BK230
                    clear HB
                    have HO_11 := n0_
                    have BK230 := n1_
                    have HB := n2_
                    clear n0_ n1_ n2_
                    (try clear hb)
                    (try clear hb2)
                    (try clear hk)
                    (try clear hi)
                    refine hK.out _ _ ⟨(blk_cell BK230.out 0).trans rfl, (blk_cell BK230.out 1).trans rfl, (blk_cell BK230.out 2).trans rfl, (blk_cell BK230.out 3).trans rfl, ((HB.out.cell (World.block_lt_of_cell? w _ hw232_0)).trans hw232_0), ((HB.out.cell (World.block_lt_of_cell? w _ hw232_1)).trans hw232_1), ((HB.out.cell (World.block_lt_of_cell? w _ hw232_2)).trans hw232_2)⟩ (fun hHeld => ?_)
                    clear hK K
                    refine norm_ (a' := ?_) ?_ ?_
                    rotate_left
                    · show Act.put _ (some 44) _ = _
                      simp only [Act.put, List.setIfInBounds_toArray, List.set_cons_zero, List.set_cons_succ, i64_w, i32_w]
                      rfl
                    refine pv_ 9 14 (tf 10 0) HT_ ?_
                    refine done_ (done_of HT_.out (by kernel_rfl)) ?_
                    try go_wp2_with (first | ((with_reducible refine gate_builtin (b := .append) (xs := #[.tmp 45, .tmp 47]) rfl ?_); at_builtin; refine Kd.R_append (Kd.int .i64) (w0 := w) w.heap.size rfl (.tmp 45) (.tmp 47) 67 3 (.int .i64 0) 8 rfl Try.underlying67 info3 rfl (by decide) (by omega) u11 x11_2 t239 [.int .i64 t239] (fun _ => True) (fun _ => False) rfl rfl ?aP (fun _ hk => hk.elim) ?aF ?aO ?aB ?aS ?aL ?_; (case aP => exact rfl); (case aB => exact (bz1 HB.out GE230.out)); (case aF => exact (fun _ _ => trivial)); (case aO => exact (br_ HO_11.out)); (case aS => exact (below_size (bz1 HB.out GE230.out))); (case aL => have := LMc16.out; omega); intro v241 w20 ho hb hg hat; rw [← Ny240.out] at ho; have n0_ := Aside0.mk (blk_grown (g := gb230) (o := .cells #[.string a1_0, .int .i64 a1_1, .int .i64 a1_2, .int .i64 a1_3] 24 (0, 0)) (bk_ BK230.out) hg (Kd.R_ne HO_11.out BK230.out (by decide))); have n1_ := Aside0.mk (hb); have n2_ := Aside0.mk (ho); clear BK230; clear HB; clear HO_11; have BK230 := n0_; have HB := n1_; have HO242 := n2_; clear n0_ n1_ n2_; clear ho hb hg hat))
                    go_roundg k2
                    case measure => have := HJ6.out; have := HK2.out; omega
                    case rel => exact ⟨(y240), (wrap64 (x12_2 + t239)), (wrap64 (x13_2 + 1)), (by first | rfl | (simp; done) | (simp [i64_w]; done) | (simp [*]; done)), (by first | rfl | (simp; done) | (simp [i64_w]; done) | (simp [*]; done)), H', ⟨by have := HJ6.out; have := HK2.out; omega⟩, ⟨by (with_reducible repeat (first | apply Kd.R_alloc | apply Kd.R_drewN | apply Kd.R_drew)); exact HO242.out⟩, ⟨by (with_reducible repeat (first | refine blk_drewN ?_ _ | refine blk_drew ?_ | refine blk_alloc ?_ _)); exact BK230.out⟩, ⟨bz1 HB.out GE230.out⟩⟩
                  · rw [if_neg c16] at H
                    exact absurd H (by simp)
                · rw [if_neg c13] at H
                  exact absurd H (by simp)
              · rw [if_neg c12] at H
                have c12b0 : decide (x13_2 < (l0.length : Int)) = false := decide_eq_false c12
                clear c12
                by_cases c21 : a3 > x12_2
                · rw [if_pos c21] at H
                  have c21b0 : decide (x12_2 < a3) = true := decide_eq_true c21
                  clear c21
                  simp only [Option.some.injEq, Prod.mk.injEq] at H
                  obtain ⟨rfl, rfl⟩ := H
                  go_wp2
                  go_ret2
                  exact ⟨_, by first | rfl | (simp [errW_none, errW_some] <;> rfl) | (simp [*, errW_none, errW_some] <;> rfl), by first | exact Kd.R_nil _ _ _ _ _ | exact Kd.N_nil _ _ _ _ _ | exact Kd.V_nil _ _ _ _ _ | exact Kd.Q_nil _ _ _ _ _ | exact Kd.S_nil _ _ _ _ _, bz1 HB.out GE230.out⟩
                · rw [if_neg c21] at H
                  have c21b0 : decide (x12_2 < a3) = false := decide_eq_false c21
                  clear c21
                  by_cases c22 : a3 = 0
                  · rw [if_pos c22] at H
                    have c22b0 : (a3 == 0) = true := beq_iff_eq.mpr c22
                    have c22b1 : (a3 != 0) = false := bne_eq_false_iff_eq.mpr c22
                    clear c22
                    simp only [Option.some.injEq, Prod.mk.injEq] at H
                    obtain ⟨rfl, rfl⟩ := H
                    go_wp2
                    go_ret2
                    exact ⟨_, by first | rfl | (simp [errW_none, errW_some] <;> rfl) | (simp [*, errW_none, errW_some] <;> rfl), by first | exact Kd.R_nil _ _ _ _ _ | exact Kd.N_nil _ _ _ _ _ | exact Kd.V_nil _ _ _ _ _ | exact Kd.Q_nil _ _ _ _ _ | exact Kd.S_nil _ _ _ _ _, bz1 HB.out GE230.out⟩
                  · rw [if_neg c22] at H
                    have c22b0 : (a3 == 0) = false := beq_eq_false_iff_ne.mpr c22
                    have c22b1 : (a3 != 0) = true := bne_iff_ne.mpr c22
                    replace H := Option.bind_eq_some_iff.mp H
                    obtain ⟨⟨t243, t244⟩, A230, H⟩ := H
                    replace H : (if t244 = 0 then (contangoref50_Parts.l1 k2 l0 ([] : List (S62)) t243 0) else (some (([] : List (S62)), t244))) = some (r1, r2) := H
                    have A23 := Aside0.mk A230
                    clear A230
                    by_cases c24 : t244 = 0
                    · rw [if_pos c24] at H
                      have c24b0 : (t244 == 0) = true := beq_iff_eq.mpr c24
                      have c24b1 : (t244 != 0) = false := bne_eq_false_iff_eq.mpr c24
                      clear c24
                      have H' := Aside0.mk H
                      clear H
                      obtain ⟨Ao25, co25, eo25⟩ := Kd.R_slice HO_11.out
                      subst eo25
                      go_wp2_with (first | ((with_reducible refine gate_callee (f := 30) rfl ?_); refine goesL_ (some 61) rfl rfl Try.func30 (by kernel_rfl) rfl #[.int .i64 a3, .slice Ao25 x11_2.length co25] rfl pm_ ?_; (with_reducible refine (contangoref02_Split.calls k2 a3 _ _ x11_2 t243 t244 _ ?side1 ?side2 A23.out).mono ?_); (case side1 => repeat (first | exact (Kd.R_reads' HO_11.out).2.2 | (with_reducible refine Kd.C_alloc ?_ _) | (with_reducible refine Kd.C_drewN ?_ _) | (with_reducible refine Kd.C_drew ?_))); (case side2 => exact (Kd.R_reads' HO_11.out).2.1); rintro e w26 ⟨v245, rfl, ho0, hb⟩; refine ⟨_, rfl, ?_⟩; have n0_ := Aside0.mk (Kd.R_elder' (br_ HO_11.out) (Kd.R_base ho0) hb); have n1_ := Aside0.mk (Kd.R_lower (Kd.R_new' ho0 (Kd.R_lt (br_ HO_11.out))) (below_size (bz1 HB.out GE230.out))); have n2_ := Aside0.mk (blk_below (g := gb230) (o := .cells #[.string a1_0, .int .i64 a1_1, .int .i64 a1_2, .int .i64 a1_3] 24 (0, 0)) (bk_ BK230.out) hb); have n3_ := Aside0.mk (below_step (bz1 HB.out GE230.out) hb); clear HO_11; clear BK230; clear HB; have HO_11 := n0_; have HO246 := n1_; have BK230 := n2_; have HB := n3_; clear n0_ n1_ n2_ n3_; (try clear hb); (try clear hb2); (try clear hk); (try clear hi); (try clear ho0)))
                      go_loopg [15, 18] k2 (fun kq v15 v18 w' => ∃ (x15_3 : List (S62)) (x18_3 : Int), v18 = .int .i64 x18_3 ∧ Aside0 (contangoref50_Parts.l1 kq l0 x15_3 t243 x18_3 = some (r1, r2)) ∧ Aside0 (kq ≤ k2) ∧ Aside0 (Kd.R k62 62 w' w.heap.size (fun _ => True) v15 x15_3) ∧ Aside0 (Kd.R (Kd.int .i64) 3 w' w.heap.size (fun _ => True) v245 t243) ∧ Aside0 (w'.heap[gb230]? = some (.cells #[.string a1_0, .int .i64 a1_1, .int .i64 a1_2, .int .i64 a1_3] 24 (0, 0))) ∧ Aside0 (Below w.heap.size w w'))
                      case atStart => exact ⟨(([] : List (S62))), (0), rf_, H', ⟨Nat.le_refl _⟩, ⟨by first | exact Kd.R_nil _ _ _ _ _ | exact Kd.N_nil _ _ _ _ _ | exact Kd.V_nil _ _ _ _ _ | exact Kd.Q_nil _ _ _ _ _ | exact Kd.S_nil _ _ _ _ _⟩, ⟨by (with_reducible repeat (first | apply Kd.R_alloc | apply Kd.R_drewN | apply Kd.R_drew)); exact Kd.R_mono HO246.out (fun _ hk => trivial)⟩, ⟨by (with_reducible repeat (first | refine blk_drewN ?_ _ | refine blk_drew ?_ | refine blk_alloc ?_ _)); exact BK230.out⟩, ⟨bz1 HB.out GE230.out⟩⟩
                      case round =>
                        clear H'
                        try clear c1
                        try clear c2
                        try clear p2
                        try clear q2
                        try clear hx2
                        try clear c3
                        try clear c6
                        try clear c6b0
                        try clear c6b1
                        try clear p6
                        try clear c10
                        try clear c10b0
                        try clear c11
                        try clear c12
                        try clear c12b0
                        try clear c13
                        try clear c13b0
                        try clear c16
                        try clear c19
                        try clear c21
                        try clear c21b0
                        try clear c22
                        try clear c22b0
                        try clear c22b1
                        try clear c23
                        try clear p23
                        try clear q23
                        try clear hx23
                        try clear c24
                        try clear c24b0
                        try clear c24b1
                        try clear hx232_0
                        try clear hx232_1
                        try clear hx232_2
                        try clear p2
                        try clear p232
                        try clear q232
                        obtain ⟨x15_3, x18_3, rfl, HA, HK3, HO_15, HO_16, BK230, HB⟩ := hrel
                        cases gk with
                        | zero => exact absurd HA.out (by simp [contangoref50_Parts.l1])
                        | succ k3 =>
                          have H := HA.out
                          clear HA
                          simp only [contangoref50_Parts.l1] at H
                          by_cases c27 : x18_3 < (l0.length : Int)
                          · rw [if_pos c27] at H
                            have c27b0 : decide (x18_3 < (l0.length : Int)) = true := decide_eq_true c27
                            clear c27
                            by_cases c28 : 0 ≤ x18_3
                            · rw [if_pos c28] at H
                              have c28b0 : decide (0 ≤ x18_3) = true := decide_eq_true c28
                              clear c28
                              by_cases c29 : x18_3 < (t243.length : Int)
                              · rw [if_pos c29] at H
                                have c29b0 : decide (x18_3 < (t243.length : Int)) = true := decide_eq_true c29
                                clear c29
                                by_cases c30 : (rd t243 x18_3) > 0
                                · rw [if_pos c30] at H
                                  have c30b0 : decide (0 < (rd t243 x18_3)) = true := decide_eq_true c30
                                  clear c30
                                  by_cases c31 : x15_3.length < 3518437208883
                                  · rw [if_pos c31] at H
                                    have LMc31 := Aside0.mk c31
                                    clear c31
                                    obtain ⟨y250, hy250⟩ : ∃ y_ : List (S62), y_ = (x15_3 ++ [(⟨(⟨(rd_T58 l0 x18_3).f0.f0, (rd_T58 l0 x18_3).f0.f1⟩ : S55), rd t243 x18_3⟩ : S62)]) := ⟨_, rfl⟩
                                    replace H : (contangoref50_Parts.l1 k3 l0 y250 t243 (wrap64 (x18_3 + 1))) = some (r1, r2) := by first | (rw [hy250]; with_reducible exact H) | (have H2_ := (Option.bind_some _ _).symm.trans H; rw [hy250]; with_reducible exact H2_) | (have H2_ := (Option.bind_some _ _).symm.trans H; with_reducible exact H2_) | with_reducible exact H | (rw [hy250]; exact H) | exact H
                                    have Ny250 := Aside0.mk hy250
                                    clear hy250
                                    have H' := Aside0.mk H
                                    clear H
                                    obtain ⟨Ao32, co32, eo32⟩ := Kd.R_slice HO_16.out
                                    subst eo32
                                    have p247 : 0 ≤ (x18_3 : Int) := od_
                                    have q247 : x18_3 < (t243.length : Int) := od_
                                    obtain ⟨ad247, e247, hx247_0⟩ := Kd.at_int (Kd.R_reads' HO_16.out).2.2 x18_3 p247 q247
                                    cases e247
                                    replace p247 := eq_true p247
                                    replace q247 := eq_true q247
                                    try go_wp2
                                    have n0_ := Aside0.mk (Kd.R_drew HO_15.out)
                                    have n1_ := Aside0.mk (Kd.R_drew HO_16.out)
                                    have n2_ := Aside0.mk (blk_drew BK230.out)
                                    have n3_ := Aside0.mk (below_drew1 HB.out)
                                    clear HO_15
                                    clear HO_16
                                    clear BK230
                                    clear HB
                                    have HO_15 := n0_
                                    have HO_16 := n1_
                                    have BK230 := n2_
                                    have HB := n3_
                                    clear n0_ n1_ n2_ n3_
                                    have p248 : 0 ≤ (x18_3 : Int) := od_
                                    have q248 : x18_3 < (l0.length : Int) := od_
                                    obtain ⟨ad248, A248_2, c248_2, e248, hx248_0, hx248_1, hx248_2, hl248_2, hi248_2⟩ := at_T58 HR0.out x18_3 p248 q248
                                    have hw248_2 := hx248_2
                                    have hw248_1 := hx248_1
                                    have hw248_0 := hx248_0
                                    cases e248
                                    replace hx248_0 := (HB.out.cell (World.block_lt_of_cell? w _ hx248_0)).trans hx248_0
                                    replace hx248_1 := (HB.out.cell (World.block_lt_of_cell? w _ hx248_1)).trans hx248_1
                                    replace hx248_2 := (HB.out.cell (World.block_lt_of_cell? w _ hx248_2)).trans hx248_2
                                    have HR248_2 := Aside0.mk hi248_2
                                    have HC248_2 := Aside0.mk hl248_2
                                    clear hi248_2 hl248_2
                                    replace p248 := eq_true p248
                                    replace q248 := eq_true q248
                                    have p249 : 0 ≤ (x18_3 : Int) := od_
                                    have q249 : x18_3 < (t243.length : Int) := od_
                                    obtain ⟨ad249, e249, hx249_0⟩ := Kd.at_int (Kd.R_reads' HO_16.out).2.2 x18_3 p249 q249
                                    obtain rfl : ad247 = ad249 := (by injection e249)
                                    replace p249 := eq_true p249
                                    replace q249 := eq_true q249
                                    refine start_ (n := 14) (S := fun w' => w'.cell? (ad248.add ((x18_3).toNat * 3)) = some (.string ((rd_T58 l0 x18_3).f0.f0)) ∧ w'.cell? ⟨(ad248.add ((x18_3).toNat * 3)).block, (ad248.add ((x18_3).toNat * 3)).off + 1, none⟩ = some (.string ((rd_T58 l0 x18_3).f0.f1)) ∧ w'.cell? ⟨(ad248.add ((x18_3).toNat * 3)).block, (ad248.add ((x18_3).toNat * 3)).off + 2, none⟩ = some (.slice A248_2 ((rd_T58 l0 x18_3).f1).length c248_2) ∧ w'.cell? (ad247.add (x18_3).toNat) = some (.int .i64 (rd t243 x18_3))) (ds := [11, 12]) (tf 0 14) (by kernel_rfl) rfl rfl ⟨((HB.out.cell (World.block_lt_of_cell? w _ hw248_0)).trans hw248_0), ((HB.out.cell (World.block_lt_of_cell? w _ hw248_1)).trans hw248_1), ((HB.out.cell (World.block_lt_of_cell? w _ hw248_2)).trans hw248_2), hx249_0⟩ (fun hHeld => ?_); refine with_tabW contangoref50_Parts.tab26 contangoref50_Parts.bits26 (fun HT_ HW_ => ?_)
                                    generalize wr.drew = w33 at HO_15 HO_16 BK230 HB HR248_2 hx248_0 hx248_1 hx248_2 hx249_0 hHeld ⊢
                                    refine pv_ 0 78 (tf 1 13) HT_ ?_
                                    refine pv_ 1 79 (tf 2 12) HT_ ?_
                                    refine pv_ 2 80 (tf 3 11) HT_ ?_
                                    refine pv_ 3 81 (tf 4 10) HT_ ?_
                                    refine pv_ 4 82 (tf 5 9) HT_ ?_
                                    refine pv_ 6 84 #[true, true, true, true, true, false, true, false, false, false, false, false, false, false] HT_ ?_
                                    refine pv_ 7 85 #[true, true, true, true, true, false, true, true, false, false, false, false, false, false] HT_ ?_
                                    refine pv_ 8 86 #[true, true, true, true, true, false, true, true, true, false, false, false, false, false] HT_ ?_
                                    refine take_ (i := 5) (N := some 83) (v := ?_) (a' := ?_) (tf 9 5) rfl rfl (take_ofW HT_.out HW_.out (by kernel_rfl)) (fun _ _ _ h => h) (Or.inl ⟨by rfl, ?_⟩) hHeld ?_ ?_
                                    rotate_left
                                    · rintro w' ⟨s0, s1, s2, s3⟩
                                      go_simp
                                      with_reducible rfl
                                    rotate_left
                                    · exact ap_
                                    refine take_ (i := 9) (N := some 87) (v := ?_) (a' := ?_) (tf 10 4) rfl rfl (take_ofW HT_.out HW_.out (by kernel_rfl)) (fun _ _ _ h => h) (Or.inl ⟨by rfl, ?_⟩) hHeld ?_ ?_
                                    rotate_left
                                    · rintro w' ⟨s0, s1, s2, s3⟩
                                      go_simp
                                      with_reducible rfl
                                    rotate_left
                                    · exact ap_
                                    refine pv_ 10 88 (tf 11 3) HT_ ?_
                                    refine last_ (i := 11) (N := some 89) (tf 12 2) rfl rfl (one_of HT_.out (by kernel_rfl)) (by decide) (fun K hK => ?_)
                                    refine value_ (w1 := ?_) (v := ?_) (by rfl) rfl ?_ ?_
                                    rotate_left 2
                                    · go_simp
                                      constructor
                                      · rfl
                                      · rfl
                                    refine hK.out _ _ ?_
                                    clear hK K
                                    refine norm_ (a' := ?_) ?_ ?_
                                    rotate_left
                                    · show Act.put _ (some 89) _ = _
                                      simp only [Act.put, List.setIfInBounds_toArray, List.set_cons_zero, List.set_cons_succ, i64_w, i32_w]
                                      rfl
                                    refine last_ (i := 12) (N := some 90) (tf 13 1) rfl rfl (one_of HT_.out (by kernel_rfl)) (by decide) (fun K hK => ?_)
                                    refine Kd.R_append_step k62 (w0 := w) w.heap.size (by rfl) (.tmp 78) (.tmp 89) 29 62 (.agg #[(.string ⟨#[]⟩), (.string ⟨#[]⟩), (.int .i64 0)]) 40 rfl Try.underlying29 info62 rfl (by decide) (by omega) u15 x15_3 (⟨(⟨(rd_T58 l0 x18_3).f0.f0, (rd_T58 l0 x18_3).f0.f1⟩ : S55), rd t243 x18_3⟩ : S62) [.string ((rd_T58 l0 x18_3).f0.f0), .string ((rd_T58 l0 x18_3).f0.f1), .int .i64 (rd t243 x18_3)] (fun _ => True) (fun _ => False) rfl rfl ?aP (fun _ hk => hk.elim) ?aF ?aO ?aB ?aS ?aL ?_
                                    (case aP => exact k62_mkM _ _ _ (⟨(⟨(rd_T58 l0 x18_3).f0.f0, (rd_T58 l0 x18_3).f0.f1⟩ : S55), rd t243 x18_3⟩ : S62))
                                    (case aB => exact (bz1 HB.out GE230.out))
                                    (case aF => exact (fun _ _ => trivial))
                                    (case aO => exact (br_ HO_15.out))
                                    (case aS => exact (below_size (bz1 HB.out GE230.out)))
                                    (case aL => have := LMc31.out; omega)
                                    intro v251 w34 ho hb hg hat
                                    rw [← Ny250.out] at ho
                                    have n0_ := Aside0.mk (Kd.R_over' (br_ HO_16.out) (Kd.R_typed (br_ HO_15.out)) (by decide) hg)
                                    have n1_ := Aside0.mk (blk_grown (g := gb230) (o := .cells #[.string a1_0, .int .i64 a1_1, .int .i64 a1_2, .int .i64 a1_3] 24 (0, 0)) (bk_ BK230.out) hg (Kd.R_ne HO_15.out BK230.out (by decide)))
                                    have n2_ := Aside0.mk (hb)
                                    have n3_ := Aside0.mk (ho)
                                    clear HO_16
                                    clear BK230
                                    clear HB
                                    clear HO_15
                                    have HO_16 := n0_
                                    have BK230 := n1_
                                    have HB := n2_
                                    have HO252 := n3_
                                    clear n0_ n1_ n2_ n3_
                                    clear ho hb hg hat
                                    refine hK.out _ _ ?_
                                    clear hK K
                                    refine norm_ (a' := ?_) ?_ ?_
                                    rotate_left
                                    · show Act.put _ (some 90) _ = _
                                      simp only [Act.put, List.setIfInBounds_toArray, List.set_cons_zero, List.set_cons_succ, i64_w, i32_w]
                                      rfl
                                    refine pv_ 13 15 (tf 14 0) HT_ ?_
                                    refine done_ (done_of HT_.out (by kernel_rfl)) ?_
                                    try go_wp2
                                    go_roundg k3
                                    case measure => have := HJ6.out; have := HK2.out; have := HK3.out; omega
                                    case rel => exact ⟨(y250), (wrap64 (x18_3 + 1)), rf_, H', ⟨by have := HJ6.out; have := HK2.out; have := HK3.out; omega⟩, ⟨by (with_reducible repeat (first | apply Kd.R_alloc | apply Kd.R_drewN | apply Kd.R_drew)); exact HO252.out⟩, ⟨by (with_reducible repeat (first | apply Kd.R_alloc | apply Kd.R_drewN | apply Kd.R_drew)); exact HO_16.out⟩, ⟨by (with_reducible repeat (first | refine blk_drewN ?_ _ | refine blk_drew ?_ | refine blk_alloc ?_ _)); exact BK230.out⟩, ⟨bz1 HB.out GE230.out⟩⟩
                                  · rw [if_neg c31] at H
                                    exact absurd H (by simp)
                                · rw [if_neg c30] at H
                                  have c30b0 : decide (0 < (rd t243 x18_3)) = false := decide_eq_false c30
                                  clear c30
                                  have H' := Aside0.mk H
                                  clear H
                                  obtain ⟨Ao35, co35, eo35⟩ := Kd.R_slice HO_16.out
                                  subst eo35
                                  have p247 : 0 ≤ (x18_3 : Int) := od_
                                  have q247 : x18_3 < (t243.length : Int) := od_
                                  obtain ⟨ad247, e247, hx247_0⟩ := Kd.at_int (Kd.R_reads' HO_16.out).2.2 x18_3 p247 q247
                                  cases e247
                                  replace p247 := eq_true p247
                                  replace q247 := eq_true q247
                                  go_wp2
                                  go_roundg k3
                                  case measure => have := HJ6.out; have := HK2.out; have := HK3.out; omega
                                  case rel => exact ⟨(x15_3), (wrap64 (x18_3 + 1)), rf_, H', ⟨by have := HJ6.out; have := HK2.out; have := HK3.out; omega⟩, ⟨by (with_reducible repeat (first | apply Kd.R_alloc | apply Kd.R_drewN | apply Kd.R_drew)); exact HO_15.out⟩, ⟨by (with_reducible repeat (first | apply Kd.R_alloc | apply Kd.R_drewN | apply Kd.R_drew)); exact HO_16.out⟩, ⟨by (with_reducible repeat (first | refine blk_drewN ?_ _ | refine blk_drew ?_ | refine blk_alloc ?_ _)); exact BK230.out⟩, ⟨bz1 HB.out GE230.out⟩⟩
                              · rw [if_neg c29] at H
                                exact absurd H (by simp)
                            · rw [if_neg c28] at H
                              exact absurd H (by simp)
                          · rw [if_neg c27] at H
                            have c27b0 : decide (x18_3 < (l0.length : Int)) = false := decide_eq_false c27
                            clear c27
                            simp only [Option.some.injEq, Prod.mk.injEq] at H
                            obtain ⟨rfl, rfl⟩ := H
                            go_wp2
                            go_ret2
                            exact ⟨_, by first | rfl | (simp [errW_none, errW_some] <;> rfl) | (simp [*, errW_none, errW_some] <;> rfl), by (with_reducible repeat (first | apply Kd.R_alloc | apply Kd.R_drewN | apply Kd.R_drew)); exact HO_15.out, bz1 HB.out GE230.out⟩
                    · rw [if_neg c24] at H
                      have c24b0 : (t244 == 0) = false := beq_eq_false_iff_ne.mpr c24
                      have c24b1 : (t244 != 0) = true := bne_iff_ne.mpr c24
                      simp only [Option.some.injEq, Prod.mk.injEq] at H
                      obtain ⟨rfl, rfl⟩ := H
                      obtain ⟨Ao36, co36, eo36⟩ := Kd.R_slice HO_11.out
                      subst eo36
                      go_wp2_with (first | ((with_reducible refine gate_callee (f := 30) rfl ?_); refine goesL_ (some 61) rfl rfl Try.func30 (by kernel_rfl) rfl #[.int .i64 a3, .slice Ao36 x11_2.length co36] rfl pm_ ?_; (with_reducible refine (contangoref02_Split.calls k2 a3 _ _ x11_2 t243 t244 _ ?side1 ?side2 A23.out).mono ?_); (case side1 => repeat (first | exact (Kd.R_reads' HO_11.out).2.2 | (with_reducible refine Kd.C_alloc ?_ _) | (with_reducible refine Kd.C_drewN ?_ _) | (with_reducible refine Kd.C_drew ?_))); (case side2 => exact (Kd.R_reads' HO_11.out).2.1); rintro e w37 ⟨v245, rfl, ho0, hb⟩; refine ⟨_, rfl, ?_⟩; have n0_ := Aside0.mk (Kd.R_elder' (br_ HO_11.out) (Kd.R_base ho0) hb); have n1_ := Aside0.mk (Kd.R_lower (Kd.R_new' ho0 (Kd.R_lt (br_ HO_11.out))) (below_size (bz1 HB.out GE230.out))); have n2_ := Aside0.mk (blk_below (g := gb230) (o := .cells #[.string a1_0, .int .i64 a1_1, .int .i64 a1_2, .int .i64 a1_3] 24 (0, 0)) (bk_ BK230.out) hb); have n3_ := Aside0.mk (below_step (bz1 HB.out GE230.out) hb); clear HO_11; clear BK230; clear HB; have HO_11 := n0_; have HO246 := n1_; have BK230 := n2_; have HB := n3_; clear n0_ n1_ n2_ n3_; (try clear hb); (try clear hb2); (try clear hk); (try clear hi); (try clear ho0)))
                      go_ret2
                      exact ⟨_, by first | rfl | (simp [errW_none, errW_some] <;> rfl) | (simp [*, errW_none, errW_some] <;> rfl), by first | exact Kd.R_nil _ _ _ _ _ | exact Kd.N_nil _ _ _ _ _ | exact Kd.V_nil _ _ _ _ _ | exact Kd.Q_nil _ _ _ _ _ | exact Kd.S_nil _ _ _ _ _, bz1 HB.out GE230.out⟩
  · rw [if_neg c6] at H
    have c6b0 : (t231 == 0) = false := beq_eq_false_iff_ne.mpr c6
    have c6b1 : (t231 != 0) = true := bne_iff_ne.mpr c6
    simp only [Option.some.injEq, Prod.mk.injEq] at H
    obtain ⟨rfl, rfl⟩ := H
    go_enter Try.func11, Try.ntmps11
    go_wp2_with (first | ((with_reducible refine gate_dst (N := 5) rfl ?_); refine box_event ?hg (N := 5) ?hd (cs := #[.string a1_0, .int .i64 a1_1, .int .i64 a1_2, .int .i64 a1_3]) (t := 24) ?hr ?_; (case hd => rfl); (case hg => rfl); (case hr => first | (go_simp; done) | (go_simp; rfl)); intro gb230 hg w38 hbox hb; have n0_ := Aside0.mk (below_step (bz0 HB.out) hb); have n1_ := Aside0.mk (hbox); have n2_ := Aside0.mk ((by rw [hg]; exact (below_size (bz0 HB.out)) : w.heap.size ≤ gb230)); have n3_ := Aside0.mk ((by rw [hg]; exact (below_size (bz0 HB.out)) : w.heap.size ≤ gb230)); clear HB; have HB := n0_; have BK230 := n1_; have GW230 := n2_; have GE230 := n3_; clear n0_ n1_ n2_ n3_; clear hb hbox hg) | ((with_reducible refine gate_callee (f := 28) rfl ?_); refine goesL_ (some 20) rfl rfl Try.func28 (by kernel_rfl) rfl #[.slice A0 l0.length c0] rfl pm_ ?_; (with_reducible refine (contangoref50_check.calls k _ _ l0 t231 _ ?side1 ?side2 A5.out).mono ?_); (case side1 => repeat (first | exact (Kd.C_below HR0.out HB.out) | (with_reducible refine Kd.C_alloc ?_ _) | (with_reducible refine Kd.C_drewN ?_ _) | (with_reducible refine Kd.C_drew ?_))); (case side2 => exact HC0.out); rintro e w39 ⟨rfl, hb⟩; refine ⟨_, rfl, ?_⟩; have n0_ := Aside0.mk (blk_below (g := gb230) (o := .cells #[.string a1_0, .int .i64 a1_1, .int .i64 a1_2, .int .i64 a1_3] 24 (0, 0)) (bk_ BK230.out) hb); have n1_ := Aside0.mk (below_step (bz1 HB.out GE230.out) hb); clear BK230; clear HB; have BK230 := n0_; have HB := n1_; clear n0_ n1_; (try clear hb); (try clear hb2); (try clear hk); (try clear hi)))
    go_ret2
    exact ⟨_, by first | rfl | (simp [errW_none, errW_some] <;> rfl) | (simp [*, errW_none, errW_some] <;> rfl), by first | exact Kd.R_nil _ _ _ _ _ | exact Kd.N_nil _ _ _ _ _ | exact Kd.V_nil _ _ _ _ _ | exact Kd.Q_nil _ _ _ _ _ | exact Kd.S_nil _ _ _ _ _, bz1 HB.out GE230.out⟩

end Go.Proofs.Ytjmkdmbgldcleaa.PTearParts
