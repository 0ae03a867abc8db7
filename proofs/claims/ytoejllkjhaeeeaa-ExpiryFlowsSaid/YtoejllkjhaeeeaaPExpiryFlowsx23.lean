import Derived.Test.YtoejllkjhaeeeaaPExpiryFlowsx0
import Derived.Test.YtoejllkjhaeeeaaPExpiryFlowsx22
namespace Go.Proofs.Ytoejllkjhaeeeaa.PExpiryFlows
open Go.RowKit Go.Proofs.YtoejllkjhaeeeaaW.PrintWords Go.Proofs.YtoejllkjhaeeeaaW.PrintLast Go.Proofs.YtoejllkjhaeeeaaW.PrintMore
attribute [local go_sem] max2_int min2_int max_two min_two max_three min_three max_four min_four Go.Proofs.YtoejllkjhaeeeaaHand.run_leq_str Go.Proofs.YtoejllkjhaeeeaaHand.run_gtr_str Go.Proofs.YtoejllkjhaeeeaaHand.run_geq_str   -- for this text's walks alone
set_option linter.unusedVariables false
set_option linter.unusedSimpArgs false

/-! ### expiry_Drop: function 23 -/
mutual
def expiry_Drop.l0 : Nat → Int → List (S47) → List (S47) → Int → Int → Option ((List (S47)))
  | 0, _, _, _, _, _ => none
  | k + 1, x1, x5, x11, x12, x13 => if x13 < x12 then (if 0 ≤ x13 then (if x13 < (x11.length : Int) then (expiry_Drop.l1 k x1 x5 ([] : List (S27)) x11 x12 x13 ((rd_T47 x11 x13).f1) (((rd_T47 x11 x13).f1).length : Int) 0 ((rd_T47 x11 x13).f0.f0) ((rd_T47 x11 x13).f0.f1) ((rd_T47 x11 x13).f1)) else (none)) else (none)) else (some x5)
def expiry_Drop.l1 : Nat → Int → List (S47) → List (S27) → List (S47) → Int → Int → List (S27) → Int → Int → ByteArray → ByteArray → List (S27) → Option ((List (S47)))
  | 0, _, _, _, _, _, _, _, _, _, _, _, _ => none
  | k + 1, x1, x5, x8, x11, x12, x13, x18, x19, x20, x275000, x275001, x275002 => if x20 < x19 then (if 0 ≤ x20 then (if x20 < (x18.length : Int) then ((series_Live.f ((rd_T27 x18 x20).f0.f0) ((rd_T27 x18 x20).f0.f1) ((rd_T27 x18 x20).f0.f2) ((rd_T27 x18 x20).f0.f3) x1).bind fun t277 => (if t277 = true then (if x8.length < 2513169434916 then (expiry_Drop.l1 k x1 x5 (x8 ++ [(⟨(⟨(rd_T27 x18 x20).f0.f0, (rd_T27 x18 x20).f0.f1, (rd_T27 x18 x20).f0.f2, (rd_T27 x18 x20).f0.f3⟩ : S25), (rd_T27 x18 x20).f1, (rd_T27 x18 x20).f2⟩ : S27)]) x11 x12 x13 x18 x19 (wrap64 (x20 + 1)) x275000 x275001 x275002) else (none)) else (expiry_Drop.l1 k x1 x5 x8 x11 x12 x13 x18 x19 (wrap64 (x20 + 1)) x275000 x275001 x275002))) else (none)) else (none)) else (if (x8.length : Int) > 0 then (if x5.length < 2513169434916 then (expiry_Drop.l0 k x1 (x5 ++ [(⟨(⟨x275000, x275001⟩ : S44), x8⟩ : S47)]) x11 x12 (wrap64 (x13 + 1))) else (none)) else (expiry_Drop.l0 k x1 x5 x11 x12 (wrap64 (x13 + 1))))
end
def expiry_Drop.f (k : Nat) (l0 : List (S47)) (a1 : Int) : Option ((List (S47))) := expiry_Drop.l0 k a1 ([] : List (S47)) l0 (l0.length : Int) 0
theorem expiry_Drop.mono_l : ∀ k, (∀ y0 y1 y2 y3 y4, LeO (expiry_Drop.l0 k y0 y1 y2 y3 y4) (expiry_Drop.l0 (k + 1) y0 y1 y2 y3 y4)) ∧ (∀ y0 y1 y2 y3 y4 y5 y6 y7 y8 y9 y10 y11, LeO (expiry_Drop.l1 k y0 y1 y2 y3 y4 y5 y6 y7 y8 y9 y10 y11) (expiry_Drop.l1 (k + 1) y0 y1 y2 y3 y4 y5 y6 y7 y8 y9 y10 y11))
  | 0 => ⟨fun _ _ _ _ _ r h => by simp [expiry_Drop.l0] at h, fun _ _ _ _ _ _ _ _ _ _ _ _ r h => by simp [expiry_Drop.l1] at h⟩
  | k + 1 => by
    obtain ⟨ih0, ih1⟩ := expiry_Drop.mono_l k
    refine ⟨?_, ?_⟩
    · intro y0 y1 y2 y3 y4
      unfold expiry_Drop.l0
      repeat' first
      | (with_reducible exact ih0 _ _ _ _ _)
      | (with_reducible exact ih1 _ _ _ _ _ _ _ _ _ _ _ _)
      | (with_reducible exact LeO.refl _)
      | (with_reducible exact LeO.none _)
      | (with_reducible refine LeO.ite ?_ ?_)
      | (with_reducible refine LeO.bind ?_ (fun _ => ?_))
      | exact LeO.none _
      | refine LeO.ite ?_ ?_
      | refine LeO.bind ?_ (fun _ => ?_)
    · intro y0 y1 y2 y3 y4 y5 y6 y7 y8 y9 y10 y11
      unfold expiry_Drop.l1
      repeat' first
      | (with_reducible exact ih0 _ _ _ _ _)
      | (with_reducible exact ih1 _ _ _ _ _ _ _ _ _ _ _ _)
      | (with_reducible exact LeO.refl _)
      | (with_reducible exact LeO.none _)
      | (with_reducible refine LeO.ite ?_ ?_)
      | (with_reducible refine LeO.bind ?_ (fun _ => ?_))
      | exact LeO.none _
      | refine LeO.ite ?_ ?_
      | refine LeO.bind ?_ (fun _ => ?_)
theorem expiry_Drop.mono : ∀ a0 a1 k, LeO (expiry_Drop.f k a0 a1) (expiry_Drop.f (k + 1) a0 a1) := by
  intro a0 a1 k
  obtain ⟨ih0, ih1⟩ := expiry_Drop.mono_l k
  unfold expiry_Drop.f
  repeat' first
      | (with_reducible exact ih0 _ _ _ _ _)
      | (with_reducible exact ih1 _ _ _ _ _ _ _ _ _ _ _ _)
      | (with_reducible exact LeO.refl _)
      | (with_reducible exact LeO.none _)
      | (with_reducible refine LeO.ite ?_ ?_)
      | (with_reducible refine LeO.bind ?_ (fun _ => ?_))
      | exact LeO.none _
      | refine LeO.ite ?_ ?_
      | refine LeO.bind ?_ (fun _ => ?_)
set_option maxHeartbeats 8000000 in
set_option maxRecDepth 100000 in
theorem expiry_Drop.calls (k : Nat) (A0 : Option Addr) (c0 : Nat) (l0 : List (S47)) (a1 : Int) (r : List (S47)) (w : World) (hr0 : Kd.C k47 w A0 l0.length l0) (hc0 : l0.length ≤ c0) (h : expiry_Drop.f k l0 a1 = some r) :
    Calls Try.prog 23 #[.slice A0 l0.length c0, .int .i64 a1] w fun e w' => ∃ v0_ : Value, e = .returned (v0_) ∧ Kd.S k47 47 w' w.heap.size (fun _ => True) v0_ r ∧ Below w.heap.size w w' := by
 have hu47 := Try.underlying47
 have hu27 := Try.underlying27
 have hu25 := Try.underlying25
 have hu44 := Try.underlying44
 have HR0 := Aside0.mk hr0
 have HC0 := Aside0.mk hc0
 clear hr0 hc0
 have HB := Aside0.mk (Below.refl w.heap.size w)
 have H : (expiry_Drop.l0 k a1 ([] : List (S47)) l0 (l0.length : Int) 0) = some r := h
 clear h
 have H' := Aside0.mk H
 clear H
 go_enter Try.func23, Try.ntmps23
 go_wp2
 go_loopg [5, 13] k (fun kq v5 v13 w' => ∃ (x5_1 : List (S47)) (x13_1 : Int), v13 = .int .i64 x13_1 ∧ Aside0 (expiry_Drop.l0 kq a1 x5_1 l0 (l0.length : Int) x13_1 = some r) ∧ Aside0 (kq ≤ k) ∧ Aside0 (Kd.S k47 47 w' w.heap.size (fun _ => True) v5 x5_1) ∧ Aside0 (Below w.heap.size w w'))
 case atStart => exact ⟨(([] : List (S47))), (0), rf_, H', ⟨Nat.le_refl _⟩, ⟨by first | exact Kd.S_nil _ _ _ _ _ | exact Kd.N_nil _ _ _ _ _ | exact Kd.V_nil _ _ _ _ _ | exact Kd.Q_nil _ _ _ _ _ | exact Kd.R_nil _ _ _ _ _⟩, ⟨bz0 HB.out⟩⟩
 case round =>
  clear H'
  try clear c2
  try clear p2
  obtain ⟨x5_1, x13_1, rfl, HA, HK1, HO_5, HB⟩ := hrel
  cases gk with
  | zero => exact absurd HA.out (by simp [expiry_Drop.l0])
  | succ k1 =>
   have H := HA.out
   clear HA
   simp only [expiry_Drop.l0] at H
   by_cases c3 : x13_1 < (l0.length : Int)
   rotate_left
   · rw [if_neg c3] at H
     have c3b0 : decide (x13_1 < (l0.length : Int)) = false := decide_eq_false c3
     clear c3
     obtain rfl := Option.some.inj H
     go_wp2
     go_ret
     exact ⟨_, by first | rfl | (simp [errW_none, errW_some] <;> rfl) | (simp [*, errW_none, errW_some] <;> rfl), by (with_reducible repeat (first | apply Kd.S_alloc | apply Kd.S_drewN | apply Kd.S_drew)); exact HO_5.out, bz0 HB.out⟩
   rw [if_pos c3] at H
   have c3b0 : decide (x13_1 < (l0.length : Int)) = true := decide_eq_true c3
   clear c3
   by_cases c4 : 0 ≤ x13_1
   rotate_left
   · rw [if_neg c4] at H
     exact absurd H (by simp)
   rw [if_pos c4] at H
   have c4b0 : decide (0 ≤ x13_1) = true := decide_eq_true c4
   clear c4
   by_cases c5 : x13_1 < (l0.length : Int)
   rotate_left
   · rw [if_neg c5] at H
     exact absurd H (by simp)
   rw [if_pos c5] at H
   have c5b0 : decide (x13_1 < (l0.length : Int)) = true := decide_eq_true c5
   clear c5
   have H' := Aside0.mk H
   clear H
   have p273 : 0 ≤ (x13_1 : Int) := od_
   have q273 : x13_1 < (l0.length : Int) := od_
   obtain ⟨ad273, A273_2, c273_2, e273, hx273_0, hx273_1, hx273_2, hl273_2, hi273_2⟩ := at_T47 HR0.out x13_1 p273 q273
   cases e273
   replace hx273_0 := (HB.out.cell (World.block_lt_of_cell? w _ hx273_0)).trans hx273_0
   replace hx273_1 := (HB.out.cell (World.block_lt_of_cell? w _ hx273_1)).trans hx273_1
   replace hx273_2 := (HB.out.cell (World.block_lt_of_cell? w _ hx273_2)).trans hx273_2
   have HR273_2 := Aside0.mk hi273_2
   have HC273_2 := Aside0.mk hl273_2
   clear hi273_2 hl273_2
   replace p273 := eq_true p273
   replace q273 := eq_true q273
   go_wp2_with (first | ((with_reducible refine gate_dst (N := 7) rfl ?_); refine box_event ?hg (N := 7) ?hd (cs := #[.string (⟨#[]⟩ : ByteArray), .string (⟨#[]⟩ : ByteArray), .slice none 0 0]) (t := 47) ?hr ?_; (case hd => rfl); (case hg => rfl); (case hr => first | (go_simp; done) | (go_simp; rfl)); intro gb274 hg w6 hbox hb; have n0_ := Aside0.mk (Kd.S_below (Kd.S_elderB (by (with_reducible repeat (first | apply Kd.S_alloc | apply Kd.S_drewN | apply Kd.S_drew)); exact HO_5.out) gb274 (Nat.le_of_eq hg.symm)) hb); have n1_ := Aside0.mk (below_step (bz0 HB.out) hb); have n2_ := Aside0.mk (hbox); have n3_ := Aside0.mk ((by rw [hg]; exact (below_size (bz0 HB.out)) : w.heap.size ≤ gb274)); have n4_ := Aside0.mk ((by rw [hg]; exact (below_size (bz0 HB.out)) : w.heap.size ≤ gb274)); clear HO_5; clear HB; have HO_5 := n0_; have HB := n1_; have BK274 := n2_; have GW274 := n3_; have GE274 := n4_; clear n0_ n1_ n2_ n3_ n4_; clear hb hbox hg; have hcz7_0 : w6.cell? ⟨gb274, 0, none⟩ = some (.string (⟨#[]⟩ : ByteArray)) := (blk_cell BK274.out 0).trans rfl; have hcz7_1 : w6.cell? ⟨gb274, 1, none⟩ = some (.string (⟨#[]⟩ : ByteArray)) := (blk_cell BK274.out 1).trans rfl; have hcz7_2 : w6.cell? ⟨gb274, 2, none⟩ = some (.slice none 0 0) := (blk_cell BK274.out 2).trans rfl; have hfz7_0 := blk_frozen BK274.out 0; have hfz7_1 := blk_frozen BK274.out 1; have hfz7_2 := blk_frozen BK274.out 2))
   go_loopg [8, 20] k1 (fun kq v8 v20 w' => ∃ (x8_2 : List (S27)) (x20_2 : Int), v20 = .int .i64 x20_2 ∧ Aside0 (expiry_Drop.l1 kq a1 x5_1 x8_2 l0 (l0.length : Int) x13_1 ((rd_T47 l0 x13_1).f1) (((rd_T47 l0 x13_1).f1).length : Int) x20_2 ((rd_T47 l0 x13_1).f0.f0) ((rd_T47 l0 x13_1).f0.f1) ((rd_T47 l0 x13_1).f1) = some r) ∧ Aside0 (kq ≤ k1) ∧ Aside0 (Kd.S k47 47 w' w.heap.size (fun k_ => some k_ ≠ (v8 : Value).ownBlock ∧ k_ ≠ gb274) u5 x5_1) ∧ Aside0 (Kd.R k27 27 w' w.heap.size (fun _ => True) v8 x8_2) ∧ Aside0 (w'.heap[gb274]? = some (.cells #[.string ((rd_T47 l0 x13_1).f0.f0), .string ((rd_T47 l0 x13_1).f0.f1), (.slice A273_2 ((rd_T47 l0 x13_1).f1).length c273_2)] 47 (0, 0))) ∧ Aside0 (Below w.heap.size w w'))
   case atStart => exact ⟨(([] : List (S27))), (0), rf_, H', ⟨Nat.le_refl _⟩, ⟨by (with_reducible repeat (first | apply Kd.S_alloc | apply Kd.S_drewN | apply Kd.S_drew)); exact Kd.S_mono (Kd.S_far (p := ⟨gb274, 2, none⟩) (Kd.S_far (p := ⟨gb274, 1, none⟩) (Kd.S_far (p := ⟨gb274, 0, none⟩) (Kd.S_mono HO_5.out (fun k_ hk => (⟨hk, hk.2⟩ : _ ∧ k_ ≠ gb274))) (fun _ hk => hk.2) (.string ((rd_T47 l0 x13_1).f0.f0))) (fun _ hk => hk.2) (.string ((rd_T47 l0 x13_1).f0.f1))) (fun _ hk => hk.2) (.slice A273_2 ((rd_T47 l0 x13_1).f1).length c273_2)) (fun _ hk => ⟨(by simp [Value.ownBlock]), hk.1.2⟩)⟩, ⟨by first | exact Kd.R_nil _ _ _ _ _ | exact Kd.N_nil _ _ _ _ _ | exact Kd.V_nil _ _ _ _ _ | exact Kd.Q_nil _ _ _ _ _ | exact Kd.S_nil _ _ _ _ _⟩, ⟨by (with_reducible repeat (first | refine blk_drewN ?_ _ | refine blk_drew ?_ | refine blk_alloc ?_ _)); refine blk_put (cs := #[.string ((rd_T47 l0 x13_1).f0.f0), .string ((rd_T47 l0 x13_1).f0.f1), .slice none 0 0]) ?_ 2 _ rfl; (with_reducible repeat (first | refine blk_drewN ?_ _ | refine blk_drew ?_ | refine blk_alloc ?_ _)); refine blk_put (cs := #[.string ((rd_T47 l0 x13_1).f0.f0), .string (⟨#[]⟩ : ByteArray), .slice none 0 0]) ?_ 1 _ rfl; (with_reducible repeat (first | refine blk_drewN ?_ _ | refine blk_drew ?_ | refine blk_alloc ?_ _)); refine blk_put (cs := #[.string (⟨#[]⟩ : ByteArray), .string (⟨#[]⟩ : ByteArray), .slice none 0 0]) ?_ 0 _ rfl; (with_reducible repeat (first | refine blk_drewN ?_ _ | refine blk_drew ?_ | refine blk_alloc ?_ _)); exact BK274.out⟩, ⟨bz1 HB.out GE274.out⟩⟩
   case round =>
    clear H'
    try clear c2
    try clear p2
    try clear q2
    try clear hx2
    try clear c3
    try clear c3b0
    try clear c4
    try clear c4b0
    try clear c5
    try clear c5b0
    try clear hcz7_0
    try clear hcz7_1
    try clear hcz7_2
    try clear hfz7_0
    try clear hfz7_1
    try clear hfz7_2
    try clear hx273_0
    try clear hx273_1
    try clear hx273_2
    try clear p2
    try clear p273
    try clear q273
    obtain ⟨x8_2, x20_2, rfl, HA, HK2, HO_5, HO_8, BK274, HB⟩ := hrel
    cases gk with
    | zero => exact absurd HA.out (by simp [expiry_Drop.l1])
    | succ k2 =>
     have H := HA.out
     clear HA
     simp only [expiry_Drop.l1] at H
     by_cases c8 : x20_2 < (((rd_T47 l0 x13_1).f1).length : Int)
     rotate_left
     · rw [if_neg c8] at H
       have c8b0 : decide (x20_2 < (((rd_T47 l0 x13_1).f1).length : Int)) = false := decide_eq_false c8
       clear c8
       by_cases c24 : (x8_2.length : Int) > 0
       rotate_left
       · rw [if_neg c24] at H
         have c24b0 : decide (0 < (x8_2.length : Int)) = false := decide_eq_false c24
         have c24b1 : decide (0 < x8_2.length) = false := decide_eq_false (by omega)
         clear c24
         have H' := Aside0.mk H
         clear H
         obtain ⟨Ao29, co29, eo29⟩ := Kd.R_slice HO_8.out
         subst eo29
         go_wp2
         go_roundg k2
         case measure => have := HK1.out; have := HK2.out; omega
         case rel => exact ⟨(x5_1), (wrap64 (x13_1 + 1)), rf_, H', ⟨by have := HK1.out; have := HK2.out; omega⟩, ⟨by (with_reducible repeat (first | apply Kd.S_alloc | apply Kd.S_drewN | apply Kd.S_drew)); exact Kd.S_mono HO_5.out (fun _ hk => trivial)⟩, ⟨bz1 HB.out GE274.out⟩⟩
       rw [if_pos c24] at H
       have c24b0 : decide (0 < (x8_2.length : Int)) = true := decide_eq_true c24
       have c24b1 : decide (0 < x8_2.length) = true := decide_eq_true (by omega)
       clear c24
       by_cases c25 : x5_1.length < 2513169434916
       rotate_left
       · rw [if_neg c25] at H
         exact absurd H (by simp)
       rw [if_pos c25] at H
       have LMc25 := Aside0.mk c25
       clear c25
       obtain ⟨y281, hy281⟩ : ∃ y_ : List (S47), y_ = (x5_1 ++ [(⟨(⟨((rd_T47 l0 x13_1).f0.f0), ((rd_T47 l0 x13_1).f0.f1)⟩ : S44), x8_2⟩ : S47)]) := ⟨_, rfl⟩
       replace H : (expiry_Drop.l0 k2 a1 y281 l0 (l0.length : Int) (wrap64 (x13_1 + 1))) = some r := by first | (rw [hy281]; with_reducible exact H) | (have H2_ := (Option.bind_some _ _).symm.trans H; rw [hy281]; with_reducible exact H2_) | (have H2_ := (Option.bind_some _ _).symm.trans H; with_reducible exact H2_) | with_reducible exact H | (rw [hy281]; exact H) | exact H
       have Ny281 := Aside0.mk hy281
       clear hy281
       have H' := Aside0.mk H
       clear H
       obtain ⟨Ao26, co26, eo26⟩ := Kd.R_slice HO_8.out
       subst eo26
       have hcz27_0 : wr.cell? ⟨gb274, 0, none⟩ = some (.string ((rd_T47 l0 x13_1).f0.f0)) := (blk_cell BK274.out 0).trans rfl
       have hcz27_1 : wr.cell? ⟨gb274, 1, none⟩ = some (.string ((rd_T47 l0 x13_1).f0.f1)) := (blk_cell BK274.out 1).trans rfl
       have hcz27_2 : wr.cell? ⟨gb274, 2, none⟩ = some (.slice A273_2 ((rd_T47 l0 x13_1).f1).length c273_2) := (blk_cell BK274.out 2).trans rfl
       have hfz27_0 := blk_frozen BK274.out 0
       have hfz27_1 := blk_frozen BK274.out 1
       have hfz27_2 := blk_frozen BK274.out 2
       go_wp2_with (first | ((with_reducible refine gate_builtin (b := .append) (xs := #[.tmp 36, .tmp 41]) rfl ?_); at_builtin; refine Kd.S_append k47 (w0 := w) w.heap.size rfl (.tmp 36) (.tmp 41) 37 47 (.agg #[(.string ⟨#[]⟩), (.string ⟨#[]⟩), (.slice none 0 0)]) 56 rfl Try.underlying37 info47 rfl (by decide) (by omega) u5 x5_1 (⟨(⟨((rd_T47 l0 x13_1).f0.f0), ((rd_T47 l0 x13_1).f0.f1)⟩ : S44), x8_2⟩ : S47) [.string ((rd_T47 l0 x13_1).f0.f0), .string ((rd_T47 l0 x13_1).f0.f1), .slice Ao26 x8_2.length co26] (fun k_ => k_ ≠ gb274) (fun k_ => some k_ = (.slice Ao26 x8_2.length co26 : Value).ownBlock) rfl rfl ?aP (fun k_ hk_ => ((Kd.R_mono (ok' := fun k_ => ((fun k_ => k_ ≠ gb274)) k_ ∧ some k_ ≠ (u5 : Value).ownBlock) (Kd.R_types (Kd.R_apart' (HO_8.out) (Kd.S_typed HO_5.out) (by decide)) BK274.out (by decide)) (fun k_ hk => ⟨hk.2, hk.1.2⟩))).1 k_ hk_.symm) ?aF ?aO ?aB ?aS ?aL ?_; (case aP => exact k47_mkM _ _ _ (⟨(⟨((rd_T47 l0 x13_1).f0.f0), ((rd_T47 l0 x13_1).f0.f1)⟩ : S44), x8_2⟩ : S47) (Kd.R_mono (Kd.R_tight rfl (Kd.R_mono (ok' := fun k_ => ((fun k_ => k_ ≠ gb274)) k_ ∧ some k_ ≠ (u5 : Value).ownBlock) (Kd.R_types (Kd.R_apart' (HO_8.out) (Kd.S_typed HO_5.out) (by decide)) BK274.out (by decide)) (fun k_ hk => ⟨hk.2, hk.1.2⟩))) (fun _ h_ => h_))); (case aB => exact (bz1 HB.out GE274.out)); (case aF => exact (fun k_ hk => Kd.freshB (g := gb274) (o := .cells #[.string ((rd_T47 l0 x13_1).f0.f0), .string ((rd_T47 l0 x13_1).f0.f1), .slice A273_2 ((rd_T47 l0 x13_1).f1).length c273_2] 47 (0, 0)) (bk_ BK274.out) k_ hk)); (case aO => exact (by (with_reducible repeat (first | apply Kd.S_alloc | apply Kd.S_drewN | apply Kd.S_drew)); exact Kd.S_mono HO_5.out (fun k_ hk => ⟨hk.2, fun e_ => hk.1 e_⟩))); (case aS => exact (below_size (bz1 HB.out GE274.out))); (case aL => have := LMc25.out; omega); intro v282 w28 ho hb hg hat; rw [← Ny281.out] at ho; have n0_ := Aside0.mk (blk_grown (g := gb274) (o := .cells #[.string ((rd_T47 l0 x13_1).f0.f0), .string ((rd_T47 l0 x13_1).f0.f1), .slice A273_2 ((rd_T47 l0 x13_1).f1).length c273_2] 47 (0, 0)) (bk_ BK274.out) hg (Kd.S_away HO_5.out (fun _ hk => hk.2))); have n1_ := Aside0.mk (hb); have n2_ := Aside0.mk (ho); clear BK274; clear HB; clear HO_5; clear HO_8; have BK274 := n0_; have HB := n1_; have HO283 := n2_; clear n0_ n1_ n2_; clear ho hb hg hat))
       go_roundg k2
       case measure => have := HK1.out; have := HK2.out; omega
       case rel => exact ⟨(y281), (wrap64 (x13_1 + 1)), rf_, H', ⟨by have := HK1.out; have := HK2.out; omega⟩, ⟨by (with_reducible repeat (first | apply Kd.S_alloc | apply Kd.S_drewN | apply Kd.S_drew)); exact Kd.S_mono HO283.out (fun _ hk => trivial)⟩, ⟨bz1 HB.out GE274.out⟩⟩
     rw [if_pos c8] at H
     have c8b0 : decide (x20_2 < (((rd_T47 l0 x13_1).f1).length : Int)) = true := decide_eq_true c8
     clear c8
     by_cases c9 : 0 ≤ x20_2
     rotate_left
     · rw [if_neg c9] at H
       exact absurd H (by simp)
     rw [if_pos c9] at H
     have c9b0 : decide (0 ≤ x20_2) = true := decide_eq_true c9
     clear c9
     by_cases c10 : x20_2 < (((rd_T47 l0 x13_1).f1).length : Int)
     rotate_left
     · rw [if_neg c10] at H
       exact absurd H (by simp)
     rw [if_pos c10] at H
     have c10b0 : decide (x20_2 < (((rd_T47 l0 x13_1).f1).length : Int)) = true := decide_eq_true c10
     clear c10
     replace H := Option.bind_eq_some_iff.mp H
     obtain ⟨t277, A110, H⟩ := H
     replace H : (if t277 = true then (if x8_2.length < 2513169434916 then (expiry_Drop.l1 k2 a1 x5_1 (x8_2 ++ [(⟨(⟨(rd_T27 ((rd_T47 l0 x13_1).f1) x20_2).f0.f0, (rd_T27 ((rd_T47 l0 x13_1).f1) x20_2).f0.f1, (rd_T27 ((rd_T47 l0 x13_1).f1) x20_2).f0.f2, (rd_T27 ((rd_T47 l0 x13_1).f1) x20_2).f0.f3⟩ : S25), (rd_T27 ((rd_T47 l0 x13_1).f1) x20_2).f1, (rd_T27 ((rd_T47 l0 x13_1).f1) x20_2).f2⟩ : S27)]) l0 (l0.length : Int) x13_1 ((rd_T47 l0 x13_1).f1) (((rd_T47 l0 x13_1).f1).length : Int) (wrap64 (x20_2 + 1)) ((rd_T47 l0 x13_1).f0.f0) ((rd_T47 l0 x13_1).f0.f1) ((rd_T47 l0 x13_1).f1)) else (none)) else (expiry_Drop.l1 k2 a1 x5_1 x8_2 l0 (l0.length : Int) x13_1 ((rd_T47 l0 x13_1).f1) (((rd_T47 l0 x13_1).f1).length : Int) (wrap64 (x20_2 + 1)) ((rd_T47 l0 x13_1).f0.f0) ((rd_T47 l0 x13_1).f0.f1) ((rd_T47 l0 x13_1).f1))) = some r := H
     have A11 := Aside0.mk A110
     clear A110
     by_cases c12 : t277 = true
     rotate_left
     · replace c12 := Bool.eq_false_iff.mpr c12
       subst c12
       have H1 : (expiry_Drop.l1 k2 a1 x5_1 x8_2 l0 (l0.length : Int) x13_1 ((rd_T47 l0 x13_1).f1) (((rd_T47 l0 x13_1).f1).length : Int) (wrap64 (x20_2 + 1)) ((rd_T47 l0 x13_1).f0.f0) ((rd_T47 l0 x13_1).f0.f1) ((rd_T47 l0 x13_1).f1)) = some r := by rw [if_neg (show ¬ (false = true) by decide)] at H; exact H
       clear H
       have H := H1
       clear H1
       have H' := Aside0.mk H
       clear H
       have p275 : 0 ≤ (x20_2 : Int) := od_
       have q275 : x20_2 < (((rd_T47 l0 x13_1).f1).length : Int) := od_
       obtain ⟨ad275, e275, hx275_0, hx275_1, hx275_2, hx275_3, hx275_4, hx275_5⟩ := at_T27 HR273_2.out x20_2 p275 q275
       cases e275
       replace hx275_0 := (HB.out.cell (World.block_lt_of_cell? w _ hx275_0)).trans hx275_0
       replace hx275_1 := (HB.out.cell (World.block_lt_of_cell? w _ hx275_1)).trans hx275_1
       replace hx275_2 := (HB.out.cell (World.block_lt_of_cell? w _ hx275_2)).trans hx275_2
       replace hx275_3 := (HB.out.cell (World.block_lt_of_cell? w _ hx275_3)).trans hx275_3
       replace hx275_4 := (HB.out.cell (World.block_lt_of_cell? w _ hx275_4)).trans hx275_4
       replace hx275_5 := (HB.out.cell (World.block_lt_of_cell? w _ hx275_5)).trans hx275_5
       replace p275 := eq_true p275
       replace q275 := eq_true q275
       go_wp2_with (first | ((with_reducible refine gate_dst (N := 10) rfl ?_); refine box_event ?hg (N := 10) ?hd (cs := #[.string (⟨#[]⟩ : ByteArray), .int .i64 0, .int .i64 0, .int .i64 0, .int .i64 0, .int .i64 0]) (t := 27) ?hr ?_; (case hd => rfl); (case hg => rfl); (case hr => first | (go_simp; done) | (go_simp; rfl)); intro gb276 hg w20 hbox hb; have n0_ := Aside0.mk (Kd.S_below (Kd.S_elderB (by (with_reducible repeat (first | apply Kd.S_alloc | apply Kd.S_drewN | apply Kd.S_drew)); exact HO_5.out) gb276 (Nat.le_of_eq hg.symm)) hb); have n1_ := Aside0.mk (Kd.R_below (Kd.R_elderB (br_ HO_8.out) gb276 (Nat.le_of_eq hg.symm)) hb); have n2_ := Aside0.mk (blk_below (g := gb274) (o := .cells #[.string ((rd_T47 l0 x13_1).f0.f0), .string ((rd_T47 l0 x13_1).f0.f1), .slice (some ad275) ((rd_T47 l0 x13_1).f1).length c273_2] 47 (0, 0)) (bk_ BK274.out) hb); have n3_ := Aside0.mk (below_step (bz1 HB.out GE274.out) hb); have n4_ := Aside0.mk (hbox); have n5_ := Aside0.mk ((by rw [hg]; exact (below_size (bz1 HB.out GE274.out)) : w.heap.size ≤ gb276)); have n6_ := Aside0.mk ((by rw [hg]; exact (below_size (bz1 HB.out GE274.out)) : w.heap.size ≤ gb276)); have n7_ := Aside0.mk ((by rw [hg]; exact Nat.ne_of_lt (blk_lt (g := gb274) (o := .cells #[.string ((rd_T47 l0 x13_1).f0.f0), .string ((rd_T47 l0 x13_1).f0.f1), .slice (some ad275) ((rd_T47 l0 x13_1).f1).length c273_2] 47 (0, 0)) (bk_ BK274.out)) : gb274 ≠ gb276)); have n8_ := Aside0.mk ((by rw [hg]; exact Nat.ne_of_gt (blk_lt (g := gb274) (o := .cells #[.string ((rd_T47 l0 x13_1).f0.f0), .string ((rd_T47 l0 x13_1).f0.f1), .slice (some ad275) ((rd_T47 l0 x13_1).f1).length c273_2] 47 (0, 0)) (bk_ BK274.out)) : gb276 ≠ gb274)); clear HO_5; clear HO_8; clear BK274; clear HB; have HO_5 := n0_; have HO_8 := n1_; have BK274 := n2_; have HB := n3_; have BK276 := n4_; have GW276 := n5_; have GE276 := n6_; have NB274_276 := n7_; have NB276_274 := n8_; clear n0_ n1_ n2_ n3_ n4_ n5_ n6_ n7_ n8_; clear hb hbox hg; have hnb21 := NB276_274.out; have hnc21 := NB274_276.out; have hcz22_0 : w20.cell? ⟨gb276, 0, none⟩ = some (.string (⟨#[]⟩ : ByteArray)) := (blk_cell BK276.out 0).trans rfl; have hcz22_1 : w20.cell? ⟨gb276, 1, none⟩ = some (.int .i64 0) := (blk_cell BK276.out 1).trans rfl; have hcz22_2 : w20.cell? ⟨gb276, 2, none⟩ = some (.int .i64 0) := (blk_cell BK276.out 2).trans rfl; have hcz22_3 : w20.cell? ⟨gb276, 3, none⟩ = some (.int .i64 0) := (blk_cell BK276.out 3).trans rfl; have hcz22_4 : w20.cell? ⟨gb276, 4, none⟩ = some (.int .i64 0) := (blk_cell BK276.out 4).trans rfl; have hcz22_5 : w20.cell? ⟨gb276, 5, none⟩ = some (.int .i64 0) := (blk_cell BK276.out 5).trans rfl; have hfz22_0 := blk_frozen BK276.out 0; have hfz22_1 := blk_frozen BK276.out 1; have hfz22_2 := blk_frozen BK276.out 2; have hfz22_3 := blk_frozen BK276.out 3; have hfz22_4 := blk_frozen BK276.out 4; have hfz22_5 := blk_frozen BK276.out 5) | ((with_reducible refine gate_callee (f := 54) rfl ?_); refine goesL_ (some 27) rfl rfl Try.func54 (by kernel_rfl) rfl #[.agg #[.string ((rd_T27 ((rd_T47 l0 x13_1).f1) x20_2).f0.f0), .int .i64 ((rd_T27 ((rd_T47 l0 x13_1).f1) x20_2).f0.f1), .int .i64 ((rd_T27 ((rd_T47 l0 x13_1).f1) x20_2).f0.f2), .int .i64 ((rd_T27 ((rd_T47 l0 x13_1).f1) x20_2).f0.f3)], .int .i64 a1] rfl pm_ ?_; (with_reducible refine (series_Live.calls ((rd_T27 ((rd_T47 l0 x13_1).f1) x20_2).f0.f0) ((rd_T27 ((rd_T47 l0 x13_1).f1) x20_2).f0.f1) ((rd_T27 ((rd_T47 l0 x13_1).f1) x20_2).f0.f2) ((rd_T27 ((rd_T47 l0 x13_1).f1) x20_2).f0.f3) a1 false _ A11.out).mono ?_); rintro e w23 ⟨rfl, hb⟩; refine ⟨_, rfl, ?_⟩; have n0_ := Aside0.mk (Kd.S_below (by (with_reducible repeat (first | apply Kd.S_alloc | apply Kd.S_drewN | apply Kd.S_drew)); exact (Kd.S_mono (Kd.S_far (p := ⟨gb276, 5, none⟩) (Kd.S_far (p := ⟨gb276, 4, none⟩) (Kd.S_far (p := ⟨gb276, 3, none⟩) (Kd.S_far (p := ⟨gb276, 2, none⟩) (Kd.S_far (p := ⟨gb276, 1, none⟩) (Kd.S_far (p := ⟨gb276, 0, none⟩) (Kd.S_mono HO_5.out (fun k_ hk => (⟨hk, hk.2⟩ : _ ∧ k_ ≠ gb276))) (fun _ hk => hk.2) (.string ((rd_T27 ((rd_T47 l0 x13_1).f1) x20_2).f0.f0))) (fun _ hk => hk.2) (.int .i64 ((rd_T27 ((rd_T47 l0 x13_1).f1) x20_2).f0.f1))) (fun _ hk => hk.2) (.int .i64 ((rd_T27 ((rd_T47 l0 x13_1).f1) x20_2).f0.f2))) (fun _ hk => hk.2) (.int .i64 ((rd_T27 ((rd_T47 l0 x13_1).f1) x20_2).f0.f3))) (fun _ hk => hk.2) (.int .i64 ((rd_T27 ((rd_T47 l0 x13_1).f1) x20_2).f1))) (fun _ hk => hk.2) (.int .i64 ((rd_T27 ((rd_T47 l0 x13_1).f1) x20_2).f2))) (fun _ h_ => h_.1))) hb); have n1_ := Aside0.mk (Kd.R_below (by (with_reducible repeat (first | apply Kd.R_alloc | apply Kd.R_drewN | apply Kd.R_drew)); exact (Kd.R_mono (Kd.R_far (p := ⟨gb276, 5, none⟩) (Kd.R_far (p := ⟨gb276, 4, none⟩) (Kd.R_far (p := ⟨gb276, 3, none⟩) (Kd.R_far (p := ⟨gb276, 2, none⟩) (Kd.R_far (p := ⟨gb276, 1, none⟩) (Kd.R_far (p := ⟨gb276, 0, none⟩) (Kd.R_mono HO_8.out (fun k_ hk => (⟨hk, hk.2⟩ : _ ∧ k_ ≠ gb276))) (fun _ hk => hk.2) (.string ((rd_T27 ((rd_T47 l0 x13_1).f1) x20_2).f0.f0))) (fun _ hk => hk.2) (.int .i64 ((rd_T27 ((rd_T47 l0 x13_1).f1) x20_2).f0.f1))) (fun _ hk => hk.2) (.int .i64 ((rd_T27 ((rd_T47 l0 x13_1).f1) x20_2).f0.f2))) (fun _ hk => hk.2) (.int .i64 ((rd_T27 ((rd_T47 l0 x13_1).f1) x20_2).f0.f3))) (fun _ hk => hk.2) (.int .i64 ((rd_T27 ((rd_T47 l0 x13_1).f1) x20_2).f1))) (fun _ hk => hk.2) (.int .i64 ((rd_T27 ((rd_T47 l0 x13_1).f1) x20_2).f2))) (fun _ h_ => h_.1))) hb); have n2_ := Aside0.mk (blk_below (g := gb274) (o := .cells #[.string ((rd_T47 l0 x13_1).f0.f0), .string ((rd_T47 l0 x13_1).f0.f1), .slice (some ad275) ((rd_T47 l0 x13_1).f1).length c273_2] 47 (0, 0)) (by (with_reducible repeat (first | refine blk_drewN ?_ _ | refine blk_drew ?_ | refine blk_alloc ?_ _)); refine blk_far ?_ NB274_276.out _; (with_reducible repeat (first | refine blk_drewN ?_ _ | refine blk_drew ?_ | refine blk_alloc ?_ _)); refine blk_far ?_ NB274_276.out _; (with_reducible repeat (first | refine blk_drewN ?_ _ | refine blk_drew ?_ | refine blk_alloc ?_ _)); refine blk_far ?_ NB274_276.out _; (with_reducible repeat (first | refine blk_drewN ?_ _ | refine blk_drew ?_ | refine blk_alloc ?_ _)); refine blk_far ?_ NB274_276.out _; (with_reducible repeat (first | refine blk_drewN ?_ _ | refine blk_drew ?_ | refine blk_alloc ?_ _)); refine blk_far ?_ NB274_276.out _; (with_reducible repeat (first | refine blk_drewN ?_ _ | refine blk_drew ?_ | refine blk_alloc ?_ _)); refine blk_far ?_ NB274_276.out _; (with_reducible repeat (first | refine blk_drewN ?_ _ | refine blk_drew ?_ | refine blk_alloc ?_ _)); exact BK274.out) hb); have n3_ := Aside0.mk (blk_below (g := gb276) (o := .cells #[.string ((rd_T27 ((rd_T47 l0 x13_1).f1) x20_2).f0.f0), .int .i64 ((rd_T27 ((rd_T47 l0 x13_1).f1) x20_2).f0.f1), .int .i64 ((rd_T27 ((rd_T47 l0 x13_1).f1) x20_2).f0.f2), .int .i64 ((rd_T27 ((rd_T47 l0 x13_1).f1) x20_2).f0.f3), .int .i64 ((rd_T27 ((rd_T47 l0 x13_1).f1) x20_2).f1), .int .i64 ((rd_T27 ((rd_T47 l0 x13_1).f1) x20_2).f2)] 27 (0, 0)) (by (with_reducible repeat (first | refine blk_drewN ?_ _ | refine blk_drew ?_ | refine blk_alloc ?_ _)); refine blk_put (cs := #[.string ((rd_T27 ((rd_T47 l0 x13_1).f1) x20_2).f0.f0), .int .i64 ((rd_T27 ((rd_T47 l0 x13_1).f1) x20_2).f0.f1), .int .i64 ((rd_T27 ((rd_T47 l0 x13_1).f1) x20_2).f0.f2), .int .i64 ((rd_T27 ((rd_T47 l0 x13_1).f1) x20_2).f0.f3), .int .i64 ((rd_T27 ((rd_T47 l0 x13_1).f1) x20_2).f1), .int .i64 0]) ?_ 5 _ rfl; (with_reducible repeat (first | refine blk_drewN ?_ _ | refine blk_drew ?_ | refine blk_alloc ?_ _)); refine blk_put (cs := #[.string ((rd_T27 ((rd_T47 l0 x13_1).f1) x20_2).f0.f0), .int .i64 ((rd_T27 ((rd_T47 l0 x13_1).f1) x20_2).f0.f1), .int .i64 ((rd_T27 ((rd_T47 l0 x13_1).f1) x20_2).f0.f2), .int .i64 ((rd_T27 ((rd_T47 l0 x13_1).f1) x20_2).f0.f3), .int .i64 0, .int .i64 0]) ?_ 4 _ rfl; (with_reducible repeat (first | refine blk_drewN ?_ _ | refine blk_drew ?_ | refine blk_alloc ?_ _)); refine blk_put (cs := #[.string ((rd_T27 ((rd_T47 l0 x13_1).f1) x20_2).f0.f0), .int .i64 ((rd_T27 ((rd_T47 l0 x13_1).f1) x20_2).f0.f1), .int .i64 ((rd_T27 ((rd_T47 l0 x13_1).f1) x20_2).f0.f2), .int .i64 0, .int .i64 0, .int .i64 0]) ?_ 3 _ rfl; (with_reducible repeat (first | refine blk_drewN ?_ _ | refine blk_drew ?_ | refine blk_alloc ?_ _)); refine blk_put (cs := #[.string ((rd_T27 ((rd_T47 l0 x13_1).f1) x20_2).f0.f0), .int .i64 ((rd_T27 ((rd_T47 l0 x13_1).f1) x20_2).f0.f1), .int .i64 0, .int .i64 0, .int .i64 0, .int .i64 0]) ?_ 2 _ rfl; (with_reducible repeat (first | refine blk_drewN ?_ _ | refine blk_drew ?_ | refine blk_alloc ?_ _)); refine blk_put (cs := #[.string ((rd_T27 ((rd_T47 l0 x13_1).f1) x20_2).f0.f0), .int .i64 0, .int .i64 0, .int .i64 0, .int .i64 0, .int .i64 0]) ?_ 1 _ rfl; (with_reducible repeat (first | refine blk_drewN ?_ _ | refine blk_drew ?_ | refine blk_alloc ?_ _)); refine blk_put (cs := #[.string (⟨#[]⟩ : ByteArray), .int .i64 0, .int .i64 0, .int .i64 0, .int .i64 0, .int .i64 0]) ?_ 0 _ rfl; (with_reducible repeat (first | refine blk_drewN ?_ _ | refine blk_drew ?_ | refine blk_alloc ?_ _)); exact BK276.out) hb); have n4_ := Aside0.mk (below_step (bz2 HB.out GE274.out GE276.out) hb); clear HO_5; clear HO_8; clear BK274; clear BK276; clear HB; have HO_5 := n0_; have HO_8 := n1_; have BK274 := n2_; have BK276 := n3_; have HB := n4_; clear n0_ n1_ n2_ n3_ n4_; (try clear hb); (try clear hb2); (try clear hk); (try clear hi)))
       go_roundg k2
       case measure => have := HK1.out; have := HK2.out; omega
       case rel => exact ⟨(x8_2), (wrap64 (x20_2 + 1)), rf_, H', ⟨by have := HK1.out; have := HK2.out; omega⟩, ⟨by (with_reducible repeat (first | apply Kd.S_alloc | apply Kd.S_drewN | apply Kd.S_drew)); exact Kd.S_mono HO_5.out (fun _ hk => ⟨hk.1.1, hk.1.2⟩)⟩, ⟨by (with_reducible repeat (first | apply Kd.R_alloc | apply Kd.R_drewN | apply Kd.R_drew)); exact Kd.R_mono HO_8.out (fun _ hk => trivial)⟩, ⟨by (with_reducible repeat (first | refine blk_drewN ?_ _ | refine blk_drew ?_ | refine blk_alloc ?_ _)); exact BK274.out⟩, ⟨bz2 HB.out GE274.out GE276.out⟩⟩
     subst c12
     have H1 : (if x8_2.length < 2513169434916 then (expiry_Drop.l1 k2 a1 x5_1 (x8_2 ++ [(⟨(⟨(rd_T27 ((rd_T47 l0 x13_1).f1) x20_2).f0.f0, (rd_T27 ((rd_T47 l0 x13_1).f1) x20_2).f0.f1, (rd_T27 ((rd_T47 l0 x13_1).f1) x20_2).f0.f2, (rd_T27 ((rd_T47 l0 x13_1).f1) x20_2).f0.f3⟩ : S25), (rd_T27 ((rd_T47 l0 x13_1).f1) x20_2).f1, (rd_T27 ((rd_T47 l0 x13_1).f1) x20_2).f2⟩ : S27)]) l0 (l0.length : Int) x13_1 ((rd_T47 l0 x13_1).f1) (((rd_T47 l0 x13_1).f1).length : Int) (wrap64 (x20_2 + 1)) ((rd_T47 l0 x13_1).f0.f0) ((rd_T47 l0 x13_1).f0.f1) ((rd_T47 l0 x13_1).f1)) else (none)) = some r := by rw [if_pos rfl] at H; exact H
     clear H
     have H := H1
     clear H1
     by_cases c13 : x8_2.length < 2513169434916
     rotate_left
     · rw [if_neg c13] at H
       exact absurd H (by simp)
     rw [if_pos c13] at H
     have LMc13 := Aside0.mk c13
     clear c13
     obtain ⟨y278, hy278⟩ : ∃ y_ : List (S27), y_ = (x8_2 ++ [(⟨(⟨(rd_T27 ((rd_T47 l0 x13_1).f1) x20_2).f0.f0, (rd_T27 ((rd_T47 l0 x13_1).f1) x20_2).f0.f1, (rd_T27 ((rd_T47 l0 x13_1).f1) x20_2).f0.f2, (rd_T27 ((rd_T47 l0 x13_1).f1) x20_2).f0.f3⟩ : S25), (rd_T27 ((rd_T47 l0 x13_1).f1) x20_2).f1, (rd_T27 ((rd_T47 l0 x13_1).f1) x20_2).f2⟩ : S27)]) := ⟨_, rfl⟩
     replace H : (expiry_Drop.l1 k2 a1 x5_1 y278 l0 (l0.length : Int) x13_1 ((rd_T47 l0 x13_1).f1) (((rd_T47 l0 x13_1).f1).length : Int) (wrap64 (x20_2 + 1)) ((rd_T47 l0 x13_1).f0.f0) ((rd_T47 l0 x13_1).f0.f1) ((rd_T47 l0 x13_1).f1)) = some r := by first | (rw [hy278]; with_reducible exact H) | (have H2_ := (Option.bind_some _ _).symm.trans H; rw [hy278]; with_reducible exact H2_) | (have H2_ := (Option.bind_some _ _).symm.trans H; with_reducible exact H2_) | with_reducible exact H | (rw [hy278]; exact H) | exact H
     have Ny278 := Aside0.mk hy278
     clear hy278
     have H' := Aside0.mk H
     clear H
     have p275 : 0 ≤ (x20_2 : Int) := od_
     have q275 : x20_2 < (((rd_T47 l0 x13_1).f1).length : Int) := od_
     obtain ⟨ad275, e275, hx275_0, hx275_1, hx275_2, hx275_3, hx275_4, hx275_5⟩ := at_T27 HR273_2.out x20_2 p275 q275
     cases e275
     replace hx275_0 := (HB.out.cell (World.block_lt_of_cell? w _ hx275_0)).trans hx275_0
     replace hx275_1 := (HB.out.cell (World.block_lt_of_cell? w _ hx275_1)).trans hx275_1
     replace hx275_2 := (HB.out.cell (World.block_lt_of_cell? w _ hx275_2)).trans hx275_2
     replace hx275_3 := (HB.out.cell (World.block_lt_of_cell? w _ hx275_3)).trans hx275_3
     replace hx275_4 := (HB.out.cell (World.block_lt_of_cell? w _ hx275_4)).trans hx275_4
     replace hx275_5 := (HB.out.cell (World.block_lt_of_cell? w _ hx275_5)).trans hx275_5
     replace p275 := eq_true p275
     replace q275 := eq_true q275
     go_wp2_with (first | ((with_reducible refine gate_dst (N := 10) rfl ?_); refine box_event ?hg (N := 10) ?hd (cs := #[.string (⟨#[]⟩ : ByteArray), .int .i64 0, .int .i64 0, .int .i64 0, .int .i64 0, .int .i64 0]) (t := 27) ?hr ?_; (case hd => rfl); (case hg => rfl); (case hr => first | (go_simp; done) | (go_simp; rfl)); intro gb276 hg w14 hbox hb; have n0_ := Aside0.mk (Kd.S_below (Kd.S_elderB (by (with_reducible repeat (first | apply Kd.S_alloc | apply Kd.S_drewN | apply Kd.S_drew)); exact HO_5.out) gb276 (Nat.le_of_eq hg.symm)) hb); have n1_ := Aside0.mk (Kd.R_below (Kd.R_elderB (br_ HO_8.out) gb276 (Nat.le_of_eq hg.symm)) hb); have n2_ := Aside0.mk (blk_below (g := gb274) (o := .cells #[.string ((rd_T47 l0 x13_1).f0.f0), .string ((rd_T47 l0 x13_1).f0.f1), .slice (some ad275) ((rd_T47 l0 x13_1).f1).length c273_2] 47 (0, 0)) (bk_ BK274.out) hb); have n3_ := Aside0.mk (below_step (bz1 HB.out GE274.out) hb); have n4_ := Aside0.mk (hbox); have n5_ := Aside0.mk ((by rw [hg]; exact (below_size (bz1 HB.out GE274.out)) : w.heap.size ≤ gb276)); have n6_ := Aside0.mk ((by rw [hg]; exact (below_size (bz1 HB.out GE274.out)) : w.heap.size ≤ gb276)); have n7_ := Aside0.mk ((by rw [hg]; exact Nat.ne_of_lt (blk_lt (g := gb274) (o := .cells #[.string ((rd_T47 l0 x13_1).f0.f0), .string ((rd_T47 l0 x13_1).f0.f1), .slice (some ad275) ((rd_T47 l0 x13_1).f1).length c273_2] 47 (0, 0)) (bk_ BK274.out)) : gb274 ≠ gb276)); have n8_ := Aside0.mk ((by rw [hg]; exact Nat.ne_of_gt (blk_lt (g := gb274) (o := .cells #[.string ((rd_T47 l0 x13_1).f0.f0), .string ((rd_T47 l0 x13_1).f0.f1), .slice (some ad275) ((rd_T47 l0 x13_1).f1).length c273_2] 47 (0, 0)) (bk_ BK274.out)) : gb276 ≠ gb274)); clear HO_5; clear HO_8; clear BK274; clear HB; have HO_5 := n0_; have HO_8 := n1_; have BK274 := n2_; have HB := n3_; have BK276 := n4_; have GW276 := n5_; have GE276 := n6_; have NB274_276 := n7_; have NB276_274 := n8_; clear n0_ n1_ n2_ n3_ n4_ n5_ n6_ n7_ n8_; clear hb hbox hg; have hnb15 := NB276_274.out; have hnc15 := NB274_276.out; have hcz16_0 : w14.cell? ⟨gb276, 0, none⟩ = some (.string (⟨#[]⟩ : ByteArray)) := (blk_cell BK276.out 0).trans rfl; have hcz16_1 : w14.cell? ⟨gb276, 1, none⟩ = some (.int .i64 0) := (blk_cell BK276.out 1).trans rfl; have hcz16_2 : w14.cell? ⟨gb276, 2, none⟩ = some (.int .i64 0) := (blk_cell BK276.out 2).trans rfl; have hcz16_3 : w14.cell? ⟨gb276, 3, none⟩ = some (.int .i64 0) := (blk_cell BK276.out 3).trans rfl; have hcz16_4 : w14.cell? ⟨gb276, 4, none⟩ = some (.int .i64 0) := (blk_cell BK276.out 4).trans rfl; have hcz16_5 : w14.cell? ⟨gb276, 5, none⟩ = some (.int .i64 0) := (blk_cell BK276.out 5).trans rfl; have hfz16_0 := blk_frozen BK276.out 0; have hfz16_1 := blk_frozen BK276.out 1; have hfz16_2 := blk_frozen BK276.out 2; have hfz16_3 := blk_frozen BK276.out 3; have hfz16_4 := blk_frozen BK276.out 4; have hfz16_5 := blk_frozen BK276.out 5) | ((with_reducible refine gate_callee (f := 54) rfl ?_); refine goesL_ (some 27) rfl rfl Try.func54 (by kernel_rfl) rfl #[.agg #[.string ((rd_T27 ((rd_T47 l0 x13_1).f1) x20_2).f0.f0), .int .i64 ((rd_T27 ((rd_T47 l0 x13_1).f1) x20_2).f0.f1), .int .i64 ((rd_T27 ((rd_T47 l0 x13_1).f1) x20_2).f0.f2), .int .i64 ((rd_T27 ((rd_T47 l0 x13_1).f1) x20_2).f0.f3)], .int .i64 a1] rfl pm_ ?_; (with_reducible refine (series_Live.calls ((rd_T27 ((rd_T47 l0 x13_1).f1) x20_2).f0.f0) ((rd_T27 ((rd_T47 l0 x13_1).f1) x20_2).f0.f1) ((rd_T27 ((rd_T47 l0 x13_1).f1) x20_2).f0.f2) ((rd_T27 ((rd_T47 l0 x13_1).f1) x20_2).f0.f3) a1 true _ A11.out).mono ?_); rintro e w17 ⟨rfl, hb⟩; refine ⟨_, rfl, ?_⟩; have n0_ := Aside0.mk (Kd.S_below (by (with_reducible repeat (first | apply Kd.S_alloc | apply Kd.S_drewN | apply Kd.S_drew)); exact (Kd.S_mono (Kd.S_far (p := ⟨gb276, 5, none⟩) (Kd.S_far (p := ⟨gb276, 4, none⟩) (Kd.S_far (p := ⟨gb276, 3, none⟩) (Kd.S_far (p := ⟨gb276, 2, none⟩) (Kd.S_far (p := ⟨gb276, 1, none⟩) (Kd.S_far (p := ⟨gb276, 0, none⟩) (Kd.S_mono HO_5.out (fun k_ hk => (⟨hk, hk.2⟩ : _ ∧ k_ ≠ gb276))) (fun _ hk => hk.2) (.string ((rd_T27 ((rd_T47 l0 x13_1).f1) x20_2).f0.f0))) (fun _ hk => hk.2) (.int .i64 ((rd_T27 ((rd_T47 l0 x13_1).f1) x20_2).f0.f1))) (fun _ hk => hk.2) (.int .i64 ((rd_T27 ((rd_T47 l0 x13_1).f1) x20_2).f0.f2))) (fun _ hk => hk.2) (.int .i64 ((rd_T27 ((rd_T47 l0 x13_1).f1) x20_2).f0.f3))) (fun _ hk => hk.2) (.int .i64 ((rd_T27 ((rd_T47 l0 x13_1).f1) x20_2).f1))) (fun _ hk => hk.2) (.int .i64 ((rd_T27 ((rd_T47 l0 x13_1).f1) x20_2).f2))) (fun _ h_ => h_.1))) hb); have n1_ := Aside0.mk (Kd.R_below (by (with_reducible repeat (first | apply Kd.R_alloc | apply Kd.R_drewN | apply Kd.R_drew)); exact (Kd.R_mono (Kd.R_far (p := ⟨gb276, 5, none⟩) (Kd.R_far (p := ⟨gb276, 4, none⟩) (Kd.R_far (p := ⟨gb276, 3, none⟩) (Kd.R_far (p := ⟨gb276, 2, none⟩) (Kd.R_far (p := ⟨gb276, 1, none⟩) (Kd.R_far (p := ⟨gb276, 0, none⟩) (Kd.R_mono HO_8.out (fun k_ hk => (⟨hk, hk.2⟩ : _ ∧ k_ ≠ gb276))) (fun _ hk => hk.2) (.string ((rd_T27 ((rd_T47 l0 x13_1).f1) x20_2).f0.f0))) (fun _ hk => hk.2) (.int .i64 ((rd_T27 ((rd_T47 l0 x13_1).f1) x20_2).f0.f1))) (fun _ hk => hk.2) (.int .i64 ((rd_T27 ((rd_T47 l0 x13_1).f1) x20_2).f0.f2))) (fun _ hk => hk.2) (.int .i64 ((rd_T27 ((rd_T47 l0 x13_1).f1) x20_2).f0.f3))) (fun _ hk => hk.2) (.int .i64 ((rd_T27 ((rd_T47 l0 x13_1).f1) x20_2).f1))) (fun _ hk => hk.2) (.int .i64 ((rd_T27 ((rd_T47 l0 x13_1).f1) x20_2).f2))) (fun _ h_ => h_.1))) hb); have n2_ := Aside0.mk (blk_below (g := gb274) (o := .cells #[.string ((rd_T47 l0 x13_1).f0.f0), .string ((rd_T47 l0 x13_1).f0.f1), .slice (some ad275) ((rd_T47 l0 x13_1).f1).length c273_2] 47 (0, 0)) (by (with_reducible repeat (first | refine blk_drewN ?_ _ | refine blk_drew ?_ | refine blk_alloc ?_ _)); refine blk_far ?_ NB274_276.out _; (with_reducible repeat (first | refine blk_drewN ?_ _ | refine blk_drew ?_ | refine blk_alloc ?_ _)); refine blk_far ?_ NB274_276.out _; (with_reducible repeat (first | refine blk_drewN ?_ _ | refine blk_drew ?_ | refine blk_alloc ?_ _)); refine blk_far ?_ NB274_276.out _; (with_reducible repeat (first | refine blk_drewN ?_ _ | refine blk_drew ?_ | refine blk_alloc ?_ _)); refine blk_far ?_ NB274_276.out _; (with_reducible repeat (first | refine blk_drewN ?_ _ | refine blk_drew ?_ | refine blk_alloc ?_ _)); refine blk_far ?_ NB274_276.out _; (with_reducible repeat (first | refine blk_drewN ?_ _ | refine blk_drew ?_ | refine blk_alloc ?_ _)); refine blk_far ?_ NB274_276.out _; (with_reducible repeat (first | refine blk_drewN ?_ _ | refine blk_drew ?_ | refine blk_alloc ?_ _)); exact BK274.out) hb); have n3_ := Aside0.mk (blk_below (g := gb276) (o := .cells #[.string ((rd_T27 ((rd_T47 l0 x13_1).f1) x20_2).f0.f0), .int .i64 ((rd_T27 ((rd_T47 l0 x13_1).f1) x20_2).f0.f1), .int .i64 ((rd_T27 ((rd_T47 l0 x13_1).f1) x20_2).f0.f2), .int .i64 ((rd_T27 ((rd_T47 l0 x13_1).f1) x20_2).f0.f3), .int .i64 ((rd_T27 ((rd_T47 l0 x13_1).f1) x20_2).f1), .int .i64 ((rd_T27 ((rd_T47 l0 x13_1).f1) x20_2).f2)] 27 (0, 0)) (by (with_reducible repeat (first | refine blk_drewN ?_ _ | refine blk_drew ?_ | refine blk_alloc ?_ _)); refine blk_put (cs := #[.string ((rd_T27 ((rd_T47 l0 x13_1).f1) x20_2).f0.f0), .int .i64 ((rd_T27 ((rd_T47 l0 x13_1).f1) x20_2).f0.f1), .int .i64 ((rd_T27 ((rd_T47 l0 x13_1).f1) x20_2).f0.f2), .int .i64 ((rd_T27 ((rd_T47 l0 x13_1).f1) x20_2).f0.f3), .int .i64 ((rd_T27 ((rd_T47 l0 x13_1).f1) x20_2).f1), .int .i64 0]) ?_ 5 _ rfl; (with_reducible repeat (first | refine blk_drewN ?_ _ | refine blk_drew ?_ | refine blk_alloc ?_ _)); refine blk_put (cs := #[.string ((rd_T27 ((rd_T47 l0 x13_1).f1) x20_2).f0.f0), .int .i64 ((rd_T27 ((rd_T47 l0 x13_1).f1) x20_2).f0.f1), .int .i64 ((rd_T27 ((rd_T47 l0 x13_1).f1) x20_2).f0.f2), .int .i64 ((rd_T27 ((rd_T47 l0 x13_1).f1) x20_2).f0.f3), .int .i64 0, .int .i64 0]) ?_ 4 _ rfl; (with_reducible repeat (first | refine blk_drewN ?_ _ | refine blk_drew ?_ | refine blk_alloc ?_ _)); refine blk_put (cs := #[.string ((rd_T27 ((rd_T47 l0 x13_1).f1) x20_2).f0.f0), .int .i64 ((rd_T27 ((rd_T47 l0 x13_1).f1) x20_2).f0.f1), .int .i64 ((rd_T27 ((rd_T47 l0 x13_1).f1) x20_2).f0.f2), .int .i64 0, .int .i64 0, .int .i64 0]) ?_ 3 _ rfl; (with_reducible repeat (first | refine blk_drewN ?_ _ | refine blk_drew ?_ | refine blk_alloc ?_ _)); refine blk_put (cs := #[.string ((rd_T27 ((rd_T47 l0 x13_1).f1) x20_2).f0.f0), .int .i64 ((rd_T27 ((rd_T47 l0 x13_1).f1) x20_2).f0.f1), .int .i64 0, .int .i64 0, .int .i64 0, .int .i64 0]) ?_ 2 _ rfl; (with_reducible repeat (first | refine blk_drewN ?_ _ | refine blk_drew ?_ | refine blk_alloc ?_ _)); refine blk_put (cs := #[.string ((rd_T27 ((rd_T47 l0 x13_1).f1) x20_2).f0.f0), .int .i64 0, .int .i64 0, .int .i64 0, .int .i64 0, .int .i64 0]) ?_ 1 _ rfl; (with_reducible repeat (first | refine blk_drewN ?_ _ | refine blk_drew ?_ | refine blk_alloc ?_ _)); refine blk_put (cs := #[.string (⟨#[]⟩ : ByteArray), .int .i64 0, .int .i64 0, .int .i64 0, .int .i64 0, .int .i64 0]) ?_ 0 _ rfl; (with_reducible repeat (first | refine blk_drewN ?_ _ | refine blk_drew ?_ | refine blk_alloc ?_ _)); exact BK276.out) hb); have n4_ := Aside0.mk (below_step (bz2 HB.out GE274.out GE276.out) hb); clear HO_5; clear HO_8; clear BK274; clear BK276; clear HB; have HO_5 := n0_; have HO_8 := n1_; have BK274 := n2_; have BK276 := n3_; have HB := n4_; clear n0_ n1_ n2_ n3_ n4_; (try clear hb); (try clear hb2); (try clear hk); (try clear hi); have hcz18_0 : w17.cell? ⟨gb276, 0, none⟩ = some (.string ((rd_T27 ((rd_T47 l0 x13_1).f1) x20_2).f0.f0)) := (blk_cell BK276.out 0).trans rfl; have hcz18_1 : w17.cell? ⟨gb276, 1, none⟩ = some (.int .i64 ((rd_T27 ((rd_T47 l0 x13_1).f1) x20_2).f0.f1)) := (blk_cell BK276.out 1).trans rfl; have hcz18_2 : w17.cell? ⟨gb276, 2, none⟩ = some (.int .i64 ((rd_T27 ((rd_T47 l0 x13_1).f1) x20_2).f0.f2)) := (blk_cell BK276.out 2).trans rfl; have hcz18_3 : w17.cell? ⟨gb276, 3, none⟩ = some (.int .i64 ((rd_T27 ((rd_T47 l0 x13_1).f1) x20_2).f0.f3)) := (blk_cell BK276.out 3).trans rfl; have hcz18_4 : w17.cell? ⟨gb276, 4, none⟩ = some (.int .i64 ((rd_T27 ((rd_T47 l0 x13_1).f1) x20_2).f1)) := (blk_cell BK276.out 4).trans rfl; have hcz18_5 : w17.cell? ⟨gb276, 5, none⟩ = some (.int .i64 ((rd_T27 ((rd_T47 l0 x13_1).f1) x20_2).f2)) := (blk_cell BK276.out 5).trans rfl; have hfz18_0 := blk_frozen BK276.out 0; have hfz18_1 := blk_frozen BK276.out 1; have hfz18_2 := blk_frozen BK276.out 2; have hfz18_3 := blk_frozen BK276.out 3; have hfz18_4 := blk_frozen BK276.out 4; have hfz18_5 := blk_frozen BK276.out 5) | ((with_reducible refine gate_builtin (b := .append) (xs := #[.tmp 28, .tmp 30]) rfl ?_); at_builtin; refine Kd.R_append k27 (w0 := w) w.heap.size rfl (.tmp 28) (.tmp 30) 45 27 (.agg #[(.string ⟨#[]⟩), (.int .i64 0), (.int .i64 0), (.int .i64 0), (.int .i64 0), (.int .i64 0)]) 56 rfl Try.underlying45 info27 rfl (by decide) (by omega) u8 x8_2 (⟨(⟨(rd_T27 ((rd_T47 l0 x13_1).f1) x20_2).f0.f0, (rd_T27 ((rd_T47 l0 x13_1).f1) x20_2).f0.f1, (rd_T27 ((rd_T47 l0 x13_1).f1) x20_2).f0.f2, (rd_T27 ((rd_T47 l0 x13_1).f1) x20_2).f0.f3⟩ : S25), (rd_T27 ((rd_T47 l0 x13_1).f1) x20_2).f1, (rd_T27 ((rd_T47 l0 x13_1).f1) x20_2).f2⟩ : S27) [.string ((rd_T27 ((rd_T47 l0 x13_1).f1) x20_2).f0.f0), .int .i64 ((rd_T27 ((rd_T47 l0 x13_1).f1) x20_2).f0.f1), .int .i64 ((rd_T27 ((rd_T47 l0 x13_1).f1) x20_2).f0.f2), .int .i64 ((rd_T27 ((rd_T47 l0 x13_1).f1) x20_2).f0.f3), .int .i64 ((rd_T27 ((rd_T47 l0 x13_1).f1) x20_2).f1), .int .i64 ((rd_T27 ((rd_T47 l0 x13_1).f1) x20_2).f2)] (fun k_ => k_ ≠ gb276) (fun _ => False) rfl rfl ?aP (fun _ hk => hk.elim) ?aF ?aO ?aB ?aS ?aL ?_; (case aP => exact k27_mkM _ _ _ (⟨(⟨(rd_T27 ((rd_T47 l0 x13_1).f1) x20_2).f0.f0, (rd_T27 ((rd_T47 l0 x13_1).f1) x20_2).f0.f1, (rd_T27 ((rd_T47 l0 x13_1).f1) x20_2).f0.f2, (rd_T27 ((rd_T47 l0 x13_1).f1) x20_2).f0.f3⟩ : S25), (rd_T27 ((rd_T47 l0 x13_1).f1) x20_2).f1, (rd_T27 ((rd_T47 l0 x13_1).f1) x20_2).f2⟩ : S27)); (case aB => exact (bz2 HB.out GE274.out GE276.out)); (case aF => exact (fun k_ hk => Kd.freshB (g := gb276) (o := .cells #[.string ((rd_T27 ((rd_T47 l0 x13_1).f1) x20_2).f0.f0), .int .i64 ((rd_T27 ((rd_T47 l0 x13_1).f1) x20_2).f0.f1), .int .i64 ((rd_T27 ((rd_T47 l0 x13_1).f1) x20_2).f0.f2), .int .i64 ((rd_T27 ((rd_T47 l0 x13_1).f1) x20_2).f0.f3), .int .i64 ((rd_T27 ((rd_T47 l0 x13_1).f1) x20_2).f1), .int .i64 ((rd_T27 ((rd_T47 l0 x13_1).f1) x20_2).f2)] 27 (0, 0)) (bk_ BK276.out) k_ hk)); (case aO => exact (by (with_reducible repeat (first | apply Kd.R_alloc | apply Kd.R_drewN | apply Kd.R_drew)); exact Kd.R_mono HO_8.out (fun _ hk => hk.2))); (case aS => exact (below_size (bz2 HB.out GE274.out GE276.out))); (case aL => have := LMc13.out; omega); intro v279 w19 ho hb hg hat; rw [← Ny278.out] at ho; have n0_ := Aside0.mk (Kd.S_after (ok := (fun k_ => k_ ≠ gb274 ∧ k_ ≠ gb276)) (by (with_reducible repeat (first | apply Kd.S_alloc | apply Kd.S_drewN | apply Kd.S_drew)); exact Kd.S_mono HO_5.out (fun _ hk => ⟨⟨hk.1.2, hk.2⟩, hk.1.1⟩)) hg hat); have n1_ := Aside0.mk (blk_grown (g := gb274) (o := .cells #[.string ((rd_T47 l0 x13_1).f0.f0), .string ((rd_T47 l0 x13_1).f0.f1), .slice (some ad275) ((rd_T47 l0 x13_1).f1).length c273_2] 47 (0, 0)) (bk_ BK274.out) hg (Kd.R_ne HO_8.out BK274.out (by decide))); have n2_ := Aside0.mk (blk_grown (g := gb276) (o := .cells #[.string ((rd_T27 ((rd_T47 l0 x13_1).f1) x20_2).f0.f0), .int .i64 ((rd_T27 ((rd_T47 l0 x13_1).f1) x20_2).f0.f1), .int .i64 ((rd_T27 ((rd_T47 l0 x13_1).f1) x20_2).f0.f2), .int .i64 ((rd_T27 ((rd_T47 l0 x13_1).f1) x20_2).f0.f3), .int .i64 ((rd_T27 ((rd_T47 l0 x13_1).f1) x20_2).f1), .int .i64 ((rd_T27 ((rd_T47 l0 x13_1).f1) x20_2).f2)] 27 (0, 0)) (bk_ BK276.out) hg (Kd.R_away HO_8.out (fun _ hk => hk.2))); have n3_ := Aside0.mk (hb); have n4_ := Aside0.mk (ho); clear HO_5; clear BK274; clear BK276; clear HB; clear HO_8; have HO_5 := n0_; have BK274 := n1_; have BK276 := n2_; have HB := n3_; have HO280 := n4_; clear n0_ n1_ n2_ n3_ n4_; clear ho hb hg hat))
     go_roundg k2
     case measure => have := HK1.out; have := HK2.out; omega
     case rel => exact ⟨(y278), (wrap64 (x20_2 + 1)), rf_, H', ⟨by have := HK1.out; have := HK2.out; omega⟩, ⟨by (with_reducible repeat (first | apply Kd.S_alloc | apply Kd.S_drewN | apply Kd.S_drew)); exact Kd.S_mono HO_5.out (fun _ hk => ⟨hk.2, hk.1.1⟩)⟩, ⟨by (with_reducible repeat (first | apply Kd.R_alloc | apply Kd.R_drewN | apply Kd.R_drew)); exact Kd.R_mono HO280.out (fun _ hk => trivial)⟩, ⟨by (with_reducible repeat (first | refine blk_drewN ?_ _ | refine blk_drew ?_ | refine blk_alloc ?_ _)); exact BK274.out⟩, ⟨bz2 HB.out GE274.out GE276.out⟩⟩

/-! ### contangoref10_Live: function 55 -/
def contangoref10_Live.f (a0_0 : ByteArray) (a0_1 : Int) (a0_2 : Int) (a0_3 : Int) (a1 : Int) : Option (Bool) := some (decide (a0_2 ≥ a1))
set_option maxHeartbeats 8000000 in
set_option maxRecDepth 100000 in
theorem contangoref10_Live.calls (a0_0 : ByteArray) (a0_1 : Int) (a0_2 : Int) (a0_3 : Int) (a1 : Int) (r : Bool) (w : World) (h : contangoref10_Live.f a0_0 a0_1 a0_2 a0_3 a1 = some r) :
    Calls Try.prog 55 #[.agg #[.string a0_0, .int .i64 a0_1, .int .i64 a0_2, .int .i64 a0_3], .int .i64 a1] w fun e w' => e = .returned (.bool r) ∧ Below w.heap.size w w' := by
 have hu25 := Try.underlying25
 have HB := Aside0.mk (Below.refl w.heap.size w)
 have H : (some (decide (a0_2 ≥ a1))) = some r := h
 clear h
 obtain rfl := Option.some.inj H
 go_enter Try.func55, Try.ntmps55
 go_wp2_with (first | ((with_reducible refine gate_dst (N := 2) rfl ?_); refine box_event ?hg (N := 2) ?hd (cs := #[.string a0_0, .int .i64 a0_1, .int .i64 a0_2, .int .i64 a0_3]) (t := 25) ?hr ?_; (case hd => rfl); (case hg => rfl); (case hr => first | (go_simp; done) | (go_simp; rfl)); intro gb284 hg w3 hbox hb; have n0_ := Aside0.mk (below_step (bz0 HB.out) hb); have n1_ := Aside0.mk (hbox); have n2_ := Aside0.mk ((by rw [hg]; exact (below_size (bz0 HB.out)) : w.heap.size ≤ gb284)); have n3_ := Aside0.mk ((by rw [hg]; exact (below_size (bz0 HB.out)) : w.heap.size ≤ gb284)); clear HB; have HB := n0_; have BK284 := n1_; have GW284 := n2_; have GE284 := n3_; clear n0_ n1_ n2_ n3_; clear hb hbox hg; have hcz4_0 : w3.cell? ⟨gb284, 0, none⟩ = some (.string a0_0) := (blk_cell BK284.out 0).trans rfl; have hcz4_1 : w3.cell? ⟨gb284, 1, none⟩ = some (.int .i64 a0_1) := (blk_cell BK284.out 1).trans rfl; have hcz4_2 : w3.cell? ⟨gb284, 2, none⟩ = some (.int .i64 a0_2) := (blk_cell BK284.out 2).trans rfl; have hcz4_3 : w3.cell? ⟨gb284, 3, none⟩ = some (.int .i64 a0_3) := (blk_cell BK284.out 3).trans rfl; have hfz4_0 := blk_frozen BK284.out 0; have hfz4_1 := blk_frozen BK284.out 1; have hfz4_2 := blk_frozen BK284.out 2; have hfz4_3 := blk_frozen BK284.out 3))
 go_ret
 exact ⟨by first | rfl | (simp [errW_none, errW_some] <;> rfl) | (simp [*, errW_none, errW_some] <;> rfl), bz1 HB.out GE284.out⟩

/-! ### contangoref51_Drop: function 24 -/
mutual
def contangoref51_Drop.l0 : Nat → List (S47) → Int → List (S47) → Int → Option ((List (S47)))
  | 0, _, _, _, _ => none
  | k + 1, x0, x1, x5, x6 => if x6 < (x0.length : Int) then (if 0 ≤ x6 then (contangoref51_Drop.l1 k x0 x1 x5 x6 0 ((rd_T47 x0 x6).f0.f0) ((rd_T47 x0 x6).f0.f1) ([] : List (S27))) else (none)) else (some x5)
def contangoref51_Drop.l1 : Nat → List (S47) → Int → List (S47) → Int → Int → ByteArray → ByteArray → List (S27) → Option ((List (S47)))
  | 0, _, _, _, _, _, _, _, _ => none
  | k + 1, x0, x1, x5, x6, x8, x287000, x287001, x287002 => if 0 ≤ x6 then (if x6 < (x0.length : Int) then (if x8 < (((rd_T47 x0 x6).f1).length : Int) then (if 0 ≤ x8 then ((contangoref10_Live.f ((rd_T27 ((rd_T47 x0 x6).f1) x8).f0.f0) ((rd_T27 ((rd_T47 x0 x6).f1) x8).f0.f1) ((rd_T27 ((rd_T47 x0 x6).f1) x8).f0.f2) ((rd_T27 ((rd_T47 x0 x6).f1) x8).f0.f3) x1).bind fun t290 => (if t290 = true then (if x287002.length < 2513169434916 then (contangoref51_Drop.l1 k x0 x1 x5 x6 (wrap64 (x8 + 1)) x287000 x287001 (x287002 ++ [(⟨(⟨(rd_T27 ((rd_T47 x0 x6).f1) x8).f0.f0, (rd_T27 ((rd_T47 x0 x6).f1) x8).f0.f1, (rd_T27 ((rd_T47 x0 x6).f1) x8).f0.f2, (rd_T27 ((rd_T47 x0 x6).f1) x8).f0.f3⟩ : S25), (rd_T27 ((rd_T47 x0 x6).f1) x8).f1, (rd_T27 ((rd_T47 x0 x6).f1) x8).f2⟩ : S27)])) else (none)) else (contangoref51_Drop.l1 k x0 x1 x5 x6 (wrap64 (x8 + 1)) x287000 x287001 x287002))) else (none)) else (if (x287002.length : Int) > 0 then (if x5.length < 2513169434916 then (contangoref51_Drop.l0 k x0 x1 (x5 ++ [(⟨(⟨x287000, x287001⟩ : S44), x287002⟩ : S47)]) (wrap64 (x6 + 1))) else (none)) else (contangoref51_Drop.l0 k x0 x1 x5 (wrap64 (x6 + 1))))) else (none)) else (none)
end
def contangoref51_Drop.f (k : Nat) (l0 : List (S47)) (a1 : Int) : Option ((List (S47))) := contangoref51_Drop.l0 k l0 a1 ([] : List (S47)) 0
theorem contangoref51_Drop.mono_l : ∀ k, (∀ y0 y1 y2 y3, LeO (contangoref51_Drop.l0 k y0 y1 y2 y3) (contangoref51_Drop.l0 (k + 1) y0 y1 y2 y3)) ∧ (∀ y0 y1 y2 y3 y4 y5 y6 y7, LeO (contangoref51_Drop.l1 k y0 y1 y2 y3 y4 y5 y6 y7) (contangoref51_Drop.l1 (k + 1) y0 y1 y2 y3 y4 y5 y6 y7))
  | 0 => ⟨fun _ _ _ _ r h => by simp [contangoref51_Drop.l0] at h, fun _ _ _ _ _ _ _ _ r h => by simp [contangoref51_Drop.l1] at h⟩
  | k + 1 => by
    obtain ⟨ih0, ih1⟩ := contangoref51_Drop.mono_l k
    refine ⟨?_, ?_⟩
    · intro y0 y1 y2 y3
      unfold contangoref51_Drop.l0
      repeat' first
      | (with_reducible exact ih0 _ _ _ _)
      | (with_reducible exact ih1 _ _ _ _ _ _ _ _)
      | (with_reducible exact LeO.refl _)
      | (with_reducible exact LeO.none _)
      | (with_reducible refine LeO.ite ?_ ?_)
      | (with_reducible refine LeO.bind ?_ (fun _ => ?_))
      | exact LeO.none _
      | refine LeO.ite ?_ ?_
      | refine LeO.bind ?_ (fun _ => ?_)
    · intro y0 y1 y2 y3 y4 y5 y6 y7
      unfold contangoref51_Drop.l1
      repeat' first
      | (with_reducible exact ih0 _ _ _ _)
      | (with_reducible exact ih1 _ _ _ _ _ _ _ _)
      | (with_reducible exact LeO.refl _)
      | (with_reducible exact LeO.none _)
      | (with_reducible refine LeO.ite ?_ ?_)
      | (with_reducible refine LeO.bind ?_ (fun _ => ?_))
      | exact LeO.none _
      | refine LeO.ite ?_ ?_
      | refine LeO.bind ?_ (fun _ => ?_)
theorem contangoref51_Drop.mono : ∀ a0 a1 k, LeO (contangoref51_Drop.f k a0 a1) (contangoref51_Drop.f (k + 1) a0 a1) := by
  intro a0 a1 k
  obtain ⟨ih0, ih1⟩ := contangoref51_Drop.mono_l k
  unfold contangoref51_Drop.f
  repeat' first
      | (with_reducible exact ih0 _ _ _ _)
      | (with_reducible exact ih1 _ _ _ _ _ _ _ _)
      | (with_reducible exact LeO.refl _)
      | (with_reducible exact LeO.none _)
      | (with_reducible refine LeO.ite ?_ ?_)
      | (with_reducible refine LeO.bind ?_ (fun _ => ?_))
      | exact LeO.none _
      | refine LeO.ite ?_ ?_
      | refine LeO.bind ?_ (fun _ => ?_)
def contangoref51_Drop.T10 : Bool × List (List Nat × List Nat) := (true, [([], []), ([0], [0]), ([], []), ([], []), ([2, 3], [2, 3]), ([4], [4]), ([5], [5]), ([], []), ([6, 7], [6, 7]), ([8], [8]), ([9], [9]), ([1, 10], [1, 10]), ([0, 1, 2, 3, 4, 5, 6, 7, 8, 9, 10, 11], []), ([12, 11, 11, 0, 1, 2, 3, 4, 5, 6, 7, 8, 9, 10, 11], [11, 12])])
def contangoref51_Drop.B10 : List Nat := [0, 1, 0, 0, 12, 28, 60, 0, 252, 508, 1020, 2047, 4095, 8191]
theorem contangoref51_Drop.tab10 : rtab .any (opsOf Try.f24 10) = contangoref51_Drop.T10 := by kernel_rfl
theorem contangoref51_Drop.bits10 : waitsOk contangoref51_Drop.T10.2 contangoref51_Drop.B10 = true := by kernel_rfl
set_option maxHeartbeats 8000000 in
set_option maxRecDepth 100000 in
theorem contangoref51_Drop.calls (k : Nat) (A0 : Option Addr) (c0 : Nat) (l0 : List (S47)) (a1 : Int) (r : List (S47)) (w : World) (hr0 : Kd.C k47 w A0 l0.length l0) (hc0 : l0.length ≤ c0) (h : contangoref51_Drop.f k l0 a1 = some r) :
    Calls Try.prog 24 #[.slice A0 l0.length c0, .int .i64 a1] w fun e w' => ∃ v0_ : Value, e = .returned (v0_) ∧ Kd.S k47 47 w' w.heap.size (fun _ => True) v0_ r ∧ Below w.heap.size w w' := by
 have hu44 := Try.underlying44
 have hu47 := Try.underlying47
 have hu25 := Try.underlying25
 have hu27 := Try.underlying27
 have HR0 := Aside0.mk hr0
 have HC0 := Aside0.mk hc0
 clear hr0 hc0
 have HB := Aside0.mk (Below.refl w.heap.size w)
 have H : (contangoref51_Drop.l0 k l0 a1 ([] : List (S47)) 0) = some r := h
 clear h
 have H' := Aside0.mk H
 clear H
 go_enter Try.func24, Try.ntmps24
 go_wp2
 go_loopg [5, 6] k (fun kq v5 v6 w' => ∃ (x5_1 : List (S47)) (x6_1 : Int), v6 = .int .i64 x6_1 ∧ Aside0 (contangoref51_Drop.l0 kq l0 a1 x5_1 x6_1 = some r) ∧ Aside0 (kq ≤ k) ∧ Aside0 (Kd.S k47 47 w' w.heap.size (fun _ => True) v5 x5_1) ∧ Aside0 (Below w.heap.size w w'))
 case atStart => exact ⟨(([] : List (S47))), (0), rf_, H', ⟨Nat.le_refl _⟩, ⟨by first | exact Kd.S_nil _ _ _ _ _ | exact Kd.N_nil _ _ _ _ _ | exact Kd.V_nil _ _ _ _ _ | exact Kd.Q_nil _ _ _ _ _ | exact Kd.R_nil _ _ _ _ _⟩, ⟨bz0 HB.out⟩⟩
 case round =>
  clear H'
  try clear c2
  try clear p2
  obtain ⟨x5_1, x6_1, rfl, HA, HK1, HO_5, HB⟩ := hrel
  cases gk with
  | zero => exact absurd HA.out (by simp [contangoref51_Drop.l0])
  | succ k1 =>
   have H := HA.out
   clear HA
   simp only [contangoref51_Drop.l0] at H
   by_cases c3 : x6_1 < (l0.length : Int)
   rotate_left
   · rw [if_neg c3] at H
     have c3b0 : decide (x6_1 < (l0.length : Int)) = false := decide_eq_false c3
     clear c3
     obtain rfl := Option.some.inj H
     go_wp2
     go_ret
     exact ⟨_, by first | rfl | (simp [errW_none, errW_some] <;> rfl) | (simp [*, errW_none, errW_some] <;> rfl), by (with_reducible repeat (first | apply Kd.S_alloc | apply Kd.S_drewN | apply Kd.S_drew)); exact HO_5.out, bz0 HB.out⟩
   rw [if_pos c3] at H
   have c3b0 : decide (x6_1 < (l0.length : Int)) = true := decide_eq_true c3
   clear c3
   by_cases c4 : 0 ≤ x6_1
   rotate_left
   · rw [if_neg c4] at H
     exact absurd H (by simp)
   rw [if_pos c4] at H
   have c4b0 : decide (0 ≤ x6_1) = true := decide_eq_true c4
   clear c4
   have H' := Aside0.mk H
   clear H
   have p285 : 0 ≤ (x6_1 : Int) := od_
   have q285 : x6_1 < (l0.length : Int) := od_
   obtain ⟨ad285, A285_2, c285_2, e285, hx285_0, hx285_1, hx285_2, hl285_2, hi285_2⟩ := at_T47 HR0.out x6_1 p285 q285
   cases e285
   replace hx285_0 := (HB.out.cell (World.block_lt_of_cell? w _ hx285_0)).trans hx285_0
   replace hx285_1 := (HB.out.cell (World.block_lt_of_cell? w _ hx285_1)).trans hx285_1
   replace hx285_2 := (HB.out.cell (World.block_lt_of_cell? w _ hx285_2)).trans hx285_2
   have HR285_2 := Aside0.mk hi285_2
   have HC285_2 := Aside0.mk hl285_2
   clear hi285_2 hl285_2
   replace p285 := eq_true p285
   replace q285 := eq_true q285
   go_wp2_with (first | ((with_reducible refine gate_dst (N := 7) rfl ?_); refine box_event ?hg (N := 7) ?hd (cs := #[.string (⟨#[]⟩ : ByteArray), .string (⟨#[]⟩ : ByteArray), .slice none 0 0]) (t := 47) ?hr ?_; (case hd => rfl); (case hg => rfl); (case hr => first | (go_simp; done) | (go_simp; rfl)); intro gb286 hg w5 hbox hb; have n0_ := Aside0.mk (Kd.S_below (Kd.S_elderB (by (with_reducible repeat (first | apply Kd.S_alloc | apply Kd.S_drewN | apply Kd.S_drew)); exact HO_5.out) gb286 (Nat.le_of_eq hg.symm)) hb); have n1_ := Aside0.mk (below_step (bz0 HB.out) hb); have n2_ := Aside0.mk (hbox); have n3_ := Aside0.mk ((by rw [hg]; exact (below_size (bz0 HB.out)) : w.heap.size ≤ gb286)); have n4_ := Aside0.mk ((by rw [hg]; exact (below_size (bz0 HB.out)) : w.heap.size ≤ gb286)); clear HO_5; clear HB; have HO_5 := n0_; have HB := n1_; have BK286 := n2_; have GW286 := n3_; have GE286 := n4_; clear n0_ n1_ n2_ n3_ n4_; clear hb hbox hg; have hcz6_0 : w5.cell? ⟨gb286, 0, none⟩ = some (.string (⟨#[]⟩ : ByteArray)) := (blk_cell BK286.out 0).trans rfl; have hcz6_1 : w5.cell? ⟨gb286, 1, none⟩ = some (.string (⟨#[]⟩ : ByteArray)) := (blk_cell BK286.out 1).trans rfl; have hcz6_2 : w5.cell? ⟨gb286, 2, none⟩ = some (.slice none 0 0) := (blk_cell BK286.out 2).trans rfl; have hfz6_0 := blk_frozen BK286.out 0; have hfz6_1 := blk_frozen BK286.out 1; have hfz6_2 := blk_frozen BK286.out 2))
   go_loopg [8] k1 (fun kq v8 w' => ∃ (x8_2 : Int) (x287002_2 : List (S27)) (u287002 : Value), v8 = .int .i64 x8_2 ∧ Aside0 (contangoref51_Drop.l1 kq l0 a1 x5_1 x6_1 x8_2 ((rd_T47 l0 x6_1).f0.f0) ((rd_T47 l0 x6_1).f0.f1) x287002_2 = some r) ∧ Aside0 (kq ≤ k1) ∧ Aside0 (Kd.S k47 47 w' w.heap.size (fun k_ => some k_ ≠ (u287002 : Value).ownBlock ∧ k_ ≠ gb286) u5 x5_1) ∧ Aside0 (Kd.R k27 27 w' w.heap.size (fun _ => True) u287002 x287002_2) ∧ Aside0 (w'.heap[gb286]? = some (.cells #[.string ((rd_T47 l0 x6_1).f0.f0), .string ((rd_T47 l0 x6_1).f0.f1), u287002] 47 (0, 0))) ∧ Aside0 (Below w.heap.size w w'))
   case atStart => exact ⟨(0), (([] : List (S27))), (.slice none 0 0), rf_, H', ⟨Nat.le_refl _⟩, ⟨by (with_reducible repeat (first | apply Kd.S_alloc | apply Kd.S_drewN | apply Kd.S_drew)); exact Kd.S_mono (Kd.S_far (p := ⟨gb286, 2, none⟩) (Kd.S_far (p := ⟨gb286, 1, none⟩) (Kd.S_far (p := ⟨gb286, 0, none⟩) (Kd.S_mono HO_5.out (fun k_ hk => (⟨hk, hk.2⟩ : _ ∧ k_ ≠ gb286))) (fun _ hk => hk.2) (.string ((rd_T47 l0 x6_1).f0.f0))) (fun _ hk => hk.2) (.string ((rd_T47 l0 x6_1).f0.f1))) (fun _ hk => hk.2) (.slice none 0 0)) (fun _ hk => ⟨(by simp [Value.ownBlock]), hk.1.2⟩)⟩, ⟨by first | exact Kd.R_nil _ _ _ _ _ | exact Kd.N_nil _ _ _ _ _ | exact Kd.V_nil _ _ _ _ _ | exact Kd.Q_nil _ _ _ _ _ | exact Kd.S_nil _ _ _ _ _⟩, ⟨by (with_reducible repeat (first | refine blk_drewN ?_ _ | refine blk_drew ?_ | refine blk_alloc ?_ _)); refine blk_put (cs := #[.string ((rd_T47 l0 x6_1).f0.f0), .string ((rd_T47 l0 x6_1).f0.f1), .slice none 0 0]) ?_ 2 _ rfl; (with_reducible repeat (first | refine blk_drewN ?_ _ | refine blk_drew ?_ | refine blk_alloc ?_ _)); refine blk_put (cs := #[.string ((rd_T47 l0 x6_1).f0.f0), .string (⟨#[]⟩ : ByteArray), .slice none 0 0]) ?_ 1 _ rfl; (with_reducible repeat (first | refine blk_drewN ?_ _ | refine blk_drew ?_ | refine blk_alloc ?_ _)); refine blk_put (cs := #[.string (⟨#[]⟩ : ByteArray), .string (⟨#[]⟩ : ByteArray), .slice none 0 0]) ?_ 0 _ rfl; (with_reducible repeat (first | refine blk_drewN ?_ _ | refine blk_drew ?_ | refine blk_alloc ?_ _)); exact BK286.out⟩, ⟨bz1 HB.out GE286.out⟩⟩
   case round =>
    clear H'
    try clear c2
    try clear p2
    try clear q2
    try clear hx2
    try clear c3
    try clear c3b0
    try clear c4
    try clear c4b0
    try clear hcz6_0
    try clear hcz6_1
    try clear hcz6_2
    try clear hfz6_0
    try clear hfz6_1
    try clear hfz6_2
    try clear hx285_0
    try clear hx285_1
    try clear hx285_2
    try clear p2
    try clear p285
    try clear q285
    obtain ⟨x8_2, x287002_2, u287002, rfl, HA, HK2, HO_5, HO_287002, BK286, HB⟩ := hrel
    cases gk with
    | zero => exact absurd HA.out (by simp [contangoref51_Drop.l1])
    | succ k2 =>
     have H := HA.out
     clear HA
     simp only [contangoref51_Drop.l1] at H
     by_cases c7 : 0 ≤ x6_1
     rotate_left
     · rw [if_neg c7] at H
       exact absurd H (by simp)
     rw [if_pos c7] at H
     have c7b0 : decide (0 ≤ x6_1) = true := decide_eq_true c7
     clear c7
     by_cases c8 : x6_1 < (l0.length : Int)
     rotate_left
     · rw [if_neg c8] at H
       exact absurd H (by simp)
     rw [if_pos c8] at H
     have c8b0 : decide (x6_1 < (l0.length : Int)) = true := decide_eq_true c8
     clear c8
     by_cases c9 : x8_2 < (((rd_T47 l0 x6_1).f1).length : Int)
     rotate_left
     · rw [if_neg c9] at H
       have c9b0 : decide (x8_2 < (((rd_T47 l0 x6_1).f1).length : Int)) = false := decide_eq_false c9
       clear c9
       by_cases c20 : (x287002_2.length : Int) > 0
       rotate_left
       · rw [if_neg c20] at H
         have c20b0 : decide (0 < (x287002_2.length : Int)) = false := decide_eq_false c20
         have c20b1 : decide (0 < x287002_2.length) = false := decide_eq_false (by omega)
         clear c20
         have H' := Aside0.mk H
         clear H
         have p287 : 0 ≤ (x6_1 : Int) := od_
         have q287 : x6_1 < (l0.length : Int) := od_
         obtain ⟨ad287, A287_2, c287_2, e287, hx287_0, hx287_1, hx287_2, hl287_2, hi287_2⟩ := at_T47 HR0.out x6_1 p287 q287
         obtain rfl : ad285 = ad287 := (by injection e287)
         replace hx287_0 := (HB.out.cell (World.block_lt_of_cell? w _ hx287_0)).trans hx287_0
         replace hx287_1 := (HB.out.cell (World.block_lt_of_cell? w _ hx287_1)).trans hx287_1
         replace hx287_2 := (HB.out.cell (World.block_lt_of_cell? w _ hx287_2)).trans hx287_2
         have HR287_2 := Aside0.mk hi287_2
         have HC287_2 := Aside0.mk hl287_2
         clear hi287_2 hl287_2
         replace p287 := eq_true p287
         replace q287 := eq_true q287
         have hcz25_0 : wr.cell? ⟨gb286, 0, none⟩ = some (.string ((rd_T47 l0 x6_1).f0.f0)) := (blk_cell BK286.out 0).trans rfl
         have hcz25_1 : wr.cell? ⟨gb286, 1, none⟩ = some (.string ((rd_T47 l0 x6_1).f0.f1)) := (blk_cell BK286.out 1).trans rfl
         have hcz25_2 : wr.cell? ⟨gb286, 2, none⟩ = some (u287002) := (blk_cell BK286.out 2).trans rfl
         have hfz25_0 := blk_frozen BK286.out 0
         have hfz25_1 := blk_frozen BK286.out 1
         have hfz25_2 := blk_frozen BK286.out 2
         obtain ⟨Ao26, co26, eo26⟩ := Kd.R_slice HO_287002.out
         subst eo26
         go_wp2
         go_roundg k2
         case measure => have := HK1.out; have := HK2.out; omega
         case rel => exact ⟨(x5_1), (wrap64 (x6_1 + 1)), rf_, H', ⟨by have := HK1.out; have := HK2.out; omega⟩, ⟨by (with_reducible repeat (first | apply Kd.S_alloc | apply Kd.S_drewN | apply Kd.S_drew)); exact Kd.S_mono HO_5.out (fun _ hk => trivial)⟩, ⟨bz1 HB.out GE286.out⟩⟩
       rw [if_pos c20] at H
       have c20b0 : decide (0 < (x287002_2.length : Int)) = true := decide_eq_true c20
       have c20b1 : decide (0 < x287002_2.length) = true := decide_eq_true (by omega)
       clear c20
       by_cases c21 : x5_1.length < 2513169434916
       rotate_left
       · rw [if_neg c21] at H
         exact absurd H (by simp)
       rw [if_pos c21] at H
       have LMc21 := Aside0.mk c21
       clear c21
       obtain ⟨y296, hy296⟩ : ∃ y_ : List (S47), y_ = (x5_1 ++ [(⟨(⟨((rd_T47 l0 x6_1).f0.f0), ((rd_T47 l0 x6_1).f0.f1)⟩ : S44), x287002_2⟩ : S47)]) := ⟨_, rfl⟩
       replace H : (contangoref51_Drop.l0 k2 l0 a1 y296 (wrap64 (x6_1 + 1))) = some r := by first | (rw [hy296]; with_reducible exact H) | (have H2_ := (Option.bind_some _ _).symm.trans H; rw [hy296]; with_reducible exact H2_) | (have H2_ := (Option.bind_some _ _).symm.trans H; with_reducible exact H2_) | with_reducible exact H | (rw [hy296]; exact H) | exact H
       have Ny296 := Aside0.mk hy296
       clear hy296
       have H' := Aside0.mk H
       clear H
       have p287 : 0 ≤ (x6_1 : Int) := od_
       have q287 : x6_1 < (l0.length : Int) := od_
       obtain ⟨ad287, A287_2, c287_2, e287, hx287_0, hx287_1, hx287_2, hl287_2, hi287_2⟩ := at_T47 HR0.out x6_1 p287 q287
       obtain rfl : ad285 = ad287 := (by injection e287)
       replace hx287_0 := (HB.out.cell (World.block_lt_of_cell? w _ hx287_0)).trans hx287_0
       replace hx287_1 := (HB.out.cell (World.block_lt_of_cell? w _ hx287_1)).trans hx287_1
       replace hx287_2 := (HB.out.cell (World.block_lt_of_cell? w _ hx287_2)).trans hx287_2
       have HR287_2 := Aside0.mk hi287_2
       have HC287_2 := Aside0.mk hl287_2
       clear hi287_2 hl287_2
       replace p287 := eq_true p287
       replace q287 := eq_true q287
       have hcz22_0 : wr.cell? ⟨gb286, 0, none⟩ = some (.string ((rd_T47 l0 x6_1).f0.f0)) := (blk_cell BK286.out 0).trans rfl
       have hcz22_1 : wr.cell? ⟨gb286, 1, none⟩ = some (.string ((rd_T47 l0 x6_1).f0.f1)) := (blk_cell BK286.out 1).trans rfl
       have hcz22_2 : wr.cell? ⟨gb286, 2, none⟩ = some (u287002) := (blk_cell BK286.out 2).trans rfl
       have hfz22_0 := blk_frozen BK286.out 0
       have hfz22_1 := blk_frozen BK286.out 1
       have hfz22_2 := blk_frozen BK286.out 2
       obtain ⟨Ao23, co23, eo23⟩ := Kd.R_slice HO_287002.out
       subst eo23
       go_wp2_with (first | ((with_reducible refine gate_builtin (b := .append) (xs := #[.tmp 59, .tmp 61]) rfl ?_); at_builtin; refine Kd.S_append k47 (w0 := w) w.heap.size rfl (.tmp 59) (.tmp 61) 37 47 (.agg #[(.string ⟨#[]⟩), (.string ⟨#[]⟩), (.slice none 0 0)]) 56 rfl Try.underlying37 info47 rfl (by decide) (by omega) u5 x5_1 (⟨(⟨((rd_T47 l0 x6_1).f0.f0), ((rd_T47 l0 x6_1).f0.f1)⟩ : S44), x287002_2⟩ : S47) [.string ((rd_T47 l0 x6_1).f0.f0), .string ((rd_T47 l0 x6_1).f0.f1), .slice Ao23 x287002_2.length co23] (fun k_ => k_ ≠ gb286) (fun k_ => some k_ = (.slice Ao23 x287002_2.length co23 : Value).ownBlock) rfl rfl ?aP (fun k_ hk_ => ((Kd.R_mono (ok' := fun k_ => ((fun k_ => k_ ≠ gb286)) k_ ∧ some k_ ≠ (u5 : Value).ownBlock) (Kd.R_types (Kd.R_apart' (HO_287002.out) (Kd.S_typed HO_5.out) (by decide)) BK286.out (by decide)) (fun k_ hk => ⟨hk.2, hk.1.2⟩))).1 k_ hk_.symm) ?aF ?aO ?aB ?aS ?aL ?_; (case aP => exact k47_mkM _ _ _ (⟨(⟨((rd_T47 l0 x6_1).f0.f0), ((rd_T47 l0 x6_1).f0.f1)⟩ : S44), x287002_2⟩ : S47) (Kd.R_mono (Kd.R_tight rfl (Kd.R_mono (ok' := fun k_ => ((fun k_ => k_ ≠ gb286)) k_ ∧ some k_ ≠ (u5 : Value).ownBlock) (Kd.R_types (Kd.R_apart' (HO_287002.out) (Kd.S_typed HO_5.out) (by decide)) BK286.out (by decide)) (fun k_ hk => ⟨hk.2, hk.1.2⟩))) (fun _ h_ => h_))); (case aB => exact (bz1 HB.out GE286.out)); (case aF => exact (fun k_ hk => Kd.freshB (g := gb286) (o := .cells #[.string ((rd_T47 l0 x6_1).f0.f0), .string ((rd_T47 l0 x6_1).f0.f1), .slice Ao23 x287002_2.length co23] 47 (0, 0)) (bk_ BK286.out) k_ hk)); (case aO => exact (by (with_reducible repeat (first | apply Kd.S_alloc | apply Kd.S_drewN | apply Kd.S_drew)); exact Kd.S_mono HO_5.out (fun k_ hk => ⟨hk.2, fun e_ => hk.1 e_⟩))); (case aS => exact (below_size (bz1 HB.out GE286.out))); (case aL => have := LMc21.out; omega); intro v297 w24 ho hb hg hat; rw [← Ny296.out] at ho; have n0_ := Aside0.mk (blk_grown (g := gb286) (o := .cells #[.string ((rd_T47 l0 x6_1).f0.f0), .string ((rd_T47 l0 x6_1).f0.f1), .slice Ao23 x287002_2.length co23] 47 (0, 0)) (bk_ BK286.out) hg (Kd.S_away HO_5.out (fun _ hk => hk.2))); have n1_ := Aside0.mk (hb); have n2_ := Aside0.mk (ho); clear BK286; clear HB; clear HO_5; clear HO_287002; have BK286 := n0_; have HB := n1_; have HO298 := n2_; clear n0_ n1_ n2_; clear ho hb hg hat))
       go_roundg k2
       case measure => have := HK1.out; have := HK2.out; omega
       case rel => exact ⟨(y296), (wrap64 (x6_1 + 1)), rf_, H', ⟨by have := HK1.out; have := HK2.out; omega⟩, ⟨by (with_reducible repeat (first | apply Kd.S_alloc | apply Kd.S_drewN | apply Kd.S_drew)); exact Kd.S_mono HO298.out (fun _ hk => trivial)⟩, ⟨bz1 HB.out GE286.out⟩⟩
     rw [if_pos c9] at H
     have c9b0 : decide (x8_2 < (((rd_T47 l0 x6_1).f1).length : Int)) = true := decide_eq_true c9
     clear c9
     by_cases c10 : 0 ≤ x8_2
     rotate_left
     · rw [if_neg c10] at H
       exact absurd H (by simp)
     rw [if_pos c10] at H
     have c10b0 : decide (0 ≤ x8_2) = true := decide_eq_true c10
     clear c10
     replace H := Option.bind_eq_some_iff.mp H
     obtain ⟨t290, A110, H⟩ := H
     replace H : (if t290 = true then (if x287002_2.length < 2513169434916 then (contangoref51_Drop.l1 k2 l0 a1 x5_1 x6_1 (wrap64 (x8_2 + 1)) ((rd_T47 l0 x6_1).f0.f0) ((rd_T47 l0 x6_1).f0.f1) (x287002_2 ++ [(⟨(⟨(rd_T27 ((rd_T47 l0 x6_1).f1) x8_2).f0.f0, (rd_T27 ((rd_T47 l0 x6_1).f1) x8_2).f0.f1, (rd_T27 ((rd_T47 l0 x6_1).f1) x8_2).f0.f2, (rd_T27 ((rd_T47 l0 x6_1).f1) x8_2).f0.f3⟩ : S25), (rd_T27 ((rd_T47 l0 x6_1).f1) x8_2).f1, (rd_T27 ((rd_T47 l0 x6_1).f1) x8_2).f2⟩ : S27)])) else (none)) else (contangoref51_Drop.l1 k2 l0 a1 x5_1 x6_1 (wrap64 (x8_2 + 1)) ((rd_T47 l0 x6_1).f0.f0) ((rd_T47 l0 x6_1).f0.f1) x287002_2)) = some r := H
     have A11 := Aside0.mk A110
     clear A110
     by_cases c12 : t290 = true
     rotate_left
     · replace c12 := Bool.eq_false_iff.mpr c12
       subst c12
       have H1 : (contangoref51_Drop.l1 k2 l0 a1 x5_1 x6_1 (wrap64 (x8_2 + 1)) ((rd_T47 l0 x6_1).f0.f0) ((rd_T47 l0 x6_1).f0.f1) x287002_2) = some r := by rw [if_neg (show ¬ (false = true) by decide)] at H; exact H
       clear H
       have H := H1
       clear H1
       have H' := Aside0.mk H
       clear H
       have p287 : 0 ≤ (x6_1 : Int) := od_
       have q287 : x6_1 < (l0.length : Int) := od_
       obtain ⟨ad287, A287_2, c287_2, e287, hx287_0, hx287_1, hx287_2, hl287_2, hi287_2⟩ := at_T47 HR0.out x6_1 p287 q287
       obtain rfl : ad285 = ad287 := (by injection e287)
       replace hx287_0 := (HB.out.cell (World.block_lt_of_cell? w _ hx287_0)).trans hx287_0
       replace hx287_1 := (HB.out.cell (World.block_lt_of_cell? w _ hx287_1)).trans hx287_1
       replace hx287_2 := (HB.out.cell (World.block_lt_of_cell? w _ hx287_2)).trans hx287_2
       have HR287_2 := Aside0.mk hi287_2
       have HC287_2 := Aside0.mk hl287_2
       clear hi287_2 hl287_2
       replace p287 := eq_true p287
       replace q287 := eq_true q287
       have p288 : 0 ≤ (x6_1 : Int) := od_
       have q288 : x6_1 < (l0.length : Int) := od_
       obtain ⟨ad288, A288_2, c288_2, e288, hx288_0, hx288_1, hx288_2, hl288_2, hi288_2⟩ := at_T47 HR0.out x6_1 p288 q288
       obtain rfl : ad285 = ad288 := (by injection e288)
       replace hx288_0 := (HB.out.cell (World.block_lt_of_cell? w _ hx288_0)).trans hx288_0
       replace hx288_1 := (HB.out.cell (World.block_lt_of_cell? w _ hx288_1)).trans hx288_1
       replace hx288_2 := (HB.out.cell (World.block_lt_of_cell? w _ hx288_2)).trans hx288_2
       have HR288_2 := Aside0.mk hi288_2
       have HC288_2 := Aside0.mk hl288_2
       clear hi288_2 hl288_2
       replace p288 := eq_true p288
       replace q288 := eq_true q288
       have ea_ := Option.some.inj (hx287_2.symm.trans hx288_2)
       injection ea_ with ea_ en_ ec_
       subst ea_
       subst ec_
       clear en_
       have p289 : 0 ≤ (x8_2 : Int) := od_
       have q289 : x8_2 < (((rd_T47 l0 x6_1).f1).length : Int) := od_
       obtain ⟨ad289, e289, hx289_0, hx289_1, hx289_2, hx289_3, hx289_4, hx289_5⟩ := at_T27 HR288_2.out x8_2 p289 q289
       cases e289
       replace hx289_0 := (HB.out.cell (World.block_lt_of_cell? w _ hx289_0)).trans hx289_0
       replace hx289_1 := (HB.out.cell (World.block_lt_of_cell? w _ hx289_1)).trans hx289_1
       replace hx289_2 := (HB.out.cell (World.block_lt_of_cell? w _ hx289_2)).trans hx289_2
       replace hx289_3 := (HB.out.cell (World.block_lt_of_cell? w _ hx289_3)).trans hx289_3
       replace hx289_4 := (HB.out.cell (World.block_lt_of_cell? w _ hx289_4)).trans hx289_4
       replace hx289_5 := (HB.out.cell (World.block_lt_of_cell? w _ hx289_5)).trans hx289_5
       replace p289 := eq_true p289
       replace q289 := eq_true q289
       go_wp2_with (first | ((with_reducible refine gate_callee (f := 55) rfl ?_); refine goesL_ (some 41) rfl rfl Try.func55 (by kernel_rfl) rfl #[.agg #[.string ((rd_T27 ((rd_T47 l0 x6_1).f1) x8_2).f0.f0), .int .i64 ((rd_T27 ((rd_T47 l0 x6_1).f1) x8_2).f0.f1), .int .i64 ((rd_T27 ((rd_T47 l0 x6_1).f1) x8_2).f0.f2), .int .i64 ((rd_T27 ((rd_T47 l0 x6_1).f1) x8_2).f0.f3)], .int .i64 a1] rfl pm_ ?_; (with_reducible refine (contangoref10_Live.calls ((rd_T27 ((rd_T47 l0 x6_1).f1) x8_2).f0.f0) ((rd_T27 ((rd_T47 l0 x6_1).f1) x8_2).f0.f1) ((rd_T27 ((rd_T47 l0 x6_1).f1) x8_2).f0.f2) ((rd_T27 ((rd_T47 l0 x6_1).f1) x8_2).f0.f3) a1 false _ A11.out).mono ?_); rintro e w19 ⟨rfl, hb⟩; refine ⟨_, rfl, ?_⟩; have n0_ := Aside0.mk (Kd.S_below (by (with_reducible repeat (first | apply Kd.S_alloc | apply Kd.S_drewN | apply Kd.S_drew)); exact HO_5.out) hb); have n1_ := Aside0.mk (Kd.R_below (br_ HO_287002.out) hb); have n2_ := Aside0.mk (blk_below (g := gb286) (o := .cells #[.string ((rd_T47 l0 x6_1).f0.f0), .string ((rd_T47 l0 x6_1).f0.f1), u287002] 47 (0, 0)) (bk_ BK286.out) hb); have n3_ := Aside0.mk (below_step (bz1 HB.out GE286.out) hb); clear HO_5; clear HO_287002; clear BK286; clear HB; have HO_5 := n0_; have HO_287002 := n1_; have BK286 := n2_; have HB := n3_; clear n0_ n1_ n2_ n3_; (try clear hb); (try clear hb2); (try clear hk); (try clear hi)))
       go_roundg k2
       case measure => have := HK1.out; have := HK2.out; omega
       case rel => exact ⟨(wrap64 (x8_2 + 1)), (x287002_2), (u287002), rf_, H', ⟨by have := HK1.out; have := HK2.out; omega⟩, ⟨by (with_reducible repeat (first | apply Kd.S_alloc | apply Kd.S_drewN | apply Kd.S_drew)); exact HO_5.out⟩, ⟨by (with_reducible repeat (first | apply Kd.R_alloc | apply Kd.R_drewN | apply Kd.R_drew)); exact HO_287002.out⟩, ⟨by (with_reducible repeat (first | refine blk_drewN ?_ _ | refine blk_drew ?_ | refine blk_alloc ?_ _)); exact BK286.out⟩, ⟨bz1 HB.out GE286.out⟩⟩
     subst c12
     have H1 : (if x287002_2.length < 2513169434916 then (contangoref51_Drop.l1 k2 l0 a1 x5_1 x6_1 (wrap64 (x8_2 + 1)) ((rd_T47 l0 x6_1).f0.f0) ((rd_T47 l0 x6_1).f0.f1) (x287002_2 ++ [(⟨(⟨(rd_T27 ((rd_T47 l0 x6_1).f1) x8_2).f0.f0, (rd_T27 ((rd_T47 l0 x6_1).f1) x8_2).f0.f1, (rd_T27 ((rd_T47 l0 x6_1).f1) x8_2).f0.f2, (rd_T27 ((rd_T47 l0 x6_1).f1) x8_2).f0.f3⟩ : S25), (rd_T27 ((rd_T47 l0 x6_1).f1) x8_2).f1, (rd_T27 ((rd_T47 l0 x6_1).f1) x8_2).f2⟩ : S27)])) else (none)) = some r := by rw [if_pos rfl] at H; exact H
     clear H
     have H := H1
     clear H1
     by_cases c13 : x287002_2.length < 2513169434916
     rotate_left
     · rw [if_neg c13] at H
       exact absurd H (by simp)
     rw [if_pos c13] at H
     have LMc13 := Aside0.mk c13
     clear c13
     obtain ⟨y293, hy293⟩ : ∃ y_ : List (S27), y_ = (x287002_2 ++ [(⟨(⟨(rd_T27 ((rd_T47 l0 x6_1).f1) x8_2).f0.f0, (rd_T27 ((rd_T47 l0 x6_1).f1) x8_2).f0.f1, (rd_T27 ((rd_T47 l0 x6_1).f1) x8_2).f0.f2, (rd_T27 ((rd_T47 l0 x6_1).f1) x8_2).f0.f3⟩ : S25), (rd_T27 ((rd_T47 l0 x6_1).f1) x8_2).f1, (rd_T27 ((rd_T47 l0 x6_1).f1) x8_2).f2⟩ : S27)]) := ⟨_, rfl⟩
     replace H : (contangoref51_Drop.l1 k2 l0 a1 x5_1 x6_1 (wrap64 (x8_2 + 1)) ((rd_T47 l0 x6_1).f0.f0) ((rd_T47 l0 x6_1).f0.f1) y293) = some r := by first | (rw [hy293]; with_reducible exact H) | (have H2_ := (Option.bind_some _ _).symm.trans H; rw [hy293]; with_reducible exact H2_) | (have H2_ := (Option.bind_some _ _).symm.trans H; with_reducible exact H2_) | with_reducible exact H | (rw [hy293]; exact H) | exact H
     have Ny293 := Aside0.mk hy293
     clear hy293
     have H' := Aside0.mk H
     clear H
     have p287 : 0 ≤ (x6_1 : Int) := od_
     have q287 : x6_1 < (l0.length : Int) := od_
     obtain ⟨ad287, A287_2, c287_2, e287, hx287_0, hx287_1, hx287_2, hl287_2, hi287_2⟩ := at_T47 HR0.out x6_1 p287 q287
     obtain rfl : ad285 = ad287 := (by injection e287)
     replace hx287_0 := (HB.out.cell (World.block_lt_of_cell? w _ hx287_0)).trans hx287_0
     replace hx287_1 := (HB.out.cell (World.block_lt_of_cell? w _ hx287_1)).trans hx287_1
     replace hx287_2 := (HB.out.cell (World.block_lt_of_cell? w _ hx287_2)).trans hx287_2
     have HR287_2 := Aside0.mk hi287_2
     have HC287_2 := Aside0.mk hl287_2
     clear hi287_2 hl287_2
     replace p287 := eq_true p287
     replace q287 := eq_true q287
     have p288 : 0 ≤ (x6_1 : Int) := od_
     have q288 : x6_1 < (l0.length : Int) := od_
     obtain ⟨ad288, A288_2, c288_2, e288, hx288_0, hx288_1, hx288_2, hl288_2, hi288_2⟩ := at_T47 HR0.out x6_1 p288 q288
     obtain rfl : ad285 = ad288 := (by injection e288)
     replace hx288_0 := (HB.out.cell (World.block_lt_of_cell? w _ hx288_0)).trans hx288_0
     replace hx288_1 := (HB.out.cell (World.block_lt_of_cell? w _ hx288_1)).trans hx288_1
     replace hx288_2 := (HB.out.cell (World.block_lt_of_cell? w _ hx288_2)).trans hx288_2
     have HR288_2 := Aside0.mk hi288_2
     have HC288_2 := Aside0.mk hl288_2
     clear hi288_2 hl288_2
     replace p288 := eq_true p288
     replace q288 := eq_true q288
     have ea_ := Option.some.inj (hx287_2.symm.trans hx288_2)
     injection ea_ with ea_ en_ ec_
     subst ea_
     subst ec_
     clear en_
     have p289 : 0 ≤ (x8_2 : Int) := od_
     have q289 : x8_2 < (((rd_T47 l0 x6_1).f1).length : Int) := od_
     obtain ⟨ad289, e289, hx289_0, hx289_1, hx289_2, hx289_3, hx289_4, hx289_5⟩ := at_T27 HR288_2.out x8_2 p289 q289
     cases e289
     replace hx289_0 := (HB.out.cell (World.block_lt_of_cell? w _ hx289_0)).trans hx289_0
     replace hx289_1 := (HB.out.cell (World.block_lt_of_cell? w _ hx289_1)).trans hx289_1
     replace hx289_2 := (HB.out.cell (World.block_lt_of_cell? w _ hx289_2)).trans hx289_2
     replace hx289_3 := (HB.out.cell (World.block_lt_of_cell? w _ hx289_3)).trans hx289_3
     replace hx289_4 := (HB.out.cell (World.block_lt_of_cell? w _ hx289_4)).trans hx289_4
     replace hx289_5 := (HB.out.cell (World.block_lt_of_cell? w _ hx289_5)).trans hx289_5
     replace p289 := eq_true p289
     replace q289 := eq_true q289
     try go_wp2_with (first | ((with_reducible refine gate_callee (f := 55) rfl ?_); refine goesL_ (some 41) rfl rfl Try.func55 (by kernel_rfl) rfl #[.agg #[.string ((rd_T27 ((rd_T47 l0 x6_1).f1) x8_2).f0.f0), .int .i64 ((rd_T27 ((rd_T47 l0 x6_1).f1) x8_2).f0.f1), .int .i64 ((rd_T27 ((rd_T47 l0 x6_1).f1) x8_2).f0.f2), .int .i64 ((rd_T27 ((rd_T47 l0 x6_1).f1) x8_2).f0.f3)], .int .i64 a1] rfl pm_ ?_; (with_reducible refine (contangoref10_Live.calls ((rd_T27 ((rd_T47 l0 x6_1).f1) x8_2).f0.f0) ((rd_T27 ((rd_T47 l0 x6_1).f1) x8_2).f0.f1) ((rd_T27 ((rd_T47 l0 x6_1).f1) x8_2).f0.f2) ((rd_T27 ((rd_T47 l0 x6_1).f1) x8_2).f0.f3) a1 true _ A11.out).mono ?_); rintro e w14 ⟨rfl, hb⟩; refine ⟨_, rfl, ?_⟩; have n0_ := Aside0.mk (Kd.S_below (by (with_reducible repeat (first | apply Kd.S_alloc | apply Kd.S_drewN | apply Kd.S_drew)); exact HO_5.out) hb); have n1_ := Aside0.mk (Kd.R_below (br_ HO_287002.out) hb); have n2_ := Aside0.mk (blk_below (g := gb286) (o := .cells #[.string ((rd_T47 l0 x6_1).f0.f0), .string ((rd_T47 l0 x6_1).f0.f1), u287002] 47 (0, 0)) (bk_ BK286.out) hb); have n3_ := Aside0.mk (below_step (bz1 HB.out GE286.out) hb); clear HO_5; clear HO_287002; clear BK286; clear HB; have HO_5 := n0_; have HO_287002 := n1_; have BK286 := n2_; have HB := n3_; clear n0_ n1_ n2_ n3_; (try clear hb); (try clear hb2); (try clear hk); (try clear hi)))
     have n0_ := Aside0.mk (Kd.S_drew HO_5.out)
     have n1_ := Aside0.mk (Kd.R_drew HO_287002.out)
     have n2_ := Aside0.mk (blk_drew BK286.out)
     have n3_ := Aside0.mk (below_drew1 HB.out)
     clear HO_5
     clear HO_287002
     clear BK286
     clear HB
     have HO_5 := n0_
     have HO_287002 := n1_
     have BK286 := n2_
     have HB := n3_
     clear n0_ n1_ n2_ n3_
     have p291 : 0 ≤ (x6_1 : Int) := od_
     have q291 : x6_1 < (l0.length : Int) := od_
     obtain ⟨ad291, A291_2, c291_2, e291, hx291_0, hx291_1, hx291_2, hl291_2, hi291_2⟩ := at_T47 HR0.out x6_1 p291 q291
     have hw291_2 := hx291_2
     have hw291_1 := hx291_1
     have hw291_0 := hx291_0
     obtain rfl : ad285 = ad291 := (by injection e291)
     replace hx291_0 := (HB.out.cell (World.block_lt_of_cell? w _ hx291_0)).trans hx291_0
     replace hx291_1 := (HB.out.cell (World.block_lt_of_cell? w _ hx291_1)).trans hx291_1
     replace hx291_2 := (HB.out.cell (World.block_lt_of_cell? w _ hx291_2)).trans hx291_2
     have HR291_2 := Aside0.mk hi291_2
     have HC291_2 := Aside0.mk hl291_2
     clear hi291_2 hl291_2
     replace p291 := eq_true p291
     replace q291 := eq_true q291
     have p292 : 0 ≤ (x8_2 : Int) := od_
     have q292 : x8_2 < (((rd_T47 l0 x6_1).f1).length : Int) := od_
     obtain ⟨ad292, e292, hx292_0, hx292_1, hx292_2, hx292_3, hx292_4, hx292_5⟩ := at_T27 HR291_2.out x8_2 p292 q292
     have hw292_5 := hx292_5
     have hw292_4 := hx292_4
     have hw292_3 := hx292_3
     have hw292_2 := hx292_2
     have hw292_1 := hx292_1
     have hw292_0 := hx292_0
     cases e292
     replace hx292_0 := (HB.out.cell (World.block_lt_of_cell? w _ hx292_0)).trans hx292_0
     replace hx292_1 := (HB.out.cell (World.block_lt_of_cell? w _ hx292_1)).trans hx292_1
     replace hx292_2 := (HB.out.cell (World.block_lt_of_cell? w _ hx292_2)).trans hx292_2
     replace hx292_3 := (HB.out.cell (World.block_lt_of_cell? w _ hx292_3)).trans hx292_3
     replace hx292_4 := (HB.out.cell (World.block_lt_of_cell? w _ hx292_4)).trans hx292_4
     replace hx292_5 := (HB.out.cell (World.block_lt_of_cell? w _ hx292_5)).trans hx292_5
     replace p292 := eq_true p292
     replace q292 := eq_true q292
     refine start_ (n := 14) (S := fun w' => w'.cell? ⟨gb286, 0, none⟩ = some (.string ((rd_T47 l0 x6_1).f0.f0)) ∧ w'.cell? ⟨gb286, 1, none⟩ = some (.string ((rd_T47 l0 x6_1).f0.f1)) ∧ w'.cell? ⟨gb286, 2, none⟩ = some (u287002) ∧ w'.cell? (ad285.add ((x6_1).toNat * 3)) = some (.string ((rd_T47 l0 x6_1).f0.f0)) ∧ w'.cell? ⟨(ad285.add ((x6_1).toNat * 3)).block, (ad285.add ((x6_1).toNat * 3)).off + 1, none⟩ = some (.string ((rd_T47 l0 x6_1).f0.f1)) ∧ w'.cell? ⟨(ad285.add ((x6_1).toNat * 3)).block, (ad285.add ((x6_1).toNat * 3)).off + 2, none⟩ = some (.slice (some ad292) ((rd_T47 l0 x6_1).f1).length c291_2) ∧ w'.cell? (ad292.add ((x8_2).toNat * 6)) = some (.string ((rd_T27 ((rd_T47 l0 x6_1).f1) x8_2).f0.f0)) ∧ w'.cell? ⟨(ad292.add ((x8_2).toNat * 6)).block, (ad292.add ((x8_2).toNat * 6)).off + 1, none⟩ = some (.int .i64 ((rd_T27 ((rd_T47 l0 x6_1).f1) x8_2).f0.f1)) ∧ w'.cell? ⟨(ad292.add ((x8_2).toNat * 6)).block, (ad292.add ((x8_2).toNat * 6)).off + 2, none⟩ = some (.int .i64 ((rd_T27 ((rd_T47 l0 x6_1).f1) x8_2).f0.f2)) ∧ w'.cell? ⟨(ad292.add ((x8_2).toNat * 6)).block, (ad292.add ((x8_2).toNat * 6)).off + 3, none⟩ = some (.int .i64 ((rd_T27 ((rd_T47 l0 x6_1).f1) x8_2).f0.f3)) ∧ w'.cell? ⟨(ad292.add ((x8_2).toNat * 6)).block, (ad292.add ((x8_2).toNat * 6)).off + 4, none⟩ = some (.int .i64 ((rd_T27 ((rd_T47 l0 x6_1).f1) x8_2).f1)) ∧ w'.cell? ⟨(ad292.add ((x8_2).toNat * 6)).block, (ad292.add ((x8_2).toNat * 6)).off + 5, none⟩ = some (.int .i64 ((rd_T27 ((rd_T47 l0 x6_1).f1) x8_2).f2))) (ds := [13]) (tf 0 14) (by kernel_rfl) rfl rfl ⟨(blk_cell BK286.out 0).trans rfl, (blk_cell BK286.out 1).trans rfl, (blk_cell BK286.out 2).trans rfl, ((HB.out.cell (World.block_lt_of_cell? w _ hw291_0)).trans hw291_0), ((HB.out.cell (World.block_lt_of_cell? w _ hw291_1)).trans hw291_1), ((HB.out.cell (World.block_lt_of_cell? w _ hw291_2)).trans hw291_2), ((HB.out.cell (World.block_lt_of_cell? w _ hw292_0)).trans hw292_0), ((HB.out.cell (World.block_lt_of_cell? w _ hw292_1)).trans hw292_1), ((HB.out.cell (World.block_lt_of_cell? w _ hw292_2)).trans hw292_2), ((HB.out.cell (World.block_lt_of_cell? w _ hw292_3)).trans hw292_3), ((HB.out.cell (World.block_lt_of_cell? w _ hw292_4)).trans hw292_4), ((HB.out.cell (World.block_lt_of_cell? w _ hw292_5)).trans hw292_5)⟩ (fun hHeld => ?_); refine with_tabW contangoref51_Drop.tab10 contangoref51_Drop.bits10 (fun HT_ HW_ => ?_)
     generalize w14.drew = w15 at HO_5 HO_287002 BK286 HB HR291_2 hx291_0 hx291_1 hx291_2 hx292_0 hx292_1 hx292_2 hx292_3 hx292_4 hx292_5 hHeld ⊢
     refine pv_ 0 42 (tf 1 13) HT_ ?_
     refine pv_ 2 44 #[true, false, true, false, false, false, false, false, false, false, false, false, false, false] HT_ ?_
     refine pv_ 3 45 #[true, false, true, true, false, false, false, false, false, false, false, false, false, false] HT_ ?_
     refine pv_ 4 46 #[true, false, true, true, true, false, false, false, false, false, false, false, false, false] HT_ ?_
     refine pv_ 5 47 #[true, false, true, true, true, true, false, false, false, false, false, false, false, false] HT_ ?_
     refine pv_ 7 49 #[true, false, true, true, true, true, false, true, false, false, false, false, false, false] HT_ ?_
     refine take_ (i := 1) (N := some 43) (v := ?_) (a' := ?_) #[true, true, true, true, true, true, false, true, false, false, false, false, false, false] rfl rfl (take_ofW HT_.out HW_.out (by kernel_rfl)) (fun _ _ _ h => h) (Or.inl ⟨by rfl, ?_⟩) hHeld ?_ ?_
     rotate_left
     · rintro w' ⟨s0, s1, s2, s3, s4, s5, s6, s7, s8, s9, s10, s11⟩
       go_simp
       with_reducible rfl
     rotate_left
     · exact ap_
     refine take_ (i := 6) (N := some 48) (v := ?_) (a' := ?_) (tf 8 6) rfl rfl (take_ofW HT_.out HW_.out (by kernel_rfl)) (fun _ _ _ h => h) (Or.inl ⟨by rfl, ?_⟩) hHeld ?_ ?_
     rotate_left
     · rintro w' ⟨s0, s1, s2, s3, s4, s5, s6, s7, s8, s9, s10, s11⟩
       go_simp
       with_reducible rfl
     rotate_left
     · exact ap_
     refine pv_ 8 50 (tf 9 5) HT_ ?_
     refine take_ (i := 9) (N := some 51) (v := ?_) (a' := ?_) (tf 10 4) rfl rfl (take_ofW HT_.out HW_.out (by kernel_rfl)) (fun _ _ _ h => h) (Or.inl ⟨by rfl, ?_⟩) hHeld ?_ ?_
     rotate_left
     · rintro w' ⟨s0, s1, s2, s3, s4, s5, s6, s7, s8, s9, s10, s11⟩
       go_simp
       with_reducible rfl
     rotate_left
     · exact ap_
     refine one_ (i := 10) (N := some 52) (tf 11 3) rfl rfl (one_of HT_.out (by kernel_rfl)) (by decide) (fun K hK => ?_)
     refine value_ (w1 := ?_) (v := ?_) (by rfl) rfl ?_ ?_
     rotate_left 2
     · go_simp
       constructor
       · rfl
       · rfl
     refine hK.out _ _ ⟨(blk_cell (blk_alloc BK286.out _) 0).trans rfl, (blk_cell (blk_alloc BK286.out _) 1).trans rfl, (blk_cell (blk_alloc BK286.out _) 2).trans rfl, (World.cell?_alloc_lt _ _ _ (World.block_lt_of_cell? _ _ (((HB.out.cell (World.block_lt_of_cell? w _ hw291_0)).trans hw291_0)))).trans (((HB.out.cell (World.block_lt_of_cell? w _ hw291_0)).trans hw291_0)), (World.cell?_alloc_lt _ _ _ (World.block_lt_of_cell? _ _ (((HB.out.cell (World.block_lt_of_cell? w _ hw291_1)).trans hw291_1)))).trans (((HB.out.cell (World.block_lt_of_cell? w _ hw291_1)).trans hw291_1)), (World.cell?_alloc_lt _ _ _ (World.block_lt_of_cell? _ _ (((HB.out.cell (World.block_lt_of_cell? w _ hw291_2)).trans hw291_2)))).trans (((HB.out.cell (World.block_lt_of_cell? w _ hw291_2)).trans hw291_2)), (World.cell?_alloc_lt _ _ _ (World.block_lt_of_cell? _ _ (((HB.out.cell (World.block_lt_of_cell? w _ hw292_0)).trans hw292_0)))).trans (((HB.out.cell (World.block_lt_of_cell? w _ hw292_0)).trans hw292_0)), (World.cell?_alloc_lt _ _ _ (World.block_lt_of_cell? _ _ (((HB.out.cell (World.block_lt_of_cell? w _ hw292_1)).trans hw292_1)))).trans (((HB.out.cell (World.block_lt_of_cell? w _ hw292_1)).trans hw292_1)), (World.cell?_alloc_lt _ _ _ (World.block_lt_of_cell? _ _ (((HB.out.cell (World.block_lt_of_cell? w _ hw292_2)).trans hw292_2)))).trans (((HB.out.cell (World.block_lt_of_cell? w _ hw292_2)).trans hw292_2)), (World.cell?_alloc_lt _ _ _ (World.block_lt_of_cell? _ _ (((HB.out.cell (World.block_lt_of_cell? w _ hw292_3)).trans hw292_3)))).trans (((HB.out.cell (World.block_lt_of_cell? w _ hw292_3)).trans hw292_3)), (World.cell?_alloc_lt _ _ _ (World.block_lt_of_cell? _ _ (((HB.out.cell (World.block_lt_of_cell? w _ hw292_4)).trans hw292_4)))).trans (((HB.out.cell (World.block_lt_of_cell? w _ hw292_4)).trans hw292_4)), (World.cell?_alloc_lt _ _ _ (World.block_lt_of_cell? _ _ (((HB.out.cell (World.block_lt_of_cell? w _ hw292_5)).trans hw292_5)))).trans (((HB.out.cell (World.block_lt_of_cell? w _ hw292_5)).trans hw292_5))⟩ (fun hHeld => ?_)
     clear hK K
     refine norm_ (a' := ?_) ?_ ?_
     rotate_left
     · show Act.put _ (some 52) _ = _
       simp only [Act.put, List.setIfInBounds_toArray, List.set_cons_zero, List.set_cons_succ, i64_w, i32_w]
       rfl
     refine one_ (i := 11) (N := some 53) (tf 12 2) rfl rfl (one_of HT_.out (by kernel_rfl)) (by decide) (fun K hK => ?_)
     refine Kd.R_append_step k27 (w0 := w) w.heap.size (by rfl) (.tmp 43) (.tmp 52) 45 27 (.agg #[(.string ⟨#[]⟩), (.int .i64 0), (.int .i64 0), (.int .i64 0), (.int .i64 0), (.int .i64 0)]) 56 rfl Try.underlying45 info27 rfl (by decide) (by omega) u287002 x287002_2 (⟨(⟨(rd_T27 ((rd_T47 l0 x6_1).f1) x8_2).f0.f0, (rd_T27 ((rd_T47 l0 x6_1).f1) x8_2).f0.f1, (rd_T27 ((rd_T47 l0 x6_1).f1) x8_2).f0.f2, (rd_T27 ((rd_T47 l0 x6_1).f1) x8_2).f0.f3⟩ : S25), (rd_T27 ((rd_T47 l0 x6_1).f1) x8_2).f1, (rd_T27 ((rd_T47 l0 x6_1).f1) x8_2).f2⟩ : S27) [.string ((rd_T27 ((rd_T47 l0 x6_1).f1) x8_2).f0.f0), .int .i64 ((rd_T27 ((rd_T47 l0 x6_1).f1) x8_2).f0.f1), .int .i64 ((rd_T27 ((rd_T47 l0 x6_1).f1) x8_2).f0.f2), .int .i64 ((rd_T27 ((rd_T47 l0 x6_1).f1) x8_2).f0.f3), .int .i64 ((rd_T27 ((rd_T47 l0 x6_1).f1) x8_2).f1), .int .i64 ((rd_T27 ((rd_T47 l0 x6_1).f1) x8_2).f2)] (fun _ => True) (fun _ => False) rfl rfl ?aP (fun _ hk => hk.elim) ?aF ?aO ?aB ?aS ?aL ?_
     (case aP => exact k27_mkM _ _ _ (⟨(⟨(rd_T27 ((rd_T47 l0 x6_1).f1) x8_2).f0.f0, (rd_T27 ((rd_T47 l0 x6_1).f1) x8_2).f0.f1, (rd_T27 ((rd_T47 l0 x6_1).f1) x8_2).f0.f2, (rd_T27 ((rd_T47 l0 x6_1).f1) x8_2).f0.f3⟩ : S25), (rd_T27 ((rd_T47 l0 x6_1).f1) x8_2).f1, (rd_T27 ((rd_T47 l0 x6_1).f1) x8_2).f2⟩ : S27))
     (case aB => exact (bz1 HB.out GE286.out))
     (case aF => exact (fun _ _ => trivial))
     (case aO => exact (br_ HO_287002.out))
     (case aS => exact (below_size (bz1 HB.out GE286.out)))
     (case aL => have := LMc13.out; omega)
     intro v294 w16 ho hb hg hat
     rw [← Ny293.out] at ho
     have n0_ := Aside0.mk (Kd.S_after (ok := (fun k_ => k_ ≠ gb286)) (by (with_reducible repeat (first | apply Kd.S_alloc | apply Kd.S_drewN | apply Kd.S_drew)); exact Kd.S_mono HO_5.out (fun _ hk => ⟨hk.2, hk.1⟩)) hg hat)
     have n1_ := Aside0.mk (blk_grown (g := gb286) (o := .cells #[.string ((rd_T47 l0 x6_1).f0.f0), .string ((rd_T47 l0 x6_1).f0.f1), u287002] 47 (0, 0)) (bk_ BK286.out) hg (Kd.R_ne HO_287002.out BK286.out (by decide)))
     have n2_ := Aside0.mk (hb)
     have n3_ := Aside0.mk (ho)
     clear HO_5
     clear BK286
     clear HB
     clear HO_287002
     have HO_5 := n0_
     have BK286 := n1_
     have HB := n2_
     have HO295 := n3_
     clear n0_ n1_ n2_ n3_
     clear ho hb hg hat
     obtain ⟨Ao17, co17, eo17⟩ := Kd.R_slice HO295.out
     (first | subst eo17 | (injection eo17 with f1_ f2_ f3_; have f4_ := f1_.symm; have f5_ := f3_.symm; clear f1_ f2_ f3_; subst f4_; subst f5_))
     refine hK.out _ _ ⟨(blk_cell BK286.out 0).trans rfl, (blk_cell BK286.out 1).trans rfl, (blk_cell BK286.out 2).trans rfl, ((HB.out.cell (World.block_lt_of_cell? w _ hw291_0)).trans hw291_0), ((HB.out.cell (World.block_lt_of_cell? w _ hw291_1)).trans hw291_1), ((HB.out.cell (World.block_lt_of_cell? w _ hw291_2)).trans hw291_2), ((HB.out.cell (World.block_lt_of_cell? w _ hw292_0)).trans hw292_0), ((HB.out.cell (World.block_lt_of_cell? w _ hw292_1)).trans hw292_1), ((HB.out.cell (World.block_lt_of_cell? w _ hw292_2)).trans hw292_2), ((HB.out.cell (World.block_lt_of_cell? w _ hw292_3)).trans hw292_3), ((HB.out.cell (World.block_lt_of_cell? w _ hw292_4)).trans hw292_4), ((HB.out.cell (World.block_lt_of_cell? w _ hw292_5)).trans hw292_5)⟩ (fun hHeld => ?_)
     clear hK K
     refine norm_ (a' := ?_) ?_ ?_
     rotate_left
     · show Act.put _ (some 53) _ = _
       simp only [Act.put, List.setIfInBounds_toArray, List.set_cons_zero, List.set_cons_succ, i64_w, i32_w]
       rfl
     refine pv_ 12 54 (tf 13 1) HT_ ?_
     refine last_ (i := 13) (N := none) (tf 14 0) rfl rfl (one_of HT_.out (by kernel_rfl)) (by decide) (fun K hK => ?_)
     have hs18 : w16.cell? ⟨gb286, 2, none⟩ = some (u287002) := (blk_cell BK286.out 2).trans rfl
     have hfs18 := blk_frozen BK286.out 2
     refine skip_ (w1 := ?_) (by rfl) rfl ?_ ?_
     rotate_left
     · go_simp
       rfl
     refine hK.out _ _ ?_
     clear hK K
     refine done_ (done_of HT_.out (by kernel_rfl)) ?_
     try go_wp2
     go_roundg k2
     case measure => have := HK1.out; have := HK2.out; omega
     case rel => exact ⟨(wrap64 (x8_2 + 1)), (y293), (.slice Ao17 y293.length co17), rf_, H', ⟨by have := HK1.out; have := HK2.out; omega⟩, ⟨by (with_reducible repeat (first | apply Kd.S_alloc | apply Kd.S_drewN | apply Kd.S_drew)); exact Kd.S_mono (Kd.S_far (p := ⟨gb286, 2, none⟩) (Kd.S_mono HO_5.out (fun k_ hk => (⟨hk, hk.1⟩ : _ ∧ k_ ≠ gb286))) (fun _ hk => hk.2) (.slice Ao17 y293.length co17)) (fun _ hk => ⟨hk.1.2, hk.1.1⟩)⟩, ⟨by (with_reducible repeat (first | apply Kd.R_alloc | apply Kd.R_drewN | apply Kd.R_drew)); exact Kd.R_mono (Kd.R_far (p := ⟨gb286, 2, none⟩) (Kd.R_types HO295.out BK286.out (by decide)) (fun _ hk => hk.2) (.slice Ao17 y293.length co17)) (fun _ hk => trivial)⟩, ⟨by (with_reducible repeat (first | refine blk_drewN ?_ _ | refine blk_drew ?_ | refine blk_alloc ?_ _)); refine blk_put (cs := #[.string ((rd_T47 l0 x6_1).f0.f0), .string ((rd_T47 l0 x6_1).f0.f1), u287002]) ?_ 2 _ rfl; (with_reducible repeat (first | refine blk_drewN ?_ _ | refine blk_drew ?_ | refine blk_alloc ?_ _)); exact BK286.out⟩, ⟨bz1 HB.out GE286.out⟩⟩

end Go.Proofs.Ytoejllkjhaeeeaa.PExpiryFlows
