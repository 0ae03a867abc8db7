import Derived.Test.YtjmkdmbgldcleaaPTearAppliesx0
import Derived.Test.YtjmkdmbgldcleaaPTearAppliesx4
import Derived.Test.YtjmkdmbgldcleaaPTearAppliesx12
import Derived.Test.YtjmkdmbgldcleaaPTearAppliesx15
import Derived.Test.YtjmkdmbgldcleaaPTearAppliesx16
namespace Go.Proofs.Ytjmkdmbgldcleaa.PTearApplies
open Go.RowKit Go.Proofs.YtjmkdmbgldcleaaW.PrintWords Go.Proofs.YtjmkdmbgldcleaaW.PrintLast Go.Proofs.YtjmkdmbgldcleaaW.PrintMore
attribute [local go_sem] max2_int min2_int max_two min_two max_three min_three max_four min_four Go.Proofs.YtjmkdmbgldcleaaHand.run_leq_str Go.Proofs.YtjmkdmbgldcleaaHand.run_gtr_str Go.Proofs.YtjmkdmbgldcleaaHand.run_geq_str   -- for this text's walks alone
set_option linter.unusedVariables false
set_option linter.unusedSimpArgs false

attribute [local go_sem high] eqA55
/-! ### contangoref50_Apply: function 14 -/
mutual
def contangoref50_Apply.j0 : Nat → List (S58) → Bool → List (S62) → Int → ByteArray → Int → Int → Int → Option ((List (S58)) × Int)
  | 0, _, _, _, _, _, _, _, _ => none
  | k + 1, x0, x2, x3, x10, x221000, x221001, x221002, x221003 => if x10 = 0 then (if ([] : List (S58)).length + x0.length < 2513169434916 then (contangoref50_Apply.l0 k x0 x2 x3 (([] : List (S58)) ++ x0) 0 x221000 x221001 x221002 x221003) else (none)) else (some (([] : List (S58)), x10))
def contangoref50_Apply.l0 : Nat → List (S58) → Bool → List (S62) → List (S58) → Int → ByteArray → Int → Int → Int → Option ((List (S58)) × Int)
  | 0, _, _, _, _, _, _, _, _, _ => none
  | k + 1, x0, x2, x3, x11, x12, x221000, x221001, x221002, x221003 => if x12 < (x3.length : Int) then (if 0 ≤ x12 then ((contangoref50_place.f k x0 ((rd_T62 x3 x12).f0.f0) ((rd_T62 x3 x12).f0.f1)).bind fun t226 => (contangoref50_Apply.l1 k x0 x2 x3 x11 x12 t226 0 x221000 x221001 x221002 x221003)) else (none)) else (some (x11, 0))
def contangoref50_Apply.l1 : Nat → List (S58) → Bool → List (S62) → List (S58) → Int → Int → Int → ByteArray → Int → Int → Int → Option ((List (S58)) × Int)
  | 0, _, _, _, _, _, _, _, _, _, _, _ => none
  | k + 1, x0, x2, x3, x11, x12, x13, x14, x221000, x221001, x221002, x221003 => if x14 < x12 then (if 0 ≤ x14 then (if x14 < (x3.length : Int) then (if 0 ≤ x12 then (if x12 < (x3.length : Int) then (if (eqD55 ((rd_T62 x3 x14).f0.f0) ((rd_T62 x3 x12).f0.f0) ((rd_T62 x3 x14).f0.f1) ((rd_T62 x3 x12).f0.f1)) = true then (contangoref50_Apply.l1 k x0 x2 x3 x11 x12 (-1) (wrap64 (x14 + 1)) x221000 x221001 x221002 x221003) else (contangoref50_Apply.l1 k x0 x2 x3 x11 x12 x13 (wrap64 (x14 + 1)) x221000 x221001 x221002 x221003)) else (none)) else (none)) else (none)) else (none)) else (if x13 < 0 then (some (([] : List (S58)), 21)) else (if 0 ≤ x12 then (if x12 < (x3.length : Int) then (if ((rd_T62 x3 x12).f1) < 1 then (contangoref50_Apply.j3 k x0 x2 x3 x11 x12 x13 true x221000 x221001 x221002 x221003) else (contangoref50_Apply.j3 k x0 x2 x3 x11 x12 x13 (decide (((rd_T62 x3 x12).f1) > 1048576)) x221000 x221001 x221002 x221003)) else (none)) else (none)))
def contangoref50_Apply.j3 : Nat → List (S58) → Bool → List (S62) → List (S58) → Int → Int → Bool → ByteArray → Int → Int → Int → Option ((List (S58)) × Int)
  | 0, _, _, _, _, _, _, _, _, _, _, _ => none
  | k + 1, x0, x2, x3, x11, x12, x13, x70, x221000, x221001, x221002, x221003 => if x70 = true then (some (([] : List (S58)), 18)) else (if 0 ≤ x13 then (if x13 < (x0.length : Int) then ((contangoref15_Find.f k ((rd_T58 x0 x13).f1) x221000 x221001 x221002 x221003).bind fun bt232 => ((contangoref50_side.f bt232.1 bt232.2.1 bt232.2.2.1 bt232.2.2.2.1 bt232.2.2.2.2.1 bt232.2.2.2.2.2 x2).bind fun t238 => (if 0 ≤ x12 then (if x12 < (x3.length : Int) then (if t238 < ((rd_T62 x3 x12).f1) then (some (([] : List (S58)), 30)) else ((contangoref50_less.f k ((rd_T58 x0 x13).f1) x221000 x221001 x221002 x221003 x2 ((rd_T62 x3 x12).f1)).bind fun t243 => (if x13 < (x11.length : Int) then (contangoref50_Apply.l0 k x0 x2 x3 (x11.set (x13 : Int).toNat (⟨(⟨(rd_T58 x0 x13).f0.f0, (rd_T58 x0 x13).f0.f1⟩ : S55), t243⟩ : S58)) (wrap64 (x12 + 1)) x221000 x221001 x221002 x221003) else (none)))) else (none)) else (none)))) else (none)) else (none))
end
def contangoref50_Apply.f (k : Nat) (l0 : List (S58)) (a1_0 : ByteArray) (a1_1 : Int) (a1_2 : Int) (a1_3 : Int) (a2 : Bool) (l3 : List (S62)) : Option ((List (S58)) × Int) := (contangoref50_check.f k l0).bind fun t221 => (if (l3.length : Int) > 1024 then (contangoref50_Apply.j0 k l0 a2 l3 8 a1_0 a1_1 a1_2 a1_3) else (contangoref50_Apply.j0 k l0 a2 l3 t221 a1_0 a1_1 a1_2 a1_3))
theorem contangoref50_Apply.mono_l : ∀ k, (∀ y0 y1 y2 y3 y4 y5 y6 y7, LeO (contangoref50_Apply.j0 k y0 y1 y2 y3 y4 y5 y6 y7) (contangoref50_Apply.j0 (k + 1) y0 y1 y2 y3 y4 y5 y6 y7)) ∧ (∀ y0 y1 y2 y3 y4 y5 y6 y7 y8, LeO (contangoref50_Apply.l0 k y0 y1 y2 y3 y4 y5 y6 y7 y8) (contangoref50_Apply.l0 (k + 1) y0 y1 y2 y3 y4 y5 y6 y7 y8)) ∧ (∀ y0 y1 y2 y3 y4 y5 y6 y7 y8 y9 y10, LeO (contangoref50_Apply.l1 k y0 y1 y2 y3 y4 y5 y6 y7 y8 y9 y10) (contangoref50_Apply.l1 (k + 1) y0 y1 y2 y3 y4 y5 y6 y7 y8 y9 y10)) ∧ (∀ y0 y1 y2 y3 y4 y5 y6 y7 y8 y9 y10, LeO (contangoref50_Apply.j3 k y0 y1 y2 y3 y4 y5 y6 y7 y8 y9 y10) (contangoref50_Apply.j3 (k + 1) y0 y1 y2 y3 y4 y5 y6 y7 y8 y9 y10))
  | 0 => ⟨fun _ _ _ _ _ _ _ _ r h => by simp [contangoref50_Apply.j0] at h, fun _ _ _ _ _ _ _ _ _ r h => by simp [contangoref50_Apply.l0] at h, fun _ _ _ _ _ _ _ _ _ _ _ r h => by simp [contangoref50_Apply.l1] at h, fun _ _ _ _ _ _ _ _ _ _ _ r h => by simp [contangoref50_Apply.j3] at h⟩
  | k + 1 => by
    obtain ⟨ih0, ih1, ih2, ih3⟩ := contangoref50_Apply.mono_l k
    refine ⟨?_, ?_, ?_, ?_⟩
    · intro y0 y1 y2 y3 y4 y5 y6 y7
      unfold contangoref50_Apply.j0
      repeat' first
      | (with_reducible exact ih0 _ _ _ _ _ _ _ _)
      | (with_reducible exact ih1 _ _ _ _ _ _ _ _ _)
      | (with_reducible exact ih2 _ _ _ _ _ _ _ _ _ _ _)
      | (with_reducible exact ih3 _ _ _ _ _ _ _ _ _ _ _)
      | (with_reducible exact contangoref15_Find.mono _ _ _ _ _ _)
      | (with_reducible exact contangoref50_check.mono _ _)
      | (with_reducible exact contangoref50_less.mono _ _ _ _ _ _ _ _)
      | (with_reducible exact contangoref50_place.mono _ _ _ _)
      | (with_reducible exact LeO.refl _)
      | (with_reducible exact LeO.none _)
      | (with_reducible refine LeO.ite ?_ ?_)
      | (with_reducible refine LeO.bind ?_ (fun _ => ?_))
      | exact LeO.none _
      | refine LeO.ite ?_ ?_
      | refine LeO.bind ?_ (fun _ => ?_)
    · intro y0 y1 y2 y3 y4 y5 y6 y7 y8
      unfold contangoref50_Apply.l0
      repeat' first
      | (with_reducible exact ih0 _ _ _ _ _ _ _ _)
      | (with_reducible exact ih1 _ _ _ _ _ _ _ _ _)
      | (with_reducible exact ih2 _ _ _ _ _ _ _ _ _ _ _)
      | (with_reducible exact ih3 _ _ _ _ _ _ _ _ _ _ _)
      | (with_reducible exact contangoref15_Find.mono _ _ _ _ _ _)
      | (with_reducible exact contangoref50_check.mono _ _)
      | (with_reducible exact contangoref50_less.mono _ _ _ _ _ _ _ _)
      | (with_reducible exact contangoref50_place.mono _ _ _ _)
      | (with_reducible exact LeO.refl _)
      | (with_reducible exact LeO.none _)
      | (with_reducible refine LeO.ite ?_ ?_)
      | (with_reducible refine LeO.bind ?_ (fun _ => ?_))
      | exact LeO.none _
      | refine LeO.ite ?_ ?_
      | refine LeO.bind ?_ (fun _ => ?_)
    · intro y0 y1 y2 y3 y4 y5 y6 y7 y8 y9 y10
      unfold contangoref50_Apply.l1
      repeat' first
      | (with_reducible exact ih0 _ _ _ _ _ _ _ _)
      | (with_reducible exact ih1 _ _ _ _ _ _ _ _ _)
      | (with_reducible exact ih2 _ _ _ _ _ _ _ _ _ _ _)
      | (with_reducible exact ih3 _ _ _ _ _ _ _ _ _ _ _)
      | (with_reducible exact contangoref15_Find.mono _ _ _ _ _ _)
      | (with_reducible exact contangoref50_check.mono _ _)
      | (with_reducible exact contangoref50_less.mono _ _ _ _ _ _ _ _)
      | (with_reducible exact contangoref50_place.mono _ _ _ _)
      | (with_reducible exact LeO.refl _)
      | (with_reducible exact LeO.none _)
      | (with_reducible refine LeO.ite ?_ ?_)
      | (with_reducible refine LeO.bind ?_ (fun _ => ?_))
      | exact LeO.none _
      | refine LeO.ite ?_ ?_
      | refine LeO.bind ?_ (fun _ => ?_)
    · intro y0 y1 y2 y3 y4 y5 y6 y7 y8 y9 y10
      unfold contangoref50_Apply.j3
      repeat' first
      | (with_reducible exact ih0 _ _ _ _ _ _ _ _)
      | (with_reducible exact ih1 _ _ _ _ _ _ _ _ _)
      | (with_reducible exact ih2 _ _ _ _ _ _ _ _ _ _ _)
      | (with_reducible exact ih3 _ _ _ _ _ _ _ _ _ _ _)
      | (with_reducible exact contangoref15_Find.mono _ _ _ _ _ _)
      | (with_reducible exact contangoref50_check.mono _ _)
      | (with_reducible exact contangoref50_less.mono _ _ _ _ _ _ _ _)
      | (with_reducible exact contangoref50_place.mono _ _ _ _)
      | (with_reducible exact LeO.refl _)
      | (with_reducible exact LeO.none _)
      | (with_reducible refine LeO.ite ?_ ?_)
      | (with_reducible refine LeO.bind ?_ (fun _ => ?_))
      | exact LeO.none _
      | refine LeO.ite ?_ ?_
      | refine LeO.bind ?_ (fun _ => ?_)
theorem contangoref50_Apply.mono : ∀ a0 a1 a2 a3 a4 a5 a6 k, LeO (contangoref50_Apply.f k a0 a1 a2 a3 a4 a5 a6) (contangoref50_Apply.f (k + 1) a0 a1 a2 a3 a4 a5 a6) := by
  intro a0 a1 a2 a3 a4 a5 a6 k
  obtain ⟨ih0, ih1, ih2, ih3⟩ := contangoref50_Apply.mono_l k
  unfold contangoref50_Apply.f
  repeat' first
      | (with_reducible exact ih0 _ _ _ _ _ _ _ _)
      | (with_reducible exact ih1 _ _ _ _ _ _ _ _ _)
      | (with_reducible exact ih2 _ _ _ _ _ _ _ _ _ _ _)
      | (with_reducible exact ih3 _ _ _ _ _ _ _ _ _ _ _)
      | (with_reducible exact contangoref15_Find.mono _ _ _ _ _ _)
      | (with_reducible exact contangoref50_check.mono _ _)
      | (with_reducible exact contangoref50_less.mono _ _ _ _ _ _ _ _)
      | (with_reducible exact contangoref50_place.mono _ _ _ _)
      | (with_reducible exact LeO.refl _)
      | (with_reducible exact LeO.none _)
      | (with_reducible refine LeO.ite ?_ ?_)
      | (with_reducible refine LeO.bind ?_ (fun _ => ?_))
      | exact LeO.none _
      | refine LeO.ite ?_ ?_
      | refine LeO.bind ?_ (fun _ => ?_)
def contangoref50_Apply.T15 : Bool × List (List Nat × List Nat) := (true, [([], []), ([], []), ([0, 1], [0, 1]), ([2], [2]), ([3], [3]), ([], []), ([], []), ([5, 6], [5, 6]), ([7], [7]), ([8], [8]), ([4, 9], [4, 9])])
def contangoref50_Apply.B15 : List Nat := [0, 0, 3, 7, 15, 0, 0, 96, 224, 480, 1023]
theorem contangoref50_Apply.tab15 : rtab .any (opsOf Try.f14 15) = contangoref50_Apply.T15 := by kernel_rfl
theorem contangoref50_Apply.bits15 : waitsOk contangoref50_Apply.T15.2 contangoref50_Apply.B15 = true := by kernel_rfl
def contangoref50_Apply.T21 : Bool × List (List Nat × List Nat) := (true, [([], []), ([], []), ([0, 1], [0, 1]), ([2], [2]), ([3], [3]), ([], []), ([4, 5], [4, 5]), ([], []), ([6, 7, 6], [6, 7]), ([], []), ([], []), ([9, 10], [9, 10]), ([11], [11]), ([12], [12]), ([8, 13], [8, 13])])
def contangoref50_Apply.B21 : List Nat := [0, 0, 3, 7, 15, 0, 63, 0, 255, 0, 0, 1536, 3584, 7680, 16383]
theorem contangoref50_Apply.tab21 : rtab .any (opsOf Try.f14 21) = contangoref50_Apply.T21 := by kernel_rfl
theorem contangoref50_Apply.bits21 : waitsOk contangoref50_Apply.T21.2 contangoref50_Apply.B21 = true := by kernel_rfl
def contangoref50_Apply.T23 : Bool × List (List Nat × List Nat) := (true, [([], []), ([], []), ([], []), ([], []), ([2, 3], [2, 3]), ([4], [4]), ([5], [5]), ([], []), ([], []), ([7, 8], [7, 8]), ([9], [9]), ([10], [10]), ([], []), ([], []), ([], []), ([], []), ([14, 15], [14, 15]), ([16], [16]), ([17], [17]), ([11, 12, 13, 18], [11, 12, 13, 18]), ([6, 19], [6, 19]), ([0, 1, 0, 1, 2, 3, 4, 5, 6, 7, 8, 9, 10, 11, 12, 13, 14, 15, 16, 17, 18, 19, 20], [0, 1]), ([21, 20, 19, 0, 1, 2, 3, 4, 5, 6, 7, 8, 9, 10, 11, 12, 13, 14, 15, 16, 17, 18, 19, 20], [20, 21])])
def contangoref50_Apply.B23 : List Nat := [0, 0, 0, 0, 12, 28, 60, 0, 0, 384, 896, 1920, 0, 0, 0, 0, 49152, 114688, 245760, 524160, 1048572, 2097151, 4194303]
theorem contangoref50_Apply.tab23 : rtab .any (opsOf Try.f14 23) = contangoref50_Apply.T23 := by kernel_rfl
theorem contangoref50_Apply.bits23 : waitsOk contangoref50_Apply.T23.2 contangoref50_Apply.B23 = true := by kernel_rfl
set_option maxHeartbeats 8000000 in
set_option maxRecDepth 100000 in
theorem contangoref50_Apply.calls (k : Nat) (P0_ : Nat → Prop) (A0 : Option Addr) (c0 : Nat) (l0 : List (S58)) (a1_0 : ByteArray) (a1_1 : Int) (a1_2 : Int) (a1_3 : Int) (a2 : Bool) (A3 : Option Addr) (c3 : Nat) (l3 : List (S62)) (r1 : List (S58)) (r2 : Int) (w : World) (hs0 : Kd.V k58 58 w w.heap.size (fun k_ => P0_ k_) (.slice A0 l0.length c0) l0) (hr3 : Kd.C k62 w A3 l3.length l3) (hc3 : l3.length ≤ c3) (h : contangoref50_Apply.f k l0 a1_0 a1_1 a1_2 a1_3 a2 l3 = some (r1, r2)) :
    Calls Try.prog 14 #[.slice A0 l0.length c0, .agg #[.string a1_0, .int .i64 a1_1, .int .i64 a1_2, .int .i64 a1_3], .bool a2, .slice A3 l3.length c3] w fun e w' => ∃ v0_ : Value, e = .returned (.tuple #[v0_, .int .i64 r2]) ∧ Kd.N k58 58 w' w.heap.size (fun k_ => (P0_ k_ ∨ w.heap.size ≤ k_)) v0_ r1 ∧ Below w.heap.size w w' := by
  have hu24 := Try.underlying24
  have hu55 := Try.underlying55
  have hu58 := Try.underlying58
  have HO0 := Aside0.mk (show Kd.V k58 58 w w.heap.size (fun k_ => (P0_ k_ ∨ w.heap.size ≤ k_)) (.slice A0 l0.length c0) l0 from Kd.V_mono hs0 (fun k_ hk => .inl hk))
  have HR3 := Aside0.mk hr3
  have HC3 := Aside0.mk hc3
  clear hr3 hc3
  have HB := Aside0.mk (Below.refl w.heap.size w)
  have H : ((contangoref50_check.f k l0).bind fun t221 => (if (l3.length : Int) > 1024 then (contangoref50_Apply.j0 k l0 a2 l3 8 a1_0 a1_1 a1_2 a1_3) else (contangoref50_Apply.j0 k l0 a2 l3 t221 a1_0 a1_1 a1_2 a1_3))) = some (r1, r2) := h
  clear h
  replace H := Option.bind_eq_some_iff.mp H
  obtain ⟨t221, A50, H⟩ := H
  replace H : (if (l3.length : Int) > 1024 then (contangoref50_Apply.j0 k l0 a2 l3 8 a1_0 a1_1 a1_2 a1_3) else (contangoref50_Apply.j0 k l0 a2 l3 t221 a1_0 a1_1 a1_2 a1_3)) = some (r1, r2) := H
  have A5 := Aside0.mk A50
  clear A50
  have HC6 := Aside0.mk H
  clear H
  go_enter Try.func14, Try.ntmps14
  go_upto_if 19 with (first | ((with_reducible refine gate_dst (N := 5) rfl ?_); refine box_event ?hg (N := 5) ?hd (cs := #[.string a1_0, .int .i64 a1_1, .int .i64 a1_2, .int .i64 a1_3]) (t := 24) ?hr ?_; (case hd => rfl); (case hg => rfl); (case hr => first | (go_simp; done) | (go_simp; rfl)); intro gb220 hg w7 hbox hb; have n0_ := Aside0.mk (Kd.V_below (Kd.V_elderB (by (with_reducible repeat (first | apply Kd.V_alloc | apply Kd.V_drewN | apply Kd.V_drew)); exact HO0.out) gb220 (Nat.le_of_eq hg.symm)) hb); have n1_ := Aside0.mk (below_step (bz0 HB.out) hb); have n2_ := Aside0.mk (hbox); have n3_ := Aside0.mk ((by rw [hg]; exact (below_size (bz0 HB.out)) : w.heap.size ≤ gb220)); have n4_ := Aside0.mk ((by rw [hg]; exact (below_size (bz0 HB.out)) : w.heap.size ≤ gb220)); clear HO0; clear HB; have HO0 := n0_; have HB := n1_; have BK220 := n2_; have GW220 := n3_; have GE220 := n4_; clear n0_ n1_ n2_ n3_ n4_; clear hb hbox hg) | ((with_reducible refine gate_callee (f := 28) rfl ?_); refine goesL_ (some 16) rfl rfl Try.func28 (by kernel_rfl) rfl #[.slice A0 l0.length c0] rfl pm_ ?_; (with_reducible refine (contangoref50_check.calls k _ _ l0 t221 _ ?side1 ?side2 A5.out).mono ?_); (case side1 => repeat (first | exact (Kd.V_reads' HO0.out).2.2 | (with_reducible refine Kd.C_alloc ?_ _) | (with_reducible refine Kd.C_drewN ?_ _) | (with_reducible refine Kd.C_drew ?_))); (case side2 => exact (Kd.V_reads' HO0.out).2.1); rintro e w8 ⟨rfl, hb⟩; refine ⟨_, rfl, ?_⟩; have n0_ := Aside0.mk (Kd.V_below (by (with_reducible repeat (first | apply Kd.V_alloc | apply Kd.V_drewN | apply Kd.V_drew)); exact HO0.out) hb); have n1_ := Aside0.mk (blk_below (g := gb220) (o := .cells #[.string a1_0, .int .i64 a1_1, .int .i64 a1_2, .int .i64 a1_3] 24 (0, 0)) (bk_ BK220.out) hb); have n2_ := Aside0.mk (below_step (bz1 HB.out GE220.out) hb); clear HO0; clear BK220; clear HB; have HO0 := n0_; have BK220 := n1_; have HB := n2_; clear n0_ n1_ n2_; (try clear hb); (try clear hb2); (try clear hk); (try clear hi)))
  (try simp only [Act.put, List.setIfInBounds_toArray, List.set_cons_zero, List.set_cons_succ])
  go_cut [10] (fun v10 wc => ∃ (kq : Nat) (x10_5 : Int), v10 = .int .i64 x10_5 ∧ Aside0 (contangoref50_Apply.j0 kq l0 a2 l3 x10_5 a1_0 a1_1 a1_2 a1_3 = some (r1, r2)) ∧ Aside0 (kq ≤ k) ∧ Aside0 (Kd.V k58 58 wc w.heap.size (fun k_ => (P0_ k_ ∨ w.heap.size ≤ k_) ∧ k_ ≠ gb220) (.slice A0 l0.length c0) l0) ∧ Aside0 (wc.heap[gb220]? = some (.cells #[.string a1_0, .int .i64 a1_1, .int .i64 a1_2, .int .i64 a1_3] 24 (0, 0))) ∧ Aside0 (Below w.heap.size w wc))
  case first =>
    have H := HC6.out
    clear HC6
    by_cases c9 : (l3.length : Int) > 1024
    · rw [if_pos c9] at H
      have c9b0 : decide (1024 < (l3.length : Int)) = true := decide_eq_true c9
      have c9b1 : decide (1024 < l3.length) = true := decide_eq_true (by omega)
      clear c9
      (first | rw [c9b0] | (simp only [i64_w, i32_w]; rw [c9b0]) | skip)
      have H' := Aside0.mk H
      clear H
      go_wp2
      go_meet
      case rel => exact ⟨_, (8), rf_, H', ⟨by first | omega | exact Nat.le_refl _⟩, ⟨by (with_reducible repeat (first | apply Kd.V_alloc | apply Kd.V_drewN | apply Kd.V_drew)); exact HO0.out⟩, ⟨by (with_reducible repeat (first | refine blk_drewN ?_ _ | refine blk_drew ?_ | refine blk_alloc ?_ _)); exact BK220.out⟩, ⟨bz1 HB.out GE220.out⟩⟩
    · rw [if_neg c9] at H
      have c9b0 : decide (1024 < (l3.length : Int)) = false := decide_eq_false c9
      have c9b1 : decide (1024 < l3.length) = false := decide_eq_false (by omega)
      clear c9
      (first | rw [c9b0] | (simp only [i64_w, i32_w]; rw [c9b0]) | skip)
      have H' := Aside0.mk H
      clear H
      go_wp2
      go_meet
      case rel => exact ⟨_, (t221), rf_, H', ⟨by first | omega | exact Nat.le_refl _⟩, ⟨by (with_reducible repeat (first | apply Kd.V_alloc | apply Kd.V_drewN | apply Kd.V_drew)); exact HO0.out⟩, ⟨by (with_reducible repeat (first | refine blk_drewN ?_ _ | refine blk_drew ?_ | refine blk_alloc ?_ _)); exact BK220.out⟩, ⟨bz1 HB.out GE220.out⟩⟩
  case rest =>
    clear HC6
    try clear c1
    try clear c2
    try clear p2
    try clear c3
    try clear c9
    try clear c9b0
    try clear c9b1
    obtain ⟨kq, x10_5, rfl, HA, HJ5, HO_0, BK220, HB⟩ := hcut
    cases kq with
    | zero => exact absurd HA.out (by simp [contangoref50_Apply.j0])
    | succ kj5 =>
      have H := HA.out
      clear HA
      simp only [contangoref50_Apply.j0] at H
      by_cases c10 : x10_5 = 0
      · rw [if_pos c10] at H
        have c10b0 : (x10_5 == 0) = true := beq_iff_eq.mpr c10
        have c10b1 : (x10_5 != 0) = false := bne_eq_false_iff_eq.mpr c10
        clear c10
        by_cases c11 : ([] : List (S58)).length + l0.length < 2513169434916
        · rw [if_pos c11] at H
          have LMc11 := Aside0.mk c11
          clear c11
          obtain ⟨y222, hy222⟩ : ∃ y_ : List (S58), y_ = (([] : List (S58)) ++ l0) := ⟨_, rfl⟩
          replace H : (contangoref50_Apply.l0 kj5 l0 a2 l3 y222 0 a1_0 a1_1 a1_2 a1_3) = some (r1, r2) := by first | (rw [hy222]; with_reducible exact H) | (have H2_ := (Option.bind_some _ _).symm.trans H; rw [hy222]; with_reducible exact H2_) | (have H2_ := (Option.bind_some _ _).symm.trans H; with_reducible exact H2_) | with_reducible exact H | (rw [hy222]; exact H) | exact H
          have Ny222 := Aside0.mk hy222
          clear hy222
          have H' := Aside0.mk H
          clear H
          go_wp2_with (first | ((with_reducible refine gate_builtin (b := .append) (xs := #[.tmp 23, .tmp 24]) rfl ?_); at_builtin; refine Kd.N_append_rows k58 (w0 := w) w.heap.size rfl (.tmp 23) (.tmp 24) 22 58 (.agg #[(.string ⟨#[]⟩), (.string ⟨#[]⟩), (.slice none 0 0)]) 56 rfl Try.underlying22 info58 rfl (by decide) (by omega) (.slice none 0 0) ([] : List (S58)) l0 _ _ _ (fun k_ => (P0_ k_ ∨ w.heap.size ≤ k_) ∧ k_ ≠ gb220) (fun k_ => ((fun k_ => (P0_ k_ ∨ w.heap.size ≤ k_) ∧ k_ ≠ gb220)) k_ ∧ some k_ ≠ (.slice none 0 0 : Value).ownBlock) rfl rfl ?aO ?aR (fun _ hk => hk) ?aF ?aB ?aS ?aL ?_; (case aR => exact (by skip; exact Kd.V_F (Kd.V_mono (ok' := (fun k_ => ((fun k_ => (P0_ k_ ∨ w.heap.size ≤ k_) ∧ k_ ≠ gb220)) k_ ∧ some k_ ≠ (.slice none 0 0 : Value).ownBlock)) (HO_0.out) (fun k_ hk => ⟨⟨hk.1, hk.2⟩, (by simp [Value.ownBlock])⟩)))); (case aB => exact (bz1 HB.out GE220.out)); (case aF => exact (fun k_ hk => ⟨(.inr (Nat.le_trans (below_size (bz1 HB.out GE220.out)) hk)), Kd.freshB (g := gb220) (o := .cells #[.string a1_0, .int .i64 a1_1, .int .i64 a1_2, .int .i64 a1_3] 24 (0, 0)) (bk_ BK220.out) k_ hk⟩)); (case aO => exact ((Kd.N_nil _ _ _ _ (fun k_ => (P0_ k_ ∨ w.heap.size ≤ k_) ∧ k_ ≠ gb220)))); (case aS => exact (below_size (bz1 HB.out GE220.out))); (case aL => have := LMc11.out; omega); intro v223 w12 ho hb hg hat; rw [← Ny222.out] at ho; have n0_ := Aside0.mk (Kd.V_afterv (Kd.V_apart_nil (by (with_reducible repeat (first | apply Kd.V_alloc | apply Kd.V_drewN | apply Kd.V_drew)); exact HO_0.out)) hg hat); have n1_ := Aside0.mk (blk_grown (g := gb220) (o := .cells #[.string a1_0, .int .i64 a1_1, .int .i64 a1_2, .int .i64 a1_3] 24 (0, 0)) (bk_ BK220.out) hg (by simp [Value.ownBlock])); have n2_ := Aside0.mk (hb); have n3_ := Aside0.mk (ho); clear HO_0; clear BK220; clear HB; have HO_0 := n0_; have BK220 := n1_; have HB := n2_; have HO224 := n3_; clear n0_ n1_ n2_ n3_; clear ho hb hg hat))
          go_loopg [12] kj5 (fun kq v12 w' => ∃ (x11_2 : List (S58)) (x12_2 : Int), v12 = .int .i64 x12_2 ∧ Aside0 (contangoref50_Apply.l0 kq l0 a2 l3 x11_2 x12_2 a1_0 a1_1 a1_2 a1_3 = some (r1, r2)) ∧ Aside0 (kq ≤ kj5) ∧ Aside0 (Kd.V k58 58 w' w.heap.size (fun k_ => (P0_ k_ ∨ w.heap.size ≤ k_) ∧ some k_ ≠ (v223 : Value).ownBlock ∧ k_ ≠ gb220) (.slice A0 l0.length c0) l0) ∧ Aside0 (Kd.N k58 58 w' w.heap.size (fun k_ => (P0_ k_ ∨ w.heap.size ≤ k_) ∧ k_ ≠ gb220) v223 x11_2) ∧ Aside0 (w'.heap[gb220]? = some (.cells #[.string a1_0, .int .i64 a1_1, .int .i64 a1_2, .int .i64 a1_3] 24 (0, 0))) ∧ Aside0 (Below w.heap.size w w'))
          case atStart => exact ⟨(y222), (0), rf_, H', ⟨Nat.le_refl _⟩, ⟨by (with_reducible repeat (first | apply Kd.V_alloc | apply Kd.V_drewN | apply Kd.V_drew)); exact Kd.V_mono HO_0.out (fun _ hk => ⟨hk.1.1, ⟨hk.2, hk.1.2⟩⟩)⟩, ⟨by (with_reducible repeat (first | apply Kd.N_alloc | apply Kd.N_drewN | apply Kd.N_drew)); exact HO224.out⟩, ⟨by (with_reducible repeat (first | refine blk_drewN ?_ _ | refine blk_drew ?_ | refine blk_alloc ?_ _)); exact BK220.out⟩, ⟨bz1 HB.out GE220.out⟩⟩
          case round =>
            clear H'
            try clear c1
            try clear c2
            try clear p2
            try clear c3
            try clear c9
            try clear c9b0
            try clear c9b1
            try clear c10
            try clear c10b0
            try clear c10b1
            try clear c11
            try clear p2
            obtain ⟨x11_2, x12_2, rfl, HA, HK2, HO_0, HO_11, BK220, HB⟩ := hrel
            cases gk with
            | zero => exact absurd HA.out (by simp [contangoref50_Apply.l0])
            | succ k2 =>
              have H := HA.out
              clear HA
              simp only [contangoref50_Apply.l0] at H
              by_cases c13 : x12_2 < (l3.length : Int)
              · rw [if_pos c13] at H
                have c13b0 : decide (x12_2 < (l3.length : Int)) = true := decide_eq_true c13
                clear c13
                by_cases c14 : 0 ≤ x12_2
                · rw [if_pos c14] at H
                  have c14b0 : decide (0 ≤ x12_2) = true := decide_eq_true c14
                  clear c14
                  replace H := Option.bind_eq_some_iff.mp H
                  obtain ⟨t226, A150, H⟩ := H
                  replace H : (contangoref50_Apply.l1 k2 l0 a2 l3 x11_2 x12_2 t226 0 a1_0 a1_1 a1_2 a1_3) = some (r1, r2) := H
                  have A15 := Aside0.mk A150
                  clear A150
                  have H' := Aside0.mk H
                  clear H
                  have p225 : 0 ≤ (x12_2 : Int) := od_
                  have q225 : x12_2 < (l3.length : Int) := od_
                  obtain ⟨ad225, e225, hx225_0, hx225_1, hx225_2⟩ := at_T62 HR3.out x12_2 p225 q225
                  cases e225
                  replace hx225_0 := (HB.out.cell (World.block_lt_of_cell? w _ hx225_0)).trans hx225_0
                  replace hx225_1 := (HB.out.cell (World.block_lt_of_cell? w _ hx225_1)).trans hx225_1
                  replace hx225_2 := (HB.out.cell (World.block_lt_of_cell? w _ hx225_2)).trans hx225_2
                  replace p225 := eq_true p225
                  replace q225 := eq_true q225
                  go_wp2_with (first | ((with_reducible refine gate_callee (f := 37) rfl ?_); refine goesL_ (some 38) rfl rfl Try.func37 (by kernel_rfl) rfl #[.slice A0 l0.length c0, .agg #[.string ((rd_T62 l3 x12_2).f0.f0), .string ((rd_T62 l3 x12_2).f0.f1)]] rfl pm_ ?_; (with_reducible refine (contangoref50_place.calls k2 _ _ l0 ((rd_T62 l3 x12_2).f0.f0) ((rd_T62 l3 x12_2).f0.f1) t226 _ ?side1 ?side2 A15.out).mono ?_); (case side1 => repeat (first | exact (Kd.V_reads' HO_0.out).2.2 | (with_reducible refine Kd.C_alloc ?_ _) | (with_reducible refine Kd.C_drewN ?_ _) | (with_reducible refine Kd.C_drew ?_))); (case side2 => exact (Kd.V_reads' HO_0.out).2.1); rintro e w16 ⟨rfl, hb⟩; refine ⟨_, rfl, ?_⟩; have n0_ := Aside0.mk (Kd.V_below (by (with_reducible repeat (first | apply Kd.V_alloc | apply Kd.V_drewN | apply Kd.V_drew)); exact HO_0.out) hb); have n1_ := Aside0.mk (Kd.N_below (by (with_reducible repeat (first | apply Kd.N_alloc | apply Kd.N_drewN | apply Kd.N_drew)); exact HO_11.out) hb); have n2_ := Aside0.mk (blk_below (g := gb220) (o := .cells #[.string a1_0, .int .i64 a1_1, .int .i64 a1_2, .int .i64 a1_3] 24 (0, 0)) (bk_ BK220.out) hb); have n3_ := Aside0.mk (below_step (bz1 HB.out GE220.out) hb); clear HO_0; clear HO_11; clear BK220; clear HB; have HO_0 := n0_; have HO_11 := n1_; have BK220 := n2_; have HB := n3_; clear n0_ n1_ n2_ n3_; (try clear hb); (try clear hb2); (try clear hk); (try clear hi)))
                  go_loopg [13, 14] k2 (fun kq v13 v14 w' => ∃ (x13_3 : Int) (x14_3 : Int), v13 = .int .i64 x13_3 ∧ v14 = .int .i64 x14_3 ∧ Aside0 (contangoref50_Apply.l1 kq l0 a2 l3 x11_2 x12_2 x13_3 x14_3 a1_0 a1_1 a1_2 a1_3 = some (r1, r2)) ∧ Aside0 (kq ≤ k2) ∧ Aside0 (Kd.V k58 58 w' w.heap.size (fun k_ => (P0_ k_ ∨ w.heap.size ≤ k_) ∧ some k_ ≠ (v223 : Value).ownBlock ∧ k_ ≠ gb220) (.slice A0 l0.length c0) l0) ∧ Aside0 (Kd.N k58 58 w' w.heap.size (fun k_ => (P0_ k_ ∨ w.heap.size ≤ k_) ∧ k_ ≠ gb220) v223 x11_2) ∧ Aside0 (w'.heap[gb220]? = some (.cells #[.string a1_0, .int .i64 a1_1, .int .i64 a1_2, .int .i64 a1_3] 24 (0, 0))) ∧ Aside0 (Below w.heap.size w w'))
                  case atStart => exact ⟨(t226), (0), rf_, rf_, H', ⟨Nat.le_refl _⟩, ⟨by (with_reducible repeat (first | apply Kd.V_alloc | apply Kd.V_drewN | apply Kd.V_drew)); exact HO_0.out⟩, ⟨by (with_reducible repeat (first | apply Kd.N_alloc | apply Kd.N_drewN | apply Kd.N_drew)); exact HO_11.out⟩, ⟨by (with_reducible repeat (first | refine blk_drewN ?_ _ | refine blk_drew ?_ | refine blk_alloc ?_ _)); exact BK220.out⟩, ⟨bz1 HB.out GE220.out⟩⟩
                  case round =>
                    clear H'
                    try clear c1
                    try clear c2
                    try clear p2
                    try clear q2
                    try clear hx2
                    try clear c3
                    try clear c9
                    try clear c9b0
                    try clear c9b1
                    try clear c10
                    try clear c10b0
                    try clear c10b1
                    try clear c11
                    try clear c13
                    try clear c13b0
                    try clear c14
                    try clear c14b0
                    try clear hx225_0
                    try clear hx225_1
                    try clear hx225_2
                    try clear p2
                    try clear p225
                    try clear q225
                    obtain ⟨x13_3, x14_3, rfl, rfl, HA, HK3, HO_0, HO_11, BK220, HB⟩ := hrel
                    cases gk with
                    | zero => exact absurd HA.out (by simp [contangoref50_Apply.l1])
                    | succ k3 =>
                      have H := HA.out
                      clear HA
                      simp only [contangoref50_Apply.l1] at H
                      by_cases c17 : x14_3 < x12_2
                      · rw [if_pos c17] at H
                        have c17b0 : decide (x14_3 < x12_2) = true := decide_eq_true c17
                        clear c17
                        by_cases c18 : 0 ≤ x14_3
                        · rw [if_pos c18] at H
                          have c18b0 : decide (0 ≤ x14_3) = true := decide_eq_true c18
                          clear c18
                          by_cases c19 : x14_3 < (l3.length : Int)
                          · rw [if_pos c19] at H
                            have c19b0 : decide (x14_3 < (l3.length : Int)) = true := decide_eq_true c19
                            clear c19
                            by_cases c20 : 0 ≤ x12_2
                            · rw [if_pos c20] at H
                              have c20b0 : decide (0 ≤ x12_2) = true := decide_eq_true c20
                              clear c20
                              by_cases c21 : x12_2 < (l3.length : Int)
                              · rw [if_pos c21] at H
                                have c21b0 : decide (x12_2 < (l3.length : Int)) = true := decide_eq_true c21
                                clear c21
                                by_cases c22 : (eqD55 ((rd_T62 l3 x14_3).f0.f0) ((rd_T62 l3 x12_2).f0.f0) ((rd_T62 l3 x14_3).f0.f1) ((rd_T62 l3 x12_2).f0.f1)) = true
                                · rw [if_pos c22] at H
                                  have c22b0 : (eqD55 ((rd_T62 l3 x14_3).f0.f0) ((rd_T62 l3 x12_2).f0.f0) ((rd_T62 l3 x14_3).f0.f1) ((rd_T62 l3 x12_2).f0.f1)) = true := c22
                                  clear c22
                                  have H' := Aside0.mk H
                                  clear H
                                  try go_wp2
                                  have n0_ := Aside0.mk (Kd.V_drew HO_0.out)
                                  have n1_ := Aside0.mk (Kd.N_drew HO_11.out)
                                  have n2_ := Aside0.mk (blk_drew BK220.out)
                                  have n3_ := Aside0.mk (below_drew1 HB.out)
                                  clear HO_0
                                  clear HO_11
                                  clear BK220
                                  clear HB
                                  have HO_0 := n0_
                                  have HO_11 := n1_
                                  have BK220 := n2_
                                  have HB := n3_
                                  clear n0_ n1_ n2_ n3_
                                  have p227 : 0 ≤ (x14_3 : Int) := od_
                                  have q227 : x14_3 < (l3.length : Int) := od_
                                  obtain ⟨ad227, e227, hx227_0, hx227_1, hx227_2⟩ := at_T62 HR3.out x14_3 p227 q227
                                  have hw227_2 := hx227_2
                                  have hw227_1 := hx227_1
                                  have hw227_0 := hx227_0
                                  obtain rfl : ad225 = ad227 := (by injection e227)
                                  replace hx227_0 := (HB.out.cell (World.block_lt_of_cell? w _ hx227_0)).trans hx227_0
                                  replace hx227_1 := (HB.out.cell (World.block_lt_of_cell? w _ hx227_1)).trans hx227_1
                                  replace hx227_2 := (HB.out.cell (World.block_lt_of_cell? w _ hx227_2)).trans hx227_2
                                  replace p227 := eq_true p227
                                  replace q227 := eq_true q227
                                  have p228 : 0 ≤ (x12_2 : Int) := od_
                                  have q228 : x12_2 < (l3.length : Int) := od_
                                  obtain ⟨ad228, e228, hx228_0, hx228_1, hx228_2⟩ := at_T62 HR3.out x12_2 p228 q228
                                  have hw228_2 := hx228_2
                                  have hw228_1 := hx228_1
                                  have hw228_0 := hx228_0
                                  obtain rfl : ad225 = ad228 := (by injection e228)
                                  replace hx228_0 := (HB.out.cell (World.block_lt_of_cell? w _ hx228_0)).trans hx228_0
                                  replace hx228_1 := (HB.out.cell (World.block_lt_of_cell? w _ hx228_1)).trans hx228_1
                                  replace hx228_2 := (HB.out.cell (World.block_lt_of_cell? w _ hx228_2)).trans hx228_2
                                  replace p228 := eq_true p228
                                  replace q228 := eq_true q228
                                  refine start_ (n := 11) (S := fun w' => w'.cell? (ad225.add ((x14_3).toNat * 3)) = some (.string ((rd_T62 l3 x14_3).f0.f0)) ∧ w'.cell? ⟨(ad225.add ((x14_3).toNat * 3)).block, (ad225.add ((x14_3).toNat * 3)).off + 1, none⟩ = some (.string ((rd_T62 l3 x14_3).f0.f1)) ∧ w'.cell? ⟨(ad225.add ((x14_3).toNat * 3)).block, (ad225.add ((x14_3).toNat * 3)).off + 2, none⟩ = some (.int .i64 ((rd_T62 l3 x14_3).f1)) ∧ w'.cell? (ad225.add ((x12_2).toNat * 3)) = some (.string ((rd_T62 l3 x12_2).f0.f0)) ∧ w'.cell? ⟨(ad225.add ((x12_2).toNat * 3)).block, (ad225.add ((x12_2).toNat * 3)).off + 1, none⟩ = some (.string ((rd_T62 l3 x12_2).f0.f1)) ∧ w'.cell? ⟨(ad225.add ((x12_2).toNat * 3)).block, (ad225.add ((x12_2).toNat * 3)).off + 2, none⟩ = some (.int .i64 ((rd_T62 l3 x12_2).f1))) (ds := []) (tf 0 11) (by kernel_rfl) rfl rfl ⟨((HB.out.cell (World.block_lt_of_cell? w _ hw227_0)).trans hw227_0), ((HB.out.cell (World.block_lt_of_cell? w _ hw227_1)).trans hw227_1), ((HB.out.cell (World.block_lt_of_cell? w _ hw227_2)).trans hw227_2), ((HB.out.cell (World.block_lt_of_cell? w _ hw228_0)).trans hw228_0), ((HB.out.cell (World.block_lt_of_cell? w _ hw228_1)).trans hw228_1), ((HB.out.cell (World.block_lt_of_cell? w _ hw228_2)).trans hw228_2)⟩ (fun hHeld => ?_); refine with_tabW contangoref50_Apply.tab15 contangoref50_Apply.bits15 (fun HT_ HW_ => ?_)
                                  generalize wr.drew = w23 at HO_0 HO_11 BK220 HB hx227_0 hx227_1 hx227_2 hx228_0 hx228_1 hx228_2 hHeld ⊢
                                  refine pv_ 0 44 (tf 1 10) HT_ ?_
                                  refine pv_ 1 45 (tf 2 9) HT_ ?_
                                  refine pv_ 2 46 (tf 3 8) HT_ ?_
                                  refine pv_ 3 47 (tf 4 7) HT_ ?_
                                  refine pv_ 5 49 #[true, true, true, true, false, true, false, false, false, false, false] HT_ ?_
                                  refine pv_ 6 50 #[true, true, true, true, false, true, true, false, false, false, false] HT_ ?_
                                  refine pv_ 7 51 #[true, true, true, true, false, true, true, true, false, false, false] HT_ ?_
                                  refine pv_ 8 52 #[true, true, true, true, false, true, true, true, true, false, false] HT_ ?_
                                  refine take_ (i := 4) (N := some 48) (v := ?_) (a' := ?_) (tf 9 2) rfl rfl (take_ofW HT_.out HW_.out (by kernel_rfl)) (fun _ _ _ h => h) (Or.inl ⟨by rfl, ?_⟩) hHeld ?_ ?_
                                  rotate_left
                                  · rintro w' ⟨s0, s1, s2, s3, s4, s5⟩
                                    go_simp
                                    with_reducible rfl
                                  rotate_left
                                  · exact ap_
                                  refine take_ (i := 9) (N := some 53) (v := ?_) (a' := ?_) (tf 10 1) rfl rfl (take_ofW HT_.out HW_.out (by kernel_rfl)) (fun _ _ _ h => h) (Or.inl ⟨by rfl, ?_⟩) hHeld ?_ ?_
                                  rotate_left
                                  · rintro w' ⟨s0, s1, s2, s3, s4, s5⟩
                                    go_simp
                                    with_reducible rfl
                                  rotate_left
                                  · exact ap_
                                  refine pv_ 10 54 (tf 11 0) HT_ ?_
                                  refine done_ (done_of HT_.out (by kernel_rfl)) ?_
                                  try go_wp2
                                  go_roundg k3
                                  case measure => have := HJ5.out; have := HK2.out; have := HK3.out; omega
                                  case rel => exact ⟨((-1)), (wrap64 (x14_3 + 1)), rf_, rf_, H', ⟨by have := HJ5.out; have := HK2.out; have := HK3.out; omega⟩, ⟨by (with_reducible repeat (first | apply Kd.V_alloc | apply Kd.V_drewN | apply Kd.V_drew)); exact HO_0.out⟩, ⟨by (with_reducible repeat (first | apply Kd.N_alloc | apply Kd.N_drewN | apply Kd.N_drew)); exact HO_11.out⟩, ⟨by (with_reducible repeat (first | refine blk_drewN ?_ _ | refine blk_drew ?_ | refine blk_alloc ?_ _)); exact BK220.out⟩, ⟨bz1 HB.out GE220.out⟩⟩
                                · rw [if_neg c22] at H
                                  have c22b0 : (eqD55 ((rd_T62 l3 x14_3).f0.f0) ((rd_T62 l3 x12_2).f0.f0) ((rd_T62 l3 x14_3).f0.f1) ((rd_T62 l3 x12_2).f0.f1)) = false := by simpa using c22
                                  clear c22
                                  have H' := Aside0.mk H
                                  clear H
                                  try go_wp2
                                  have n0_ := Aside0.mk (Kd.V_drew HO_0.out)
                                  have n1_ := Aside0.mk (Kd.N_drew HO_11.out)
                                  have n2_ := Aside0.mk (blk_drew BK220.out)
                                  have n3_ := Aside0.mk (below_drew1 HB.out)
                                  clear HO_0
                                  clear HO_11
                                  clear BK220
                                  clear HB
                                  have HO_0 := n0_
                                  have HO_11 := n1_
                                  have BK220 := n2_
                                  have HB := n3_
                                  clear n0_ n1_ n2_ n3_
                                  have p227 : 0 ≤ (x14_3 : Int) := od_
                                  have q227 : x14_3 < (l3.length : Int) := od_
                                  obtain ⟨ad227, e227, hx227_0, hx227_1, hx227_2⟩ := at_T62 HR3.out x14_3 p227 q227
                                  have hw227_2 := hx227_2
                                  have hw227_1 := hx227_1
                                  have hw227_0 := hx227_0
                                  obtain rfl : ad225 = ad227 := (by injection e227)
                                  replace hx227_0 := (HB.out.cell (World.block_lt_of_cell? w _ hx227_0)).trans hx227_0
                                  replace hx227_1 := (HB.out.cell (World.block_lt_of_cell? w _ hx227_1)).trans hx227_1
                                  replace hx227_2 := (HB.out.cell (World.block_lt_of_cell? w _ hx227_2)).trans hx227_2
                                  replace p227 := eq_true p227
                                  replace q227 := eq_true q227
                                  have p228 : 0 ≤ (x12_2 : Int) := od_
                                  have q228 : x12_2 < (l3.length : Int) := od_
                                  obtain ⟨ad228, e228, hx228_0, hx228_1, hx228_2⟩ := at_T62 HR3.out x12_2 p228 q228
                                  have hw228_2 := hx228_2
                                  have hw228_1 := hx228_1
                                  have hw228_0 := hx228_0
                                  obtain rfl : ad225 = ad228 := (by injection e228)
                                  replace hx228_0 := (HB.out.cell (World.block_lt_of_cell? w _ hx228_0)).trans hx228_0
                                  replace hx228_1 := (HB.out.cell (World.block_lt_of_cell? w _ hx228_1)).trans hx228_1
                                  replace hx228_2 := (HB.out.cell (World.block_lt_of_cell? w _ hx228_2)).trans hx228_2
                                  replace p228 := eq_true p228
                                  replace q228 := eq_true q228
                                  refine start_ (n := 11) (S := fun w' => w'.cell? (ad225.add ((x14_3).toNat * 3)) = some (.string ((rd_T62 l3 x14_3).f0.f0)) ∧ w'.cell? ⟨(ad225.add ((x14_3).toNat * 3)).block, (ad225.add ((x14_3).toNat * 3)).off + 1, none⟩ = some (.string ((rd_T62 l3 x14_3).f0.f1)) ∧ w'.cell? ⟨(ad225.add ((x14_3).toNat * 3)).block, (ad225.add ((x14_3).toNat * 3)).off + 2, none⟩ = some (.int .i64 ((rd_T62 l3 x14_3).f1)) ∧ w'.cell? (ad225.add ((x12_2).toNat * 3)) = some (.string ((rd_T62 l3 x12_2).f0.f0)) ∧ w'.cell? ⟨(ad225.add ((x12_2).toNat * 3)).block, (ad225.add ((x12_2).toNat * 3)).off + 1, none⟩ = some (.string ((rd_T62 l3 x12_2).f0.f1)) ∧ w'.cell? ⟨(ad225.add ((x12_2).toNat * 3)).block, (ad225.add ((x12_2).toNat * 3)).off + 2, none⟩ = some (.int .i64 ((rd_T62 l3 x12_2).f1))) (ds := []) (tf 0 11) (by kernel_rfl) rfl rfl ⟨((HB.out.cell (World.block_lt_of_cell? w _ hw227_0)).trans hw227_0), ((HB.out.cell (World.block_lt_of_cell? w _ hw227_1)).trans hw227_1), ((HB.out.cell (World.block_lt_of_cell? w _ hw227_2)).trans hw227_2), ((HB.out.cell (World.block_lt_of_cell? w _ hw228_0)).trans hw228_0), ((HB.out.cell (World.block_lt_of_cell? w _ hw228_1)).trans hw228_1), ((HB.out.cell (World.block_lt_of_cell? w _ hw228_2)).trans hw228_2)⟩ (fun hHeld => ?_); refine with_tabW contangoref50_Apply.tab15 contangoref50_Apply.bits15 (fun HT_ HW_ => ?_)
                                  generalize wr.drew = w24 at HO_0 HO_11 BK220 HB hx227_0 hx227_1 hx227_2 hx228_0 hx228_1 hx228_2 hHeld ⊢
                                  refine pv_ 0 44 (tf 1 10) HT_ ?_
                                  refine pv_ 1 45 (tf 2 9) HT_ ?_
                                  refine pv_ 2 46 (tf 3 8) HT_ ?_
                                  refine pv_ 3 47 (tf 4 7) HT_ ?_
                                  refine pv_ 5 49 #[true, true, true, true, false, true, false, false, false, false, false] HT_ ?_
                                  refine pv_ 6 50 #[true, true, true, true, false, true, true, false, false, false, false] HT_ ?_
                                  refine pv_ 7 51 #[true, true, true, true, false, true, true, true, false, false, false] HT_ ?_
                                  refine pv_ 8 52 #[true, true, true, true, false, true, true, true, true, false, false] HT_ ?_
                                  refine take_ (i := 4) (N := some 48) (v := ?_) (a' := ?_) (tf 9 2) rfl rfl (take_ofW HT_.out HW_.out (by kernel_rfl)) (fun _ _ _ h => h) (Or.inl ⟨by rfl, ?_⟩) hHeld ?_ ?_
                                  rotate_left
                                  · rintro w' ⟨s0, s1, s2, s3, s4, s5⟩
                                    go_simp
                                    with_reducible rfl
                                  rotate_left
                                  · exact ap_
                                  refine take_ (i := 9) (N := some 53) (v := ?_) (a' := ?_) (tf 10 1) rfl rfl (take_ofW HT_.out HW_.out (by kernel_rfl)) (fun _ _ _ h => h) (Or.inl ⟨by rfl, ?_⟩) hHeld ?_ ?_
                                  rotate_left
                                  · rintro w' ⟨s0, s1, s2, s3, s4, s5⟩
                                    go_simp
                                    with_reducible rfl
                                  rotate_left
                                  · exact ap_
                                  refine pv_ 10 54 (tf 11 0) HT_ ?_
                                  refine done_ (done_of HT_.out (by kernel_rfl)) ?_
                                  try go_wp2
                                  go_roundg k3
                                  case measure => have := HJ5.out; have := HK2.out; have := HK3.out; omega
                                  case rel => exact ⟨(x13_3), (wrap64 (x14_3 + 1)), rf_, rf_, H', ⟨by have := HJ5.out; have := HK2.out; have := HK3.out; omega⟩, ⟨by (with_reducible repeat (first | apply Kd.V_alloc | apply Kd.V_drewN | apply Kd.V_drew)); exact HO_0.out⟩, ⟨by (with_reducible repeat (first | apply Kd.N_alloc | apply Kd.N_drewN | apply Kd.N_drew)); exact HO_11.out⟩, ⟨by (with_reducible repeat (first | refine blk_drewN ?_ _ | refine blk_drew ?_ | refine blk_alloc ?_ _)); exact BK220.out⟩, ⟨bz1 HB.out GE220.out⟩⟩
                              · rw [if_neg c21] at H
                                exact absurd H (by simp)
                            · rw [if_neg c20] at H
                              exact absurd H (by simp)
                          · rw [if_neg c19] at H
                            exact absurd H (by simp)
                        · rw [if_neg c18] at H
                          exact absurd H (by simp)
                      · rw [if_neg c17] at H
                        have c17b0 : decide (x14_3 < x12_2) = false := decide_eq_false c17
                        clear c17
                        by_cases c25 : x13_3 < 0
                        · rw [if_pos c25] at H
                          have c25b0 : decide (x13_3 < 0) = true := decide_eq_true c25
                          clear c25
                          simp only [Option.some.injEq, Prod.mk.injEq] at H
                          obtain ⟨rfl, rfl⟩ := H
                          go_wp2
                          go_ret2
                          exact ⟨_, by first | rfl | (simp [errW_none, errW_some] <;> rfl) | (simp [*, errW_none, errW_some] <;> rfl), by first | exact Kd.S_nil _ _ _ _ _ | exact Kd.N_nil _ _ _ _ _ | exact Kd.V_nil _ _ _ _ _ | exact Kd.Q_nil _ _ _ _ _ | exact Kd.R_nil _ _ _ _ _, bz1 HB.out GE220.out⟩
                        · rw [if_neg c25] at H
                          have c25b0 : decide (x13_3 < 0) = false := decide_eq_false c25
                          clear c25
                          have HC26 := Aside0.mk H
                          clear H
                          go_upto_region 19 with (fail)
                          go_cut [70] (fun v70 wc => ∃ (kq : Nat) (x70_25 : Bool), v70 = .bool x70_25 ∧ Aside0 (contangoref50_Apply.j3 kq l0 a2 l3 x11_2 x12_2 x13_3 x70_25 a1_0 a1_1 a1_2 a1_3 = some (r1, r2)) ∧ Aside0 (kq ≤ k3) ∧ Aside0 (Kd.V k58 58 wc w.heap.size (fun k_ => (P0_ k_ ∨ w.heap.size ≤ k_) ∧ some k_ ≠ (v223 : Value).ownBlock ∧ k_ ≠ gb220) (.slice A0 l0.length c0) l0) ∧ Aside0 (Kd.N k58 58 wc w.heap.size (fun k_ => (P0_ k_ ∨ w.heap.size ≤ k_) ∧ k_ ≠ gb220) v223 x11_2) ∧ Aside0 (wc.heap[gb220]? = some (.cells #[.string a1_0, .int .i64 a1_1, .int .i64 a1_2, .int .i64 a1_3] 24 (0, 0))) ∧ Aside0 (Below w.heap.size w wc))
                          case first =>
                            have H := HC26.out
                            clear HC26
                            by_cases c27 : 0 ≤ x12_2
                            · rw [if_pos c27] at H
                              have c27b0 : decide (0 ≤ x12_2) = true := decide_eq_true c27
                              clear c27
                              (first | rw [c27b0] | (simp only [i64_w, i32_w]; rw [c27b0]) | skip)
                              by_cases c28 : x12_2 < (l3.length : Int)
                              · rw [if_pos c28] at H
                                have c28b0 : decide (x12_2 < (l3.length : Int)) = true := decide_eq_true c28
                                clear c28
                                by_cases c29 : ((rd_T62 l3 x12_2).f1) < 1
                                · rw [if_pos c29] at H
                                  have c29b0 : decide (((rd_T62 l3 x12_2).f1) < 1) = true := decide_eq_true c29
                                  clear c29
                                  have H' := Aside0.mk H
                                  clear H
                                  have p229 : 0 ≤ (x12_2 : Int) := od_
                                  have q229 : x12_2 < (l3.length : Int) := od_
                                  obtain ⟨ad229, e229, hx229_0, hx229_1, hx229_2⟩ := at_T62 HR3.out x12_2 p229 q229
                                  obtain rfl : ad225 = ad229 := (by injection e229)
                                  replace hx229_0 := (HB.out.cell (World.block_lt_of_cell? w _ hx229_0)).trans hx229_0
                                  replace hx229_1 := (HB.out.cell (World.block_lt_of_cell? w _ hx229_1)).trans hx229_1
                                  replace hx229_2 := (HB.out.cell (World.block_lt_of_cell? w _ hx229_2)).trans hx229_2
                                  replace p229 := eq_true p229
                                  replace q229 := eq_true q229
                                  go_wp2
                                  go_meet
                                  case rel => exact ⟨_, (true), rf_, H', ⟨by have := HJ5.out; have := HK2.out; have := HK3.out; first | omega | exact Nat.le_refl _⟩, ⟨by (with_reducible repeat (first | apply Kd.V_alloc | apply Kd.V_drewN | apply Kd.V_drew)); exact HO_0.out⟩, ⟨by (with_reducible repeat (first | apply Kd.N_alloc | apply Kd.N_drewN | apply Kd.N_drew)); exact HO_11.out⟩, ⟨by (with_reducible repeat (first | refine blk_drewN ?_ _ | refine blk_drew ?_ | refine blk_alloc ?_ _)); exact BK220.out⟩, ⟨bz1 HB.out GE220.out⟩⟩
                                · rw [if_neg c29] at H
                                  have c29b0 : decide (((rd_T62 l3 x12_2).f1) < 1) = false := decide_eq_false c29
                                  clear c29
                                  have H' := Aside0.mk H
                                  clear H
                                  have p229 : 0 ≤ (x12_2 : Int) := od_
                                  have q229 : x12_2 < (l3.length : Int) := od_
                                  obtain ⟨ad229, e229, hx229_0, hx229_1, hx229_2⟩ := at_T62 HR3.out x12_2 p229 q229
                                  obtain rfl : ad225 = ad229 := (by injection e229)
                                  replace hx229_0 := (HB.out.cell (World.block_lt_of_cell? w _ hx229_0)).trans hx229_0
                                  replace hx229_1 := (HB.out.cell (World.block_lt_of_cell? w _ hx229_1)).trans hx229_1
                                  replace hx229_2 := (HB.out.cell (World.block_lt_of_cell? w _ hx229_2)).trans hx229_2
                                  replace p229 := eq_true p229
                                  replace q229 := eq_true q229
                                  have p230 : 0 ≤ (x12_2 : Int) := od_
                                  have q230 : x12_2 < (l3.length : Int) := od_
                                  obtain ⟨ad230, e230, hx230_0, hx230_1, hx230_2⟩ := at_T62 HR3.out x12_2 p230 q230
                                  obtain rfl : ad225 = ad230 := (by injection e230)
                                  replace hx230_0 := (HB.out.cell (World.block_lt_of_cell? w _ hx230_0)).trans hx230_0
                                  replace hx230_1 := (HB.out.cell (World.block_lt_of_cell? w _ hx230_1)).trans hx230_1
                                  replace hx230_2 := (HB.out.cell (World.block_lt_of_cell? w _ hx230_2)).trans hx230_2
                                  replace p230 := eq_true p230
                                  replace q230 := eq_true q230
                                  go_wp2
                                  go_meet
                                  case rel => exact ⟨_, (decide (((rd_T62 l3 x12_2).f1) > 1048576)), rf_, H', ⟨by have := HJ5.out; have := HK2.out; have := HK3.out; first | omega | exact Nat.le_refl _⟩, ⟨by (with_reducible repeat (first | apply Kd.V_alloc | apply Kd.V_drewN | apply Kd.V_drew)); exact HO_0.out⟩, ⟨by (with_reducible repeat (first | apply Kd.N_alloc | apply Kd.N_drewN | apply Kd.N_drew)); exact HO_11.out⟩, ⟨by (with_reducible repeat (first | refine blk_drewN ?_ _ | refine blk_drew ?_ | refine blk_alloc ?_ _)); exact BK220.out⟩, ⟨bz1 HB.out GE220.out⟩⟩
                              · rw [if_neg c28] at H
                                exact absurd H (by simp)
                            · rw [if_neg c27] at H
                              exact absurd H (by simp)
                          case rest =>
                            clear HC26
                            try clear c1
                            try clear c2
                            try clear p2
                            try clear q2
                            try clear hx2
                            try clear c3
                            try clear p6
                            try clear c9
                            try clear c9b0
                            try clear c9b1
                            try clear c10
                            try clear c10b0
                            try clear c10b1
                            try clear c11
                            try clear c13
                            try clear c13b0
                            try clear c14
                            try clear c14b0
                            try clear c17
                            try clear c17b0
                            try clear c18
                            try clear c18b0
                            try clear c19
                            try clear c19b0
                            try clear c20
                            try clear c20b0
                            try clear c21
                            try clear c21b0
                            try clear c22
                            try clear c22b0
                            try clear p22
                            try clear q22
                            try clear hx22
                            try clear p23
                            try clear q23
                            try clear hx23
                            try clear c25
                            try clear c25b0
                            try clear c27
                            try clear c27b0
                            try clear c28
                            try clear c28b0
                            try clear c29
                            try clear c29b0
                            try clear hx225_0
                            try clear hx225_1
                            try clear hx225_2
                            try clear hx227_0
                            try clear hx227_1
                            try clear hx227_2
                            try clear hx228_0
                            try clear hx228_1
                            try clear hx228_2
                            try clear hx229_0
                            try clear hx229_1
                            try clear hx229_2
                            try clear hx230_0
                            try clear hx230_1
                            try clear hx230_2
                            try clear p2
                            try clear p225
                            try clear p227
                            try clear p228
                            try clear p229
                            try clear p230
                            try clear q2
                            try clear q225
                            try clear q227
                            try clear q228
                            try clear q229
                            try clear q230
                            obtain ⟨kq, x70_25, rfl, HA, HJ25, HO_0, HO_11, BK220, HB⟩ := hcut
                            cases kq with
                            | zero => exact absurd HA.out (by simp [contangoref50_Apply.j3])
                            | succ kj25 =>
                              have H := HA.out
                              clear HA
                              simp only [contangoref50_Apply.j3] at H
                              by_cases c30 : x70_25 = true
                              · subst c30
                                have H1 : (some (([] : List (S58)), 18)) = some (r1, r2) := by rw [if_pos rfl] at H; exact H
                                clear H
                                have H := H1
                                clear H1
                                simp only [Option.some.injEq, Prod.mk.injEq] at H
                                obtain ⟨rfl, rfl⟩ := H
                                go_wp2
                                go_ret2
                                exact ⟨_, by first | rfl | (simp [errW_none, errW_some] <;> rfl) | (simp [*, errW_none, errW_some] <;> rfl), by first | exact Kd.S_nil _ _ _ _ _ | exact Kd.N_nil _ _ _ _ _ | exact Kd.V_nil _ _ _ _ _ | exact Kd.Q_nil _ _ _ _ _ | exact Kd.R_nil _ _ _ _ _, bz1 HB.out GE220.out⟩
                              · replace c30 := Bool.eq_false_iff.mpr c30
                                subst c30
                                have H1 : (if 0 ≤ x13_3 then (if x13_3 < (l0.length : Int) then ((contangoref15_Find.f kj25 ((rd_T58 l0 x13_3).f1) a1_0 a1_1 a1_2 a1_3).bind fun bt232 => ((contangoref50_side.f bt232.1 bt232.2.1 bt232.2.2.1 bt232.2.2.2.1 bt232.2.2.2.2.1 bt232.2.2.2.2.2 a2).bind fun t238 => (if 0 ≤ x12_2 then (if x12_2 < (l3.length : Int) then (if t238 < ((rd_T62 l3 x12_2).f1) then (some (([] : List (S58)), 30)) else ((contangoref50_less.f kj25 ((rd_T58 l0 x13_3).f1) a1_0 a1_1 a1_2 a1_3 a2 ((rd_T62 l3 x12_2).f1)).bind fun t243 => (if x13_3 < (x11_2.length : Int) then (contangoref50_Apply.l0 kj25 l0 a2 l3 (x11_2.set (x13_3 : Int).toNat (⟨(⟨(rd_T58 l0 x13_3).f0.f0, (rd_T58 l0 x13_3).f0.f1⟩ : S55), t243⟩ : S58)) (wrap64 (x12_2 + 1)) a1_0 a1_1 a1_2 a1_3) else (none)))) else (none)) else (none)))) else (none)) else (none)) = some (r1, r2) := by rw [if_neg (show ¬ (false = true) by decide)] at H; exact H
                                clear H
                                have H := H1
                                clear H1
                                by_cases c31 : 0 ≤ x13_3
                                · rw [if_pos c31] at H
                                  have c31b0 : decide (0 ≤ x13_3) = true := decide_eq_true c31
                                  clear c31
                                  by_cases c32 : x13_3 < (l0.length : Int)
                                  · rw [if_pos c32] at H
                                    have c32b0 : decide (x13_3 < (l0.length : Int)) = true := decide_eq_true c32
                                    clear c32
                                    replace H := Option.bind_eq_some_iff.mp H
                                    obtain ⟨⟨t232, t233, t234, t235, t236, t237⟩, A330, H⟩ := H
                                    replace H : ((contangoref50_side.f t232 t233 t234 t235 t236 t237 a2).bind fun t238 => (if 0 ≤ x12_2 then (if x12_2 < (l3.length : Int) then (if t238 < ((rd_T62 l3 x12_2).f1) then (some (([] : List (S58)), 30)) else ((contangoref50_less.f kj25 ((rd_T58 l0 x13_3).f1) a1_0 a1_1 a1_2 a1_3 a2 ((rd_T62 l3 x12_2).f1)).bind fun t243 => (if x13_3 < (x11_2.length : Int) then (contangoref50_Apply.l0 kj25 l0 a2 l3 (x11_2.set (x13_3 : Int).toNat (⟨(⟨(rd_T58 l0 x13_3).f0.f0, (rd_T58 l0 x13_3).f0.f1⟩ : S55), t243⟩ : S58)) (wrap64 (x12_2 + 1)) a1_0 a1_1 a1_2 a1_3) else (none)))) else (none)) else (none))) = some (r1, r2) := H
                                    have A33 := Aside0.mk A330
                                    clear A330
                                    replace H := Option.bind_eq_some_iff.mp H
                                    obtain ⟨t238, A340, H⟩ := H
                                    replace H : (if 0 ≤ x12_2 then (if x12_2 < (l3.length : Int) then (if t238 < ((rd_T62 l3 x12_2).f1) then (some (([] : List (S58)), 30)) else ((contangoref50_less.f kj25 ((rd_T58 l0 x13_3).f1) a1_0 a1_1 a1_2 a1_3 a2 ((rd_T62 l3 x12_2).f1)).bind fun t243 => (if x13_3 < (x11_2.length : Int) then (contangoref50_Apply.l0 kj25 l0 a2 l3 (x11_2.set (x13_3 : Int).toNat (⟨(⟨(rd_T58 l0 x13_3).f0.f0, (rd_T58 l0 x13_3).f0.f1⟩ : S55), t243⟩ : S58)) (wrap64 (x12_2 + 1)) a1_0 a1_1 a1_2 a1_3) else (none)))) else (none)) else (none)) = some (r1, r2) := H
                                    have A34 := Aside0.mk A340
                                    clear A340
                                    by_cases c35 : 0 ≤ x12_2
                                    · rw [if_pos c35] at H
                                      have c35b0 : decide (0 ≤ x12_2) = true := decide_eq_true c35
                                      clear c35
                                      by_cases c36 : x12_2 < (l3.length : Int)
                                      · rw [if_pos c36] at H
                                        have c36b0 : decide (x12_2 < (l3.length : Int)) = true := decide_eq_true c36
                                        clear c36
                                        by_cases c37 : t238 < ((rd_T62 l3 x12_2).f1)
                                        · rw [if_pos c37] at H
                                          have c37b0 : decide (t238 < ((rd_T62 l3 x12_2).f1)) = true := decide_eq_true c37
                                          clear c37
                                          simp only [Option.some.injEq, Prod.mk.injEq] at H
                                          obtain ⟨rfl, rfl⟩ := H
                                          try go_wp2
                                          have n0_ := Aside0.mk (Kd.V_drew HO_0.out)
                                          have n1_ := Aside0.mk (Kd.N_drew HO_11.out)
                                          have n2_ := Aside0.mk (blk_drew BK220.out)
                                          have n3_ := Aside0.mk (below_drew1 HB.out)
                                          clear HO_0
                                          clear HO_11
                                          clear BK220
                                          clear HB
                                          have HO_0 := n0_
                                          have HO_11 := n1_
                                          have BK220 := n2_
                                          have HB := n3_
                                          clear n0_ n1_ n2_ n3_
                                          have p231 : 0 ≤ (x13_3 : Int) := od_
                                          have q231 : x13_3 < (l0.length : Int) := od_
                                          obtain ⟨ad231, A231_2, c231_2, e231, hx231_0, hx231_1, hx231_2, hl231_2, hi231_2⟩ := at_T58 (Kd.V_reads' HO_0.out).2.2 x13_3 p231 q231
                                          cases e231
                                          obtain ⟨ce231, hce231, hMe231, hcc231⟩ := Kd.V_get HO_0.out z58 x13_3 p231 (by first | exact q231 | exact od_ | (have e_ := (Kd.V_reads' HO_0.out).1; omega))
                                          obtain ⟨ua231_2, uc231_2, rfl, ul231_2, ge231_2⟩ := k58_openF hMe231
                                          have hv231_2 := hcc231 2 _ rfl
                                          rw [add_field _ _ 2 (by omega)] at hv231_2
                                          replace hv231_2 := Option.some.inj (hv231_2.symm.trans hx231_2)
                                          injection hv231_2 with hva_ hvn_ hvc_
                                          rw [hva_] at ge231_2
                                          rw [hvc_] at ul231_2
                                          have HL231_2 := Aside0.mk (show Kd.V k52 52 _ w.heap.size _ _ ((rd_T58 l0 x13_3).f1) from Kd.V_mk ul231_2 ge231_2)
                                          clear hva_ hvn_ hvc_ ge231_2 ul231_2
                                          clear hcc231 hce231
                                          have HR231_2 := Aside0.mk hi231_2
                                          have HC231_2 := Aside0.mk hl231_2
                                          clear hi231_2 hl231_2
                                          replace p231 := eq_true p231
                                          replace q231 := eq_true q231
                                          have p239 : 0 ≤ (x12_2 : Int) := od_
                                          have q239 : x12_2 < (l3.length : Int) := od_
                                          obtain ⟨ad239, e239, hx239_0, hx239_1, hx239_2⟩ := at_T62 HR3.out x12_2 p239 q239
                                          have hw239_2 := hx239_2
                                          have hw239_1 := hx239_1
                                          have hw239_0 := hx239_0
                                          obtain rfl : ad225 = ad239 := (by injection e239)
                                          replace hx239_0 := (HB.out.cell (World.block_lt_of_cell? w _ hx239_0)).trans hx239_0
                                          replace hx239_1 := (HB.out.cell (World.block_lt_of_cell? w _ hx239_1)).trans hx239_1
                                          replace hx239_2 := (HB.out.cell (World.block_lt_of_cell? w _ hx239_2)).trans hx239_2
                                          replace p239 := eq_true p239
                                          replace q239 := eq_true q239
                                          refine start_ (n := 15) (S := fun w' => w'.cell? ⟨gb220, 0, none⟩ = some (.string a1_0) ∧ w'.cell? ⟨gb220, 1, none⟩ = some (.int .i64 a1_1) ∧ w'.cell? ⟨gb220, 2, none⟩ = some (.int .i64 a1_2) ∧ w'.cell? ⟨gb220, 3, none⟩ = some (.int .i64 a1_3) ∧ w'.cell? (ad231.add ((x13_3).toNat * 3)) = some (.string ((rd_T58 l0 x13_3).f0.f0)) ∧ w'.cell? ⟨(ad231.add ((x13_3).toNat * 3)).block, (ad231.add ((x13_3).toNat * 3)).off + 1, none⟩ = some (.string ((rd_T58 l0 x13_3).f0.f1)) ∧ w'.cell? ⟨(ad231.add ((x13_3).toNat * 3)).block, (ad231.add ((x13_3).toNat * 3)).off + 2, none⟩ = some (.slice A231_2 ((rd_T58 l0 x13_3).f1).length c231_2) ∧ w'.cell? (ad225.add ((x12_2).toNat * 3)) = some (.string ((rd_T62 l3 x12_2).f0.f0)) ∧ w'.cell? ⟨(ad225.add ((x12_2).toNat * 3)).block, (ad225.add ((x12_2).toNat * 3)).off + 1, none⟩ = some (.string ((rd_T62 l3 x12_2).f0.f1)) ∧ w'.cell? ⟨(ad225.add ((x12_2).toNat * 3)).block, (ad225.add ((x12_2).toNat * 3)).off + 2, none⟩ = some (.int .i64 ((rd_T62 l3 x12_2).f1))) (ds := []) (tf 0 15) (by kernel_rfl) rfl rfl ⟨(blk_cell BK220.out 0).trans rfl, (blk_cell BK220.out 1).trans rfl, (blk_cell BK220.out 2).trans rfl, (blk_cell BK220.out 3).trans rfl, hx231_0, hx231_1, hx231_2, ((HB.out.cell (World.block_lt_of_cell? w _ hw239_0)).trans hw239_0), ((HB.out.cell (World.block_lt_of_cell? w _ hw239_1)).trans hw239_1), ((HB.out.cell (World.block_lt_of_cell? w _ hw239_2)).trans hw239_2)⟩ (fun hHeld => ?_); refine with_tabW contangoref50_Apply.tab21 contangoref50_Apply.bits21 (fun HT_ HW_ => ?_)
                                          generalize wc.drew = w38 at HO_0 HO_11 BK220 HB HL231_2 HR231_2 hx231_0 hx231_1 hx231_2 hx239_0 hx239_1 hx239_2 hHeld ⊢
                                          refine pv_ 0 71 (tf 1 14) HT_ ?_
                                          refine pv_ 1 72 (tf 2 13) HT_ ?_
                                          refine pv_ 2 73 (tf 3 12) HT_ ?_
                                          refine pv_ 3 74 (tf 4 11) HT_ ?_
                                          refine pv_ 7 78 #[true, true, true, true, false, false, false, true, false, false, false, false, false, false, false] HT_ ?_
                                          refine pv_ 9 80 #[true, true, true, true, false, false, false, true, false, true, false, false, false, false, false] HT_ ?_
                                          refine pv_ 10 81 #[true, true, true, true, false, false, false, true, false, true, true, false, false, false, false] HT_ ?_
                                          refine pv_ 11 82 #[true, true, true, true, false, false, false, true, false, true, true, true, false, false, false] HT_ ?_
                                          refine pv_ 12 83 #[true, true, true, true, false, false, false, true, false, true, true, true, true, false, false] HT_ ?_
                                          refine take_ (i := 4) (N := some 75) (v := ?_) (a' := ?_) #[true, true, true, true, true, false, false, true, false, true, true, true, true, false, false] rfl rfl (take_ofW HT_.out HW_.out (by kernel_rfl)) (fun _ _ _ h => h) (Or.inl ⟨by rfl, ?_⟩) hHeld ?_ ?_
                                          rotate_left
                                          · rintro w' ⟨s0, s1, s2, s3, s4, s5, s6, s7, s8, s9⟩
                                            go_simp
                                            with_reducible rfl
                                          rotate_left
                                          · exact ap_
                                          refine take_ (i := 5) (N := some 76) (v := ?_) (a' := ?_) #[true, true, true, true, true, true, false, true, false, true, true, true, true, false, false] rfl rfl (take_ofW HT_.out HW_.out (by kernel_rfl)) (fun _ _ _ h => h) (Or.inl ⟨by rfl, ?_⟩) hHeld ?_ ?_
                                          rotate_left
                                          · rintro w' ⟨s0, s1, s2, s3, s4, s5, s6, s7, s8, s9⟩
                                            go_simp
                                            with_reducible rfl
                                          rotate_left
                                          · exact ap_
                                          refine take_ (i := 13) (N := some 84) (v := ?_) (a' := ?_) #[true, true, true, true, true, true, false, true, false, true, true, true, true, true, false] rfl rfl (take_ofW HT_.out HW_.out (by kernel_rfl)) (fun _ _ _ h => h) (Or.inl ⟨by rfl, ?_⟩) hHeld ?_ ?_
                                          rotate_left
                                          · rintro w' ⟨s0, s1, s2, s3, s4, s5, s6, s7, s8, s9⟩
                                            go_simp
                                            with_reducible rfl
                                          rotate_left
                                          · exact ap_
                                          refine one_ (i := 6) (N := some 77) #[true, true, true, true, true, true, true, true, false, true, true, true, true, true, false] rfl rfl (one_of HT_.out (by kernel_rfl)) (by decide) (fun K hK => ?_)
                                          refine goes_ Try.func19 (by kernel_rfl) rfl #[.slice A231_2 ((rd_T58 l0 x13_3).f1).length c231_2, .agg #[.string a1_0, .int .i64 a1_1, .int .i64 a1_2, .int .i64 a1_3]] (by rfl) rfl rfl pm_ ?_
                                          with_reducible refine (contangoref15_Find.calls kj25 _ _ ((rd_T58 l0 x13_3).f1) a1_0 a1_1 a1_2 a1_3 t232 t233 t234 t235 t236 t237 _ ?side1 ?side2 A33.out).mono ?_
                                          (case side1 => repeat (first | exact (by repeat (first | (with_reducible exact HR231_2.out) | (with_reducible refine Kd.C_alloc ?_ _) | (with_reducible refine Kd.C_drewN ?_ _) | (with_reducible refine Kd.C_drew ?_) | exact HR231_2.out)) | (with_reducible refine Kd.C_alloc ?_ _) | (with_reducible refine Kd.C_drewN ?_ _) | (with_reducible refine Kd.C_drew ?_)))
                                          (case side2 => exact HC231_2.out)
                                          rintro e w39 ⟨rfl, hb⟩
                                          have HS4_ := (hb.cell (World.block_lt_of_cell? _ _ (hHeld.2.2.2.2.1))).trans (hHeld.2.2.2.2.1)
                                          have HS5_ := (hb.cell (World.block_lt_of_cell? _ _ (hHeld.2.2.2.2.2.1))).trans (hHeld.2.2.2.2.2.1)
                                          have HS6_ := (hb.cell (World.block_lt_of_cell? _ _ (hHeld.2.2.2.2.2.2.1))).trans (hHeld.2.2.2.2.2.2.1)
                                          refine ⟨_, rfl, ?_⟩
                                          have n0_ := Aside0.mk (Kd.V_below (by (with_reducible repeat (first | apply Kd.V_alloc | apply Kd.V_drewN | apply Kd.V_drew)); exact HO_0.out) hb)
                                          have n1_ := Aside0.mk (Kd.N_below (by (with_reducible repeat (first | apply Kd.N_alloc | apply Kd.N_drewN | apply Kd.N_drew)); exact HO_11.out) hb)
                                          have n2_ := Aside0.mk (Kd.V_below (by (with_reducible repeat (first | apply Kd.V_alloc | apply Kd.V_drewN | apply Kd.V_drew)); exact HL231_2.out) hb)
                                          have n3_ := Aside0.mk (blk_below (g := gb220) (o := .cells #[.string a1_0, .int .i64 a1_1, .int .i64 a1_2, .int .i64 a1_3] 24 (0, 0)) (bk_ BK220.out) hb)
                                          (first | (have n4_ := Aside0.mk (Kd.C_below (by repeat (first | (with_reducible exact HR231_2.out) | (with_reducible refine Kd.C_alloc ?_ _) | (with_reducible refine Kd.C_drewN ?_ _) | (with_reducible refine Kd.C_drew ?_) | exact HR231_2.out)) hb)) | (have n4_ := HR231_2))
                                          have n5_ := Aside0.mk (below_step (bz1 HB.out GE220.out) hb)
                                          clear HO_0
                                          clear HO_11
                                          clear HL231_2
                                          clear BK220
                                          clear HR231_2
                                          clear HB
                                          have HO_0 := n0_
                                          have HO_11 := n1_
                                          have HL231_2 := n2_
                                          have BK220 := n3_
                                          have HR231_2 := n4_
                                          have HB := n5_
                                          clear n0_ n1_ n2_ n3_ n4_ n5_
                                          (try clear hb)
                                          (try clear hb2)
                                          (try clear hk)
                                          (try clear hi)
                                          refine hK.out _ _ ⟨(blk_cell BK220.out 0).trans rfl, (blk_cell BK220.out 1).trans rfl, (blk_cell BK220.out 2).trans rfl, (blk_cell BK220.out 3).trans rfl, HS4_, HS5_, HS6_, ((HB.out.cell (World.block_lt_of_cell? w _ hw239_0)).trans hw239_0), ((HB.out.cell (World.block_lt_of_cell? w _ hw239_1)).trans hw239_1), ((HB.out.cell (World.block_lt_of_cell? w _ hw239_2)).trans hw239_2)⟩ (fun hHeld => ?_)
                                          clear hK K
                                          refine norm_ (a' := ?_) ?_ ?_
                                          rotate_left
                                          · show Act.put _ (some 77) _ = _
                                            simp only [Act.put, List.setIfInBounds_toArray, List.set_cons_zero, List.set_cons_succ, i64_w, i32_w]
                                            rfl
                                          refine one_ (i := 8) (N := some 79) (tf 14 1) rfl rfl (one_of HT_.out (by kernel_rfl)) (by decide) (fun K hK => ?_)
                                          refine goes_ Try.func29 (by kernel_rfl) rfl #[.agg #[.string t232, .int .i64 t233, .int .i64 t234, .int .i64 t235, .int .i64 t236, .int .i64 t237], .bool a2] (by rfl) rfl rfl pm_ ?_
                                          with_reducible refine (contangoref50_side.calls t232 t233 t234 t235 t236 t237 a2 t238 _ A34.out).mono ?_
                                          rintro e w40 ⟨rfl, hb⟩
                                          have HS4_ := (hb.cell (World.block_lt_of_cell? _ _ (hHeld.2.2.2.2.1))).trans (hHeld.2.2.2.2.1)
                                          have HS5_ := (hb.cell (World.block_lt_of_cell? _ _ (hHeld.2.2.2.2.2.1))).trans (hHeld.2.2.2.2.2.1)
                                          have HS6_ := (hb.cell (World.block_lt_of_cell? _ _ (hHeld.2.2.2.2.2.2.1))).trans (hHeld.2.2.2.2.2.2.1)
                                          refine ⟨_, rfl, ?_⟩
                                          have n0_ := Aside0.mk (Kd.V_below (by (with_reducible repeat (first | apply Kd.V_alloc | apply Kd.V_drewN | apply Kd.V_drew)); exact HO_0.out) hb)
                                          have n1_ := Aside0.mk (Kd.N_below (by (with_reducible repeat (first | apply Kd.N_alloc | apply Kd.N_drewN | apply Kd.N_drew)); exact HO_11.out) hb)
                                          have n2_ := Aside0.mk (Kd.V_below (by (with_reducible repeat (first | apply Kd.V_alloc | apply Kd.V_drewN | apply Kd.V_drew)); exact HL231_2.out) hb)
                                          have n3_ := Aside0.mk (blk_below (g := gb220) (o := .cells #[.string a1_0, .int .i64 a1_1, .int .i64 a1_2, .int .i64 a1_3] 24 (0, 0)) (bk_ BK220.out) hb)
                                          (first | (have n4_ := Aside0.mk (Kd.C_below (by repeat (first | (with_reducible exact HR231_2.out) | (with_reducible refine Kd.C_alloc ?_ _) | (with_reducible refine Kd.C_drewN ?_ _) | (with_reducible refine Kd.C_drew ?_) | exact HR231_2.out)) hb)) | (have n4_ := HR231_2))
                                          have n5_ := Aside0.mk (below_step (bz1 HB.out GE220.out) hb)
                                          clear HO_0
                                          clear HO_11
                                          clear HL231_2
                                          clear BK220
                                          clear HR231_2
                                          clear HB
                                          have HO_0 := n0_
                                          have HO_11 := n1_
                                          have HL231_2 := n2_
                                          have BK220 := n3_
                                          have HR231_2 := n4_
                                          have HB := n5_
                                          clear n0_ n1_ n2_ n3_ n4_ n5_
                                          (try clear hb)
                                          (try clear hb2)
                                          (try clear hk)
                                          (try clear hi)
                                          refine hK.out _ _ ⟨(blk_cell BK220.out 0).trans rfl, (blk_cell BK220.out 1).trans rfl, (blk_cell BK220.out 2).trans rfl, (blk_cell BK220.out 3).trans rfl, HS4_, HS5_, HS6_, ((HB.out.cell (World.block_lt_of_cell? w _ hw239_0)).trans hw239_0), ((HB.out.cell (World.block_lt_of_cell? w _ hw239_1)).trans hw239_1), ((HB.out.cell (World.block_lt_of_cell? w _ hw239_2)).trans hw239_2)⟩ (fun hHeld => ?_)
                                          clear hK K
                                          refine norm_ (a' := ?_) ?_ ?_
                                          rotate_left
                                          · show Act.put _ (some 79) _ = _
                                            simp only [Act.put, List.setIfInBounds_toArray, List.set_cons_zero, List.set_cons_succ, i64_w, i32_w]
                                            rfl
                                          refine pv_ 14 85 (tf 15 0) HT_ ?_
                                          refine done_ (done_of HT_.out (by kernel_rfl)) ?_
                                          try go_wp2
                                          go_ret2
                                          exact ⟨_, by first | rfl | (simp [errW_none, errW_some] <;> rfl) | (simp [*, errW_none, errW_some] <;> rfl), by first | exact Kd.S_nil _ _ _ _ _ | exact Kd.N_nil _ _ _ _ _ | exact Kd.V_nil _ _ _ _ _ | exact Kd.Q_nil _ _ _ _ _ | exact Kd.R_nil _ _ _ _ _, bz1 HB.out GE220.out⟩
                                        · rw [if_neg c37] at H
                                          have c37b0 : decide (t238 < ((rd_T62 l3 x12_2).f1)) = false := decide_eq_false c37
                                          clear c37
                                          replace H := Option.bind_eq_some_iff.mp H
                                          obtain ⟨t243, A410, H⟩ := H
                                          replace H : (if x13_3 < (x11_2.length : Int) then (contangoref50_Apply.l0 kj25 l0 a2 l3 (x11_2.set (x13_3 : Int).toNat (⟨(⟨(rd_T58 l0 x13_3).f0.f0, (rd_T58 l0 x13_3).f0.f1⟩ : S55), t243⟩ : S58)) (wrap64 (x12_2 + 1)) a1_0 a1_1 a1_2 a1_3) else (none)) = some (r1, r2) := H
                                          have A41 := Aside0.mk A410
                                          clear A410
                                          by_cases c42 : x13_3 < (x11_2.length : Int)
                                          · rw [if_pos c42] at H
                                            have c42b0 : decide (x13_3 < (x11_2.length : Int)) = true := decide_eq_true c42
                                            clear c42
                                            obtain ⟨y246, hy246⟩ : ∃ y_ : List (S58), y_ = (x11_2.set (x13_3 : Int).toNat (⟨(⟨(rd_T58 l0 x13_3).f0.f0, (rd_T58 l0 x13_3).f0.f1⟩ : S55), t243⟩ : S58)) := ⟨_, rfl⟩
                                            replace H : (contangoref50_Apply.l0 kj25 l0 a2 l3 y246 (wrap64 (x12_2 + 1)) a1_0 a1_1 a1_2 a1_3) = some (r1, r2) := by first | (rw [hy246]; with_reducible exact H) | (have H2_ := (Option.bind_some _ _).symm.trans H; rw [hy246]; with_reducible exact H2_) | (have H2_ := (Option.bind_some _ _).symm.trans H; with_reducible exact H2_) | with_reducible exact H | (rw [hy246]; exact H) | exact H
                                            have Ny246 := Aside0.mk hy246
                                            clear hy246
                                            have H' := Aside0.mk H
                                            clear H
                                            try go_wp2
                                            have n0_ := Aside0.mk (Kd.V_drew HO_0.out)
                                            have n1_ := Aside0.mk (Kd.N_drew HO_11.out)
                                            have n2_ := Aside0.mk (blk_drew BK220.out)
                                            have n3_ := Aside0.mk (below_drew1 HB.out)
                                            clear HO_0
                                            clear HO_11
                                            clear BK220
                                            clear HB
                                            have HO_0 := n0_
                                            have HO_11 := n1_
                                            have BK220 := n2_
                                            have HB := n3_
                                            clear n0_ n1_ n2_ n3_
                                            have p231 : 0 ≤ (x13_3 : Int) := od_
                                            have q231 : x13_3 < (l0.length : Int) := od_
                                            obtain ⟨ad231, A231_2, c231_2, e231, hx231_0, hx231_1, hx231_2, hl231_2, hi231_2⟩ := at_T58 (Kd.V_reads' HO_0.out).2.2 x13_3 p231 q231
                                            cases e231
                                            obtain ⟨ce231, hce231, hMe231, hcc231⟩ := Kd.V_get HO_0.out z58 x13_3 p231 (by first | exact q231 | exact od_ | (have e_ := (Kd.V_reads' HO_0.out).1; omega))
                                            obtain ⟨ua231_2, uc231_2, rfl, ul231_2, ge231_2⟩ := k58_openF hMe231
                                            have hv231_2 := hcc231 2 _ rfl
                                            rw [add_field _ _ 2 (by omega)] at hv231_2
                                            replace hv231_2 := Option.some.inj (hv231_2.symm.trans hx231_2)
                                            injection hv231_2 with hva_ hvn_ hvc_
                                            rw [hva_] at ge231_2
                                            rw [hvc_] at ul231_2
                                            have HL231_2 := Aside0.mk (show Kd.V k52 52 _ w.heap.size _ _ ((rd_T58 l0 x13_3).f1) from Kd.V_mk ul231_2 ge231_2)
                                            clear hva_ hvn_ hvc_ ge231_2 ul231_2
                                            clear hcc231 hce231
                                            have HR231_2 := Aside0.mk hi231_2
                                            have HC231_2 := Aside0.mk hl231_2
                                            clear hi231_2 hl231_2
                                            replace p231 := eq_true p231
                                            replace q231 := eq_true q231
                                            have p239 : 0 ≤ (x12_2 : Int) := od_
                                            have q239 : x12_2 < (l3.length : Int) := od_
                                            obtain ⟨ad239, e239, hx239_0, hx239_1, hx239_2⟩ := at_T62 HR3.out x12_2 p239 q239
                                            have hw239_2 := hx239_2
                                            have hw239_1 := hx239_1
                                            have hw239_0 := hx239_0
                                            obtain rfl : ad225 = ad239 := (by injection e239)
                                            replace hx239_0 := (HB.out.cell (World.block_lt_of_cell? w _ hx239_0)).trans hx239_0
                                            replace hx239_1 := (HB.out.cell (World.block_lt_of_cell? w _ hx239_1)).trans hx239_1
                                            replace hx239_2 := (HB.out.cell (World.block_lt_of_cell? w _ hx239_2)).trans hx239_2
                                            replace p239 := eq_true p239
                                            replace q239 := eq_true q239
                                            refine start_ (n := 15) (S := fun w' => w'.cell? ⟨gb220, 0, none⟩ = some (.string a1_0) ∧ w'.cell? ⟨gb220, 1, none⟩ = some (.int .i64 a1_1) ∧ w'.cell? ⟨gb220, 2, none⟩ = some (.int .i64 a1_2) ∧ w'.cell? ⟨gb220, 3, none⟩ = some (.int .i64 a1_3) ∧ w'.cell? (ad231.add ((x13_3).toNat * 3)) = some (.string ((rd_T58 l0 x13_3).f0.f0)) ∧ w'.cell? ⟨(ad231.add ((x13_3).toNat * 3)).block, (ad231.add ((x13_3).toNat * 3)).off + 1, none⟩ = some (.string ((rd_T58 l0 x13_3).f0.f1)) ∧ w'.cell? ⟨(ad231.add ((x13_3).toNat * 3)).block, (ad231.add ((x13_3).toNat * 3)).off + 2, none⟩ = some (.slice A231_2 ((rd_T58 l0 x13_3).f1).length c231_2) ∧ w'.cell? (ad225.add ((x12_2).toNat * 3)) = some (.string ((rd_T62 l3 x12_2).f0.f0)) ∧ w'.cell? ⟨(ad225.add ((x12_2).toNat * 3)).block, (ad225.add ((x12_2).toNat * 3)).off + 1, none⟩ = some (.string ((rd_T62 l3 x12_2).f0.f1)) ∧ w'.cell? ⟨(ad225.add ((x12_2).toNat * 3)).block, (ad225.add ((x12_2).toNat * 3)).off + 2, none⟩ = some (.int .i64 ((rd_T62 l3 x12_2).f1))) (ds := []) (tf 0 15) (by kernel_rfl) rfl rfl ⟨(blk_cell BK220.out 0).trans rfl, (blk_cell BK220.out 1).trans rfl, (blk_cell BK220.out 2).trans rfl, (blk_cell BK220.out 3).trans rfl, hx231_0, hx231_1, hx231_2, ((HB.out.cell (World.block_lt_of_cell? w _ hw239_0)).trans hw239_0), ((HB.out.cell (World.block_lt_of_cell? w _ hw239_1)).trans hw239_1), ((HB.out.cell (World.block_lt_of_cell? w _ hw239_2)).trans hw239_2)⟩ (fun hHeld => ?_); refine with_tabW contangoref50_Apply.tab21 contangoref50_Apply.bits21 (fun HT_ HW_ => ?_)
                                            generalize wc.drew = w44 at HO_0 HO_11 BK220 HB HL231_2 HR231_2 hx231_0 hx231_1 hx231_2 hx239_0 hx239_1 hx239_2 hHeld ⊢
                                            refine pv_ 0 71 (tf 1 14) HT_ ?_
                                            refine pv_ 1 72 (tf 2 13) HT_ ?_
                                            refine pv_ 2 73 (tf 3 12) HT_ ?_
                                            refine pv_ 3 74 (tf 4 11) HT_ ?_
                                            refine pv_ 7 78 #[true, true, true, true, false, false, false, true, false, false, false, false, false, false, false] HT_ ?_
                                            refine pv_ 9 80 #[true, true, true, true, false, false, false, true, false, true, false, false, false, false, false] HT_ ?_
                                            refine pv_ 10 81 #[true, true, true, true, false, false, false, true, false, true, true, false, false, false, false] HT_ ?_
                                            refine pv_ 11 82 #[true, true, true, true, false, false, false, true, false, true, true, true, false, false, false] HT_ ?_
                                            refine pv_ 12 83 #[true, true, true, true, false, false, false, true, false, true, true, true, true, false, false] HT_ ?_
                                            refine take_ (i := 4) (N := some 75) (v := ?_) (a' := ?_) #[true, true, true, true, true, false, false, true, false, true, true, true, true, false, false] rfl rfl (take_ofW HT_.out HW_.out (by kernel_rfl)) (fun _ _ _ h => h) (Or.inl ⟨by rfl, ?_⟩) hHeld ?_ ?_
                                            rotate_left
                                            · rintro w' ⟨s0, s1, s2, s3, s4, s5, s6, s7, s8, s9⟩
                                              go_simp
                                              with_reducible rfl
                                            rotate_left
                                            · exact ap_
                                            refine take_ (i := 5) (N := some 76) (v := ?_) (a' := ?_) #[true, true, true, true, true, true, false, true, false, true, true, true, true, false, false] rfl rfl (take_ofW HT_.out HW_.out (by kernel_rfl)) (fun _ _ _ h => h) (Or.inl ⟨by rfl, ?_⟩) hHeld ?_ ?_
                                            rotate_left
                                            · rintro w' ⟨s0, s1, s2, s3, s4, s5, s6, s7, s8, s9⟩
                                              go_simp
                                              with_reducible rfl
                                            rotate_left
                                            · exact ap_
                                            refine take_ (i := 13) (N := some 84) (v := ?_) (a' := ?_) #[true, true, true, true, true, true, false, true, false, true, true, true, true, true, false] rfl rfl (take_ofW HT_.out HW_.out (by kernel_rfl)) (fun _ _ _ h => h) (Or.inl ⟨by rfl, ?_⟩) hHeld ?_ ?_
                                            rotate_left
                                            · rintro w' ⟨s0, s1, s2, s3, s4, s5, s6, s7, s8, s9⟩
                                              go_simp
                                              with_reducible rfl
                                            rotate_left
                                            · exact ap_
                                            refine one_ (i := 6) (N := some 77) #[true, true, true, true, true, true, true, true, false, true, true, true, true, true, false] rfl rfl (one_of HT_.out (by kernel_rfl)) (by decide) (fun K hK => ?_)
                                            refine goes_ Try.func19 (by kernel_rfl) rfl #[.slice A231_2 ((rd_T58 l0 x13_3).f1).length c231_2, .agg #[.string a1_0, .int .i64 a1_1, .int .i64 a1_2, .int .i64 a1_3]] (by rfl) rfl rfl pm_ ?_
                                            with_reducible refine (contangoref15_Find.calls kj25 _ _ ((rd_T58 l0 x13_3).f1) a1_0 a1_1 a1_2 a1_3 t232 t233 t234 t235 t236 t237 _ ?side1 ?side2 A33.out).mono ?_
                                            (case side1 => repeat (first | exact (by repeat (first | (with_reducible exact HR231_2.out) | (with_reducible refine Kd.C_alloc ?_ _) | (with_reducible refine Kd.C_drewN ?_ _) | (with_reducible refine Kd.C_drew ?_) | exact HR231_2.out)) | (with_reducible refine Kd.C_alloc ?_ _) | (with_reducible refine Kd.C_drewN ?_ _) | (with_reducible refine Kd.C_drew ?_)))
                                            (case side2 => exact HC231_2.out)
                                            rintro e w45 ⟨rfl, hb⟩
                                            have HS4_ := (hb.cell (World.block_lt_of_cell? _ _ (hHeld.2.2.2.2.1))).trans (hHeld.2.2.2.2.1)
                                            have HS5_ := (hb.cell (World.block_lt_of_cell? _ _ (hHeld.2.2.2.2.2.1))).trans (hHeld.2.2.2.2.2.1)
                                            have HS6_ := (hb.cell (World.block_lt_of_cell? _ _ (hHeld.2.2.2.2.2.2.1))).trans (hHeld.2.2.2.2.2.2.1)
                                            refine ⟨_, rfl, ?_⟩
                                            have n0_ := Aside0.mk (Kd.V_below (by (with_reducible repeat (first | apply Kd.V_alloc | apply Kd.V_drewN | apply Kd.V_drew)); exact HO_0.out) hb)
                                            have n1_ := Aside0.mk (Kd.N_below (by (with_reducible repeat (first | apply Kd.N_alloc | apply Kd.N_drewN | apply Kd.N_drew)); exact HO_11.out) hb)
                                            have n2_ := Aside0.mk (Kd.V_below (by (with_reducible repeat (first | apply Kd.V_alloc | apply Kd.V_drewN | apply Kd.V_drew)); exact HL231_2.out) hb)
                                            have n3_ := Aside0.mk (blk_below (g := gb220) (o := .cells #[.string a1_0, .int .i64 a1_1, .int .i64 a1_2, .int .i64 a1_3] 24 (0, 0)) (bk_ BK220.out) hb)
                                            (first | (have n4_ := Aside0.mk (Kd.C_below (by repeat (first | (with_reducible exact HR231_2.out) | (with_reducible refine Kd.C_alloc ?_ _) | (with_reducible refine Kd.C_drewN ?_ _) | (with_reducible refine Kd.C_drew ?_) | exact HR231_2.out)) hb)) | (have n4_ := HR231_2))
                                            have n5_ := Aside0.mk (below_step (bz1 HB.out GE220.out) hb)
                                            clear HO_0
                                            clear HO_11
                                            clear HL231_2
                                            clear BK220
                                            clear HR231_2
                                            clear HB
                                            have HO_0 := n0_
                                            have HO_11 := n1_
                                            have HL231_2 := n2_
                                            have BK220 := n3_
                                            have HR231_2 := n4_
                                            have HB := n5_
                                            clear n0_ n1_ n2_ n3_ n4_ n5_
                                            (try clear hb)
                                            (try clear hb2)
                                            (try clear hk)
                                            (try clear hi)
                                            refine hK.out _ _ ⟨(blk_cell BK220.out 0).trans rfl, (blk_cell BK220.out 1).trans rfl, (blk_cell BK220.out 2).trans rfl, (blk_cell BK220.out 3).trans rfl, HS4_, HS5_, HS6_, ((HB.out.cell (World.block_lt_of_cell? w _ hw239_0)).trans hw239_0), ((HB.out.cell (World.block_lt_of_cell? w _ hw239_1)).trans hw239_1), ((HB.out.cell (World.block_lt_of_cell? w _ hw239_2)).trans hw239_2)⟩ (fun hHeld => ?_)
                                            clear hK K
                                            refine norm_ (a' := ?_) ?_ ?_
                                            rotate_left
                                            · show Act.put _ (some 77) _ = _
                                              simp only [Act.put, List.setIfInBounds_toArray, List.set_cons_zero, List.set_cons_succ, i64_w, i32_w]
                                              rfl
                                            refine one_ (i := 8) (N := some 79) (tf 14 1) rfl rfl (one_of HT_.out (by kernel_rfl)) (by decide) (fun K hK => ?_)
                                            refine goes_ Try.func29 (by kernel_rfl) rfl #[.agg #[.string t232, .int .i64 t233, .int .i64 t234, .int .i64 t235, .int .i64 t236, .int .i64 t237], .bool a2] (by rfl) rfl rfl pm_ ?_
                                            with_reducible refine (contangoref50_side.calls t232 t233 t234 t235 t236 t237 a2 t238 _ A34.out).mono ?_
                                            rintro e w46 ⟨rfl, hb⟩
                                            have HS4_ := (hb.cell (World.block_lt_of_cell? _ _ (hHeld.2.2.2.2.1))).trans (hHeld.2.2.2.2.1)
                                            have HS5_ := (hb.cell (World.block_lt_of_cell? _ _ (hHeld.2.2.2.2.2.1))).trans (hHeld.2.2.2.2.2.1)
                                            have HS6_ := (hb.cell (World.block_lt_of_cell? _ _ (hHeld.2.2.2.2.2.2.1))).trans (hHeld.2.2.2.2.2.2.1)
                                            refine ⟨_, rfl, ?_⟩
                                            have n0_ := Aside0.mk (Kd.V_below (by (with_reducible repeat (first | apply Kd.V_alloc | apply Kd.V_drewN | apply Kd.V_drew)); exact HO_0.out) hb)
                                            have n1_ := Aside0.mk (Kd.N_below (by (with_reducible repeat (first | apply Kd.N_alloc | apply Kd.N_drewN | apply Kd.N_drew)); exact HO_11.out) hb)
                                            have n2_ := Aside0.mk (Kd.V_below (by (with_reducible repeat (first | apply Kd.V_alloc | apply Kd.V_drewN | apply Kd.V_drew)); exact HL231_2.out) hb)
                                            have n3_ := Aside0.mk (blk_below (g := gb220) (o := .cells #[.string a1_0, .int .i64 a1_1, .int .i64 a1_2, .int .i64 a1_3] 24 (0, 0)) (bk_ BK220.out) hb)
                                            (first | (have n4_ := Aside0.mk (Kd.C_below (by repeat (first | (with_reducible exact HR231_2.out) | (with_reducible refine Kd.C_alloc ?_ _) | (with_reducible refine Kd.C_drewN ?_ _) | (with_reducible refine Kd.C_drew ?_) | exact HR231_2.out)) hb)) | (have n4_ := HR231_2))
                                            have n5_ := Aside0.mk (below_step (bz1 HB.out GE220.out) hb)
                                            clear HO_0
                                            clear HO_11
                                            clear HL231_2
                                            clear BK220
                                            clear HR231_2
                                            clear HB
                                            have HO_0 := n0_
                                            have HO_11 := n1_
                                            have HL231_2 := n2_
                                            have BK220 := n3_
                                            have HR231_2 := n4_
                                            have HB := n5_
                                            clear n0_ n1_ n2_ n3_ n4_ n5_
                                            (try clear hb)
                                            (try clear hb2)
                                            (try clear hk)
                                            (try clear hi)
                                            refine hK.out _ _ ⟨(blk_cell BK220.out 0).trans rfl, (blk_cell BK220.out 1).trans rfl, (blk_cell BK220.out 2).trans rfl, (blk_cell BK220.out 3).trans rfl, HS4_, HS5_, HS6_, ((HB.out.cell (World.block_lt_of_cell? w _ hw239_0)).trans hw239_0), ((HB.out.cell (World.block_lt_of_cell? w _ hw239_1)).trans hw239_1), ((HB.out.cell (World.block_lt_of_cell? w _ hw239_2)).trans hw239_2)⟩ (fun hHeld => ?_)
                                            clear hK K
                                            refine norm_ (a' := ?_) ?_ ?_
                                            rotate_left
                                            · show Act.put _ (some 79) _ = _
                                              simp only [Act.put, List.setIfInBounds_toArray, List.set_cons_zero, List.set_cons_succ, i64_w, i32_w]
                                              rfl
                                            refine pv_ 14 85 (tf 15 0) HT_ ?_
                                            refine done_ (done_of HT_.out (by kernel_rfl)) ?_
                                            try go_wp2
                                            have n0_ := Aside0.mk (Kd.V_drew HO_0.out)
                                            have n1_ := Aside0.mk (Kd.N_drew HO_11.out)
                                            have n2_ := Aside0.mk (Kd.V_drew HL231_2.out)
                                            have n3_ := Aside0.mk (blk_drew BK220.out)
                                            have n4_ := Aside0.mk (Kd.C_drew HR231_2.out)
                                            have n5_ := Aside0.mk (below_drew1 HB.out)
                                            clear HO_0
                                            clear HO_11
                                            clear HL231_2
                                            clear BK220
                                            clear HR231_2
                                            clear HB
                                            have HO_0 := n0_
                                            have HO_11 := n1_
                                            have HL231_2 := n2_
                                            have BK220 := n3_
                                            have HR231_2 := n4_
                                            have HB := n5_
                                            clear n0_ n1_ n2_ n3_ n4_ n5_
                                            have p240 : 0 ≤ (x13_3 : Int) := od_
                                            have q240 : x13_3 < (l0.length : Int) := od_
                                            obtain ⟨ad240, A240_2, c240_2, e240, hx240_0, hx240_1, hx240_2, hl240_2, hi240_2⟩ := at_T58 (Kd.V_reads' HO_0.out).2.2 x13_3 p240 q240
                                            obtain rfl : ad231 = ad240 := (by injection e240)
                                            obtain ⟨ce240, hce240, hMe240, hcc240⟩ := Kd.V_get HO_0.out z58 x13_3 p240 (by first | exact q240 | exact od_ | (have e_ := (Kd.V_reads' HO_0.out).1; omega))
                                            obtain ⟨ua240_2, uc240_2, rfl, ul240_2, ge240_2⟩ := k58_openF hMe240
                                            have hv240_2 := hcc240 2 _ rfl
                                            rw [add_field _ _ 2 (by omega)] at hv240_2
                                            replace hv240_2 := Option.some.inj (hv240_2.symm.trans hx240_2)
                                            injection hv240_2 with hva_ hvn_ hvc_
                                            rw [hva_] at ge240_2
                                            rw [hvc_] at ul240_2
                                            have HL240_2 := Aside0.mk (show Kd.V k52 52 _ w.heap.size _ _ ((rd_T58 l0 x13_3).f1) from Kd.V_mk ul240_2 ge240_2)
                                            clear hva_ hvn_ hvc_ ge240_2 ul240_2
                                            clear hcc240 hce240
                                            have HR240_2 := Aside0.mk hi240_2
                                            have HC240_2 := Aside0.mk hl240_2
                                            clear hi240_2 hl240_2
                                            replace p240 := eq_true p240
                                            replace q240 := eq_true q240
                                            have p241 : 0 ≤ (x13_3 : Int) := od_
                                            have q241 : x13_3 < (l0.length : Int) := od_
                                            obtain ⟨ad241, A241_2, c241_2, e241, hx241_0, hx241_1, hx241_2, hl241_2, hi241_2⟩ := at_T58 (Kd.V_reads' HO_0.out).2.2 x13_3 p241 q241
                                            obtain rfl : ad231 = ad241 := (by injection e241)
                                            obtain ⟨ce241, hce241, hMe241, hcc241⟩ := Kd.V_get HO_0.out z58 x13_3 p241 (by first | exact q241 | exact od_ | (have e_ := (Kd.V_reads' HO_0.out).1; omega))
                                            obtain ⟨ua241_2, uc241_2, rfl, ul241_2, ge241_2⟩ := k58_openF hMe241
                                            have hv241_2 := hcc241 2 _ rfl
                                            rw [add_field _ _ 2 (by omega)] at hv241_2
                                            replace hv241_2 := Option.some.inj (hv241_2.symm.trans hx241_2)
                                            injection hv241_2 with hva_ hvn_ hvc_
                                            rw [hva_] at ge241_2
                                            rw [hvc_] at ul241_2
                                            have HL241_2 := Aside0.mk (show Kd.V k52 52 _ w.heap.size _ _ ((rd_T58 l0 x13_3).f1) from Kd.V_mk ul241_2 ge241_2)
                                            clear hva_ hvn_ hvc_ ge241_2 ul241_2
                                            clear hcc241 hce241
                                            have HR241_2 := Aside0.mk hi241_2
                                            have HC241_2 := Aside0.mk hl241_2
                                            clear hi241_2 hl241_2
                                            replace p241 := eq_true p241
                                            replace q241 := eq_true q241
                                            have ea_ := Option.some.inj (hx240_2.symm.trans hx241_2)
                                            injection ea_ with ea_ en_ ec_
                                            subst ea_
                                            subst ec_
                                            clear en_
                                            have p242 : 0 ≤ (x12_2 : Int) := od_
                                            have q242 : x12_2 < (l3.length : Int) := od_
                                            obtain ⟨ad242, e242, hx242_0, hx242_1, hx242_2⟩ := at_T62 HR3.out x12_2 p242 q242
                                            have hw242_2 := hx242_2
                                            have hw242_1 := hx242_1
                                            have hw242_0 := hx242_0
                                            obtain rfl : ad225 = ad242 := (by injection e242)
                                            replace hx242_0 := (HB.out.cell (World.block_lt_of_cell? w _ hx242_0)).trans hx242_0
                                            replace hx242_1 := (HB.out.cell (World.block_lt_of_cell? w _ hx242_1)).trans hx242_1
                                            replace hx242_2 := (HB.out.cell (World.block_lt_of_cell? w _ hx242_2)).trans hx242_2
                                            replace p242 := eq_true p242
                                            replace q242 := eq_true q242
                                            refine start_ (n := 23) (S := fun w' => w'.cell? ⟨gb220, 0, none⟩ = some (.string a1_0) ∧ w'.cell? ⟨gb220, 1, none⟩ = some (.int .i64 a1_1) ∧ w'.cell? ⟨gb220, 2, none⟩ = some (.int .i64 a1_2) ∧ w'.cell? ⟨gb220, 3, none⟩ = some (.int .i64 a1_3) ∧ w'.cell? (ad231.add ((x13_3).toNat * 3)) = some (.string ((rd_T58 l0 x13_3).f0.f0)) ∧ w'.cell? ⟨(ad231.add ((x13_3).toNat * 3)).block, (ad231.add ((x13_3).toNat * 3)).off + 1, none⟩ = some (.string ((rd_T58 l0 x13_3).f0.f1)) ∧ w'.cell? ⟨(ad231.add ((x13_3).toNat * 3)).block, (ad231.add ((x13_3).toNat * 3)).off + 2, none⟩ = some (.slice A240_2 ((rd_T58 l0 x13_3).f1).length c240_2) ∧ w'.cell? (ad231.add ((x13_3).toNat * 3)) = some (.string ((rd_T58 l0 x13_3).f0.f0)) ∧ w'.cell? ⟨(ad231.add ((x13_3).toNat * 3)).block, (ad231.add ((x13_3).toNat * 3)).off + 1, none⟩ = some (.string ((rd_T58 l0 x13_3).f0.f1)) ∧ w'.cell? ⟨(ad231.add ((x13_3).toNat * 3)).block, (ad231.add ((x13_3).toNat * 3)).off + 2, none⟩ = some (.slice A240_2 ((rd_T58 l0 x13_3).f1).length c240_2) ∧ w'.cell? (ad225.add ((x12_2).toNat * 3)) = some (.string ((rd_T62 l3 x12_2).f0.f0)) ∧ w'.cell? ⟨(ad225.add ((x12_2).toNat * 3)).block, (ad225.add ((x12_2).toNat * 3)).off + 1, none⟩ = some (.string ((rd_T62 l3 x12_2).f0.f1)) ∧ w'.cell? ⟨(ad225.add ((x12_2).toNat * 3)).block, (ad225.add ((x12_2).toNat * 3)).off + 2, none⟩ = some (.int .i64 ((rd_T62 l3 x12_2).f1))) (ds := [22]) (tf 0 23) (by kernel_rfl) rfl rfl ⟨(blk_cell BK220.out 0).trans rfl, (blk_cell BK220.out 1).trans rfl, (blk_cell BK220.out 2).trans rfl, (blk_cell BK220.out 3).trans rfl, hx240_0, hx240_1, hx240_2, hx241_0, hx241_1, hx241_2, ((HB.out.cell (World.block_lt_of_cell? w _ hw242_0)).trans hw242_0), ((HB.out.cell (World.block_lt_of_cell? w _ hw242_1)).trans hw242_1), ((HB.out.cell (World.block_lt_of_cell? w _ hw242_2)).trans hw242_2)⟩ (fun hHeld => ?_); refine with_tabW contangoref50_Apply.tab23 contangoref50_Apply.bits23 (fun HT_ HW_ => ?_)
                                            generalize w46.drew = w47 at HO_0 HO_11 HL231_2 BK220 HR231_2 HB HL240_2 HL241_2 HR240_2 HR241_2 hx240_0 hx240_1 hx240_2 hx241_0 hx241_1 hx241_2 hx242_0 hx242_1 hx242_2 hHeld ⊢
                                            refine pv_ 0 86 (tf 1 22) HT_ ?_
                                            refine pv_ 1 87 (tf 2 21) HT_ ?_
                                            refine pv_ 2 88 (tf 3 20) HT_ ?_
                                            refine pv_ 3 89 (tf 4 19) HT_ ?_
                                            refine pv_ 4 90 (tf 5 18) HT_ ?_
                                            refine pv_ 5 91 (tf 6 17) HT_ ?_
                                            refine pv_ 7 93 #[true, true, true, true, true, true, false, true, false, false, false, false, false, false, false, false, false, false, false, false, false, false, false] HT_ ?_
                                            refine pv_ 8 94 #[true, true, true, true, true, true, false, true, true, false, false, false, false, false, false, false, false, false, false, false, false, false, false] HT_ ?_
                                            refine pv_ 9 95 #[true, true, true, true, true, true, false, true, true, true, false, false, false, false, false, false, false, false, false, false, false, false, false] HT_ ?_
                                            refine pv_ 10 96 #[true, true, true, true, true, true, false, true, true, true, true, false, false, false, false, false, false, false, false, false, false, false, false] HT_ ?_
                                            refine pv_ 13 99 #[true, true, true, true, true, true, false, true, true, true, true, false, false, true, false, false, false, false, false, false, false, false, false] HT_ ?_
                                            refine pv_ 14 100 #[true, true, true, true, true, true, false, true, true, true, true, false, false, true, true, false, false, false, false, false, false, false, false] HT_ ?_
                                            refine pv_ 15 101 #[true, true, true, true, true, true, false, true, true, true, true, false, false, true, true, true, false, false, false, false, false, false, false] HT_ ?_
                                            refine pv_ 16 102 #[true, true, true, true, true, true, false, true, true, true, true, false, false, true, true, true, true, false, false, false, false, false, false] HT_ ?_
                                            refine pv_ 17 103 #[true, true, true, true, true, true, false, true, true, true, true, false, false, true, true, true, true, true, false, false, false, false, false] HT_ ?_
                                            refine take_ (i := 6) (N := some 92) (v := ?_) (a' := ?_) #[true, true, true, true, true, true, true, true, true, true, true, false, false, true, true, true, true, true, false, false, false, false, false] rfl rfl (take_ofW HT_.out HW_.out (by kernel_rfl)) (fun _ _ _ h => h) (Or.inl ⟨by rfl, ?_⟩) hHeld ?_ ?_
                                            rotate_left
                                            · rintro w' ⟨s0, s1, s2, s3, s4, s5, s6, s7, s8, s9, s10, s11, s12⟩
                                              go_simp
                                              with_reducible rfl
                                            rotate_left
                                            · exact ap_
                                            refine take_ (i := 11) (N := some 97) (v := ?_) (a' := ?_) #[true, true, true, true, true, true, true, true, true, true, true, true, false, true, true, true, true, true, false, false, false, false, false] rfl rfl (take_ofW HT_.out HW_.out (by kernel_rfl)) (fun _ _ _ h => h) (Or.inl ⟨by rfl, ?_⟩) hHeld ?_ ?_
                                            rotate_left
                                            · rintro w' ⟨s0, s1, s2, s3, s4, s5, s6, s7, s8, s9, s10, s11, s12⟩
                                              go_simp
                                              with_reducible rfl
                                            rotate_left
                                            · exact ap_
                                            refine take_ (i := 12) (N := some 98) (v := ?_) (a' := ?_) (tf 18 5) rfl rfl (take_ofW HT_.out HW_.out (by kernel_rfl)) (fun _ _ _ h => h) (Or.inl ⟨by rfl, ?_⟩) hHeld ?_ ?_
                                            rotate_left
                                            · rintro w' ⟨s0, s1, s2, s3, s4, s5, s6, s7, s8, s9, s10, s11, s12⟩
                                              go_simp
                                              with_reducible rfl
                                            rotate_left
                                            · exact ap_
                                            refine take_ (i := 18) (N := some 104) (v := ?_) (a' := ?_) (tf 19 4) rfl rfl (take_ofW HT_.out HW_.out (by kernel_rfl)) (fun _ _ _ h => h) (Or.inl ⟨by rfl, ?_⟩) hHeld ?_ ?_
                                            rotate_left
                                            · rintro w' ⟨s0, s1, s2, s3, s4, s5, s6, s7, s8, s9, s10, s11, s12⟩
                                              go_simp
                                              with_reducible rfl
                                            rotate_left
                                            · exact ap_
                                            refine one_ (i := 19) (N := some 105) (tf 20 3) rfl rfl (one_of HT_.out (by kernel_rfl)) (by decide) (fun K hK => ?_)
                                            refine goes_ Try.func38 (by kernel_rfl) rfl #[.slice A240_2 ((rd_T58 l0 x13_3).f1).length c240_2, .agg #[.string a1_0, .int .i64 a1_1, .int .i64 a1_2, .int .i64 a1_3], .bool a2, .int .i64 ((rd_T62 l3 x12_2).f1)] (by rfl) rfl rfl pm_ ?_
                                            with_reducible refine (contangoref50_less.calls kj25 _ _ ((rd_T58 l0 x13_3).f1) a1_0 a1_1 a1_2 a1_3 a2 ((rd_T62 l3 x12_2).f1) t243 _ ?side1 ?side2 A41.out).mono ?_
                                            (case side1 => repeat (first | exact (by repeat (first | (with_reducible exact HR241_2.out) | (with_reducible refine Kd.C_alloc ?_ _) | (with_reducible refine Kd.C_drewN ?_ _) | (with_reducible refine Kd.C_drew ?_) | exact HR241_2.out)) | (with_reducible refine Kd.C_alloc ?_ _) | (with_reducible refine Kd.C_drewN ?_ _) | (with_reducible refine Kd.C_drew ?_)))
                                            (case side2 => exact HC241_2.out)
                                            rintro e w48 ⟨v244, rfl, ho0, hb⟩
                                            have HS4_ := (hb.cell (World.block_lt_of_cell? _ _ (hHeld.2.2.2.2.1))).trans (hHeld.2.2.2.2.1)
                                            have HS5_ := (hb.cell (World.block_lt_of_cell? _ _ (hHeld.2.2.2.2.2.1))).trans (hHeld.2.2.2.2.2.1)
                                            have HS6_ := (hb.cell (World.block_lt_of_cell? _ _ (hHeld.2.2.2.2.2.2.1))).trans (hHeld.2.2.2.2.2.2.1)
                                            have HS7_ := (hb.cell (World.block_lt_of_cell? _ _ (hHeld.2.2.2.2.2.2.2.1))).trans (hHeld.2.2.2.2.2.2.2.1)
                                            have HS8_ := (hb.cell (World.block_lt_of_cell? _ _ (hHeld.2.2.2.2.2.2.2.2.1))).trans (hHeld.2.2.2.2.2.2.2.2.1)
                                            have HS9_ := (hb.cell (World.block_lt_of_cell? _ _ (hHeld.2.2.2.2.2.2.2.2.2.1))).trans (hHeld.2.2.2.2.2.2.2.2.2.1)
                                            refine ⟨_, rfl, ?_⟩
                                            have n0_ := Aside0.mk (Kd.V_elder' (by (with_reducible repeat (first | apply Kd.V_alloc | apply Kd.V_drewN | apply Kd.V_drew)); exact HO_0.out) (Kd.R_base ho0) hb)
                                            have n1_ := Aside0.mk (Kd.N_elder' (by (with_reducible repeat (first | apply Kd.N_alloc | apply Kd.N_drewN | apply Kd.N_drew)); exact HO_11.out) (Kd.R_base ho0) hb)
                                            have n2_ := Aside0.mk (Kd.V_elder' (by (with_reducible repeat (first | apply Kd.V_alloc | apply Kd.V_drewN | apply Kd.V_drew)); exact HL231_2.out) (Kd.R_base ho0) hb)
                                            have n3_ := Aside0.mk (Kd.V_elder' (by (with_reducible repeat (first | apply Kd.V_alloc | apply Kd.V_drewN | apply Kd.V_drew)); exact HL240_2.out) (Kd.R_base ho0) hb)
                                            have n4_ := Aside0.mk (Kd.V_elder' (by (with_reducible repeat (first | apply Kd.V_alloc | apply Kd.V_drewN | apply Kd.V_drew)); exact HL241_2.out) (Kd.R_base ho0) hb)
                                            have n5_ := Aside0.mk (Kd.R_lower (Kd.R_newM (M := fun k_ => (w.heap.size ≤ k_)) ho0 (below_size (bz1 HB.out GE220.out)) (fun k_ h_ => h_)) (below_size (bz1 HB.out GE220.out)))
                                            have n6_ := Aside0.mk (blk_below (g := gb220) (o := .cells #[.string a1_0, .int .i64 a1_1, .int .i64 a1_2, .int .i64 a1_3] 24 (0, 0)) (bk_ BK220.out) hb)
                                            (first | (have n7_ := Aside0.mk (Kd.C_below (by repeat (first | (with_reducible exact HR231_2.out) | (with_reducible refine Kd.C_alloc ?_ _) | (with_reducible refine Kd.C_drewN ?_ _) | (with_reducible refine Kd.C_drew ?_) | exact HR231_2.out)) hb)) | (have n7_ := HR231_2))
                                            (first | (have n8_ := Aside0.mk (Kd.C_below (by repeat (first | (with_reducible exact HR240_2.out) | (with_reducible refine Kd.C_alloc ?_ _) | (with_reducible refine Kd.C_drewN ?_ _) | (with_reducible refine Kd.C_drew ?_) | exact HR240_2.out)) hb)) | (have n8_ := HR240_2))
                                            (first | (have n9_ := Aside0.mk (Kd.C_below (by repeat (first | (with_reducible exact HR241_2.out) | (with_reducible refine Kd.C_alloc ?_ _) | (with_reducible refine Kd.C_drewN ?_ _) | (with_reducible refine Kd.C_drew ?_) | exact HR241_2.out)) hb)) | (have n9_ := HR241_2))
                                            have n10_ := Aside0.mk (below_step (bz1 HB.out GE220.out) hb)
                                            clear HO_0
                                            clear HO_11
                                            clear HL231_2
                                            clear HL240_2
                                            clear HL241_2
                                            clear BK220
                                            clear HR231_2
                                            clear HR240_2
                                            clear HR241_2
                                            clear HB
                                            have HO_0 := n0_
                                            have HO_11 := n1_
                                            have HL231_2 := n2_
                                            have HL240_2 := n3_
                                            have HL241_2 := n4_
                                            have HO245 := n5_
                                            have BK220 := n6_
                                            have HR231_2 := n7_
                                            have HR240_2 := n8_
                                            have HR241_2 := n9_
                                            have HB := n10_
                                            clear n0_ n1_ n2_ n3_ n4_ n5_ n6_ n7_ n8_ n9_ n10_
                                            (try clear hb)
                                            (try clear hb2)
                                            (try clear hk)
                                            (try clear hi)
                                            (try clear ho0)
                                            obtain ⟨Ao49, co49, eo49⟩ := Kd.R_slice HO245.out
                                            (first | subst eo49 | (injection eo49 with f1_ f2_ f3_; have f4_ := f1_.symm; have f5_ := f3_.symm; clear f1_ f2_ f3_; subst f4_; subst f5_))
                                            have p43 : 0 ≤ (x13_3 : Int) := od_
                                            have q43 : (x13_3 : Int) < ((x11_2.length : Int) : Int) := od_
                                            obtain ⟨go43, co43, eo43, gb43, gl43, cl43, HG43⟩ := Kd.N_form HO_11.out (by omega)
                                            (first | cases eo43 | (injection eo43 with ea_ en_ ec_; (first | subst ea_ | (injection ea_ with ea_; subst ea_)); subst ec_; clear en_))
                                            have GB43 := Aside0.mk gb43
                                            have GG43 := Aside0.mk HG43
                                            clear gb43 gl43 HG43
                                            obtain ⟨ce43, hcl43, hM43, hcc43, hfr43⟩ := Kd.N_elem HO_11.out z58 (x13_3 : Int) p43 q43
                                            obtain ⟨ua43_2, uc43_2, rfl, ul43_2, ge43_2⟩ := k58_openF hM43
                                            have hx43_0 : World.cell? _ ⟨go43, (x13_3 : Int).toNat * 3, none⟩ = some (.string ((rd_T58 x11_2 x13_3).f0.f0)) := hcc43 0 _ rfl
                                            have hx43_1 : World.cell? _ ⟨go43, (x13_3 : Int).toNat * 3 + 1, none⟩ = some (.string ((rd_T58 x11_2 x13_3).f0.f1)) := hcc43 1 _ rfl
                                            have hx43_2 : World.cell? _ ⟨go43, (x13_3 : Int).toNat * 3 + 2, none⟩ = some (.slice ua43_2 ((rd_T58 x11_2 x13_3).f1).length uc43_2) := hcc43 2 _ rfl
                                            have hf43_0 : World.frozen? _ ⟨go43, (x13_3 : Int).toNat * 3, none⟩ = false := hfr43 0
                                            have hf43_1 : World.frozen? _ ⟨go43, (x13_3 : Int).toNat * 3 + 1, none⟩ = false := hfr43 1
                                            have hf43_2 : World.frozen? _ ⟨go43, (x13_3 : Int).toNat * 3 + 2, none⟩ = false := hfr43 2
                                            clear hcl43 hcc43 hfr43 hM43
                                            replace p43 := eq_true p43
                                            replace q43 := eq_true q43
                                            have HX50 := Aside0.mk (show Kd.N k58 58 _ w.heap.size (fun k_ => (P0_ k_ ∨ w.heap.size ≤ k_) ∧ some k_ ≠ (.slice Ao49 t243.length co49 : Value).ownBlock ∧ k_ ≠ gb220) (.slice (some ⟨go43, 0, none⟩) x11_2.length co43) x11_2 from (Kd.N_mono (HO_11.out) (fun k_ hk => ⟨hk.1.1, ⟨hk.2, hk.1.2⟩⟩)))
                                            replace HX50 := Aside0.mk (show Kd.N k58 58 _ w.heap.size (fun k_ => (P0_ k_ ∨ w.heap.size ≤ k_) ∧ k_ ≠ gb220) (.slice (some ⟨go43, 0, none⟩) x11_2.length co43) x11_2 from Kd.N_mono HX50.out (fun k_ hk => ⟨hk.1, hk.2.2⟩))
                                            obtain ⟨ce50, hcl50, hM50, hcc50, hfr50⟩ := Kd.N_elem HX50.out z58 (x13_3 : Int) (od_) (by have h_ : (x13_3 : Int) < ((x11_2.length : Int) : Int) := od_; first | exact h_ | (have e_ := (Kd.N_reads' HO_11.out).1; omega) | simpa using h_)
                                            obtain ⟨ua50_2, uc50_2, rfl, ul50_2, ge50_2⟩ := k58_openF hM50
                                            have HP50 := (Kd.N_seg HX50.out (x13_3 : Int) (od_) (by have h_ : (x13_3 : Int) < ((x11_2.length : Int) : Int) := od_; first | exact h_ | (have e_ := (Kd.N_reads' HO_11.out).1; omega) | simpa using h_) (seg := [.string ((rd_T58 l0 x13_3).f0.f0), .string ((rd_T58 l0 x13_3).f0.f1), .slice Ao49 t243.length co49]) (j := 0) hcl50 hcc50 (show 3 ≤ 3 from by decide) (x' := (⟨(⟨(rd_T58 l0 x13_3).f0.f0, (rd_T58 l0 x13_3).f0.f1⟩ : S55), t243⟩ : S58)) (k58_mkF _ _ (⟨(⟨(rd_T58 l0 x13_3).f0.f0, (rd_T58 l0 x13_3).f0.f1⟩ : S55), t243⟩ : S58) (Kd.R_reads' (Kd.R_mono (ok' := (fun k_ => ((fun k_ => (P0_ k_ ∨ w.heap.size ≤ k_) ∧ k_ ≠ gb220)) k_ ∧ k_ ≠ go43)) (Kd.R_types (Kd.R_apart' (HO245.out) (Kd.N_typed HO_11.out) (by decide)) BK220.out (by decide)) (fun k_ hk => ⟨⟨(.inr (hk.1.1.1)), hk.2⟩, fun e_ => (hk.1.2) (by rw [e_]; rfl)⟩))).2.1 (Kd.R_F (Kd.R_mono (ok' := (fun k_ => ((fun k_ => (P0_ k_ ∨ w.heap.size ≤ k_) ∧ k_ ≠ gb220)) k_ ∧ k_ ≠ go43)) (Kd.R_types (Kd.R_apart' (HO245.out) (Kd.N_typed HO_11.out) (by decide)) BK220.out (by decide)) (fun k_ hk => ⟨⟨(.inr (hk.1.1.1)), hk.2⟩, fun e_ => (hk.1.2) (by rw [e_]; rfl)⟩)))) (fun _ hk => hk)).1
                                            rw [← Ny246.out] at HP50
                                            have HQ50 := Aside0.mk HP50
                                            clear hcl50 hcc50 hfr50 hM50 HP50
                                            refine hK.out _ _ ⟨(blk_cell BK220.out 0).trans rfl, (blk_cell BK220.out 1).trans rfl, (blk_cell BK220.out 2).trans rfl, (blk_cell BK220.out 3).trans rfl, HS4_, HS5_, HS6_, HS7_, HS8_, HS9_, ((HB.out.cell (World.block_lt_of_cell? w _ hw242_0)).trans hw242_0), ((HB.out.cell (World.block_lt_of_cell? w _ hw242_1)).trans hw242_1), ((HB.out.cell (World.block_lt_of_cell? w _ hw242_2)).trans hw242_2)⟩ (fun hHeld => ?_)
                                            clear hK K
                                            refine norm_ (a' := ?_) ?_ ?_
                                            rotate_left
                                            · show Act.put _ (some 105) _ = _
                                              simp only [Act.put, List.setIfInBounds_toArray, List.set_cons_zero, List.set_cons_succ, i64_w, i32_w]
                                              rfl
                                            refine pv_ 20 106 (tf 21 2) HT_ ?_
                                            refine pv_ 21 107 (tf 22 1) HT_ ?_
                                            refine last_ (i := 22) (N := none) (tf 23 0) rfl rfl (one_of HT_.out (by kernel_rfl)) (by decide) (fun K hK => ?_)
                                            refine skip_ (w1 := ?_) (by rfl) rfl ?_ ?_
                                            rotate_left
                                            · go_simp
                                              rfl
                                            refine hK.out _ _ ?_
                                            clear hK K
                                            refine done_ (done_of HT_.out (by kernel_rfl)) ?_
                                            try go_wp2
                                            go_roundg kj25
                                            case measure => have := HJ5.out; have := HK2.out; have := HK3.out; have := HJ25.out; omega
                                            case rel => exact ⟨(y246), (wrap64 (x12_2 + 1)), rf_, H', ⟨by have := HJ5.out; have := HK2.out; have := HK3.out; have := HJ25.out; omega⟩, ⟨by (with_reducible repeat (first | apply Kd.V_alloc | apply Kd.V_drewN | apply Kd.V_drew)); exact Kd.V_mono (Kd.V_far (p := ⟨go43, (x13_3 : Int).toNat * 3 + 2, none⟩) (Kd.V_far (p := ⟨go43, (x13_3 : Int).toNat * 3 + 1, none⟩) (Kd.V_far (p := ⟨go43, (x13_3 : Int).toNat * 3, none⟩) (Kd.V_mono HO_0.out (fun k_ hk => (⟨hk, fun e_ => hk.1.2.1 (by rw [e_]; rfl)⟩ : _ ∧ k_ ≠ go43))) (fun _ hk => hk.2) (.string ((rd_T58 l0 x13_3).f0.f0))) (fun _ hk => hk.2) (.string ((rd_T58 l0 x13_3).f0.f1))) (fun _ hk => hk.2) (.slice Ao49 t243.length co49)) (fun _ hk => ⟨hk.1.1.1, ⟨hk.1.1.2.1, hk.1.1.2.2⟩⟩)⟩, ⟨by (with_reducible repeat (first | apply Kd.N_alloc | apply Kd.N_drewN | apply Kd.N_drew)); exact HQ50.out⟩, ⟨by (with_reducible repeat (first | refine blk_drewN ?_ _ | refine blk_drew ?_ | refine blk_alloc ?_ _)); refine blk_far ?_ (by have h_ := Kd.N_away HX50.out (fun _ hk => hk.2); intro e_; exact h_ (by rw [e_]; rfl)) _; (with_reducible repeat (first | refine blk_drewN ?_ _ | refine blk_drew ?_ | refine blk_alloc ?_ _)); refine blk_far ?_ (by have h_ := Kd.N_away HX50.out (fun _ hk => hk.2); intro e_; exact h_ (by rw [e_]; rfl)) _; (with_reducible repeat (first | refine blk_drewN ?_ _ | refine blk_drew ?_ | refine blk_alloc ?_ _)); refine blk_far ?_ (by have h_ := Kd.N_away HX50.out (fun _ hk => hk.2); intro e_; exact h_ (by rw [e_]; rfl)) _; (with_reducible repeat (first | refine blk_drewN ?_ _ | refine blk_drew ?_ | refine blk_alloc ?_ _)); exact BK220.out⟩, ⟨by repeat (first | (with_reducible first | exact HB.out | apply below_alloc | apply pw_below_drewN | apply below_drew1 | refine below_set ?_ GB43.out | refine below_set ?_ GB43.out | refine below_set ?_ GB43.out | refine below_set ?_ GE220.out) | exact HB.out)⟩⟩
                                          · rw [if_neg c42] at H
                                            exact absurd H (by simp)
                                      · rw [if_neg c36] at H
                                        exact absurd H (by simp)
                                    · rw [if_neg c35] at H
                                      exact absurd H (by simp)
                                  · rw [if_neg c32] at H
                                    exact absurd H (by simp)
                                · rw [if_neg c31] at H
                                  exact absurd H (by simp)
                · rw [if_neg c14] at H
                  exact absurd H (by simp)
              · rw [if_neg c13] at H
                have c13b0 : decide (x12_2 < (l3.length : Int)) = false := decide_eq_false c13
                clear c13
                simp only [Option.some.injEq, Prod.mk.injEq] at H
                obtain ⟨rfl, rfl⟩ := H
                go_wp2
                go_ret2
                exact ⟨_, by first | rfl | (simp [errW_none, errW_some] <;> rfl) | (simp [*, errW_none, errW_some] <;> rfl), by (with_reducible repeat (first | apply Kd.N_alloc | apply Kd.N_drewN | apply Kd.N_drew)); exact Kd.N_mono HO_11.out (fun _ hk => hk.1), bz1 HB.out GE220.out⟩
        · rw [if_neg c11] at H
          exact absurd H (by simp)
      · rw [if_neg c10] at H
        have c10b0 : (x10_5 == 0) = false := beq_eq_false_iff_ne.mpr c10
        have c10b1 : (x10_5 != 0) = true := bne_iff_ne.mpr c10
        simp only [Option.some.injEq, Prod.mk.injEq] at H
        obtain ⟨rfl, rfl⟩ := H
        go_wp2
        go_ret2
        exact ⟨_, by first | rfl | (simp [errW_none, errW_some] <;> rfl) | (simp [*, errW_none, errW_some] <;> rfl), by first | exact Kd.S_nil _ _ _ _ _ | exact Kd.N_nil _ _ _ _ _ | exact Kd.V_nil _ _ _ _ _ | exact Kd.Q_nil _ _ _ _ _ | exact Kd.R_nil _ _ _ _ _, bz1 HB.out GE220.out⟩

end Go.Proofs.Ytjmkdmbgldcleaa.PTearApplies
