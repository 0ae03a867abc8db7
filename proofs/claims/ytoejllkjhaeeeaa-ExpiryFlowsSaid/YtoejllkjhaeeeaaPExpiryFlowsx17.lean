import Derived.Test.YtoejllkjhaeeeaaPExpiryFlowsx0
import Derived.Test.YtoejllkjhaeeeaaPExpiryFlowsx2
import Derived.Test.YtoejllkjhaeeeaaPExpiryFlowsx15
import Derived.Test.YtoejllkjhaeeeaaPExpiryFlowsx16
namespace Go.Proofs.Ytoejllkjhaeeeaa.PExpiryFlows
open Go.RowKit Go.Proofs.YtoejllkjhaeeeaaW.PrintWords Go.Proofs.YtoejllkjhaeeeaaW.PrintLast Go.Proofs.YtoejllkjhaeeeaaW.PrintMore
attribute [local go_sem] max2_int min2_int max_two min_two max_three min_three max_four min_four Go.Proofs.YtoejllkjhaeeeaaHand.run_leq_str Go.Proofs.YtoejllkjhaeeeaaHand.run_gtr_str Go.Proofs.YtoejllkjhaeeeaaHand.run_geq_str   -- for this text's walks alone
set_option linter.unusedVariables false
set_option linter.unusedSimpArgs false

attribute [local go_sem high] eqA25
/-! ### contangoref51_Cash: function 9 -/
mutual
def contangoref51_Cash.j0 : Nat → Int → Bool → ByteArray → Int → Int → Int → Int → Int → Bool → ByteArray → Int → Int → Int → ByteArray → Int → Int → Int → Int → Int → Option (Int × Int)
  | 0, _, _, _, _, _, _, _, _, _, _, _, _, _, _, _, _, _, _, _ => none
  | k + 1, x3, x27, x182000, x182001, x182002, x182003, x182004, x182005, x182006, x183000, x183001, x183002, x183003, x184000, x184001, x184002, x184003, x184004, x184005 => if x27 = true then (some (0, 19)) else (if x184004 < 0 then (contangoref51_Cash.j1 k x3 true x182000 x182001 x182002 x182003 x182004 x182005 x182006 x183000 x183001 x183002 x183003 x184000 x184001 x184002 x184003 x184004 x184005) else (if x184004 > 1048576 then (contangoref51_Cash.j1 k x3 true x182000 x182001 x182002 x182003 x182004 x182005 x182006 x183000 x183001 x183002 x183003 x184000 x184001 x184002 x184003 x184004 x184005) else (if x184005 < 0 then (contangoref51_Cash.j1 k x3 true x182000 x182001 x182002 x182003 x182004 x182005 x182006 x183000 x183001 x183002 x183003 x184000 x184001 x184002 x184003 x184004 x184005) else (contangoref51_Cash.j1 k x3 (decide (x184005 > 1048576)) x182000 x182001 x182002 x182003 x182004 x182005 x182006 x183000 x183001 x183002 x183003 x184000 x184001 x184002 x184003 x184004 x184005))))
def contangoref51_Cash.j1 : Nat → Int → Bool → ByteArray → Int → Int → Int → Int → Int → Bool → ByteArray → Int → Int → Int → ByteArray → Int → Int → Int → Int → Int → Option (Int × Int)
  | 0, _, _, _, _, _, _, _, _, _, _, _, _, _, _, _, _, _, _, _ => none
  | k + 1, x3, x45, x182000, x182001, x182002, x182003, x182004, x182005, x182006, x183000, x183001, x183002, x183003, x184000, x184001, x184002, x184003, x184004, x184005 => if x45 = true then (some (0, 18)) else ((contangoref21_Intrinsic.f k x183000 x183001 x183002 x183003 x3).bind fun t185 => ((contangoref09_Value.f k x182000 x182001 x182002 x182003 x182004 x182005 x182006 t185 (wrap64 (x184004 - x184005))).bind fun bt186 => (some (bt186.1, bt186.2))))
end
def contangoref51_Cash.f (k : Nat) (a0_0 : ByteArray) (a0_1 : Int) (a0_2 : Int) (a0_3 : Int) (a0_4 : Int) (a0_5 : Int) (a0_6 : Bool) (a1_0 : ByteArray) (a1_1 : Int) (a1_2 : Int) (a1_3 : Int) (a2_0 : ByteArray) (a2_1 : Int) (a2_2 : Int) (a2_3 : Int) (a2_4 : Int) (a2_5 : Int) (a3 : Int) : Option (Int × Int) := (contangoref09_Price.f k a0_0 a0_1 a0_2 a0_3 a0_4 a0_5 a0_6 a3).bind fun t184 => (if t184 = 0 then (if ((eqD25 a2_0 a1_0 a2_1 a1_1 a2_2 a1_2 a2_3 a1_3) = true) then (contangoref51_Cash.j0 k a3 (a1_0.toList != a0_0.toList) a0_0 a0_1 a0_2 a0_3 a0_4 a0_5 a0_6 a1_0 a1_1 a1_2 a1_3 a2_0 a2_1 a2_2 a2_3 a2_4 a2_5) else (contangoref51_Cash.j0 k a3 true a0_0 a0_1 a0_2 a0_3 a0_4 a0_5 a0_6 a1_0 a1_1 a1_2 a1_3 a2_0 a2_1 a2_2 a2_3 a2_4 a2_5)) else (some (0, t184)))
theorem contangoref51_Cash.mono_l : ∀ k, (∀ y0 y1 y2 y3 y4 y5 y6 y7 y8 y9 y10 y11 y12 y13 y14 y15 y16 y17 y18, LeO (contangoref51_Cash.j0 k y0 y1 y2 y3 y4 y5 y6 y7 y8 y9 y10 y11 y12 y13 y14 y15 y16 y17 y18) (contangoref51_Cash.j0 (k + 1) y0 y1 y2 y3 y4 y5 y6 y7 y8 y9 y10 y11 y12 y13 y14 y15 y16 y17 y18)) ∧ (∀ y0 y1 y2 y3 y4 y5 y6 y7 y8 y9 y10 y11 y12 y13 y14 y15 y16 y17 y18, LeO (contangoref51_Cash.j1 k y0 y1 y2 y3 y4 y5 y6 y7 y8 y9 y10 y11 y12 y13 y14 y15 y16 y17 y18) (contangoref51_Cash.j1 (k + 1) y0 y1 y2 y3 y4 y5 y6 y7 y8 y9 y10 y11 y12 y13 y14 y15 y16 y17 y18))
  | 0 => ⟨fun _ _ _ _ _ _ _ _ _ _ _ _ _ _ _ _ _ _ _ r h => by simp [contangoref51_Cash.j0] at h, fun _ _ _ _ _ _ _ _ _ _ _ _ _ _ _ _ _ _ _ r h => by simp [contangoref51_Cash.j1] at h⟩
  | k + 1 => by
    obtain ⟨ih0, ih1⟩ := contangoref51_Cash.mono_l k
    refine ⟨?_, ?_⟩
    · intro y0 y1 y2 y3 y4 y5 y6 y7 y8 y9 y10 y11 y12 y13 y14 y15 y16 y17 y18
      unfold contangoref51_Cash.j0
      repeat' first
      | (with_reducible exact ih0 _ _ _ _ _ _ _ _ _ _ _ _ _ _ _ _ _ _ _)
      | (with_reducible exact ih1 _ _ _ _ _ _ _ _ _ _ _ _ _ _ _ _ _ _ _)
      | (with_reducible exact contangoref09_Price.mono _ _ _ _ _ _ _ _ _)
      | (with_reducible exact contangoref09_Value.mono _ _ _ _ _ _ _ _ _ _)
      | (with_reducible exact contangoref21_Intrinsic.mono _ _ _ _ _ _)
      | (with_reducible exact LeO.refl _)
      | (with_reducible exact LeO.none _)
      | (with_reducible refine LeO.ite ?_ ?_)
      | (with_reducible refine LeO.bind ?_ (fun _ => ?_))
      | exact LeO.none _
      | refine LeO.ite ?_ ?_
      | refine LeO.bind ?_ (fun _ => ?_)
    · intro y0 y1 y2 y3 y4 y5 y6 y7 y8 y9 y10 y11 y12 y13 y14 y15 y16 y17 y18
      unfold contangoref51_Cash.j1
      repeat' first
      | (with_reducible exact ih0 _ _ _ _ _ _ _ _ _ _ _ _ _ _ _ _ _ _ _)
      | (with_reducible exact ih1 _ _ _ _ _ _ _ _ _ _ _ _ _ _ _ _ _ _ _)
      | (with_reducible exact contangoref09_Price.mono _ _ _ _ _ _ _ _ _)
      | (with_reducible exact contangoref09_Value.mono _ _ _ _ _ _ _ _ _ _)
      | (with_reducible exact contangoref21_Intrinsic.mono _ _ _ _ _ _)
      | (with_reducible exact LeO.refl _)
      | (with_reducible exact LeO.none _)
      | (with_reducible refine LeO.ite ?_ ?_)
      | (with_reducible refine LeO.bind ?_ (fun _ => ?_))
      | exact LeO.none _
      | refine LeO.ite ?_ ?_
      | refine LeO.bind ?_ (fun _ => ?_)
theorem contangoref51_Cash.mono : ∀ a0 a1 a2 a3 a4 a5 a6 a7 a8 a9 a10 a11 a12 a13 a14 a15 a16 a17 k, LeO (contangoref51_Cash.f k a0 a1 a2 a3 a4 a5 a6 a7 a8 a9 a10 a11 a12 a13 a14 a15 a16 a17) (contangoref51_Cash.f (k + 1) a0 a1 a2 a3 a4 a5 a6 a7 a8 a9 a10 a11 a12 a13 a14 a15 a16 a17) := by
  intro a0 a1 a2 a3 a4 a5 a6 a7 a8 a9 a10 a11 a12 a13 a14 a15 a16 a17 k
  obtain ⟨ih0, ih1⟩ := contangoref51_Cash.mono_l k
  unfold contangoref51_Cash.f
  repeat' first
      | (with_reducible exact ih0 _ _ _ _ _ _ _ _ _ _ _ _ _ _ _ _ _ _ _)
      | (with_reducible exact ih1 _ _ _ _ _ _ _ _ _ _ _ _ _ _ _ _ _ _ _)
      | (with_reducible exact contangoref09_Price.mono _ _ _ _ _ _ _ _ _)
      | (with_reducible exact contangoref09_Value.mono _ _ _ _ _ _ _ _ _ _)
      | (with_reducible exact contangoref21_Intrinsic.mono _ _ _ _ _ _)
      | (with_reducible exact LeO.refl _)
      | (with_reducible exact LeO.none _)
      | (with_reducible refine LeO.ite ?_ ?_)
      | (with_reducible refine LeO.bind ?_ (fun _ => ?_))
      | exact LeO.none _
      | refine LeO.ite ?_ ?_
      | refine LeO.bind ?_ (fun _ => ?_)
def contangoref51_Cash.T8 : Bool × List (List Nat × List Nat) := (true, [([], []), ([], []), ([], []), ([1, 2], [1, 2]), ([], []), ([4], [4]), ([], []), ([6], [6]), ([5, 7], [5, 7]), ([0, 3, 8, 3], [0, 3, 8]), ([9], [9]), ([9], [9]), ([10, 9, 0, 1, 2, 3, 4, 5, 6, 7, 8, 9, 10, 11], [10]), ([11, 12, 0, 1, 2, 3, 4, 5, 6, 7, 8, 9, 10, 11, 12], [11])])
def contangoref51_Cash.B8 : List Nat := [0, 0, 0, 6, 0, 16, 0, 64, 240, 511, 1023, 1023, 4095, 8191]
theorem contangoref51_Cash.tab8 : rtab .any (opsOf Try.f9 8) = contangoref51_Cash.T8 := by kernel_rfl
theorem contangoref51_Cash.bits8 : waitsOk contangoref51_Cash.T8.2 contangoref51_Cash.B8 = true := by kernel_rfl
set_option maxHeartbeats 8000000 in
set_option maxRecDepth 100000 in
theorem contangoref51_Cash.calls (k : Nat) (a0_0 : ByteArray) (a0_1 : Int) (a0_2 : Int) (a0_3 : Int) (a0_4 : Int) (a0_5 : Int) (a0_6 : Bool) (a1_0 : ByteArray) (a1_1 : Int) (a1_2 : Int) (a1_3 : Int) (a2_0 : ByteArray) (a2_1 : Int) (a2_2 : Int) (a2_3 : Int) (a2_4 : Int) (a2_5 : Int) (a3 : Int) (r1 : Int) (r2 : Int) (w : World) (h : contangoref51_Cash.f k a0_0 a0_1 a0_2 a0_3 a0_4 a0_5 a0_6 a1_0 a1_1 a1_2 a1_3 a2_0 a2_1 a2_2 a2_3 a2_4 a2_5 a3 = some (r1, r2)) :
    Calls Try.prog 9 #[.agg #[.string a0_0, .int .i64 a0_1, .int .i64 a0_2, .int .i64 a0_3, .int .i64 a0_4, .int .i64 a0_5, .bool a0_6], .agg #[.string a1_0, .int .i64 a1_1, .int .i64 a1_2, .int .i64 a1_3], .agg #[.string a2_0, .int .i64 a2_1, .int .i64 a2_2, .int .i64 a2_3, .int .i64 a2_4, .int .i64 a2_5], .int .i64 a3] w fun e w' => e = .returned (.tuple #[.int .i64 r1, .int .i64 r2]) ∧ Below w.heap.size w w' := by
 have hu23 := Try.underlying23
 have hu25 := Try.underlying25
 have hu27 := Try.underlying27
 have HB := Aside0.mk (Below.refl w.heap.size w)
 have H : ((contangoref09_Price.f k a0_0 a0_1 a0_2 a0_3 a0_4 a0_5 a0_6 a3).bind fun t184 => (if t184 = 0 then (if ((eqD25 a2_0 a1_0 a2_1 a1_1 a2_2 a1_2 a2_3 a1_3) = true) then (contangoref51_Cash.j0 k a3 (a1_0.toList != a0_0.toList) a0_0 a0_1 a0_2 a0_3 a0_4 a0_5 a0_6 a1_0 a1_1 a1_2 a1_3 a2_0 a2_1 a2_2 a2_3 a2_4 a2_5) else (contangoref51_Cash.j0 k a3 true a0_0 a0_1 a0_2 a0_3 a0_4 a0_5 a0_6 a1_0 a1_1 a1_2 a1_3 a2_0 a2_1 a2_2 a2_3 a2_4 a2_5)) else (some (0, t184)))) = some (r1, r2) := h
 clear h
 replace H := Option.bind_eq_some_iff.mp H
 obtain ⟨t184, A50, H⟩ := H
 replace H : (if t184 = 0 then (if ((eqD25 a2_0 a1_0 a2_1 a1_1 a2_2 a1_2 a2_3 a1_3) = true) then (contangoref51_Cash.j0 k a3 (a1_0.toList != a0_0.toList) a0_0 a0_1 a0_2 a0_3 a0_4 a0_5 a0_6 a1_0 a1_1 a1_2 a1_3 a2_0 a2_1 a2_2 a2_3 a2_4 a2_5) else (contangoref51_Cash.j0 k a3 true a0_0 a0_1 a0_2 a0_3 a0_4 a0_5 a0_6 a1_0 a1_1 a1_2 a1_3 a2_0 a2_1 a2_2 a2_3 a2_4 a2_5)) else (some (0, t184))) = some (r1, r2) := H
 have A5 := Aside0.mk A50
 clear A50
 by_cases c6 : t184 = 0
 rotate_left
 · rw [if_neg c6] at H
   have c6b0 : (t184 == 0) = false := beq_eq_false_iff_ne.mpr c6
   have c6b1 : (t184 != 0) = true := bne_iff_ne.mpr c6
   simp only [Option.some.injEq, Prod.mk.injEq] at H
   obtain ⟨rfl, rfl⟩ := H
   go_enter Try.func9, Try.ntmps9
   go_wp2_with (first | ((with_reducible refine gate_dst (N := 4) rfl ?_); refine box_event ?hg (N := 4) ?hd (cs := #[.string a0_0, .int .i64 a0_1, .int .i64 a0_2, .int .i64 a0_3, .int .i64 a0_4, .int .i64 a0_5, .bool a0_6]) (t := 23) ?hr ?_; (case hd => rfl); (case hg => rfl); (case hr => first | (go_simp; done) | (go_simp; rfl)); intro gb181 hg w50 hbox hb; have n0_ := Aside0.mk (below_step (bz0 HB.out) hb); have n1_ := Aside0.mk (hbox); have n2_ := Aside0.mk ((by rw [hg]; exact (below_size (bz0 HB.out)) : w.heap.size ≤ gb181)); have n3_ := Aside0.mk ((by rw [hg]; exact (below_size (bz0 HB.out)) : w.heap.size ≤ gb181)); clear HB; have HB := n0_; have BK181 := n1_; have GW181 := n2_; have GE181 := n3_; clear n0_ n1_ n2_ n3_; clear hb hbox hg) | ((with_reducible refine gate_dst (N := 5) rfl ?_); refine box_event ?hg (N := 5) ?hd (cs := #[.string a1_0, .int .i64 a1_1, .int .i64 a1_2, .int .i64 a1_3]) (t := 25) ?hr ?_; (case hd => rfl); (case hg => rfl); (case hr => first | (go_simp; done) | (go_simp; rfl)); intro gb182 hg w51 hbox hb; have n0_ := Aside0.mk (blk_below (g := gb181) (o := .cells #[.string a0_0, .int .i64 a0_1, .int .i64 a0_2, .int .i64 a0_3, .int .i64 a0_4, .int .i64 a0_5, .bool a0_6] 23 (0, 0)) (bk_ BK181.out) hb); have n1_ := Aside0.mk (below_step (bz1 HB.out GE181.out) hb); have n2_ := Aside0.mk (hbox); have n3_ := Aside0.mk ((by rw [hg]; exact (below_size (bz1 HB.out GE181.out)) : w.heap.size ≤ gb182)); have n4_ := Aside0.mk ((by rw [hg]; exact (below_size (bz1 HB.out GE181.out)) : w.heap.size ≤ gb182)); have n5_ := Aside0.mk ((by rw [hg]; exact Nat.ne_of_lt (blk_lt (g := gb181) (o := .cells #[.string a0_0, .int .i64 a0_1, .int .i64 a0_2, .int .i64 a0_3, .int .i64 a0_4, .int .i64 a0_5, .bool a0_6] 23 (0, 0)) (bk_ BK181.out)) : gb181 ≠ gb182)); have n6_ := Aside0.mk ((by rw [hg]; exact Nat.ne_of_gt (blk_lt (g := gb181) (o := .cells #[.string a0_0, .int .i64 a0_1, .int .i64 a0_2, .int .i64 a0_3, .int .i64 a0_4, .int .i64 a0_5, .bool a0_6] 23 (0, 0)) (bk_ BK181.out)) : gb182 ≠ gb181)); clear BK181; clear HB; have BK181 := n0_; have HB := n1_; have BK182 := n2_; have GW182 := n3_; have GE182 := n4_; have NB181_182 := n5_; have NB182_181 := n6_; clear n0_ n1_ n2_ n3_ n4_ n5_ n6_; clear hb hbox hg) | ((with_reducible refine gate_dst (N := 6) rfl ?_); refine box_event ?hg (N := 6) ?hd (cs := #[.string a2_0, .int .i64 a2_1, .int .i64 a2_2, .int .i64 a2_3, .int .i64 a2_4, .int .i64 a2_5]) (t := 27) ?hr ?_; (case hd => rfl); (case hg => rfl); (case hr => first | (go_simp; done) | (go_simp; rfl)); intro gb183 hg w52 hbox hb; have n0_ := Aside0.mk (blk_below (g := gb181) (o := .cells #[.string a0_0, .int .i64 a0_1, .int .i64 a0_2, .int .i64 a0_3, .int .i64 a0_4, .int .i64 a0_5, .bool a0_6] 23 (0, 0)) (bk_ BK181.out) hb); have n1_ := Aside0.mk (blk_below (g := gb182) (o := .cells #[.string a1_0, .int .i64 a1_1, .int .i64 a1_2, .int .i64 a1_3] 25 (0, 0)) (bk_ BK182.out) hb); have n2_ := Aside0.mk (below_step (bz2 HB.out GE181.out GE182.out) hb); have n3_ := Aside0.mk (hbox); have n4_ := Aside0.mk ((by rw [hg]; exact (below_size (bz2 HB.out GE181.out GE182.out)) : w.heap.size ≤ gb183)); have n5_ := Aside0.mk ((by rw [hg]; exact (below_size (bz2 HB.out GE181.out GE182.out)) : w.heap.size ≤ gb183)); have n6_ := Aside0.mk ((by rw [hg]; exact Nat.ne_of_lt (blk_lt (g := gb181) (o := .cells #[.string a0_0, .int .i64 a0_1, .int .i64 a0_2, .int .i64 a0_3, .int .i64 a0_4, .int .i64 a0_5, .bool a0_6] 23 (0, 0)) (bk_ BK181.out)) : gb181 ≠ gb183)); have n7_ := Aside0.mk ((by rw [hg]; exact Nat.ne_of_gt (blk_lt (g := gb181) (o := .cells #[.string a0_0, .int .i64 a0_1, .int .i64 a0_2, .int .i64 a0_3, .int .i64 a0_4, .int .i64 a0_5, .bool a0_6] 23 (0, 0)) (bk_ BK181.out)) : gb183 ≠ gb181)); have n8_ := Aside0.mk ((by rw [hg]; exact Nat.ne_of_lt (blk_lt (g := gb182) (o := .cells #[.string a1_0, .int .i64 a1_1, .int .i64 a1_2, .int .i64 a1_3] 25 (0, 0)) (bk_ BK182.out)) : gb182 ≠ gb183)); have n9_ := Aside0.mk ((by rw [hg]; exact Nat.ne_of_gt (blk_lt (g := gb182) (o := .cells #[.string a1_0, .int .i64 a1_1, .int .i64 a1_2, .int .i64 a1_3] 25 (0, 0)) (bk_ BK182.out)) : gb183 ≠ gb182)); clear BK181; clear BK182; clear HB; have BK181 := n0_; have BK182 := n1_; have HB := n2_; have BK183 := n3_; have GW183 := n4_; have GE183 := n5_; have NB181_183 := n6_; have NB183_181 := n7_; have NB182_183 := n8_; have NB183_182 := n9_; clear n0_ n1_ n2_ n3_ n4_ n5_ n6_ n7_ n8_ n9_; clear hb hbox hg; have hnb53 := NB181_182.out; have hnc53 := NB182_181.out; have hnb54 := NB181_183.out; have hnc54 := NB183_181.out; have hcz55_0 : w52.cell? ⟨gb181, 0, none⟩ = some (.string a0_0) := (blk_cell BK181.out 0).trans rfl; have hcz55_1 : w52.cell? ⟨gb181, 1, none⟩ = some (.int .i64 a0_1) := (blk_cell BK181.out 1).trans rfl; have hcz55_2 : w52.cell? ⟨gb181, 2, none⟩ = some (.int .i64 a0_2) := (blk_cell BK181.out 2).trans rfl; have hcz55_3 : w52.cell? ⟨gb181, 3, none⟩ = some (.int .i64 a0_3) := (blk_cell BK181.out 3).trans rfl; have hcz55_4 : w52.cell? ⟨gb181, 4, none⟩ = some (.int .i64 a0_4) := (blk_cell BK181.out 4).trans rfl; have hcz55_5 : w52.cell? ⟨gb181, 5, none⟩ = some (.int .i64 a0_5) := (blk_cell BK181.out 5).trans rfl; have hcz55_6 : w52.cell? ⟨gb181, 6, none⟩ = some (.bool a0_6) := (blk_cell BK181.out 6).trans rfl; have hfz55_0 := blk_frozen BK181.out 0; have hfz55_1 := blk_frozen BK181.out 1; have hfz55_2 := blk_frozen BK181.out 2; have hfz55_3 := blk_frozen BK181.out 3; have hfz55_4 := blk_frozen BK181.out 4; have hfz55_5 := blk_frozen BK181.out 5; have hfz55_6 := blk_frozen BK181.out 6) | ((with_reducible refine gate_callee (f := 30) rfl ?_); refine goesL_ (some 13) rfl rfl Try.func30 (by kernel_rfl) rfl #[.agg #[.string a0_0, .int .i64 a0_1, .int .i64 a0_2, .int .i64 a0_3, .int .i64 a0_4, .int .i64 a0_5, .bool a0_6], .int .i64 a3] rfl pm_ ?_; (with_reducible refine (contangoref09_Price.calls k a0_0 a0_1 a0_2 a0_3 a0_4 a0_5 a0_6 a3 t184 _ A5.out).mono ?_); rintro e w56 ⟨rfl, hb⟩; refine ⟨_, rfl, ?_⟩; have n0_ := Aside0.mk (blk_below (g := gb181) (o := .cells #[.string a0_0, .int .i64 a0_1, .int .i64 a0_2, .int .i64 a0_3, .int .i64 a0_4, .int .i64 a0_5, .bool a0_6] 23 (0, 0)) (bk_ BK181.out) hb); have n1_ := Aside0.mk (blk_below (g := gb182) (o := .cells #[.string a1_0, .int .i64 a1_1, .int .i64 a1_2, .int .i64 a1_3] 25 (0, 0)) (bk_ BK182.out) hb); have n2_ := Aside0.mk (blk_below (g := gb183) (o := .cells #[.string a2_0, .int .i64 a2_1, .int .i64 a2_2, .int .i64 a2_3, .int .i64 a2_4, .int .i64 a2_5] 27 (0, 0)) (bk_ BK183.out) hb); have n3_ := Aside0.mk (below_step (bz3 HB.out GE181.out GE182.out GE183.out) hb); clear BK181; clear BK182; clear BK183; clear HB; have BK181 := n0_; have BK182 := n1_; have BK183 := n2_; have HB := n3_; clear n0_ n1_ n2_ n3_; (try clear hb); (try clear hb2); (try clear hk); (try clear hi)))
   go_ret2
   exact ⟨by first | rfl | (simp [errW_none, errW_some] <;> rfl) | (simp [*, errW_none, errW_some] <;> rfl), bz3 HB.out GE181.out GE182.out GE183.out⟩
 rw [if_pos c6] at H
 have c6b0 : (t184 == 0) = true := beq_iff_eq.mpr c6
 have c6b1 : (t184 != 0) = false := bne_eq_false_iff_eq.mpr c6
 clear c6
 have HC7 := Aside0.mk H
 clear H
 go_enter Try.func9, Try.ntmps9
 go_upto_region 4 with (first | ((with_reducible refine gate_dst (N := 4) rfl ?_); refine box_event ?hg (N := 4) ?hd (cs := #[.string a0_0, .int .i64 a0_1, .int .i64 a0_2, .int .i64 a0_3, .int .i64 a0_4, .int .i64 a0_5, .bool a0_6]) (t := 23) ?hr ?_; (case hd => rfl); (case hg => rfl); (case hr => first | (go_simp; done) | (go_simp; rfl)); intro gb181 hg w8 hbox hb; have n0_ := Aside0.mk (below_step (bz0 HB.out) hb); have n1_ := Aside0.mk (hbox); have n2_ := Aside0.mk ((by rw [hg]; exact (below_size (bz0 HB.out)) : w.heap.size ≤ gb181)); have n3_ := Aside0.mk ((by rw [hg]; exact (below_size (bz0 HB.out)) : w.heap.size ≤ gb181)); clear HB; have HB := n0_; have BK181 := n1_; have GW181 := n2_; have GE181 := n3_; clear n0_ n1_ n2_ n3_; clear hb hbox hg) | ((with_reducible refine gate_dst (N := 5) rfl ?_); refine box_event ?hg (N := 5) ?hd (cs := #[.string a1_0, .int .i64 a1_1, .int .i64 a1_2, .int .i64 a1_3]) (t := 25) ?hr ?_; (case hd => rfl); (case hg => rfl); (case hr => first | (go_simp; done) | (go_simp; rfl)); intro gb182 hg w9 hbox hb; have n0_ := Aside0.mk (blk_below (g := gb181) (o := .cells #[.string a0_0, .int .i64 a0_1, .int .i64 a0_2, .int .i64 a0_3, .int .i64 a0_4, .int .i64 a0_5, .bool a0_6] 23 (0, 0)) (bk_ BK181.out) hb); have n1_ := Aside0.mk (below_step (bz1 HB.out GE181.out) hb); have n2_ := Aside0.mk (hbox); have n3_ := Aside0.mk ((by rw [hg]; exact (below_size (bz1 HB.out GE181.out)) : w.heap.size ≤ gb182)); have n4_ := Aside0.mk ((by rw [hg]; exact (below_size (bz1 HB.out GE181.out)) : w.heap.size ≤ gb182)); have n5_ := Aside0.mk ((by rw [hg]; exact Nat.ne_of_lt (blk_lt (g := gb181) (o := .cells #[.string a0_0, .int .i64 a0_1, .int .i64 a0_2, .int .i64 a0_3, .int .i64 a0_4, .int .i64 a0_5, .bool a0_6] 23 (0, 0)) (bk_ BK181.out)) : gb181 ≠ gb182)); have n6_ := Aside0.mk ((by rw [hg]; exact Nat.ne_of_gt (blk_lt (g := gb181) (o := .cells #[.string a0_0, .int .i64 a0_1, .int .i64 a0_2, .int .i64 a0_3, .int .i64 a0_4, .int .i64 a0_5, .bool a0_6] 23 (0, 0)) (bk_ BK181.out)) : gb182 ≠ gb181)); clear BK181; clear HB; have BK181 := n0_; have HB := n1_; have BK182 := n2_; have GW182 := n3_; have GE182 := n4_; have NB181_182 := n5_; have NB182_181 := n6_; clear n0_ n1_ n2_ n3_ n4_ n5_ n6_; clear hb hbox hg) | ((with_reducible refine gate_dst (N := 6) rfl ?_); refine box_event ?hg (N := 6) ?hd (cs := #[.string a2_0, .int .i64 a2_1, .int .i64 a2_2, .int .i64 a2_3, .int .i64 a2_4, .int .i64 a2_5]) (t := 27) ?hr ?_; (case hd => rfl); (case hg => rfl); (case hr => first | (go_simp; done) | (go_simp; rfl)); intro gb183 hg w10 hbox hb; have n0_ := Aside0.mk (blk_below (g := gb181) (o := .cells #[.string a0_0, .int .i64 a0_1, .int .i64 a0_2, .int .i64 a0_3, .int .i64 a0_4, .int .i64 a0_5, .bool a0_6] 23 (0, 0)) (bk_ BK181.out) hb); have n1_ := Aside0.mk (blk_below (g := gb182) (o := .cells #[.string a1_0, .int .i64 a1_1, .int .i64 a1_2, .int .i64 a1_3] 25 (0, 0)) (bk_ BK182.out) hb); have n2_ := Aside0.mk (below_step (bz2 HB.out GE181.out GE182.out) hb); have n3_ := Aside0.mk (hbox); have n4_ := Aside0.mk ((by rw [hg]; exact (below_size (bz2 HB.out GE181.out GE182.out)) : w.heap.size ≤ gb183)); have n5_ := Aside0.mk ((by rw [hg]; exact (below_size (bz2 HB.out GE181.out GE182.out)) : w.heap.size ≤ gb183)); have n6_ := Aside0.mk ((by rw [hg]; exact Nat.ne_of_lt (blk_lt (g := gb181) (o := .cells #[.string a0_0, .int .i64 a0_1, .int .i64 a0_2, .int .i64 a0_3, .int .i64 a0_4, .int .i64 a0_5, .bool a0_6] 23 (0, 0)) (bk_ BK181.out)) : gb181 ≠ gb183)); have n7_ := Aside0.mk ((by rw [hg]; exact Nat.ne_of_gt (blk_lt (g := gb181) (o := .cells #[.string a0_0, .int .i64 a0_1, .int .i64 a0_2, .int .i64 a0_3, .int .i64 a0_4, .int .i64 a0_5, .bool a0_6] 23 (0, 0)) (bk_ BK181.out)) : gb183 ≠ gb181)); have n8_ := Aside0.mk ((by rw [hg]; exact Nat.ne_of_lt (blk_lt (g := gb182) (o := .cells #[.string a1_0, .int .i64 a1_1, .int .i64 a1_2, .int .i64 a1_3] 25 (0, 0)) (bk_ BK182.out)) : gb182 ≠ gb183)); have n9_ := Aside0.mk ((by rw [hg]; exact Nat.ne_of_gt (blk_lt (g := gb182) (o := .cells #[.string a1_0, .int .i64 a1_1, .int .i64 a1_2, .int .i64 a1_3] 25 (0, 0)) (bk_ BK182.out)) : gb183 ≠ gb182)); clear BK181; clear BK182; clear HB; have BK181 := n0_; have BK182 := n1_; have HB := n2_; have BK183 := n3_; have GW183 := n4_; have GE183 := n5_; have NB181_183 := n6_; have NB183_181 := n7_; have NB182_183 := n8_; have NB183_182 := n9_; clear n0_ n1_ n2_ n3_ n4_ n5_ n6_ n7_ n8_ n9_; clear hb hbox hg; have hnb11 := NB181_182.out; have hnc11 := NB182_181.out; have hnb12 := NB181_183.out; have hnc12 := NB183_181.out; have hcz13_0 : w10.cell? ⟨gb181, 0, none⟩ = some (.string a0_0) := (blk_cell BK181.out 0).trans rfl; have hcz13_1 : w10.cell? ⟨gb181, 1, none⟩ = some (.int .i64 a0_1) := (blk_cell BK181.out 1).trans rfl; have hcz13_2 : w10.cell? ⟨gb181, 2, none⟩ = some (.int .i64 a0_2) := (blk_cell BK181.out 2).trans rfl; have hcz13_3 : w10.cell? ⟨gb181, 3, none⟩ = some (.int .i64 a0_3) := (blk_cell BK181.out 3).trans rfl; have hcz13_4 : w10.cell? ⟨gb181, 4, none⟩ = some (.int .i64 a0_4) := (blk_cell BK181.out 4).trans rfl; have hcz13_5 : w10.cell? ⟨gb181, 5, none⟩ = some (.int .i64 a0_5) := (blk_cell BK181.out 5).trans rfl; have hcz13_6 : w10.cell? ⟨gb181, 6, none⟩ = some (.bool a0_6) := (blk_cell BK181.out 6).trans rfl; have hfz13_0 := blk_frozen BK181.out 0; have hfz13_1 := blk_frozen BK181.out 1; have hfz13_2 := blk_frozen BK181.out 2; have hfz13_3 := blk_frozen BK181.out 3; have hfz13_4 := blk_frozen BK181.out 4; have hfz13_5 := blk_frozen BK181.out 5; have hfz13_6 := blk_frozen BK181.out 6) | ((with_reducible refine gate_callee (f := 30) rfl ?_); refine goesL_ (some 13) rfl rfl Try.func30 (by kernel_rfl) rfl #[.agg #[.string a0_0, .int .i64 a0_1, .int .i64 a0_2, .int .i64 a0_3, .int .i64 a0_4, .int .i64 a0_5, .bool a0_6], .int .i64 a3] rfl pm_ ?_; (with_reducible refine (contangoref09_Price.calls k a0_0 a0_1 a0_2 a0_3 a0_4 a0_5 a0_6 a3 t184 _ A5.out).mono ?_); rintro e w14 ⟨rfl, hb⟩; refine ⟨_, rfl, ?_⟩; have n0_ := Aside0.mk (blk_below (g := gb181) (o := .cells #[.string a0_0, .int .i64 a0_1, .int .i64 a0_2, .int .i64 a0_3, .int .i64 a0_4, .int .i64 a0_5, .bool a0_6] 23 (0, 0)) (bk_ BK181.out) hb); have n1_ := Aside0.mk (blk_below (g := gb182) (o := .cells #[.string a1_0, .int .i64 a1_1, .int .i64 a1_2, .int .i64 a1_3] 25 (0, 0)) (bk_ BK182.out) hb); have n2_ := Aside0.mk (blk_below (g := gb183) (o := .cells #[.string a2_0, .int .i64 a2_1, .int .i64 a2_2, .int .i64 a2_3, .int .i64 a2_4, .int .i64 a2_5] 27 (0, 0)) (bk_ BK183.out) hb); have n3_ := Aside0.mk (below_step (bz3 HB.out GE181.out GE182.out GE183.out) hb); clear BK181; clear BK182; clear BK183; clear HB; have BK181 := n0_; have BK182 := n1_; have BK183 := n2_; have HB := n3_; clear n0_ n1_ n2_ n3_; (try clear hb); (try clear hb2); (try clear hk); (try clear hi)))
 (try simp only [Act.put, List.setIfInBounds_toArray, List.set_cons_zero, List.set_cons_succ])
 go_cut [27] (fun v27 wc => ∃ (kq : Nat) (x27_6 : Bool), v27 = .bool x27_6 ∧ Aside0 (contangoref51_Cash.j0 kq a3 x27_6 a0_0 a0_1 a0_2 a0_3 a0_4 a0_5 a0_6 a1_0 a1_1 a1_2 a1_3 a2_0 a2_1 a2_2 a2_3 a2_4 a2_5 = some (r1, r2)) ∧ Aside0 (kq ≤ k) ∧ Aside0 (wc.heap[gb181]? = some (.cells #[.string a0_0, .int .i64 a0_1, .int .i64 a0_2, .int .i64 a0_3, .int .i64 a0_4, .int .i64 a0_5, .bool a0_6] 23 (0, 0))) ∧ Aside0 (wc.heap[gb182]? = some (.cells #[.string a1_0, .int .i64 a1_1, .int .i64 a1_2, .int .i64 a1_3] 25 (0, 0))) ∧ Aside0 (wc.heap[gb183]? = some (.cells #[.string a2_0, .int .i64 a2_1, .int .i64 a2_2, .int .i64 a2_3, .int .i64 a2_4, .int .i64 a2_5] 27 (0, 0))) ∧ Aside0 (Below w.heap.size w wc))
 case first =>
  have H := HC7.out
  clear HC7
  by_cases c15 : ((eqD25 a2_0 a1_0 a2_1 a1_1 a2_2 a1_2 a2_3 a1_3) = true)
  rotate_left
  · rw [if_neg c15] at H
    have c15b0 : (eqD25 a2_0 a1_0 a2_1 a1_1 a2_2 a1_2 a2_3 a1_3) = false := by simpa using c15
    clear c15
    (first | rw [c15b0] | (simp only [i64_w, i32_w]; rw [c15b0]) | skip)
    have H' := Aside0.mk H
    clear H
    have hnb22 := NB183_181.out
    have hnc22 := NB181_183.out
    have hnb23 := NB183_182.out
    have hnc23 := NB182_183.out
    have hcz24_0 : w14.cell? ⟨gb183, 0, none⟩ = some (.string a2_0) := (blk_cell BK183.out 0).trans rfl
    have hcz24_1 : w14.cell? ⟨gb183, 1, none⟩ = some (.int .i64 a2_1) := (blk_cell BK183.out 1).trans rfl
    have hcz24_2 : w14.cell? ⟨gb183, 2, none⟩ = some (.int .i64 a2_2) := (blk_cell BK183.out 2).trans rfl
    have hcz24_3 : w14.cell? ⟨gb183, 3, none⟩ = some (.int .i64 a2_3) := (blk_cell BK183.out 3).trans rfl
    have hcz24_4 : w14.cell? ⟨gb183, 4, none⟩ = some (.int .i64 a2_4) := (blk_cell BK183.out 4).trans rfl
    have hcz24_5 : w14.cell? ⟨gb183, 5, none⟩ = some (.int .i64 a2_5) := (blk_cell BK183.out 5).trans rfl
    have hfz24_0 := blk_frozen BK183.out 0
    have hfz24_1 := blk_frozen BK183.out 1
    have hfz24_2 := blk_frozen BK183.out 2
    have hfz24_3 := blk_frozen BK183.out 3
    have hfz24_4 := blk_frozen BK183.out 4
    have hfz24_5 := blk_frozen BK183.out 5
    have hnb25 := NB182_181.out
    have hnc25 := NB181_182.out
    have hcz26_0 : w14.cell? ⟨gb182, 0, none⟩ = some (.string a1_0) := (blk_cell BK182.out 0).trans rfl
    have hcz26_1 : w14.cell? ⟨gb182, 1, none⟩ = some (.int .i64 a1_1) := (blk_cell BK182.out 1).trans rfl
    have hcz26_2 : w14.cell? ⟨gb182, 2, none⟩ = some (.int .i64 a1_2) := (blk_cell BK182.out 2).trans rfl
    have hcz26_3 : w14.cell? ⟨gb182, 3, none⟩ = some (.int .i64 a1_3) := (blk_cell BK182.out 3).trans rfl
    have hfz26_0 := blk_frozen BK182.out 0
    have hfz26_1 := blk_frozen BK182.out 1
    have hfz26_2 := blk_frozen BK182.out 2
    have hfz26_3 := blk_frozen BK182.out 3
    go_wp2
    go_meet
    case rel => exact ⟨_, (true), rf_, H', ⟨by first | omega | exact Nat.le_refl _⟩, ⟨by (with_reducible repeat (first | refine blk_drewN ?_ _ | refine blk_drew ?_ | refine blk_alloc ?_ _)); exact BK181.out⟩, ⟨by (with_reducible repeat (first | refine blk_drewN ?_ _ | refine blk_drew ?_ | refine blk_alloc ?_ _)); exact BK182.out⟩, ⟨by (with_reducible repeat (first | refine blk_drewN ?_ _ | refine blk_drew ?_ | refine blk_alloc ?_ _)); exact BK183.out⟩, ⟨bz3 HB.out GE181.out GE182.out GE183.out⟩⟩
  rw [if_pos c15] at H
  have c15b0 : (eqD25 a2_0 a1_0 a2_1 a1_1 a2_2 a1_2 a2_3 a1_3) = true := c15
  clear c15
  (first | rw [c15b0] | (simp only [i64_w, i32_w]; rw [c15b0]) | skip)
  have H' := Aside0.mk H
  clear H
  have hnb16 := NB183_181.out
  have hnc16 := NB181_183.out
  have hnb17 := NB183_182.out
  have hnc17 := NB182_183.out
  have hcz18_0 : w14.cell? ⟨gb183, 0, none⟩ = some (.string a2_0) := (blk_cell BK183.out 0).trans rfl
  have hcz18_1 : w14.cell? ⟨gb183, 1, none⟩ = some (.int .i64 a2_1) := (blk_cell BK183.out 1).trans rfl
  have hcz18_2 : w14.cell? ⟨gb183, 2, none⟩ = some (.int .i64 a2_2) := (blk_cell BK183.out 2).trans rfl
  have hcz18_3 : w14.cell? ⟨gb183, 3, none⟩ = some (.int .i64 a2_3) := (blk_cell BK183.out 3).trans rfl
  have hcz18_4 : w14.cell? ⟨gb183, 4, none⟩ = some (.int .i64 a2_4) := (blk_cell BK183.out 4).trans rfl
  have hcz18_5 : w14.cell? ⟨gb183, 5, none⟩ = some (.int .i64 a2_5) := (blk_cell BK183.out 5).trans rfl
  have hfz18_0 := blk_frozen BK183.out 0
  have hfz18_1 := blk_frozen BK183.out 1
  have hfz18_2 := blk_frozen BK183.out 2
  have hfz18_3 := blk_frozen BK183.out 3
  have hfz18_4 := blk_frozen BK183.out 4
  have hfz18_5 := blk_frozen BK183.out 5
  have hnb19 := NB182_181.out
  have hnc19 := NB181_182.out
  have hcz20_0 : w14.cell? ⟨gb182, 0, none⟩ = some (.string a1_0) := (blk_cell BK182.out 0).trans rfl
  have hcz20_1 : w14.cell? ⟨gb182, 1, none⟩ = some (.int .i64 a1_1) := (blk_cell BK182.out 1).trans rfl
  have hcz20_2 : w14.cell? ⟨gb182, 2, none⟩ = some (.int .i64 a1_2) := (blk_cell BK182.out 2).trans rfl
  have hcz20_3 : w14.cell? ⟨gb182, 3, none⟩ = some (.int .i64 a1_3) := (blk_cell BK182.out 3).trans rfl
  have hfz20_0 := blk_frozen BK182.out 0
  have hfz20_1 := blk_frozen BK182.out 1
  have hfz20_2 := blk_frozen BK182.out 2
  have hfz20_3 := blk_frozen BK182.out 3
  have hcz21_0 : w14.cell? ⟨gb181, 0, none⟩ = some (.string a0_0) := (blk_cell BK181.out 0).trans rfl
  have hcz21_1 : w14.cell? ⟨gb181, 1, none⟩ = some (.int .i64 a0_1) := (blk_cell BK181.out 1).trans rfl
  have hcz21_2 : w14.cell? ⟨gb181, 2, none⟩ = some (.int .i64 a0_2) := (blk_cell BK181.out 2).trans rfl
  have hcz21_3 : w14.cell? ⟨gb181, 3, none⟩ = some (.int .i64 a0_3) := (blk_cell BK181.out 3).trans rfl
  have hcz21_4 : w14.cell? ⟨gb181, 4, none⟩ = some (.int .i64 a0_4) := (blk_cell BK181.out 4).trans rfl
  have hcz21_5 : w14.cell? ⟨gb181, 5, none⟩ = some (.int .i64 a0_5) := (blk_cell BK181.out 5).trans rfl
  have hcz21_6 : w14.cell? ⟨gb181, 6, none⟩ = some (.bool a0_6) := (blk_cell BK181.out 6).trans rfl
  have hfz21_0 := blk_frozen BK181.out 0
  have hfz21_1 := blk_frozen BK181.out 1
  have hfz21_2 := blk_frozen BK181.out 2
  have hfz21_3 := blk_frozen BK181.out 3
  have hfz21_4 := blk_frozen BK181.out 4
  have hfz21_5 := blk_frozen BK181.out 5
  have hfz21_6 := blk_frozen BK181.out 6
  go_wp2
  go_meet
  case rel => exact ⟨_, ((a1_0.toList != a0_0.toList)), rf_, H', ⟨by first | omega | exact Nat.le_refl _⟩, ⟨by (with_reducible repeat (first | refine blk_drewN ?_ _ | refine blk_drew ?_ | refine blk_alloc ?_ _)); exact BK181.out⟩, ⟨by (with_reducible repeat (first | refine blk_drewN ?_ _ | refine blk_drew ?_ | refine blk_alloc ?_ _)); exact BK182.out⟩, ⟨by (with_reducible repeat (first | refine blk_drewN ?_ _ | refine blk_drew ?_ | refine blk_alloc ?_ _)); exact BK183.out⟩, ⟨bz3 HB.out GE181.out GE182.out GE183.out⟩⟩
 case rest =>
  clear HC7
  try clear c1
  try clear c2
  try clear p2
  try clear c3
  try clear c6
  try clear c6b0
  try clear c6b1
  try clear c9
  try clear c11
  try clear c12
  try clear c15
  try clear c15b0
  try clear c16
  try clear c17
  try clear c19
  try clear c22
  try clear c23
  try clear c25
  try clear hcz13_0
  try clear hcz13_1
  try clear hcz13_2
  try clear hcz13_3
  try clear hcz13_4
  try clear hcz13_5
  try clear hcz13_6
  try clear hcz18_0
  try clear hcz18_1
  try clear hcz18_2
  try clear hcz18_3
  try clear hcz18_4
  try clear hcz18_5
  try clear hcz20_0
  try clear hcz20_1
  try clear hcz20_2
  try clear hcz20_3
  try clear hcz21_0
  try clear hcz21_1
  try clear hcz21_2
  try clear hcz21_3
  try clear hcz21_4
  try clear hcz21_5
  try clear hcz21_6
  try clear hcz24_0
  try clear hcz24_1
  try clear hcz24_2
  try clear hcz24_3
  try clear hcz24_4
  try clear hcz24_5
  try clear hcz26_0
  try clear hcz26_1
  try clear hcz26_2
  try clear hcz26_3
  try clear hfz13_0
  try clear hfz13_1
  try clear hfz13_2
  try clear hfz13_3
  try clear hfz13_4
  try clear hfz13_5
  try clear hfz13_6
  try clear hfz18_0
  try clear hfz18_1
  try clear hfz18_2
  try clear hfz18_3
  try clear hfz18_4
  try clear hfz18_5
  try clear hfz20_0
  try clear hfz20_1
  try clear hfz20_2
  try clear hfz20_3
  try clear hfz21_0
  try clear hfz21_1
  try clear hfz21_2
  try clear hfz21_3
  try clear hfz21_4
  try clear hfz21_5
  try clear hfz21_6
  try clear hfz24_0
  try clear hfz24_1
  try clear hfz24_2
  try clear hfz24_3
  try clear hfz24_4
  try clear hfz24_5
  try clear hfz26_0
  try clear hfz26_1
  try clear hfz26_2
  try clear hfz26_3
  obtain ⟨kq, x27_6, rfl, HA, HJ6, BK181, BK182, BK183, HB⟩ := hcut
  cases kq with
  | zero => exact absurd HA.out (by simp [contangoref51_Cash.j0])
  | succ kj6 =>
   have H := HA.out
   clear HA
   simp only [contangoref51_Cash.j0] at H
   by_cases c27 : x27_6 = true
   · subst c27
     have H1 : (some (0, 19)) = some (r1, r2) := by rw [if_pos rfl] at H; exact H
     clear H
     have H := H1
     clear H1
     simp only [Option.some.injEq, Prod.mk.injEq] at H
     obtain ⟨rfl, rfl⟩ := H
     go_wp2
     go_ret2
     exact ⟨by first | rfl | (simp [errW_none, errW_some] <;> rfl) | (simp [*, errW_none, errW_some] <;> rfl), bz3 HB.out GE181.out GE182.out GE183.out⟩
   replace c27 := Bool.eq_false_iff.mpr c27
   subst c27
   have H1 : (if a2_4 < 0 then (contangoref51_Cash.j1 kj6 a3 true a0_0 a0_1 a0_2 a0_3 a0_4 a0_5 a0_6 a1_0 a1_1 a1_2 a1_3 a2_0 a2_1 a2_2 a2_3 a2_4 a2_5) else (if a2_4 > 1048576 then (contangoref51_Cash.j1 kj6 a3 true a0_0 a0_1 a0_2 a0_3 a0_4 a0_5 a0_6 a1_0 a1_1 a1_2 a1_3 a2_0 a2_1 a2_2 a2_3 a2_4 a2_5) else (if a2_5 < 0 then (contangoref51_Cash.j1 kj6 a3 true a0_0 a0_1 a0_2 a0_3 a0_4 a0_5 a0_6 a1_0 a1_1 a1_2 a1_3 a2_0 a2_1 a2_2 a2_3 a2_4 a2_5) else (contangoref51_Cash.j1 kj6 a3 (decide (a2_5 > 1048576)) a0_0 a0_1 a0_2 a0_3 a0_4 a0_5 a0_6 a1_0 a1_1 a1_2 a1_3 a2_0 a2_1 a2_2 a2_3 a2_4 a2_5)))) = some (r1, r2) := by rw [if_neg (show ¬ (false = true) by decide)] at H; exact H
   clear H
   have H := H1
   clear H1
   have HC28 := Aside0.mk H
   clear H
   go_upto_region 6 with (fail)
   go_cut [45] (fun v45 wc => ∃ (kq : Nat) (x45_27 : Bool), v45 = .bool x45_27 ∧ Aside0 (contangoref51_Cash.j1 kq a3 x45_27 a0_0 a0_1 a0_2 a0_3 a0_4 a0_5 a0_6 a1_0 a1_1 a1_2 a1_3 a2_0 a2_1 a2_2 a2_3 a2_4 a2_5 = some (r1, r2)) ∧ Aside0 (kq ≤ kj6) ∧ Aside0 (wc.heap[gb181]? = some (.cells #[.string a0_0, .int .i64 a0_1, .int .i64 a0_2, .int .i64 a0_3, .int .i64 a0_4, .int .i64 a0_5, .bool a0_6] 23 (0, 0))) ∧ Aside0 (wc.heap[gb182]? = some (.cells #[.string a1_0, .int .i64 a1_1, .int .i64 a1_2, .int .i64 a1_3] 25 (0, 0))) ∧ Aside0 (wc.heap[gb183]? = some (.cells #[.string a2_0, .int .i64 a2_1, .int .i64 a2_2, .int .i64 a2_3, .int .i64 a2_4, .int .i64 a2_5] 27 (0, 0))) ∧ Aside0 (Below w.heap.size w wc))
   case first =>
    have H := HC28.out
    clear HC28
    by_cases c29 : a2_4 < 0
    · rw [if_pos c29] at H
      have c29b0 : decide (a2_4 < 0) = true := decide_eq_true c29
      clear c29
      (first | rw [c29b0] | (simp only [i64_w, i32_w]; rw [c29b0]) | skip)
      have H' := Aside0.mk H
      clear H
      have hnb30 := NB183_181.out
      have hnc30 := NB181_183.out
      have hnb31 := NB183_182.out
      have hnc31 := NB182_183.out
      have hcz32_0 : wc.cell? ⟨gb183, 0, none⟩ = some (.string a2_0) := (blk_cell BK183.out 0).trans rfl
      have hcz32_1 : wc.cell? ⟨gb183, 1, none⟩ = some (.int .i64 a2_1) := (blk_cell BK183.out 1).trans rfl
      have hcz32_2 : wc.cell? ⟨gb183, 2, none⟩ = some (.int .i64 a2_2) := (blk_cell BK183.out 2).trans rfl
      have hcz32_3 : wc.cell? ⟨gb183, 3, none⟩ = some (.int .i64 a2_3) := (blk_cell BK183.out 3).trans rfl
      have hcz32_4 : wc.cell? ⟨gb183, 4, none⟩ = some (.int .i64 a2_4) := (blk_cell BK183.out 4).trans rfl
      have hcz32_5 : wc.cell? ⟨gb183, 5, none⟩ = some (.int .i64 a2_5) := (blk_cell BK183.out 5).trans rfl
      have hfz32_0 := blk_frozen BK183.out 0
      have hfz32_1 := blk_frozen BK183.out 1
      have hfz32_2 := blk_frozen BK183.out 2
      have hfz32_3 := blk_frozen BK183.out 3
      have hfz32_4 := blk_frozen BK183.out 4
      have hfz32_5 := blk_frozen BK183.out 5
      go_wp2
      go_meet
      case rel => exact ⟨_, (true), rf_, H', ⟨by have := HJ6.out; first | omega | exact Nat.le_refl _⟩, ⟨by (with_reducible repeat (first | refine blk_drewN ?_ _ | refine blk_drew ?_ | refine blk_alloc ?_ _)); exact BK181.out⟩, ⟨by (with_reducible repeat (first | refine blk_drewN ?_ _ | refine blk_drew ?_ | refine blk_alloc ?_ _)); exact BK182.out⟩, ⟨by (with_reducible repeat (first | refine blk_drewN ?_ _ | refine blk_drew ?_ | refine blk_alloc ?_ _)); exact BK183.out⟩, ⟨bz3 HB.out GE181.out GE182.out GE183.out⟩⟩
    rw [if_neg c29] at H
    have c29b0 : decide (a2_4 < 0) = false := decide_eq_false c29
    clear c29
    (first | rw [c29b0] | (simp only [i64_w, i32_w]; rw [c29b0]) | skip)
    by_cases c33 : a2_4 > 1048576
    · rw [if_pos c33] at H
      have c33b0 : decide (1048576 < a2_4) = true := decide_eq_true c33
      clear c33
      have H' := Aside0.mk H
      clear H
      have hnb34 := NB183_181.out
      have hnc34 := NB181_183.out
      have hnb35 := NB183_182.out
      have hnc35 := NB182_183.out
      have hcz36_0 : wc.cell? ⟨gb183, 0, none⟩ = some (.string a2_0) := (blk_cell BK183.out 0).trans rfl
      have hcz36_1 : wc.cell? ⟨gb183, 1, none⟩ = some (.int .i64 a2_1) := (blk_cell BK183.out 1).trans rfl
      have hcz36_2 : wc.cell? ⟨gb183, 2, none⟩ = some (.int .i64 a2_2) := (blk_cell BK183.out 2).trans rfl
      have hcz36_3 : wc.cell? ⟨gb183, 3, none⟩ = some (.int .i64 a2_3) := (blk_cell BK183.out 3).trans rfl
      have hcz36_4 : wc.cell? ⟨gb183, 4, none⟩ = some (.int .i64 a2_4) := (blk_cell BK183.out 4).trans rfl
      have hcz36_5 : wc.cell? ⟨gb183, 5, none⟩ = some (.int .i64 a2_5) := (blk_cell BK183.out 5).trans rfl
      have hfz36_0 := blk_frozen BK183.out 0
      have hfz36_1 := blk_frozen BK183.out 1
      have hfz36_2 := blk_frozen BK183.out 2
      have hfz36_3 := blk_frozen BK183.out 3
      have hfz36_4 := blk_frozen BK183.out 4
      have hfz36_5 := blk_frozen BK183.out 5
      go_wp2
      go_meet
      case rel => exact ⟨_, (true), rf_, H', ⟨by have := HJ6.out; first | omega | exact Nat.le_refl _⟩, ⟨by (with_reducible repeat (first | refine blk_drewN ?_ _ | refine blk_drew ?_ | refine blk_alloc ?_ _)); exact BK181.out⟩, ⟨by (with_reducible repeat (first | refine blk_drewN ?_ _ | refine blk_drew ?_ | refine blk_alloc ?_ _)); exact BK182.out⟩, ⟨by (with_reducible repeat (first | refine blk_drewN ?_ _ | refine blk_drew ?_ | refine blk_alloc ?_ _)); exact BK183.out⟩, ⟨bz3 HB.out GE181.out GE182.out GE183.out⟩⟩
    rw [if_neg c33] at H
    have c33b0 : decide (1048576 < a2_4) = false := decide_eq_false c33
    clear c33
    by_cases c37 : a2_5 < 0
    · rw [if_pos c37] at H
      have c37b0 : decide (a2_5 < 0) = true := decide_eq_true c37
      clear c37
      have H' := Aside0.mk H
      clear H
      have hnb38 := NB183_181.out
      have hnc38 := NB181_183.out
      have hnb39 := NB183_182.out
      have hnc39 := NB182_183.out
      have hcz40_0 : wc.cell? ⟨gb183, 0, none⟩ = some (.string a2_0) := (blk_cell BK183.out 0).trans rfl
      have hcz40_1 : wc.cell? ⟨gb183, 1, none⟩ = some (.int .i64 a2_1) := (blk_cell BK183.out 1).trans rfl
      have hcz40_2 : wc.cell? ⟨gb183, 2, none⟩ = some (.int .i64 a2_2) := (blk_cell BK183.out 2).trans rfl
      have hcz40_3 : wc.cell? ⟨gb183, 3, none⟩ = some (.int .i64 a2_3) := (blk_cell BK183.out 3).trans rfl
      have hcz40_4 : wc.cell? ⟨gb183, 4, none⟩ = some (.int .i64 a2_4) := (blk_cell BK183.out 4).trans rfl
      have hcz40_5 : wc.cell? ⟨gb183, 5, none⟩ = some (.int .i64 a2_5) := (blk_cell BK183.out 5).trans rfl
      have hfz40_0 := blk_frozen BK183.out 0
      have hfz40_1 := blk_frozen BK183.out 1
      have hfz40_2 := blk_frozen BK183.out 2
      have hfz40_3 := blk_frozen BK183.out 3
      have hfz40_4 := blk_frozen BK183.out 4
      have hfz40_5 := blk_frozen BK183.out 5
      go_wp2
      go_meet
      case rel => exact ⟨_, (true), rf_, H', ⟨by have := HJ6.out; first | omega | exact Nat.le_refl _⟩, ⟨by (with_reducible repeat (first | refine blk_drewN ?_ _ | refine blk_drew ?_ | refine blk_alloc ?_ _)); exact BK181.out⟩, ⟨by (with_reducible repeat (first | refine blk_drewN ?_ _ | refine blk_drew ?_ | refine blk_alloc ?_ _)); exact BK182.out⟩, ⟨by (with_reducible repeat (first | refine blk_drewN ?_ _ | refine blk_drew ?_ | refine blk_alloc ?_ _)); exact BK183.out⟩, ⟨bz3 HB.out GE181.out GE182.out GE183.out⟩⟩
    rw [if_neg c37] at H
    have c37b0 : decide (a2_5 < 0) = false := decide_eq_false c37
    clear c37
    have H' := Aside0.mk H
    clear H
    have hnb41 := NB183_181.out
    have hnc41 := NB181_183.out
    have hnb42 := NB183_182.out
    have hnc42 := NB182_183.out
    have hcz43_0 : wc.cell? ⟨gb183, 0, none⟩ = some (.string a2_0) := (blk_cell BK183.out 0).trans rfl
    have hcz43_1 : wc.cell? ⟨gb183, 1, none⟩ = some (.int .i64 a2_1) := (blk_cell BK183.out 1).trans rfl
    have hcz43_2 : wc.cell? ⟨gb183, 2, none⟩ = some (.int .i64 a2_2) := (blk_cell BK183.out 2).trans rfl
    have hcz43_3 : wc.cell? ⟨gb183, 3, none⟩ = some (.int .i64 a2_3) := (blk_cell BK183.out 3).trans rfl
    have hcz43_4 : wc.cell? ⟨gb183, 4, none⟩ = some (.int .i64 a2_4) := (blk_cell BK183.out 4).trans rfl
    have hcz43_5 : wc.cell? ⟨gb183, 5, none⟩ = some (.int .i64 a2_5) := (blk_cell BK183.out 5).trans rfl
    have hfz43_0 := blk_frozen BK183.out 0
    have hfz43_1 := blk_frozen BK183.out 1
    have hfz43_2 := blk_frozen BK183.out 2
    have hfz43_3 := blk_frozen BK183.out 3
    have hfz43_4 := blk_frozen BK183.out 4
    have hfz43_5 := blk_frozen BK183.out 5
    go_wp2
    go_meet
    case rel => exact ⟨_, (decide (a2_5 > 1048576)), rf_, H', ⟨by have := HJ6.out; first | omega | exact Nat.le_refl _⟩, ⟨by (with_reducible repeat (first | refine blk_drewN ?_ _ | refine blk_drew ?_ | refine blk_alloc ?_ _)); exact BK181.out⟩, ⟨by (with_reducible repeat (first | refine blk_drewN ?_ _ | refine blk_drew ?_ | refine blk_alloc ?_ _)); exact BK182.out⟩, ⟨by (with_reducible repeat (first | refine blk_drewN ?_ _ | refine blk_drew ?_ | refine blk_alloc ?_ _)); exact BK183.out⟩, ⟨bz3 HB.out GE181.out GE182.out GE183.out⟩⟩
   case rest =>
    clear HC28
    try clear c1
    try clear c2
    try clear p2
    try clear c3
    try clear c4
    try clear c6
    try clear c6b0
    try clear c6b1
    try clear c9
    try clear c11
    try clear c12
    try clear c15
    try clear c15b0
    try clear c16
    try clear c17
    try clear c19
    try clear c22
    try clear c23
    try clear c25
    try clear c27
    try clear c29
    try clear c29b0
    try clear c30
    try clear c31
    try clear c33
    try clear c33b0
    try clear c34
    try clear c35
    try clear c37
    try clear c37b0
    try clear c38
    try clear c39
    try clear c41
    try clear c42
    try clear hcz13_0
    try clear hcz13_1
    try clear hcz13_2
    try clear hcz13_3
    try clear hcz13_4
    try clear hcz13_5
    try clear hcz13_6
    try clear hcz18_0
    try clear hcz18_1
    try clear hcz18_2
    try clear hcz18_3
    try clear hcz18_4
    try clear hcz18_5
    try clear hcz20_0
    try clear hcz20_1
    try clear hcz20_2
    try clear hcz20_3
    try clear hcz21_0
    try clear hcz21_1
    try clear hcz21_2
    try clear hcz21_3
    try clear hcz21_4
    try clear hcz21_5
    try clear hcz21_6
    try clear hcz24_0
    try clear hcz24_1
    try clear hcz24_2
    try clear hcz24_3
    try clear hcz24_4
    try clear hcz24_5
    try clear hcz26_0
    try clear hcz26_1
    try clear hcz26_2
    try clear hcz26_3
    try clear hcz32_0
    try clear hcz32_1
    try clear hcz32_2
    try clear hcz32_3
    try clear hcz32_4
    try clear hcz32_5
    try clear hcz36_0
    try clear hcz36_1
    try clear hcz36_2
    try clear hcz36_3
    try clear hcz36_4
    try clear hcz36_5
    try clear hcz40_0
    try clear hcz40_1
    try clear hcz40_2
    try clear hcz40_3
    try clear hcz40_4
    try clear hcz40_5
    try clear hcz43_0
    try clear hcz43_1
    try clear hcz43_2
    try clear hcz43_3
    try clear hcz43_4
    try clear hcz43_5
    try clear hfz13_0
    try clear hfz13_1
    try clear hfz13_2
    try clear hfz13_3
    try clear hfz13_4
    try clear hfz13_5
    try clear hfz13_6
    try clear hfz18_0
    try clear hfz18_1
    try clear hfz18_2
    try clear hfz18_3
    try clear hfz18_4
    try clear hfz18_5
    try clear hfz20_0
    try clear hfz20_1
    try clear hfz20_2
    try clear hfz20_3
    try clear hfz21_0
    try clear hfz21_1
    try clear hfz21_2
    try clear hfz21_3
    try clear hfz21_4
    try clear hfz21_5
    try clear hfz21_6
    try clear hfz24_0
    try clear hfz24_1
    try clear hfz24_2
    try clear hfz24_3
    try clear hfz24_4
    try clear hfz24_5
    try clear hfz26_0
    try clear hfz26_1
    try clear hfz26_2
    try clear hfz26_3
    try clear hfz32_0
    try clear hfz32_1
    try clear hfz32_2
    try clear hfz32_3
    try clear hfz32_4
    try clear hfz32_5
    try clear hfz36_0
    try clear hfz36_1
    try clear hfz36_2
    try clear hfz36_3
    try clear hfz36_4
    try clear hfz36_5
    try clear hfz40_0
    try clear hfz40_1
    try clear hfz40_2
    try clear hfz40_3
    try clear hfz40_4
    try clear hfz40_5
    try clear hfz43_0
    try clear hfz43_1
    try clear hfz43_2
    try clear hfz43_3
    try clear hfz43_4
    try clear hfz43_5
    try clear p2
    obtain ⟨kq, x45_27, rfl, HA, HJ27, BK181, BK182, BK183, HB⟩ := hcut
    cases kq with
    | zero => exact absurd HA.out (by simp [contangoref51_Cash.j1])
    | succ kj27 =>
     have H := HA.out
     clear HA
     simp only [contangoref51_Cash.j1] at H
     by_cases c44 : x45_27 = true
     · subst c44
       have H1 : (some (0, 18)) = some (r1, r2) := by rw [if_pos rfl] at H; exact H
       clear H
       have H := H1
       clear H1
       simp only [Option.some.injEq, Prod.mk.injEq] at H
       obtain ⟨rfl, rfl⟩ := H
       go_wp2
       go_ret2
       exact ⟨by first | rfl | (simp [errW_none, errW_some] <;> rfl) | (simp [*, errW_none, errW_some] <;> rfl), bz3 HB.out GE181.out GE182.out GE183.out⟩
     replace c44 := Bool.eq_false_iff.mpr c44
     subst c44
     have H1 : ((contangoref21_Intrinsic.f kj27 a1_0 a1_1 a1_2 a1_3 a3).bind fun t185 => ((contangoref09_Value.f kj27 a0_0 a0_1 a0_2 a0_3 a0_4 a0_5 a0_6 t185 (wrap64 (a2_4 - a2_5))).bind fun bt186 => (some (bt186.1, bt186.2)))) = some (r1, r2) := by rw [if_neg (show ¬ (false = true) by decide)] at H; exact H
     clear H
     have H := H1
     clear H1
     replace H := Option.bind_eq_some_iff.mp H
     obtain ⟨t185, A450, H⟩ := H
     replace H : ((contangoref09_Value.f kj27 a0_0 a0_1 a0_2 a0_3 a0_4 a0_5 a0_6 t185 (wrap64 (a2_4 - a2_5))).bind fun bt186 => (some (bt186.1, bt186.2))) = some (r1, r2) := H
     have A45 := Aside0.mk A450
     clear A450
     replace H := Option.bind_eq_some_iff.mp H
     obtain ⟨⟨t186, t187⟩, A460, H⟩ := H
     replace H : (some (t186, t187)) = some (r1, r2) := H
     have A46 := Aside0.mk A460
     clear A460
     simp only [Option.some.injEq, Prod.mk.injEq] at H
     obtain ⟨rfl, rfl⟩ := H
     try go_wp2
     have n0_ := Aside0.mk (blk_drew BK181.out)
     have n1_ := Aside0.mk (blk_drew BK182.out)
     have n2_ := Aside0.mk (blk_drew BK183.out)
     have n3_ := Aside0.mk (below_drew1 HB.out)
     clear BK181
     clear BK182
     clear BK183
     clear HB
     have BK181 := n0_
     have BK182 := n1_
     have BK183 := n2_
     have HB := n3_
     clear n0_ n1_ n2_ n3_
     refine start_ (n := 14) (S := fun w' => w'.cell? ⟨gb181, 0, none⟩ = some (.string a0_0) ∧ w'.cell? ⟨gb181, 1, none⟩ = some (.int .i64 a0_1) ∧ w'.cell? ⟨gb181, 2, none⟩ = some (.int .i64 a0_2) ∧ w'.cell? ⟨gb181, 3, none⟩ = some (.int .i64 a0_3) ∧ w'.cell? ⟨gb181, 4, none⟩ = some (.int .i64 a0_4) ∧ w'.cell? ⟨gb181, 5, none⟩ = some (.int .i64 a0_5) ∧ w'.cell? ⟨gb181, 6, none⟩ = some (.bool a0_6) ∧ w'.cell? ⟨gb182, 0, none⟩ = some (.string a1_0) ∧ w'.cell? ⟨gb182, 1, none⟩ = some (.int .i64 a1_1) ∧ w'.cell? ⟨gb182, 2, none⟩ = some (.int .i64 a1_2) ∧ w'.cell? ⟨gb182, 3, none⟩ = some (.int .i64 a1_3) ∧ w'.cell? ⟨gb183, 0, none⟩ = some (.string a2_0) ∧ w'.cell? ⟨gb183, 1, none⟩ = some (.int .i64 a2_1) ∧ w'.cell? ⟨gb183, 2, none⟩ = some (.int .i64 a2_2) ∧ w'.cell? ⟨gb183, 3, none⟩ = some (.int .i64 a2_3) ∧ w'.cell? ⟨gb183, 4, none⟩ = some (.int .i64 a2_4) ∧ w'.cell? ⟨gb183, 5, none⟩ = some (.int .i64 a2_5)) (ds := []) (tf 0 14) (by kernel_rfl) rfl rfl ⟨(blk_cell BK181.out 0).trans rfl, (blk_cell BK181.out 1).trans rfl, (blk_cell BK181.out 2).trans rfl, (blk_cell BK181.out 3).trans rfl, (blk_cell BK181.out 4).trans rfl, (blk_cell BK181.out 5).trans rfl, (blk_cell BK181.out 6).trans rfl, (blk_cell BK182.out 0).trans rfl, (blk_cell BK182.out 1).trans rfl, (blk_cell BK182.out 2).trans rfl, (blk_cell BK182.out 3).trans rfl, (blk_cell BK183.out 0).trans rfl, (blk_cell BK183.out 1).trans rfl, (blk_cell BK183.out 2).trans rfl, (blk_cell BK183.out 3).trans rfl, (blk_cell BK183.out 4).trans rfl, (blk_cell BK183.out 5).trans rfl⟩ (fun hHeld => ?_); refine with_tabW contangoref51_Cash.tab8 contangoref51_Cash.bits8 (fun HT_ HW_ => ?_)
     generalize wc.drew = w47 at BK181 BK182 BK183 HB hHeld ⊢
     refine pv_ 2 48 #[false, false, true, false, false, false, false, false, false, false, false, false, false, false] HT_ ?_
     refine pv_ 4 50 #[false, false, true, false, true, false, false, false, false, false, false, false, false, false] HT_ ?_
     refine pv_ 6 52 #[false, false, true, false, true, false, true, false, false, false, false, false, false, false] HT_ ?_
     refine take_ (i := 0) (N := some 46) (v := ?_) (a' := ?_) #[true, false, true, false, true, false, true, false, false, false, false, false, false, false] rfl rfl (take_ofW HT_.out HW_.out (by kernel_rfl)) (fun _ _ _ h => h) (Or.inl ⟨by rfl, ?_⟩) hHeld ?_ ?_
     rotate_left
     · rintro w' ⟨s0, s1, s2, s3, s4, s5, s6, s7, s8, s9, s10, s11, s12, s13, s14, s15, s16⟩
       go_simp
       with_reducible rfl
     rotate_left
     · exact ap_
     refine take_ (i := 1) (N := some 47) (v := ?_) (a' := ?_) #[true, true, true, false, true, false, true, false, false, false, false, false, false, false] rfl rfl (take_ofW HT_.out HW_.out (by kernel_rfl)) (fun _ _ _ h => h) (Or.inl ⟨by rfl, ?_⟩) hHeld ?_ ?_
     rotate_left
     · rintro w' ⟨s0, s1, s2, s3, s4, s5, s6, s7, s8, s9, s10, s11, s12, s13, s14, s15, s16⟩
       go_simp
       with_reducible rfl
     rotate_left
     · exact ap_
     refine take_ (i := 5) (N := some 51) (v := ?_) (a' := ?_) #[true, true, true, false, true, true, true, false, false, false, false, false, false, false] rfl rfl (take_ofW HT_.out HW_.out (by kernel_rfl)) (fun _ _ _ h => h) (Or.inl ⟨by rfl, ?_⟩) hHeld ?_ ?_
     rotate_left
     · rintro w' ⟨s0, s1, s2, s3, s4, s5, s6, s7, s8, s9, s10, s11, s12, s13, s14, s15, s16⟩
       go_simp
       with_reducible rfl
     rotate_left
     · exact ap_
     refine take_ (i := 7) (N := some 53) (v := ?_) (a' := ?_) #[true, true, true, false, true, true, true, true, false, false, false, false, false, false] rfl rfl (take_ofW HT_.out HW_.out (by kernel_rfl)) (fun _ _ _ h => h) (Or.inl ⟨by rfl, ?_⟩) hHeld ?_ ?_
     rotate_left
     · rintro w' ⟨s0, s1, s2, s3, s4, s5, s6, s7, s8, s9, s10, s11, s12, s13, s14, s15, s16⟩
       go_simp
       with_reducible rfl
     rotate_left
     · exact ap_
     refine pv_ 8 54 #[true, true, true, false, true, true, true, true, true, false, false, false, false, false] HT_ ?_
     refine one_ (i := 3) (N := some 49) (tf 9 5) rfl rfl (one_of HT_.out (by kernel_rfl)) (by decide) (fun K hK => ?_)
     refine goes_ Try.func32 (by kernel_rfl) rfl #[.agg #[.string a1_0, .int .i64 a1_1, .int .i64 a1_2, .int .i64 a1_3], .int .i64 a3] (by rfl) rfl rfl pm_ ?_
     with_reducible refine (contangoref21_Intrinsic.calls kj27 a1_0 a1_1 a1_2 a1_3 a3 t185 _ A45.out).mono ?_
     rintro e w48 ⟨rfl, hb⟩
     refine ⟨_, rfl, ?_⟩
     have n0_ := Aside0.mk (blk_below (g := gb181) (o := .cells #[.string a0_0, .int .i64 a0_1, .int .i64 a0_2, .int .i64 a0_3, .int .i64 a0_4, .int .i64 a0_5, .bool a0_6] 23 (0, 0)) (bk_ BK181.out) hb)
     have n1_ := Aside0.mk (blk_below (g := gb182) (o := .cells #[.string a1_0, .int .i64 a1_1, .int .i64 a1_2, .int .i64 a1_3] 25 (0, 0)) (bk_ BK182.out) hb)
     have n2_ := Aside0.mk (blk_below (g := gb183) (o := .cells #[.string a2_0, .int .i64 a2_1, .int .i64 a2_2, .int .i64 a2_3, .int .i64 a2_4, .int .i64 a2_5] 27 (0, 0)) (bk_ BK183.out) hb)
     have n3_ := Aside0.mk (below_step (bz3 HB.out GE181.out GE182.out GE183.out) hb)
     clear BK181
     clear BK182
     clear BK183
     clear HB
     have BK181 := n0_
     have BK182 := n1_
     have BK183 := n2_
     have HB := n3_
     clear n0_ n1_ n2_ n3_
     (try clear hb)
     (try clear hb2)
     (try clear hk)
     (try clear hi)
     refine hK.out _ _ ⟨(blk_cell BK181.out 0).trans rfl, (blk_cell BK181.out 1).trans rfl, (blk_cell BK181.out 2).trans rfl, (blk_cell BK181.out 3).trans rfl, (blk_cell BK181.out 4).trans rfl, (blk_cell BK181.out 5).trans rfl, (blk_cell BK181.out 6).trans rfl, (blk_cell BK182.out 0).trans rfl, (blk_cell BK182.out 1).trans rfl, (blk_cell BK182.out 2).trans rfl, (blk_cell BK182.out 3).trans rfl, (blk_cell BK183.out 0).trans rfl, (blk_cell BK183.out 1).trans rfl, (blk_cell BK183.out 2).trans rfl, (blk_cell BK183.out 3).trans rfl, (blk_cell BK183.out 4).trans rfl, (blk_cell BK183.out 5).trans rfl⟩ (fun hHeld => ?_)
     clear hK K
     refine norm_ (a' := ?_) ?_ ?_
     rotate_left
     · show Act.put _ (some 49) _ = _
       simp only [Act.put, List.setIfInBounds_toArray, List.set_cons_zero, List.set_cons_succ, i64_w, i32_w]
       rfl
     refine one_ (i := 9) (N := some 55) (tf 10 4) rfl rfl (one_of HT_.out (by kernel_rfl)) (by decide) (fun K hK => ?_)
     refine goes_ Try.func31 (by kernel_rfl) rfl #[.agg #[.string a0_0, .int .i64 a0_1, .int .i64 a0_2, .int .i64 a0_3, .int .i64 a0_4, .int .i64 a0_5, .bool a0_6], .int .i64 t185, .int .i64 (wrap64 (a2_4 - a2_5))] (by rfl) rfl rfl pm_ ?_
     with_reducible refine (contangoref09_Value.calls kj27 a0_0 a0_1 a0_2 a0_3 a0_4 a0_5 a0_6 t185 (wrap64 (a2_4 - a2_5)) t186 t187 _ A46.out).mono ?_
     rintro e w49 ⟨rfl, hb⟩
     refine ⟨_, rfl, ?_⟩
     have n0_ := Aside0.mk (blk_below (g := gb181) (o := .cells #[.string a0_0, .int .i64 a0_1, .int .i64 a0_2, .int .i64 a0_3, .int .i64 a0_4, .int .i64 a0_5, .bool a0_6] 23 (0, 0)) (bk_ BK181.out) hb)
     have n1_ := Aside0.mk (blk_below (g := gb182) (o := .cells #[.string a1_0, .int .i64 a1_1, .int .i64 a1_2, .int .i64 a1_3] 25 (0, 0)) (bk_ BK182.out) hb)
     have n2_ := Aside0.mk (blk_below (g := gb183) (o := .cells #[.string a2_0, .int .i64 a2_1, .int .i64 a2_2, .int .i64 a2_3, .int .i64 a2_4, .int .i64 a2_5] 27 (0, 0)) (bk_ BK183.out) hb)
     have n3_ := Aside0.mk (below_step (bz3 HB.out GE181.out GE182.out GE183.out) hb)
     clear BK181
     clear BK182
     clear BK183
     clear HB
     have BK181 := n0_
     have BK182 := n1_
     have BK183 := n2_
     have HB := n3_
     clear n0_ n1_ n2_ n3_
     (try clear hb)
     (try clear hb2)
     (try clear hk)
     (try clear hi)
     refine hK.out _ _ ⟨(blk_cell BK181.out 0).trans rfl, (blk_cell BK181.out 1).trans rfl, (blk_cell BK181.out 2).trans rfl, (blk_cell BK181.out 3).trans rfl, (blk_cell BK181.out 4).trans rfl, (blk_cell BK181.out 5).trans rfl, (blk_cell BK181.out 6).trans rfl, (blk_cell BK182.out 0).trans rfl, (blk_cell BK182.out 1).trans rfl, (blk_cell BK182.out 2).trans rfl, (blk_cell BK182.out 3).trans rfl, (blk_cell BK183.out 0).trans rfl, (blk_cell BK183.out 1).trans rfl, (blk_cell BK183.out 2).trans rfl, (blk_cell BK183.out 3).trans rfl, (blk_cell BK183.out 4).trans rfl, (blk_cell BK183.out 5).trans rfl⟩ (fun hHeld => ?_)
     clear hK K
     refine norm_ (a' := ?_) ?_ ?_
     rotate_left
     · show Act.put _ (some 55) _ = _
       simp only [Act.put, List.setIfInBounds_toArray, List.set_cons_zero, List.set_cons_succ, i64_w, i32_w]
       rfl
     refine pv_ 10 56 (tf 11 3) HT_ ?_
     refine pv_ 11 57 (tf 12 2) HT_ ?_
     refine pv_ 12 8 (tf 13 1) HT_ ?_
     refine pv_ 13 9 (tf 14 0) HT_ ?_
     refine done_ (done_of HT_.out (by kernel_rfl)) ?_
     try go_wp2
     go_ret2
     exact ⟨by first | rfl | (simp [errW_none, errW_some] <;> rfl) | (simp [*, errW_none, errW_some] <;> rfl), bz3 HB.out GE181.out GE182.out GE183.out⟩

end Go.Proofs.Ytoejllkjhaeeeaa.PExpiryFlows
