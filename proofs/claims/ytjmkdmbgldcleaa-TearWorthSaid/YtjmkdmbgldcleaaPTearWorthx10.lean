import Derived.Test.YtjmkdmbgldcleaaPTearWorthx0
import Derived.Test.YtjmkdmbgldcleaaPTearWorthx6
import Derived.Test.YtjmkdmbgldcleaaPTearWorthx7
import Derived.Test.YtjmkdmbgldcleaaPTearWorthx8
import Derived.Test.YtjmkdmbgldcleaaPTearWorthx9
namespace Go.Proofs.Ytjmkdmbgldcleaa.PTearWorth
open Go.RowKit Go.Proofs.YtjmkdmbgldcleaaW.PrintWords Go.Proofs.YtjmkdmbgldcleaaW.PrintLast Go.Proofs.YtjmkdmbgldcleaaW.PrintMore
attribute [local go_sem] max2_int min2_int max_two min_two max_three min_three max_four min_four Go.Proofs.YtjmkdmbgldcleaaHand.run_leq_str Go.Proofs.YtjmkdmbgldcleaaHand.run_gtr_str Go.Proofs.YtjmkdmbgldcleaaHand.run_geq_str   -- for this text's walks alone
set_option linter.unusedVariables false
set_option linter.unusedSimpArgs false

/-! ### product_Value: function 40 -/
def product_Value.f (k : Nat) (a0_0 : ByteArray) (a0_1 : Int) (a0_2 : Int) (a0_3 : Int) (a0_4 : Int) (a0_5 : Int) (a0_6 : Bool) (a1 : Int) (a2 : Int) : Option (Int × Int) := (product_Check.f k a0_0 a0_1 a0_2 a0_3 a0_4 a0_5 a0_6).bind fun t131 => (if t131 = 0 then ((product_within.f a1 33554432).bind fun t132 => (if t132 = true then ((product_within.f a2 1048576).bind fun t133 => (if t133 = true then (some (wrap64 ((wrap64 (a1 * a0_2)) * a2), 0)) else (some (0, 18)))) else (some (0, 17)))) else (some (0, t131)))
theorem product_Value.mono : ∀ a0 a1 a2 a3 a4 a5 a6 a7 a8 k, LeO (product_Value.f k a0 a1 a2 a3 a4 a5 a6 a7 a8) (product_Value.f (k + 1) a0 a1 a2 a3 a4 a5 a6 a7 a8) := by
  intro a0 a1 a2 a3 a4 a5 a6 a7 a8 k
  unfold product_Value.f
  repeat' first
      | (with_reducible exact product_Check.mono _ _ _ _ _ _ _ _)
      | (with_reducible exact LeO.refl _)
      | (with_reducible exact LeO.none _)
      | (with_reducible refine LeO.ite ?_ ?_)
      | (with_reducible refine LeO.bind ?_ (fun _ => ?_))
      | exact LeO.none _
      | refine LeO.ite ?_ ?_
      | refine LeO.bind ?_ (fun _ => ?_)
set_option maxHeartbeats 8000000 in
set_option maxRecDepth 100000 in
theorem product_Value.calls (k : Nat) (a0_0 : ByteArray) (a0_1 : Int) (a0_2 : Int) (a0_3 : Int) (a0_4 : Int) (a0_5 : Int) (a0_6 : Bool) (a1 : Int) (a2 : Int) (r1 : Int) (r2 : Int) (w : World) (h : product_Value.f k a0_0 a0_1 a0_2 a0_3 a0_4 a0_5 a0_6 a1 a2 = some (r1, r2)) :
    Calls Try.prog 40 #[.agg #[.string a0_0, .int .i64 a0_1, .int .i64 a0_2, .int .i64 a0_3, .int .i64 a0_4, .int .i64 a0_5, .bool a0_6], .int .i64 a1, .int .i64 a2] w fun e w' => e = .returned (.tuple #[.int .i64 r1, .int .i64 r2]) ∧ Below w.heap.size w w' := by
  have hu44 := Try.underlying44
  have HB := Aside0.mk (Below.refl w.heap.size w)
  have H : ((product_Check.f k a0_0 a0_1 a0_2 a0_3 a0_4 a0_5 a0_6).bind fun t131 => (if t131 = 0 then ((product_within.f a1 33554432).bind fun t132 => (if t132 = true then ((product_within.f a2 1048576).bind fun t133 => (if t133 = true then (some (wrap64 ((wrap64 (a1 * a0_2)) * a2), 0)) else (some (0, 18)))) else (some (0, 17)))) else (some (0, t131)))) = some (r1, r2) := h
  clear h
  replace H := Option.bind_eq_some_iff.mp H
  obtain ⟨t131, A40, H⟩ := H
  replace H : (if t131 = 0 then ((product_within.f a1 33554432).bind fun t132 => (if t132 = true then ((product_within.f a2 1048576).bind fun t133 => (if t133 = true then (some (wrap64 ((wrap64 (a1 * a0_2)) * a2), 0)) else (some (0, 18)))) else (some (0, 17)))) else (some (0, t131))) = some (r1, r2) := H
  have A4 := Aside0.mk A40
  clear A40
  by_cases c5 : t131 = 0
  · rw [if_pos c5] at H
    have c5b0 : (t131 == 0) = true := beq_iff_eq.mpr c5
    have c5b1 : (t131 != 0) = false := bne_eq_false_iff_eq.mpr c5
    clear c5
    replace H := Option.bind_eq_some_iff.mp H
    obtain ⟨t132, A60, H⟩ := H
    replace H : (if t132 = true then ((product_within.f a2 1048576).bind fun t133 => (if t133 = true then (some (wrap64 ((wrap64 (a1 * a0_2)) * a2), 0)) else (some (0, 18)))) else (some (0, 17))) = some (r1, r2) := H
    have A6 := Aside0.mk A60
    clear A60
    by_cases c7 : t132 = true
    · subst c7
      have H1 : ((product_within.f a2 1048576).bind fun t133 => (if t133 = true then (some (wrap64 ((wrap64 (a1 * a0_2)) * a2), 0)) else (some (0, 18)))) = some (r1, r2) := by rw [if_pos rfl] at H; exact H
      clear H
      have H := H1
      clear H1
      replace H := Option.bind_eq_some_iff.mp H
      obtain ⟨t133, A80, H⟩ := H
      replace H : (if t133 = true then (some (wrap64 ((wrap64 (a1 * a0_2)) * a2), 0)) else (some (0, 18))) = some (r1, r2) := H
      have A8 := Aside0.mk A80
      clear A80
      by_cases c9 : t133 = true
      · subst c9
        have H1 : (some (wrap64 ((wrap64 (a1 * a0_2)) * a2), 0)) = some (r1, r2) := by rw [if_pos rfl] at H; exact H
        clear H
        have H := H1
        clear H1
        simp only [Option.some.injEq, Prod.mk.injEq] at H
        obtain ⟨rfl, rfl⟩ := H
        go_enter Try.func40, Try.ntmps40
        go_wp2_with (first | ((with_reducible refine gate_dst (N := 3) rfl ?_); refine box_event ?hg (N := 3) ?hd (cs := #[.string a0_0, .int .i64 a0_1, .int .i64 a0_2, .int .i64 a0_3, .int .i64 a0_4, .int .i64 a0_5, .bool a0_6]) (t := 44) ?hr ?_; (case hd => rfl); (case hg => rfl); (case hr => first | (go_simp; done) | (go_simp; rfl)); intro gb130 hg w10 hbox hb; have n0_ := Aside0.mk (below_step (bz0 HB.out) hb); have n1_ := Aside0.mk (hbox); have n2_ := Aside0.mk ((by rw [hg]; exact (below_size (bz0 HB.out)) : w.heap.size ≤ gb130)); have n3_ := Aside0.mk ((by rw [hg]; exact (below_size (bz0 HB.out)) : w.heap.size ≤ gb130)); clear HB; have HB := n0_; have BK130 := n1_; have GW130 := n2_; have GE130 := n3_; clear n0_ n1_ n2_ n3_; clear hb hbox hg; have hcz11_0 : w10.cell? ⟨gb130, 0, none⟩ = some (.string a0_0) := (blk_cell BK130.out 0).trans rfl; have hcz11_1 : w10.cell? ⟨gb130, 1, none⟩ = some (.int .i64 a0_1) := (blk_cell BK130.out 1).trans rfl; have hcz11_2 : w10.cell? ⟨gb130, 2, none⟩ = some (.int .i64 a0_2) := (blk_cell BK130.out 2).trans rfl; have hcz11_3 : w10.cell? ⟨gb130, 3, none⟩ = some (.int .i64 a0_3) := (blk_cell BK130.out 3).trans rfl; have hcz11_4 : w10.cell? ⟨gb130, 4, none⟩ = some (.int .i64 a0_4) := (blk_cell BK130.out 4).trans rfl; have hcz11_5 : w10.cell? ⟨gb130, 5, none⟩ = some (.int .i64 a0_5) := (blk_cell BK130.out 5).trans rfl; have hcz11_6 : w10.cell? ⟨gb130, 6, none⟩ = some (.bool a0_6) := (blk_cell BK130.out 6).trans rfl; have hfz11_0 := blk_frozen BK130.out 0; have hfz11_1 := blk_frozen BK130.out 1; have hfz11_2 := blk_frozen BK130.out 2; have hfz11_3 := blk_frozen BK130.out 3; have hfz11_4 := blk_frozen BK130.out 4; have hfz11_5 := blk_frozen BK130.out 5; have hfz11_6 := blk_frozen BK130.out 6) | ((with_reducible refine gate_callee (f := 39) rfl ?_); refine goesL_ (some 10) rfl rfl Try.func39 (by kernel_rfl) rfl #[.agg #[.string a0_0, .int .i64 a0_1, .int .i64 a0_2, .int .i64 a0_3, .int .i64 a0_4, .int .i64 a0_5, .bool a0_6]] rfl pm_ ?_; (with_reducible refine (product_Check.calls k a0_0 a0_1 a0_2 a0_3 a0_4 a0_5 a0_6 t131 _ A4.out).mono ?_); rintro e w12 ⟨rfl, hb⟩; refine ⟨_, rfl, ?_⟩; have n0_ := Aside0.mk (blk_below (g := gb130) (o := .cells #[.string a0_0, .int .i64 a0_1, .int .i64 a0_2, .int .i64 a0_3, .int .i64 a0_4, .int .i64 a0_5, .bool a0_6] 44 (0, 0)) (bk_ BK130.out) hb); have n1_ := Aside0.mk (below_step (bz1 HB.out GE130.out) hb); clear BK130; clear HB; have BK130 := n0_; have HB := n1_; clear n0_ n1_; (try clear hb); (try clear hb2); (try clear hk); (try clear hi)) | ((with_reducible refine gate_callee (f := 54) rfl ?_); refine goesL_ (some 15) rfl rfl Try.func54 (by kernel_rfl) rfl #[.int .i64 a1, .int .i64 33554432] rfl pm_ ?_; (with_reducible refine (product_within.calls a1 33554432 true _ A6.out).mono ?_); rintro e w' ⟨rfl, ⟨nd, rfl⟩⟩; refine ⟨_, rfl, ?_⟩) | ((with_reducible refine gate_callee (f := 54) rfl ?_); refine goesL_ (some 18) rfl rfl Try.func54 (by kernel_rfl) rfl #[.int .i64 a2, .int .i64 1048576] rfl pm_ ?_; (with_reducible refine (product_within.calls a2 1048576 true _ A8.out).mono ?_); rintro e w' ⟨rfl, ⟨nd, rfl⟩⟩; refine ⟨_, rfl, ?_⟩; have hcz13_0 : w12.cell? ⟨gb130, 0, none⟩ = some (.string a0_0) := (blk_cell BK130.out 0).trans rfl; have hcz13_1 : w12.cell? ⟨gb130, 1, none⟩ = some (.int .i64 a0_1) := (blk_cell BK130.out 1).trans rfl; have hcz13_2 : w12.cell? ⟨gb130, 2, none⟩ = some (.int .i64 a0_2) := (blk_cell BK130.out 2).trans rfl; have hcz13_3 : w12.cell? ⟨gb130, 3, none⟩ = some (.int .i64 a0_3) := (blk_cell BK130.out 3).trans rfl; have hcz13_4 : w12.cell? ⟨gb130, 4, none⟩ = some (.int .i64 a0_4) := (blk_cell BK130.out 4).trans rfl; have hcz13_5 : w12.cell? ⟨gb130, 5, none⟩ = some (.int .i64 a0_5) := (blk_cell BK130.out 5).trans rfl; have hcz13_6 : w12.cell? ⟨gb130, 6, none⟩ = some (.bool a0_6) := (blk_cell BK130.out 6).trans rfl; have hfz13_0 := blk_frozen BK130.out 0; have hfz13_1 := blk_frozen BK130.out 1; have hfz13_2 := blk_frozen BK130.out 2; have hfz13_3 := blk_frozen BK130.out 3; have hfz13_4 := blk_frozen BK130.out 4; have hfz13_5 := blk_frozen BK130.out 5; have hfz13_6 := blk_frozen BK130.out 6))
        go_ret2
        exact ⟨by first | rfl | (simp [errW_none, errW_some] <;> rfl) | (simp [*, errW_none, errW_some] <;> rfl), bz1 HB.out GE130.out⟩
      · replace c9 := Bool.eq_false_iff.mpr c9
        subst c9
        have H1 : (some (0, 18)) = some (r1, r2) := by rw [if_neg (show ¬ (false = true) by decide)] at H; exact H
        clear H
        have H := H1
        clear H1
        simp only [Option.some.injEq, Prod.mk.injEq] at H
        obtain ⟨rfl, rfl⟩ := H
        go_enter Try.func40, Try.ntmps40
        go_wp2_with (first | ((with_reducible refine gate_dst (N := 3) rfl ?_); refine box_event ?hg (N := 3) ?hd (cs := #[.string a0_0, .int .i64 a0_1, .int .i64 a0_2, .int .i64 a0_3, .int .i64 a0_4, .int .i64 a0_5, .bool a0_6]) (t := 44) ?hr ?_; (case hd => rfl); (case hg => rfl); (case hr => first | (go_simp; done) | (go_simp; rfl)); intro gb130 hg w14 hbox hb; have n0_ := Aside0.mk (below_step (bz0 HB.out) hb); have n1_ := Aside0.mk (hbox); have n2_ := Aside0.mk ((by rw [hg]; exact (below_size (bz0 HB.out)) : w.heap.size ≤ gb130)); have n3_ := Aside0.mk ((by rw [hg]; exact (below_size (bz0 HB.out)) : w.heap.size ≤ gb130)); clear HB; have HB := n0_; have BK130 := n1_; have GW130 := n2_; have GE130 := n3_; clear n0_ n1_ n2_ n3_; clear hb hbox hg; have hcz15_0 : w14.cell? ⟨gb130, 0, none⟩ = some (.string a0_0) := (blk_cell BK130.out 0).trans rfl; have hcz15_1 : w14.cell? ⟨gb130, 1, none⟩ = some (.int .i64 a0_1) := (blk_cell BK130.out 1).trans rfl; have hcz15_2 : w14.cell? ⟨gb130, 2, none⟩ = some (.int .i64 a0_2) := (blk_cell BK130.out 2).trans rfl; have hcz15_3 : w14.cell? ⟨gb130, 3, none⟩ = some (.int .i64 a0_3) := (blk_cell BK130.out 3).trans rfl; have hcz15_4 : w14.cell? ⟨gb130, 4, none⟩ = some (.int .i64 a0_4) := (blk_cell BK130.out 4).trans rfl; have hcz15_5 : w14.cell? ⟨gb130, 5, none⟩ = some (.int .i64 a0_5) := (blk_cell BK130.out 5).trans rfl; have hcz15_6 : w14.cell? ⟨gb130, 6, none⟩ = some (.bool a0_6) := (blk_cell BK130.out 6).trans rfl; have hfz15_0 := blk_frozen BK130.out 0; have hfz15_1 := blk_frozen BK130.out 1; have hfz15_2 := blk_frozen BK130.out 2; have hfz15_3 := blk_frozen BK130.out 3; have hfz15_4 := blk_frozen BK130.out 4; have hfz15_5 := blk_frozen BK130.out 5; have hfz15_6 := blk_frozen BK130.out 6) | ((with_reducible refine gate_callee (f := 39) rfl ?_); refine goesL_ (some 10) rfl rfl Try.func39 (by kernel_rfl) rfl #[.agg #[.string a0_0, .int .i64 a0_1, .int .i64 a0_2, .int .i64 a0_3, .int .i64 a0_4, .int .i64 a0_5, .bool a0_6]] rfl pm_ ?_; (with_reducible refine (product_Check.calls k a0_0 a0_1 a0_2 a0_3 a0_4 a0_5 a0_6 t131 _ A4.out).mono ?_); rintro e w16 ⟨rfl, hb⟩; refine ⟨_, rfl, ?_⟩; have n0_ := Aside0.mk (blk_below (g := gb130) (o := .cells #[.string a0_0, .int .i64 a0_1, .int .i64 a0_2, .int .i64 a0_3, .int .i64 a0_4, .int .i64 a0_5, .bool a0_6] 44 (0, 0)) (bk_ BK130.out) hb); have n1_ := Aside0.mk (below_step (bz1 HB.out GE130.out) hb); clear BK130; clear HB; have BK130 := n0_; have HB := n1_; clear n0_ n1_; (try clear hb); (try clear hb2); (try clear hk); (try clear hi)) | ((with_reducible refine gate_callee (f := 54) rfl ?_); refine goesL_ (some 15) rfl rfl Try.func54 (by kernel_rfl) rfl #[.int .i64 a1, .int .i64 33554432] rfl pm_ ?_; (with_reducible refine (product_within.calls a1 33554432 true _ A6.out).mono ?_); rintro e w' ⟨rfl, ⟨nd, rfl⟩⟩; refine ⟨_, rfl, ?_⟩) | ((with_reducible refine gate_callee (f := 54) rfl ?_); refine goesL_ (some 18) rfl rfl Try.func54 (by kernel_rfl) rfl #[.int .i64 a2, .int .i64 1048576] rfl pm_ ?_; (with_reducible refine (product_within.calls a2 1048576 false _ A8.out).mono ?_); rintro e w' ⟨rfl, ⟨nd, rfl⟩⟩; refine ⟨_, rfl, ?_⟩))
        go_ret2
        exact ⟨by first | rfl | (simp [errW_none, errW_some] <;> rfl) | (simp [*, errW_none, errW_some] <;> rfl), bz1 HB.out GE130.out⟩
    · replace c7 := Bool.eq_false_iff.mpr c7
      subst c7
      have H1 : (some (0, 17)) = some (r1, r2) := by rw [if_neg (show ¬ (false = true) by decide)] at H; exact H
      clear H
      have H := H1
      clear H1
      simp only [Option.some.injEq, Prod.mk.injEq] at H
      obtain ⟨rfl, rfl⟩ := H
      go_enter Try.func40, Try.ntmps40
      go_wp2_with (first | ((with_reducible refine gate_dst (N := 3) rfl ?_); refine box_event ?hg (N := 3) ?hd (cs := #[.string a0_0, .int .i64 a0_1, .int .i64 a0_2, .int .i64 a0_3, .int .i64 a0_4, .int .i64 a0_5, .bool a0_6]) (t := 44) ?hr ?_; (case hd => rfl); (case hg => rfl); (case hr => first | (go_simp; done) | (go_simp; rfl)); intro gb130 hg w17 hbox hb; have n0_ := Aside0.mk (below_step (bz0 HB.out) hb); have n1_ := Aside0.mk (hbox); have n2_ := Aside0.mk ((by rw [hg]; exact (below_size (bz0 HB.out)) : w.heap.size ≤ gb130)); have n3_ := Aside0.mk ((by rw [hg]; exact (below_size (bz0 HB.out)) : w.heap.size ≤ gb130)); clear HB; have HB := n0_; have BK130 := n1_; have GW130 := n2_; have GE130 := n3_; clear n0_ n1_ n2_ n3_; clear hb hbox hg; have hcz18_0 : w17.cell? ⟨gb130, 0, none⟩ = some (.string a0_0) := (blk_cell BK130.out 0).trans rfl; have hcz18_1 : w17.cell? ⟨gb130, 1, none⟩ = some (.int .i64 a0_1) := (blk_cell BK130.out 1).trans rfl; have hcz18_2 : w17.cell? ⟨gb130, 2, none⟩ = some (.int .i64 a0_2) := (blk_cell BK130.out 2).trans rfl; have hcz18_3 : w17.cell? ⟨gb130, 3, none⟩ = some (.int .i64 a0_3) := (blk_cell BK130.out 3).trans rfl; have hcz18_4 : w17.cell? ⟨gb130, 4, none⟩ = some (.int .i64 a0_4) := (blk_cell BK130.out 4).trans rfl; have hcz18_5 : w17.cell? ⟨gb130, 5, none⟩ = some (.int .i64 a0_5) := (blk_cell BK130.out 5).trans rfl; have hcz18_6 : w17.cell? ⟨gb130, 6, none⟩ = some (.bool a0_6) := (blk_cell BK130.out 6).trans rfl; have hfz18_0 := blk_frozen BK130.out 0; have hfz18_1 := blk_frozen BK130.out 1; have hfz18_2 := blk_frozen BK130.out 2; have hfz18_3 := blk_frozen BK130.out 3; have hfz18_4 := blk_frozen BK130.out 4; have hfz18_5 := blk_frozen BK130.out 5; have hfz18_6 := blk_frozen BK130.out 6) | ((with_reducible refine gate_callee (f := 39) rfl ?_); refine goesL_ (some 10) rfl rfl Try.func39 (by kernel_rfl) rfl #[.agg #[.string a0_0, .int .i64 a0_1, .int .i64 a0_2, .int .i64 a0_3, .int .i64 a0_4, .int .i64 a0_5, .bool a0_6]] rfl pm_ ?_; (with_reducible refine (product_Check.calls k a0_0 a0_1 a0_2 a0_3 a0_4 a0_5 a0_6 t131 _ A4.out).mono ?_); rintro e w19 ⟨rfl, hb⟩; refine ⟨_, rfl, ?_⟩; have n0_ := Aside0.mk (blk_below (g := gb130) (o := .cells #[.string a0_0, .int .i64 a0_1, .int .i64 a0_2, .int .i64 a0_3, .int .i64 a0_4, .int .i64 a0_5, .bool a0_6] 44 (0, 0)) (bk_ BK130.out) hb); have n1_ := Aside0.mk (below_step (bz1 HB.out GE130.out) hb); clear BK130; clear HB; have BK130 := n0_; have HB := n1_; clear n0_ n1_; (try clear hb); (try clear hb2); (try clear hk); (try clear hi)) | ((with_reducible refine gate_callee (f := 54) rfl ?_); refine goesL_ (some 15) rfl rfl Try.func54 (by kernel_rfl) rfl #[.int .i64 a1, .int .i64 33554432] rfl pm_ ?_; (with_reducible refine (product_within.calls a1 33554432 false _ A6.out).mono ?_); rintro e w' ⟨rfl, ⟨nd, rfl⟩⟩; refine ⟨_, rfl, ?_⟩))
      go_ret2
      exact ⟨by first | rfl | (simp [errW_none, errW_some] <;> rfl) | (simp [*, errW_none, errW_some] <;> rfl), bz1 HB.out GE130.out⟩
  · rw [if_neg c5] at H
    have c5b0 : (t131 == 0) = false := beq_eq_false_iff_ne.mpr c5
    have c5b1 : (t131 != 0) = true := bne_iff_ne.mpr c5
    simp only [Option.some.injEq, Prod.mk.injEq] at H
    obtain ⟨rfl, rfl⟩ := H
    go_enter Try.func40, Try.ntmps40
    go_wp2_with (first | ((with_reducible refine gate_dst (N := 3) rfl ?_); refine box_event ?hg (N := 3) ?hd (cs := #[.string a0_0, .int .i64 a0_1, .int .i64 a0_2, .int .i64 a0_3, .int .i64 a0_4, .int .i64 a0_5, .bool a0_6]) (t := 44) ?hr ?_; (case hd => rfl); (case hg => rfl); (case hr => first | (go_simp; done) | (go_simp; rfl)); intro gb130 hg w20 hbox hb; have n0_ := Aside0.mk (below_step (bz0 HB.out) hb); have n1_ := Aside0.mk (hbox); have n2_ := Aside0.mk ((by rw [hg]; exact (below_size (bz0 HB.out)) : w.heap.size ≤ gb130)); have n3_ := Aside0.mk ((by rw [hg]; exact (below_size (bz0 HB.out)) : w.heap.size ≤ gb130)); clear HB; have HB := n0_; have BK130 := n1_; have GW130 := n2_; have GE130 := n3_; clear n0_ n1_ n2_ n3_; clear hb hbox hg; have hcz21_0 : w20.cell? ⟨gb130, 0, none⟩ = some (.string a0_0) := (blk_cell BK130.out 0).trans rfl; have hcz21_1 : w20.cell? ⟨gb130, 1, none⟩ = some (.int .i64 a0_1) := (blk_cell BK130.out 1).trans rfl; have hcz21_2 : w20.cell? ⟨gb130, 2, none⟩ = some (.int .i64 a0_2) := (blk_cell BK130.out 2).trans rfl; have hcz21_3 : w20.cell? ⟨gb130, 3, none⟩ = some (.int .i64 a0_3) := (blk_cell BK130.out 3).trans rfl; have hcz21_4 : w20.cell? ⟨gb130, 4, none⟩ = some (.int .i64 a0_4) := (blk_cell BK130.out 4).trans rfl; have hcz21_5 : w20.cell? ⟨gb130, 5, none⟩ = some (.int .i64 a0_5) := (blk_cell BK130.out 5).trans rfl; have hcz21_6 : w20.cell? ⟨gb130, 6, none⟩ = some (.bool a0_6) := (blk_cell BK130.out 6).trans rfl; have hfz21_0 := blk_frozen BK130.out 0; have hfz21_1 := blk_frozen BK130.out 1; have hfz21_2 := blk_frozen BK130.out 2; have hfz21_3 := blk_frozen BK130.out 3; have hfz21_4 := blk_frozen BK130.out 4; have hfz21_5 := blk_frozen BK130.out 5; have hfz21_6 := blk_frozen BK130.out 6) | ((with_reducible refine gate_callee (f := 39) rfl ?_); refine goesL_ (some 10) rfl rfl Try.func39 (by kernel_rfl) rfl #[.agg #[.string a0_0, .int .i64 a0_1, .int .i64 a0_2, .int .i64 a0_3, .int .i64 a0_4, .int .i64 a0_5, .bool a0_6]] rfl pm_ ?_; (with_reducible refine (product_Check.calls k a0_0 a0_1 a0_2 a0_3 a0_4 a0_5 a0_6 t131 _ A4.out).mono ?_); rintro e w22 ⟨rfl, hb⟩; refine ⟨_, rfl, ?_⟩; have n0_ := Aside0.mk (blk_below (g := gb130) (o := .cells #[.string a0_0, .int .i64 a0_1, .int .i64 a0_2, .int .i64 a0_3, .int .i64 a0_4, .int .i64 a0_5, .bool a0_6] 44 (0, 0)) (bk_ BK130.out) hb); have n1_ := Aside0.mk (below_step (bz1 HB.out GE130.out) hb); clear BK130; clear HB; have BK130 := n0_; have HB := n1_; clear n0_ n1_; (try clear hb); (try clear hb2); (try clear hk); (try clear hi)))
    go_ret2
    exact ⟨by first | rfl | (simp [errW_none, errW_some] <;> rfl) | (simp [*, errW_none, errW_some] <;> rfl), bz1 HB.out GE130.out⟩

/-! ### tear_Worth: function 16 -/
def tear_Worth.j0 : Nat → Int → Int → Bool → Int → Bool → ByteArray → Int → Int → Int → Int → Int → Bool → Option (Int × Int)
  | 0, _, _, _, _, _, _, _, _, _, _, _, _ => none
  | k + 1, x1, x2, x3, x4, x26, x135000, x135001, x135002, x135003, x135004, x135005, x135006 => if x26 = true then (some (0, 17)) else ((product_Value.f k x135000 x135001 x135002 x135003 x135004 x135005 x135006 (wrap64 (x1 - x2)) x4).bind fun bt136 => (if x3 = true then (some (bt136.1, bt136.2)) else (some (wrap64 (-bt136.1), bt136.2))))
def tear_Worth.f (k : Nat) (a0_0 : ByteArray) (a0_1 : Int) (a0_2 : Int) (a0_3 : Int) (a0_4 : Int) (a0_5 : Int) (a0_6 : Bool) (a1 : Int) (a2 : Int) (a3 : Bool) (a4 : Int) : Option (Int × Int) := (product_Check.f k a0_0 a0_1 a0_2 a0_3 a0_4 a0_5 a0_6).bind fun t135 => (if t135 = 0 then (if (mn a1 a2) < (-16777216) then (tear_Worth.j0 k a1 a2 a3 a4 true a0_0 a0_1 a0_2 a0_3 a0_4 a0_5 a0_6) else (tear_Worth.j0 k a1 a2 a3 a4 (decide ((mx a1 a2) > 16777216)) a0_0 a0_1 a0_2 a0_3 a0_4 a0_5 a0_6)) else (some (0, t135)))
theorem tear_Worth.mono_l : ∀ k, (∀ y0 y1 y2 y3 y4 y5 y6 y7 y8 y9 y10 y11, LeO (tear_Worth.j0 k y0 y1 y2 y3 y4 y5 y6 y7 y8 y9 y10 y11) (tear_Worth.j0 (k + 1) y0 y1 y2 y3 y4 y5 y6 y7 y8 y9 y10 y11))
  | 0 => fun _ _ _ _ _ _ _ _ _ _ _ _ r h => by simp [tear_Worth.j0] at h
  | k + 1 => by
    have ih0 := tear_Worth.mono_l k
    · intro y0 y1 y2 y3 y4 y5 y6 y7 y8 y9 y10 y11
      unfold tear_Worth.j0
      repeat' first
      | (with_reducible exact ih0 _ _ _ _ _ _ _ _ _ _ _ _)
      | (with_reducible exact product_Check.mono _ _ _ _ _ _ _ _)
      | (with_reducible exact product_Value.mono _ _ _ _ _ _ _ _ _ _)
      | (with_reducible exact LeO.refl _)
      | (with_reducible exact LeO.none _)
      | (with_reducible refine LeO.ite ?_ ?_)
      | (with_reducible refine LeO.bind ?_ (fun _ => ?_))
      | exact LeO.none _
      | refine LeO.ite ?_ ?_
      | refine LeO.bind ?_ (fun _ => ?_)
theorem tear_Worth.mono : ∀ a0 a1 a2 a3 a4 a5 a6 a7 a8 a9 a10 k, LeO (tear_Worth.f k a0 a1 a2 a3 a4 a5 a6 a7 a8 a9 a10) (tear_Worth.f (k + 1) a0 a1 a2 a3 a4 a5 a6 a7 a8 a9 a10) := by
  intro a0 a1 a2 a3 a4 a5 a6 a7 a8 a9 a10 k
  have ih0 := tear_Worth.mono_l k
  unfold tear_Worth.f
  repeat' first
      | (with_reducible exact ih0 _ _ _ _ _ _ _ _ _ _ _ _)
      | (with_reducible exact product_Check.mono _ _ _ _ _ _ _ _)
      | (with_reducible exact product_Value.mono _ _ _ _ _ _ _ _ _ _)
      | (with_reducible exact LeO.refl _)
      | (with_reducible exact LeO.none _)
      | (with_reducible refine LeO.ite ?_ ?_)
      | (with_reducible refine LeO.bind ?_ (fun _ => ?_))
      | exact LeO.none _
      | refine LeO.ite ?_ ?_
      | refine LeO.bind ?_ (fun _ => ?_)
set_option maxHeartbeats 8000000 in
set_option maxRecDepth 100000 in
theorem tear_Worth.calls (k : Nat) (a0_0 : ByteArray) (a0_1 : Int) (a0_2 : Int) (a0_3 : Int) (a0_4 : Int) (a0_5 : Int) (a0_6 : Bool) (a1 : Int) (a2 : Int) (a3 : Bool) (a4 : Int) (r1 : Int) (r2 : Int) (w : World) (h : tear_Worth.f k a0_0 a0_1 a0_2 a0_3 a0_4 a0_5 a0_6 a1 a2 a3 a4 = some (r1, r2)) :
    Calls Try.prog 16 #[.agg #[.string a0_0, .int .i64 a0_1, .int .i64 a0_2, .int .i64 a0_3, .int .i64 a0_4, .int .i64 a0_5, .bool a0_6], .int .i64 a1, .int .i64 a2, .bool a3, .int .i64 a4] w fun e w' => e = .returned (.tuple #[.int .i64 r1, .int .i64 r2]) ∧ Below w.heap.size w w' := by
  have hu44 := Try.underlying44
  have HB := Aside0.mk (Below.refl w.heap.size w)
  have H : ((product_Check.f k a0_0 a0_1 a0_2 a0_3 a0_4 a0_5 a0_6).bind fun t135 => (if t135 = 0 then (if (mn a1 a2) < (-16777216) then (tear_Worth.j0 k a1 a2 a3 a4 true a0_0 a0_1 a0_2 a0_3 a0_4 a0_5 a0_6) else (tear_Worth.j0 k a1 a2 a3 a4 (decide ((mx a1 a2) > 16777216)) a0_0 a0_1 a0_2 a0_3 a0_4 a0_5 a0_6)) else (some (0, t135)))) = some (r1, r2) := h
  clear h
  replace H := Option.bind_eq_some_iff.mp H
  obtain ⟨t135, A60, H⟩ := H
  replace H : (if t135 = 0 then (if (mn a1 a2) < (-16777216) then (tear_Worth.j0 k a1 a2 a3 a4 true a0_0 a0_1 a0_2 a0_3 a0_4 a0_5 a0_6) else (tear_Worth.j0 k a1 a2 a3 a4 (decide ((mx a1 a2) > 16777216)) a0_0 a0_1 a0_2 a0_3 a0_4 a0_5 a0_6)) else (some (0, t135))) = some (r1, r2) := H
  have A6 := Aside0.mk A60
  clear A60
  by_cases c7 : t135 = 0
  · rw [if_pos c7] at H
    have c7b0 : (t135 == 0) = true := beq_iff_eq.mpr c7
    have c7b1 : (t135 != 0) = false := bne_eq_false_iff_eq.mpr c7
    clear c7
    have HC8 := Aside0.mk H
    clear H
    go_enter Try.func16, Try.ntmps16
    go_upto_region 4 with (first | ((with_reducible refine gate_dst (N := 5) rfl ?_); (try (refine gate_guard (by rfl) ?_; dsimp only)); refine box_event ?hg (N := 5) ?hd (cs := #[.string a0_0, .int .i64 a0_1, .int .i64 a0_2, .int .i64 a0_3, .int .i64 a0_4, .int .i64 a0_5, .bool a0_6]) (t := 44) ?hr ?_; (case hd => rfl); (case hg => rfl); (case hr => first | (go_simp; done) | (go_simp; rfl)); intro gb134 hg w9 hbox hb; have n0_ := Aside0.mk (below_step (bz0 HB.out) hb); have n1_ := Aside0.mk (hbox); have n2_ := Aside0.mk ((by rw [hg]; exact (below_size (bz0 HB.out)) : w.heap.size ≤ gb134)); have n3_ := Aside0.mk ((by rw [hg]; exact (below_size (bz0 HB.out)) : w.heap.size ≤ gb134)); clear HB; have HB := n0_; have BK134 := n1_; have GW134 := n2_; have GE134 := n3_; clear n0_ n1_ n2_ n3_; clear hb hbox hg; have hcz10_0 : w9.cell? ⟨gb134, 0, none⟩ = some (.string a0_0) := (blk_cell BK134.out 0).trans rfl; have hcz10_1 : w9.cell? ⟨gb134, 1, none⟩ = some (.int .i64 a0_1) := (blk_cell BK134.out 1).trans rfl; have hcz10_2 : w9.cell? ⟨gb134, 2, none⟩ = some (.int .i64 a0_2) := (blk_cell BK134.out 2).trans rfl; have hcz10_3 : w9.cell? ⟨gb134, 3, none⟩ = some (.int .i64 a0_3) := (blk_cell BK134.out 3).trans rfl; have hcz10_4 : w9.cell? ⟨gb134, 4, none⟩ = some (.int .i64 a0_4) := (blk_cell BK134.out 4).trans rfl; have hcz10_5 : w9.cell? ⟨gb134, 5, none⟩ = some (.int .i64 a0_5) := (blk_cell BK134.out 5).trans rfl; have hcz10_6 : w9.cell? ⟨gb134, 6, none⟩ = some (.bool a0_6) := (blk_cell BK134.out 6).trans rfl; have hfz10_0 := blk_frozen BK134.out 0; have hfz10_1 := blk_frozen BK134.out 1; have hfz10_2 := blk_frozen BK134.out 2; have hfz10_3 := blk_frozen BK134.out 3; have hfz10_4 := blk_frozen BK134.out 4; have hfz10_5 := blk_frozen BK134.out 5; have hfz10_6 := blk_frozen BK134.out 6) | ((with_reducible refine gate_callee (f := 39) rfl ?_); refine goesL_ (some 13) rfl rfl Try.func39 (by kernel_rfl) rfl #[.agg #[.string a0_0, .int .i64 a0_1, .int .i64 a0_2, .int .i64 a0_3, .int .i64 a0_4, .int .i64 a0_5, .bool a0_6]] rfl pm_ ?_; (with_reducible refine (product_Check.calls k a0_0 a0_1 a0_2 a0_3 a0_4 a0_5 a0_6 t135 _ A6.out).mono ?_); rintro e w11 ⟨rfl, hb⟩; refine ⟨_, rfl, ?_⟩; have n0_ := Aside0.mk (blk_below (g := gb134) (o := .cells #[.string a0_0, .int .i64 a0_1, .int .i64 a0_2, .int .i64 a0_3, .int .i64 a0_4, .int .i64 a0_5, .bool a0_6] 44 (0, 0)) (bk_ BK134.out) hb); have n1_ := Aside0.mk (below_step (bz1 HB.out GE134.out) hb); clear BK134; clear HB; have BK134 := n0_; have HB := n1_; clear n0_ n1_; (try clear hb); (try clear hb2); (try clear hk); (try clear hi)))
    (try simp only [Act.put, List.setIfInBounds_toArray, List.set_cons_zero, List.set_cons_succ])
    go_cut [26] (fun v26 wc => ∃ (kq : Nat) (x26_7 : Bool), v26 = .bool x26_7 ∧ Aside0 (tear_Worth.j0 kq a1 a2 a3 a4 x26_7 a0_0 a0_1 a0_2 a0_3 a0_4 a0_5 a0_6 = some (r1, r2)) ∧ Aside0 (kq ≤ k) ∧ Aside0 (wc.heap[gb134]? = some (.cells #[.string a0_0, .int .i64 a0_1, .int .i64 a0_2, .int .i64 a0_3, .int .i64 a0_4, .int .i64 a0_5, .bool a0_6] 44 (0, 0))) ∧ Aside0 (Below w.heap.size w wc))
    case first =>
      have H := HC8.out
      clear HC8
      obtain ⟨ji12, hji12⟩ : ∃ j_ : Int, (mn a1 a2) = j_ := ⟨_, rfl⟩
      replace H : (if (ji12) < (-16777216) then (tear_Worth.j0 k a1 a2 a3 a4 true a0_0 a0_1 a0_2 a0_3 a0_4 a0_5 a0_6) else (tear_Worth.j0 k a1 a2 a3 a4 (decide ((mx a1 a2) > 16777216)) a0_0 a0_1 a0_2 a0_3 a0_4 a0_5 a0_6)) = some (r1, r2) := by first | (rw [hji12] at H; exact H) | (simp only [hji12] at H ⊢; exact H)
      have hji12_ : (if a2 < a1 then a2 else a1) = ji12 := hji12
      by_cases c13 : (ji12) < (-16777216)
      · rw [if_pos c13] at H
        have c13b0 : decide ((ji12) < (-16777216)) = true := decide_eq_true c13
        clear c13
        (first | rw [c13b0] | (simp only [i64_w, i32_w]; rw [c13b0]) | skip)
        have H' := Aside0.mk H
        clear H
        go_wp2
        go_meet
        case rel => exact ⟨_, (true), rf_, H', ⟨by first | omega | exact Nat.le_refl _⟩, ⟨by (with_reducible repeat (first | refine blk_drewN ?_ _ | refine blk_drew ?_ | refine blk_alloc ?_ _)); exact BK134.out⟩, ⟨bz1 HB.out GE134.out⟩⟩
      · rw [if_neg c13] at H
        have c13b0 : decide ((ji12) < (-16777216)) = false := decide_eq_false c13
        clear c13
        (first | rw [c13b0] | (simp only [i64_w, i32_w]; rw [c13b0]) | skip)
        obtain ⟨ji14, hji14⟩ : ∃ j_ : Int, (mx a1 a2) = j_ := ⟨_, rfl⟩
        replace H : (tear_Worth.j0 k a1 a2 a3 a4 (decide ((ji14) > 16777216)) a0_0 a0_1 a0_2 a0_3 a0_4 a0_5 a0_6) = some (r1, r2) := by first | (rw [hji14] at H; exact H) | (simp only [hji14] at H ⊢; exact H)
        have hji14_ : (if a1 < a2 then a2 else a1) = ji14 := hji14
        have H' := Aside0.mk H
        clear H
        go_wp2
        go_meet
        case rel => exact ⟨_, (decide ((ji14) > 16777216)), (by first | rfl | (simp; done) | (simp only [← hji14] <;> (first | rfl | simp)) | (simp [*]; done)), H', ⟨by first | omega | exact Nat.le_refl _⟩, ⟨by (with_reducible repeat (first | refine blk_drewN ?_ _ | refine blk_drew ?_ | refine blk_alloc ?_ _)); exact BK134.out⟩, ⟨bz1 HB.out GE134.out⟩⟩
    case rest =>
      clear HC8
      try clear c1
      try clear p2
      try clear c3
      try clear c7
      try clear c7b0
      try clear c7b1
      try clear c13
      try clear c13b0
      try clear hcz10_0
      try clear hcz10_1
      try clear hcz10_2
      try clear hcz10_3
      try clear hcz10_4
      try clear hcz10_5
      try clear hcz10_6
      try clear hfz10_0
      try clear hfz10_1
      try clear hfz10_2
      try clear hfz10_3
      try clear hfz10_4
      try clear hfz10_5
      try clear hfz10_6
      obtain ⟨kq, x26_7, rfl, HA, HJ7, BK134, HB⟩ := hcut
      cases kq with
      | zero => exact absurd HA.out (by simp [tear_Worth.j0])
      | succ kj7 =>
        have H := HA.out
        clear HA
        simp only [tear_Worth.j0] at H
        by_cases c15 : x26_7 = true
        · subst c15
          have H1 : (some (0, 17)) = some (r1, r2) := by rw [if_pos rfl] at H; exact H
          clear H
          have H := H1
          clear H1
          simp only [Option.some.injEq, Prod.mk.injEq] at H
          obtain ⟨rfl, rfl⟩ := H
          go_wp2
          go_ret2
          exact ⟨by first | rfl | (simp [errW_none, errW_some] <;> rfl) | (simp [*, errW_none, errW_some] <;> rfl), bz1 HB.out GE134.out⟩
        · replace c15 := Bool.eq_false_iff.mpr c15
          subst c15
          have H1 : ((product_Value.f kj7 a0_0 a0_1 a0_2 a0_3 a0_4 a0_5 a0_6 (wrap64 (a1 - a2)) a4).bind fun bt136 => (if a3 = true then (some (bt136.1, bt136.2)) else (some (wrap64 (-bt136.1), bt136.2)))) = some (r1, r2) := by rw [if_neg (show ¬ (false = true) by decide)] at H; exact H
          clear H
          have H := H1
          clear H1
          replace H := Option.bind_eq_some_iff.mp H
          obtain ⟨⟨t136, t137⟩, A160, H⟩ := H
          replace H : (if a3 = true then (some (t136, t137)) else (some (wrap64 (-t136), t137))) = some (r1, r2) := H
          have A16 := Aside0.mk A160
          clear A160
          by_cases c17 : a3 = true
          · subst c17
            have H1 : (some (t136, t137)) = some (r1, r2) := by rw [if_pos rfl] at H; exact H
            clear H
            have H := H1
            clear H1
            simp only [Option.some.injEq, Prod.mk.injEq] at H
            obtain ⟨rfl, rfl⟩ := H
            have hcz18_0 : wc.cell? ⟨gb134, 0, none⟩ = some (.string a0_0) := (blk_cell BK134.out 0).trans rfl
            have hcz18_1 : wc.cell? ⟨gb134, 1, none⟩ = some (.int .i64 a0_1) := (blk_cell BK134.out 1).trans rfl
            have hcz18_2 : wc.cell? ⟨gb134, 2, none⟩ = some (.int .i64 a0_2) := (blk_cell BK134.out 2).trans rfl
            have hcz18_3 : wc.cell? ⟨gb134, 3, none⟩ = some (.int .i64 a0_3) := (blk_cell BK134.out 3).trans rfl
            have hcz18_4 : wc.cell? ⟨gb134, 4, none⟩ = some (.int .i64 a0_4) := (blk_cell BK134.out 4).trans rfl
            have hcz18_5 : wc.cell? ⟨gb134, 5, none⟩ = some (.int .i64 a0_5) := (blk_cell BK134.out 5).trans rfl
            have hcz18_6 : wc.cell? ⟨gb134, 6, none⟩ = some (.bool a0_6) := (blk_cell BK134.out 6).trans rfl
            have hfz18_0 := blk_frozen BK134.out 0
            have hfz18_1 := blk_frozen BK134.out 1
            have hfz18_2 := blk_frozen BK134.out 2
            have hfz18_3 := blk_frozen BK134.out 3
            have hfz18_4 := blk_frozen BK134.out 4
            have hfz18_5 := blk_frozen BK134.out 5
            have hfz18_6 := blk_frozen BK134.out 6
            go_wp2_with (first | ((with_reducible refine gate_callee (f := 40) rfl ?_); refine goesL_ (some 33) rfl rfl Try.func40 (by kernel_rfl) rfl #[.agg #[.string a0_0, .int .i64 a0_1, .int .i64 a0_2, .int .i64 a0_3, .int .i64 a0_4, .int .i64 a0_5, .bool a0_6], .int .i64 (wrap64 (a1 - a2)), .int .i64 a4] rfl pm_ ?_; (with_reducible refine (product_Value.calls kj7 a0_0 a0_1 a0_2 a0_3 a0_4 a0_5 a0_6 (wrap64 (a1 - a2)) a4 t136 t137 _ A16.out).mono ?_); rintro e w19 ⟨rfl, hb⟩; refine ⟨_, rfl, ?_⟩; have n0_ := Aside0.mk (blk_below (g := gb134) (o := .cells #[.string a0_0, .int .i64 a0_1, .int .i64 a0_2, .int .i64 a0_3, .int .i64 a0_4, .int .i64 a0_5, .bool a0_6] 44 (0, 0)) (bk_ BK134.out) hb); have n1_ := Aside0.mk (below_step (bz1 HB.out GE134.out) hb); clear BK134; clear HB; have BK134 := n0_; have HB := n1_; clear n0_ n1_; (try clear hb); (try clear hb2); (try clear hk); (try clear hi)))
            go_ret2
            exact ⟨by first | rfl | (simp [errW_none, errW_some] <;> rfl) | (simp [*, errW_none, errW_some] <;> rfl), bz1 HB.out GE134.out⟩
          · replace c17 := Bool.eq_false_iff.mpr c17
            subst c17
            have H1 : (some (wrap64 (-t136), t137)) = some (r1, r2) := by rw [if_neg (show ¬ (false = true) by decide)] at H; exact H
            clear H
            have H := H1
            clear H1
            simp only [Option.some.injEq, Prod.mk.injEq] at H
            obtain ⟨rfl, rfl⟩ := H
            have hcz20_0 : wc.cell? ⟨gb134, 0, none⟩ = some (.string a0_0) := (blk_cell BK134.out 0).trans rfl
            have hcz20_1 : wc.cell? ⟨gb134, 1, none⟩ = some (.int .i64 a0_1) := (blk_cell BK134.out 1).trans rfl
            have hcz20_2 : wc.cell? ⟨gb134, 2, none⟩ = some (.int .i64 a0_2) := (blk_cell BK134.out 2).trans rfl
            have hcz20_3 : wc.cell? ⟨gb134, 3, none⟩ = some (.int .i64 a0_3) := (blk_cell BK134.out 3).trans rfl
            have hcz20_4 : wc.cell? ⟨gb134, 4, none⟩ = some (.int .i64 a0_4) := (blk_cell BK134.out 4).trans rfl
            have hcz20_5 : wc.cell? ⟨gb134, 5, none⟩ = some (.int .i64 a0_5) := (blk_cell BK134.out 5).trans rfl
            have hcz20_6 : wc.cell? ⟨gb134, 6, none⟩ = some (.bool a0_6) := (blk_cell BK134.out 6).trans rfl
            have hfz20_0 := blk_frozen BK134.out 0
            have hfz20_1 := blk_frozen BK134.out 1
            have hfz20_2 := blk_frozen BK134.out 2
            have hfz20_3 := blk_frozen BK134.out 3
            have hfz20_4 := blk_frozen BK134.out 4
            have hfz20_5 := blk_frozen BK134.out 5
            have hfz20_6 := blk_frozen BK134.out 6
            go_wp2_with (first | ((with_reducible refine gate_callee (f := 40) rfl ?_); refine goesL_ (some 33) rfl rfl Try.func40 (by kernel_rfl) rfl #[.agg #[.string a0_0, .int .i64 a0_1, .int .i64 a0_2, .int .i64 a0_3, .int .i64 a0_4, .int .i64 a0_5, .bool a0_6], .int .i64 (wrap64 (a1 - a2)), .int .i64 a4] rfl pm_ ?_; (with_reducible refine (product_Value.calls kj7 a0_0 a0_1 a0_2 a0_3 a0_4 a0_5 a0_6 (wrap64 (a1 - a2)) a4 t136 t137 _ A16.out).mono ?_); rintro e w21 ⟨rfl, hb⟩; refine ⟨_, rfl, ?_⟩; have n0_ := Aside0.mk (blk_below (g := gb134) (o := .cells #[.string a0_0, .int .i64 a0_1, .int .i64 a0_2, .int .i64 a0_3, .int .i64 a0_4, .int .i64 a0_5, .bool a0_6] 44 (0, 0)) (bk_ BK134.out) hb); have n1_ := Aside0.mk (below_step (bz1 HB.out GE134.out) hb); clear BK134; clear HB; have BK134 := n0_; have HB := n1_; clear n0_ n1_; (try clear hb); (try clear hb2); (try clear hk); (try clear hi)))
            go_ret2
            exact ⟨by first | rfl | (simp [errW_none, errW_some] <;> rfl) | (simp [*, errW_none, errW_some] <;> rfl), bz1 HB.out GE134.out⟩
  · rw [if_neg c7] at H
    have c7b0 : (t135 == 0) = false := beq_eq_false_iff_ne.mpr c7
    have c7b1 : (t135 != 0) = true := bne_iff_ne.mpr c7
    simp only [Option.some.injEq, Prod.mk.injEq] at H
    obtain ⟨rfl, rfl⟩ := H
    go_enter Try.func16, Try.ntmps16
    go_wp2_with (first | ((with_reducible refine gate_dst (N := 5) rfl ?_); (try (refine gate_guard (by rfl) ?_; dsimp only)); refine box_event ?hg (N := 5) ?hd (cs := #[.string a0_0, .int .i64 a0_1, .int .i64 a0_2, .int .i64 a0_3, .int .i64 a0_4, .int .i64 a0_5, .bool a0_6]) (t := 44) ?hr ?_; (case hd => rfl); (case hg => rfl); (case hr => first | (go_simp; done) | (go_simp; rfl)); intro gb134 hg w22 hbox hb; have n0_ := Aside0.mk (below_step (bz0 HB.out) hb); have n1_ := Aside0.mk (hbox); have n2_ := Aside0.mk ((by rw [hg]; exact (below_size (bz0 HB.out)) : w.heap.size ≤ gb134)); have n3_ := Aside0.mk ((by rw [hg]; exact (below_size (bz0 HB.out)) : w.heap.size ≤ gb134)); clear HB; have HB := n0_; have BK134 := n1_; have GW134 := n2_; have GE134 := n3_; clear n0_ n1_ n2_ n3_; clear hb hbox hg; have hcz23_0 : w22.cell? ⟨gb134, 0, none⟩ = some (.string a0_0) := (blk_cell BK134.out 0).trans rfl; have hcz23_1 : w22.cell? ⟨gb134, 1, none⟩ = some (.int .i64 a0_1) := (blk_cell BK134.out 1).trans rfl; have hcz23_2 : w22.cell? ⟨gb134, 2, none⟩ = some (.int .i64 a0_2) := (blk_cell BK134.out 2).trans rfl; have hcz23_3 : w22.cell? ⟨gb134, 3, none⟩ = some (.int .i64 a0_3) := (blk_cell BK134.out 3).trans rfl; have hcz23_4 : w22.cell? ⟨gb134, 4, none⟩ = some (.int .i64 a0_4) := (blk_cell BK134.out 4).trans rfl; have hcz23_5 : w22.cell? ⟨gb134, 5, none⟩ = some (.int .i64 a0_5) := (blk_cell BK134.out 5).trans rfl; have hcz23_6 : w22.cell? ⟨gb134, 6, none⟩ = some (.bool a0_6) := (blk_cell BK134.out 6).trans rfl; have hfz23_0 := blk_frozen BK134.out 0; have hfz23_1 := blk_frozen BK134.out 1; have hfz23_2 := blk_frozen BK134.out 2; have hfz23_3 := blk_frozen BK134.out 3; have hfz23_4 := blk_frozen BK134.out 4; have hfz23_5 := blk_frozen BK134.out 5; have hfz23_6 := blk_frozen BK134.out 6) | ((with_reducible refine gate_callee (f := 39) rfl ?_); refine goesL_ (some 13) rfl rfl Try.func39 (by kernel_rfl) rfl #[.agg #[.string a0_0, .int .i64 a0_1, .int .i64 a0_2, .int .i64 a0_3, .int .i64 a0_4, .int .i64 a0_5, .bool a0_6]] rfl pm_ ?_; (with_reducible refine (product_Check.calls k a0_0 a0_1 a0_2 a0_3 a0_4 a0_5 a0_6 t135 _ A6.out).mono ?_); rintro e w24 ⟨rfl, hb⟩; refine ⟨_, rfl, ?_⟩; have n0_ := Aside0.mk (blk_below (g := gb134) (o := .cells #[.string a0_0, .int .i64 a0_1, .int .i64 a0_2, .int .i64 a0_3, .int .i64 a0_4, .int .i64 a0_5, .bool a0_6] 44 (0, 0)) (bk_ BK134.out) hb); have n1_ := Aside0.mk (below_step (bz1 HB.out GE134.out) hb); clear BK134; clear HB; have BK134 := n0_; have HB := n1_; clear n0_ n1_; (try clear hb); (try clear hb2); (try clear hk); (try clear hi)))
    go_ret2
    exact ⟨by first | rfl | (simp [errW_none, errW_some] <;> rfl) | (simp [*, errW_none, errW_some] <;> rfl), bz1 HB.out GE134.out⟩

/-! ### contangolaw50_hold: function 23 -/
def contangolaw50_hold.f (a0_0 : ByteArray) (a0_1 : Int) (a0_2 : Int) (a0_3 : Int) (a1 : ByteArray) (a2 : Int) : Option (ByteArray × ByteArray × (List (S52))) := some (a1, (⟨#[104, 111, 117, 115, 101]⟩ : ByteArray), (([(⟨(⟨a0_0, a0_1, a0_2, a0_3⟩ : S24), a2, 0⟩ : S52)] : List (S52))))
set_option maxHeartbeats 8000000 in
set_option maxRecDepth 100000 in
theorem contangolaw50_hold.calls (a0_0 : ByteArray) (a0_1 : Int) (a0_2 : Int) (a0_3 : Int) (a1 : ByteArray) (a2 : Int) (r1 : ByteArray) (r2 : ByteArray) (r3 : List (S52)) (w : World) (h : contangolaw50_hold.f a0_0 a0_1 a0_2 a0_3 a1 a2 = some (r1, r2, r3)) :
    Calls Try.prog 23 #[.agg #[.string a0_0, .int .i64 a0_1, .int .i64 a0_2, .int .i64 a0_3], .string a1, .int .i64 a2] w fun e w' => ∃ v2_ : Value, e = .returned (.agg #[.string r1, .string r2, v2_]) ∧ Kd.R k52 52 w' w.heap.size (fun _ => True) v2_ r3 ∧ Below w.heap.size w w' := by
  have hu24 := Try.underlying24
  have hu58 := Try.underlying58
  have hu55 := Try.underlying55
  have hu52 := Try.underlying52
  have HB := Aside0.mk (Below.refl w.heap.size w)
  have H : (some (a1, (⟨#[104, 111, 117, 115, 101]⟩ : ByteArray), (([(⟨(⟨a0_0, a0_1, a0_2, a0_3⟩ : S24), a2, 0⟩ : S52)] : List (S52))))) = some (r1, r2, r3) := h
  clear h
  obtain ⟨y140, hy140⟩ : ∃ y_ : List (S52), y_ = (([(⟨(⟨a0_0, a0_1, a0_2, a0_3⟩ : S24), a2, 0⟩ : S52)] : List (S52))) := ⟨_, rfl⟩
  replace H : (some (a1, (⟨#[104, 111, 117, 115, 101]⟩ : ByteArray), y140)) = some (r1, r2, r3) := by first | (rw [hy140]; with_reducible exact H) | (have H2_ := (Option.bind_some _ _).symm.trans H; rw [hy140]; with_reducible exact H2_) | (have H2_ := (Option.bind_some _ _).symm.trans H; with_reducible exact H2_) | with_reducible exact H | (rw [hy140]; exact H) | exact H
  have Ny140 := Aside0.mk hy140
  clear hy140
  simp only [Option.some.injEq, Prod.mk.injEq] at H
  obtain ⟨rfl, rfl, rfl⟩ := H
  go_enter Try.func23, Try.ntmps23
  go_wp2_with (first | ((with_reducible refine gate_dst (N := 3) rfl ?_); refine box_event ?hg (N := 3) ?hd (cs := #[.string a0_0, .int .i64 a0_1, .int .i64 a0_2, .int .i64 a0_3]) (t := 24) ?hr ?_; (case hd => rfl); (case hg => rfl); (case hr => first | (go_simp; done) | (go_simp; rfl)); intro gb138 hg w4 hbox hb; have n0_ := Aside0.mk (below_step (bz0 HB.out) hb); have n1_ := Aside0.mk (hbox); have n2_ := Aside0.mk ((by rw [hg]; exact (below_size (bz0 HB.out)) : w.heap.size ≤ gb138)); have n3_ := Aside0.mk ((by rw [hg]; exact (below_size (bz0 HB.out)) : w.heap.size ≤ gb138)); clear HB; have HB := n0_; have BK138 := n1_; have GW138 := n2_; have GE138 := n3_; clear n0_ n1_ n2_ n3_; clear hb hbox hg) | ((with_reducible refine gate_dst (N := 6) rfl ?_); refine box_event ?hg (N := 6) ?hd (cs := #[.string (⟨#[]⟩ : ByteArray), .string (⟨#[]⟩ : ByteArray), .slice none 0 0]) (t := 58) ?hr ?_; (case hd => rfl); (case hg => rfl); (case hr => first | (go_simp; done) | (go_simp; rfl)); intro gb139 hg w5 hbox hb; have n0_ := Aside0.mk (blk_below (g := gb138) (o := .cells #[.string a0_0, .int .i64 a0_1, .int .i64 a0_2, .int .i64 a0_3] 24 (0, 0)) (bk_ BK138.out) hb); have n1_ := Aside0.mk (below_step (bz1 HB.out GE138.out) hb); have n2_ := Aside0.mk (hbox); have n3_ := Aside0.mk ((by rw [hg]; exact (below_size (bz1 HB.out GE138.out)) : w.heap.size ≤ gb139)); have n4_ := Aside0.mk ((by rw [hg]; exact (below_size (bz1 HB.out GE138.out)) : w.heap.size ≤ gb139)); have n5_ := Aside0.mk ((by rw [hg]; exact Nat.ne_of_lt (blk_lt (g := gb138) (o := .cells #[.string a0_0, .int .i64 a0_1, .int .i64 a0_2, .int .i64 a0_3] 24 (0, 0)) (bk_ BK138.out)) : gb138 ≠ gb139)); have n6_ := Aside0.mk ((by rw [hg]; exact Nat.ne_of_gt (blk_lt (g := gb138) (o := .cells #[.string a0_0, .int .i64 a0_1, .int .i64 a0_2, .int .i64 a0_3] 24 (0, 0)) (bk_ BK138.out)) : gb139 ≠ gb138)); clear BK138; clear HB; have BK138 := n0_; have HB := n1_; have BK139 := n2_; have GW139 := n3_; have GE139 := n4_; have NB138_139 := n5_; have NB139_138 := n6_; clear n0_ n1_ n2_ n3_ n4_ n5_ n6_; clear hb hbox hg; have hnb6 := NB138_139.out; have hnc6 := NB139_138.out; have hcz7_0 : w5.cell? ⟨gb138, 0, none⟩ = some (.string a0_0) := (blk_cell BK138.out 0).trans rfl; have hcz7_1 : w5.cell? ⟨gb138, 1, none⟩ = some (.int .i64 a0_1) := (blk_cell BK138.out 1).trans rfl; have hcz7_2 : w5.cell? ⟨gb138, 2, none⟩ = some (.int .i64 a0_2) := (blk_cell BK138.out 2).trans rfl; have hcz7_3 : w5.cell? ⟨gb138, 3, none⟩ = some (.int .i64 a0_3) := (blk_cell BK138.out 3).trans rfl; have hfz7_0 := blk_frozen BK138.out 0; have hfz7_1 := blk_frozen BK138.out 1; have hfz7_2 := blk_frozen BK138.out 2; have hfz7_3 := blk_frozen BK138.out 3) | ((with_reducible refine gate_dst (N := 12) rfl ?_); refine Kd.R_lit k52 _ 52 ?hg (N := 12) ?hd (xs := ([(⟨(⟨a0_0, a0_1, a0_2, a0_3⟩ : S24), a2, 0⟩ : S52)] : List (S52))) (inner := [.string a0_0, .int .i64 a0_1, .int .i64 a0_2, .int .i64 a0_3, .int .i64 a2, .int .i64 0]) (ok := fun _ => True) (okp := fun _ => True) ?hr ?hp (fun _ hk => hk) trivial (Below.refl _ _) (Nat.le_refl _) (by simp) ?_; (case hd => rfl); (case hg => rfl); (case hr => first | (go_simp; done) | (go_simp; rfl)); (case hp => exact (Reps.c6 (show Kd.M k52 _ _ _ (⟨(⟨a0_0, a0_1, a0_2, a0_3⟩ : S24), a2, 0⟩ : S52) [.string a0_0, .int .i64 a0_1, .int .i64 a0_2, .int .i64 a0_3, .int .i64 a2, .int .i64 0] from (k52_mkM _ _ _ (⟨(⟨a0_0, a0_1, a0_2, a0_3⟩ : S24), a2, 0⟩ : S52) )) (Reps.none _ _))); intro v141 w8 ho9 hb hg_ hnew_; clear hg_ hnew_; (first | rw [← Ny140.out] at ho9 | (simp only [Int.reduceToNat] at ho9; rw [← Ny140.out] at ho9)); have n0_ := Aside0.mk (Kd.R_lower ho9 (below_size (bz2 HB.out GE138.out GE139.out))); have n1_ := Aside0.mk (blk_below (g := gb138) (o := .cells #[.string a0_0, .int .i64 a0_1, .int .i64 a0_2, .int .i64 a0_3] 24 (0, 0)) (bk_ BK138.out) hb); have n2_ := Aside0.mk (blk_below (g := gb139) (o := .cells #[.string (⟨#[]⟩ : ByteArray), .string (⟨#[]⟩ : ByteArray), .slice none 0 0] 58 (0, 0)) (bk_ BK139.out) hb); have n3_ := Aside0.mk (below_step (bz2 HB.out GE138.out GE139.out) hb); clear BK138; clear BK139; clear HB; have HO142 := n0_; have BK138 := n1_; have BK139 := n2_; have HB := n3_; clear n0_ n1_ n2_ n3_; clear hb ho9; obtain ⟨Ao10, co10, eo10⟩ := Kd.R_slice HO142.out; subst eo10; have hcz11_0 : w8.cell? ⟨gb139, 0, none⟩ = some (.string (⟨#[]⟩ : ByteArray)) := (blk_cell BK139.out 0).trans rfl; have hcz11_1 : w8.cell? ⟨gb139, 1, none⟩ = some (.string (⟨#[]⟩ : ByteArray)) := (blk_cell BK139.out 1).trans rfl; have hcz11_2 : w8.cell? ⟨gb139, 2, none⟩ = some (.slice none 0 0) := (blk_cell BK139.out 2).trans rfl; have hfz11_0 := blk_frozen BK139.out 0; have hfz11_1 := blk_frozen BK139.out 1; have hfz11_2 := blk_frozen BK139.out 2))
  refine bodyPost_ret (results_cell_row rfl _ _ gb139 58 #[.string a1, .string (⟨#[104, 111, 117, 115, 101]⟩ : ByteArray), .slice Ao10 y140.length co10] (0, 0) _ rfl (by (with_reducible repeat (first | refine blk_drewN ?_ _ | refine blk_drew ?_ | refine blk_alloc ?_ _)); refine blk_put (cs := #[.string a1, .string (⟨#[104, 111, 117, 115, 101]⟩ : ByteArray), .slice none 0 0]) ?_ 2 _ rfl; (with_reducible repeat (first | refine blk_drewN ?_ _ | refine blk_drew ?_ | refine blk_alloc ?_ _)); refine blk_put (cs := #[.string a1, .string (⟨#[]⟩ : ByteArray), .slice none 0 0]) ?_ 1 _ rfl; (with_reducible repeat (first | refine blk_drewN ?_ _ | refine blk_drew ?_ | refine blk_alloc ?_ _)); refine blk_put (cs := #[.string (⟨#[]⟩ : ByteArray), .string (⟨#[]⟩ : ByteArray), .slice none 0 0]) ?_ 0 _ rfl; (with_reducible repeat (first | refine blk_drewN ?_ _ | refine blk_drew ?_ | refine blk_alloc ?_ _)); exact BK139.out) Try.underlying58 rfl (by kernel_rfl)) rfl ?_
  exact ⟨_, by first | rfl | (simp [errW_none, errW_some] <;> rfl) | (simp [*, errW_none, errW_some] <;> rfl), by (with_reducible repeat (first | apply Kd.R_alloc | apply Kd.R_drewN | apply Kd.R_drew)); exact Kd.R_mono (Kd.R_far (p := ⟨gb139, 2, none⟩) (Kd.R_far (p := ⟨gb139, 1, none⟩) (Kd.R_far (p := ⟨gb139, 0, none⟩) (Kd.R_types HO142.out BK139.out (by decide)) (fun _ hk => hk.2) (.string a1)) (fun _ hk => hk.2) (.string (⟨#[104, 111, 117, 115, 101]⟩ : ByteArray))) (fun _ hk => hk.2) (.slice Ao10 y140.length co10)) (fun _ hk => trivial), bz2 HB.out GE138.out GE139.out⟩

/-! ### contangolaw50_goes: function 9 -/
def contangolaw50_goes.f (k : Nat)  : Option (Bool) := (contangolaw50_hold.f (⟨#[111, 105, 108]⟩ : ByteArray) 1 9 0 (⟨#[97, 108, 102, 97]⟩ : ByteArray) 5).bind fun bt144 => ((contangolaw50_hold.f (⟨#[111, 105, 108]⟩ : ByteArray) 1 9 0 (⟨#[98, 114, 97, 118, 111]⟩ : ByteArray) 3).bind fun bt149 => ((contangolaw50_hold.f (⟨#[111, 105, 108]⟩ : ByteArray) 1 9 0 (⟨#[99, 97, 114, 108]⟩ : ByteArray) 2).bind fun bt154 => ((some (([(⟨(⟨bt144.1, bt144.2.1⟩ : S55), bt144.2.2⟩ : S58), (⟨(⟨bt149.1, bt149.2.1⟩ : S55), bt149.2.2⟩ : S58), (⟨(⟨bt154.1, bt154.2.1⟩ : S55), bt154.2.2⟩ : S58)] : List (S58)) : List (S58))).bind fun y159 => ((tear_Parts.f k y159 (⟨#[111, 105, 108]⟩ : ByteArray) 1 9 0 true 4).bind fun bt162 => ((tear_Apply.f k y159 (⟨#[111, 105, 108]⟩ : ByteArray) 1 9 0 true bt162.1).bind fun bt166 => ((tear_Worth.f k (⟨#[111, 105, 108]⟩ : ByteArray) 0 100 1 0 1000 false 47 45 true 3).bind fun bt171 => ((tear_Worth.f k (⟨#[111, 105, 108]⟩ : ByteArray) 0 100 1 0 1000 false 47 45 false 3).bind fun bt173 => (if bt162.2 = 0 then (if bt166.2 = 0 then (if bt171.2 = 0 then (if bt173.2 = 0 then (if bt171.1 = 600 then (if bt173.1 = (-600) then (if (bt162.1.length : Int) = 3 then (if (bt166.1.length : Int) = 3 then (if 0 < (bt162.1.length : Int) then (if ((rd_T62 bt162.1 0).f1) = 2 then (if 1 < (bt162.1.length : Int) then (if ((rd_T62 bt162.1 1).f1) = 1 then (if 2 < (bt162.1.length : Int) then (if ((rd_T62 bt162.1 2).f1) = 1 then (if 0 < (bt166.1.length : Int) then (if (((rd_T58 bt166.1 0).f1).length : Int) = 1 then (if 0 < (((rd_T58 bt166.1 0).f1).length : Int) then (some (((rd_T52 ((rd_T58 bt166.1 0).f1) 0).f1) == 3)) else (none)) else (some false)) else (none)) else (some false)) else (none)) else (some false)) else (none)) else (some false)) else (none)) else (some false)) else (some false)) else (some false)) else (some false)) else (some false)) else (some false)) else (some false)) else (some false)))))))))
theorem contangolaw50_goes.mono : ∀ k, LeO (contangolaw50_goes.f k ) (contangolaw50_goes.f (k + 1) ) := by
  intro  k
  unfold contangolaw50_goes.f
  repeat' first
      | (with_reducible exact tear_Apply.mono _ _ _ _ _ _ _ _)
      | (with_reducible exact tear_Parts.mono _ _ _ _ _ _ _ _)
      | (with_reducible exact tear_Worth.mono _ _ _ _ _ _ _ _ _ _ _ _)
      | (with_reducible exact LeO.refl _)
      | (with_reducible exact LeO.none _)
      | (with_reducible refine LeO.ite ?_ ?_)
      | (with_reducible refine LeO.bind ?_ (fun _ => ?_))
      | exact LeO.none _
      | refine LeO.ite ?_ ?_
      | refine LeO.bind ?_ (fun _ => ?_)
theorem contangolaw50_goes.only (k : Nat) (r : Bool) (h : contangolaw50_goes.f k  = some r) : r = true := by
  exact Option.some.inj ((at_rounds (fun k => contangolaw50_goes.mono k) (Nat.le_max_left k 100) h).symm.trans (at_rounds (fun k => contangolaw50_goes.mono k) (Nat.le_max_right k 100) (by decide +kernel : contangolaw50_goes.f 100 = some true)))
def contangolaw50_goes.T2 : Bool × List (List Nat × List Nat) := (true, [([], []), ([0], [0]), ([], []), ([2, 1], [2]), ([], []), ([4, 3], [4]), ([1, 3, 5], [1, 3, 5]), ([6, 5, 0, 1, 2, 3, 4, 5, 6], [6])])
def contangolaw50_goes.B2 : List Nat := [0, 1, 0, 7, 0, 31, 63, 127]
theorem contangolaw50_goes.tab2 : rtab .any (opsOf Try.f9 2) = contangolaw50_goes.T2 := by kernel_rfl
theorem contangolaw50_goes.bits2 : waitsOk contangolaw50_goes.T2.2 contangolaw50_goes.B2 = true := by kernel_rfl
set_option maxHeartbeats 8000000 in
set_option maxRecDepth 100000 in
theorem contangolaw50_goes.calls (k : Nat)  (r : Bool) (w : World) (h : contangolaw50_goes.f k  = some r) :
    Calls Try.prog 9 #[] w fun e w' => e = .returned (.bool r) ∧ Below w.heap.size w w' := by
  have hu24 := Try.underlying24
  have hu44 := Try.underlying44
  have HB := Aside0.mk (Below.refl w.heap.size w)
  have HRT := Aside0.mk (contangolaw50_goes.only k r h)
  have H : ((contangolaw50_hold.f (⟨#[111, 105, 108]⟩ : ByteArray) 1 9 0 (⟨#[97, 108, 102, 97]⟩ : ByteArray) 5).bind fun bt144 => ((contangolaw50_hold.f (⟨#[111, 105, 108]⟩ : ByteArray) 1 9 0 (⟨#[98, 114, 97, 118, 111]⟩ : ByteArray) 3).bind fun bt149 => ((contangolaw50_hold.f (⟨#[111, 105, 108]⟩ : ByteArray) 1 9 0 (⟨#[99, 97, 114, 108]⟩ : ByteArray) 2).bind fun bt154 => ((some (([(⟨(⟨bt144.1, bt144.2.1⟩ : S55), bt144.2.2⟩ : S58), (⟨(⟨bt149.1, bt149.2.1⟩ : S55), bt149.2.2⟩ : S58), (⟨(⟨bt154.1, bt154.2.1⟩ : S55), bt154.2.2⟩ : S58)] : List (S58)) : List (S58))).bind fun y159 => ((tear_Parts.f k y159 (⟨#[111, 105, 108]⟩ : ByteArray) 1 9 0 true 4).bind fun bt162 => ((tear_Apply.f k y159 (⟨#[111, 105, 108]⟩ : ByteArray) 1 9 0 true bt162.1).bind fun bt166 => ((tear_Worth.f k (⟨#[111, 105, 108]⟩ : ByteArray) 0 100 1 0 1000 false 47 45 true 3).bind fun bt171 => ((tear_Worth.f k (⟨#[111, 105, 108]⟩ : ByteArray) 0 100 1 0 1000 false 47 45 false 3).bind fun bt173 => (if bt162.2 = 0 then (if bt166.2 = 0 then (if bt171.2 = 0 then (if bt173.2 = 0 then (if bt171.1 = 600 then (if bt173.1 = (-600) then (if (bt162.1.length : Int) = 3 then (if (bt166.1.length : Int) = 3 then (if 0 < (bt162.1.length : Int) then (if ((rd_T62 bt162.1 0).f1) = 2 then (if 1 < (bt162.1.length : Int) then (if ((rd_T62 bt162.1 1).f1) = 1 then (if 2 < (bt162.1.length : Int) then (if ((rd_T62 bt162.1 2).f1) = 1 then (if 0 < (bt166.1.length : Int) then (if (((rd_T58 bt166.1 0).f1).length : Int) = 1 then (if 0 < (((rd_T58 bt166.1 0).f1).length : Int) then (some (((rd_T52 ((rd_T58 bt166.1 0).f1) 0).f1) == 3)) else (none)) else (some false)) else (none)) else (some false)) else (none)) else (some false)) else (none)) else (some false)) else (none)) else (some false)) else (some false)) else (some false)) else (some false)) else (some false)) else (some false)) else (some false)) else (some false)))))))))) = some r := h
  clear h
  replace H := Option.bind_eq_some_iff.mp H
  obtain ⟨⟨t144, t145, t146⟩, A10, H⟩ := H
  replace H : ((contangolaw50_hold.f (⟨#[111, 105, 108]⟩ : ByteArray) 1 9 0 (⟨#[98, 114, 97, 118, 111]⟩ : ByteArray) 3).bind fun bt149 => ((contangolaw50_hold.f (⟨#[111, 105, 108]⟩ : ByteArray) 1 9 0 (⟨#[99, 97, 114, 108]⟩ : ByteArray) 2).bind fun bt154 => ((some (([(⟨(⟨t144, t145⟩ : S55), t146⟩ : S58), (⟨(⟨bt149.1, bt149.2.1⟩ : S55), bt149.2.2⟩ : S58), (⟨(⟨bt154.1, bt154.2.1⟩ : S55), bt154.2.2⟩ : S58)] : List (S58)) : List (S58))).bind fun y159 => ((tear_Parts.f k y159 (⟨#[111, 105, 108]⟩ : ByteArray) 1 9 0 true 4).bind fun bt162 => ((tear_Apply.f k y159 (⟨#[111, 105, 108]⟩ : ByteArray) 1 9 0 true bt162.1).bind fun bt166 => ((tear_Worth.f k (⟨#[111, 105, 108]⟩ : ByteArray) 0 100 1 0 1000 false 47 45 true 3).bind fun bt171 => ((tear_Worth.f k (⟨#[111, 105, 108]⟩ : ByteArray) 0 100 1 0 1000 false 47 45 false 3).bind fun bt173 => (if bt162.2 = 0 then (if bt166.2 = 0 then (if bt171.2 = 0 then (if bt173.2 = 0 then (if bt171.1 = 600 then (if bt173.1 = (-600) then (if (bt162.1.length : Int) = 3 then (if (bt166.1.length : Int) = 3 then (if 0 < (bt162.1.length : Int) then (if ((rd_T62 bt162.1 0).f1) = 2 then (if 1 < (bt162.1.length : Int) then (if ((rd_T62 bt162.1 1).f1) = 1 then (if 2 < (bt162.1.length : Int) then (if ((rd_T62 bt162.1 2).f1) = 1 then (if 0 < (bt166.1.length : Int) then (if (((rd_T58 bt166.1 0).f1).length : Int) = 1 then (if 0 < (((rd_T58 bt166.1 0).f1).length : Int) then (some (((rd_T52 ((rd_T58 bt166.1 0).f1) 0).f1) == 3)) else (none)) else (some false)) else (none)) else (some false)) else (none)) else (some false)) else (none)) else (some false)) else (none)) else (some false)) else (some false)) else (some false)) else (some false)) else (some false)) else (some false)) else (some false)) else (some false))))))))) = some r := H
  have A1 := Aside0.mk A10
  clear A10
  replace H := Option.bind_eq_some_iff.mp H
  obtain ⟨⟨t149, t150, t151⟩, A20, H⟩ := H
  replace H : ((contangolaw50_hold.f (⟨#[111, 105, 108]⟩ : ByteArray) 1 9 0 (⟨#[99, 97, 114, 108]⟩ : ByteArray) 2).bind fun bt154 => ((some (([(⟨(⟨t144, t145⟩ : S55), t146⟩ : S58), (⟨(⟨t149, t150⟩ : S55), t151⟩ : S58), (⟨(⟨bt154.1, bt154.2.1⟩ : S55), bt154.2.2⟩ : S58)] : List (S58)) : List (S58))).bind fun y159 => ((tear_Parts.f k y159 (⟨#[111, 105, 108]⟩ : ByteArray) 1 9 0 true 4).bind fun bt162 => ((tear_Apply.f k y159 (⟨#[111, 105, 108]⟩ : ByteArray) 1 9 0 true bt162.1).bind fun bt166 => ((tear_Worth.f k (⟨#[111, 105, 108]⟩ : ByteArray) 0 100 1 0 1000 false 47 45 true 3).bind fun bt171 => ((tear_Worth.f k (⟨#[111, 105, 108]⟩ : ByteArray) 0 100 1 0 1000 false 47 45 false 3).bind fun bt173 => (if bt162.2 = 0 then (if bt166.2 = 0 then (if bt171.2 = 0 then (if bt173.2 = 0 then (if bt171.1 = 600 then (if bt173.1 = (-600) then (if (bt162.1.length : Int) = 3 then (if (bt166.1.length : Int) = 3 then (if 0 < (bt162.1.length : Int) then (if ((rd_T62 bt162.1 0).f1) = 2 then (if 1 < (bt162.1.length : Int) then (if ((rd_T62 bt162.1 1).f1) = 1 then (if 2 < (bt162.1.length : Int) then (if ((rd_T62 bt162.1 2).f1) = 1 then (if 0 < (bt166.1.length : Int) then (if (((rd_T58 bt166.1 0).f1).length : Int) = 1 then (if 0 < (((rd_T58 bt166.1 0).f1).length : Int) then (some (((rd_T52 ((rd_T58 bt166.1 0).f1) 0).f1) == 3)) else (none)) else (some false)) else (none)) else (some false)) else (none)) else (some false)) else (none)) else (some false)) else (none)) else (some false)) else (some false)) else (some false)) else (some false)) else (some false)) else (some false)) else (some false)) else (some false)))))))) = some r := H
  have A2 := Aside0.mk A20
  clear A20
  replace H := Option.bind_eq_some_iff.mp H
  obtain ⟨⟨t154, t155, t156⟩, A30, H⟩ := H
  replace H : ((some (([(⟨(⟨t144, t145⟩ : S55), t146⟩ : S58), (⟨(⟨t149, t150⟩ : S55), t151⟩ : S58), (⟨(⟨t154, t155⟩ : S55), t156⟩ : S58)] : List (S58)) : List (S58))).bind fun y159 => ((tear_Parts.f k y159 (⟨#[111, 105, 108]⟩ : ByteArray) 1 9 0 true 4).bind fun bt162 => ((tear_Apply.f k y159 (⟨#[111, 105, 108]⟩ : ByteArray) 1 9 0 true bt162.1).bind fun bt166 => ((tear_Worth.f k (⟨#[111, 105, 108]⟩ : ByteArray) 0 100 1 0 1000 false 47 45 true 3).bind fun bt171 => ((tear_Worth.f k (⟨#[111, 105, 108]⟩ : ByteArray) 0 100 1 0 1000 false 47 45 false 3).bind fun bt173 => (if bt162.2 = 0 then (if bt166.2 = 0 then (if bt171.2 = 0 then (if bt173.2 = 0 then (if bt171.1 = 600 then (if bt173.1 = (-600) then (if (bt162.1.length : Int) = 3 then (if (bt166.1.length : Int) = 3 then (if 0 < (bt162.1.length : Int) then (if ((rd_T62 bt162.1 0).f1) = 2 then (if 1 < (bt162.1.length : Int) then (if ((rd_T62 bt162.1 1).f1) = 1 then (if 2 < (bt162.1.length : Int) then (if ((rd_T62 bt162.1 2).f1) = 1 then (if 0 < (bt166.1.length : Int) then (if (((rd_T58 bt166.1 0).f1).length : Int) = 1 then (if 0 < (((rd_T58 bt166.1 0).f1).length : Int) then (some (((rd_T52 ((rd_T58 bt166.1 0).f1) 0).f1) == 3)) else (none)) else (some false)) else (none)) else (some false)) else (none)) else (some false)) else (none)) else (some false)) else (none)) else (some false)) else (some false)) else (some false)) else (some false)) else (some false)) else (some false)) else (some false)) else (some false))))))) = some r := H
  have A3 := Aside0.mk A30
  clear A30
  obtain ⟨y159, hy159⟩ : ∃ y_ : List (S58), y_ = (([(⟨(⟨t144, t145⟩ : S55), t146⟩ : S58), (⟨(⟨t149, t150⟩ : S55), t151⟩ : S58), (⟨(⟨t154, t155⟩ : S55), t156⟩ : S58)] : List (S58))) := ⟨_, rfl⟩
  replace H : ((tear_Parts.f k y159 (⟨#[111, 105, 108]⟩ : ByteArray) 1 9 0 true 4).bind fun bt162 => ((tear_Apply.f k y159 (⟨#[111, 105, 108]⟩ : ByteArray) 1 9 0 true bt162.1).bind fun bt166 => ((tear_Worth.f k (⟨#[111, 105, 108]⟩ : ByteArray) 0 100 1 0 1000 false 47 45 true 3).bind fun bt171 => ((tear_Worth.f k (⟨#[111, 105, 108]⟩ : ByteArray) 0 100 1 0 1000 false 47 45 false 3).bind fun bt173 => (if bt162.2 = 0 then (if bt166.2 = 0 then (if bt171.2 = 0 then (if bt173.2 = 0 then (if bt171.1 = 600 then (if bt173.1 = (-600) then (if (bt162.1.length : Int) = 3 then (if (bt166.1.length : Int) = 3 then (if 0 < (bt162.1.length : Int) then (if ((rd_T62 bt162.1 0).f1) = 2 then (if 1 < (bt162.1.length : Int) then (if ((rd_T62 bt162.1 1).f1) = 1 then (if 2 < (bt162.1.length : Int) then (if ((rd_T62 bt162.1 2).f1) = 1 then (if 0 < (bt166.1.length : Int) then (if (((rd_T58 bt166.1 0).f1).length : Int) = 1 then (if 0 < (((rd_T58 bt166.1 0).f1).length : Int) then (some (((rd_T52 ((rd_T58 bt166.1 0).f1) 0).f1) == 3)) else (none)) else (some false)) else (none)) else (some false)) else (none)) else (some false)) else (none)) else (some false)) else (none)) else (some false)) else (some false)) else (some false)) else (some false)) else (some false)) else (some false)) else (some false)) else (some false)))))) = some r := by first | (rw [hy159]; with_reducible exact H) | (have H2_ := (Option.bind_some _ _).symm.trans H; rw [hy159]; with_reducible exact H2_) | (have H2_ := (Option.bind_some _ _).symm.trans H; with_reducible exact H2_) | with_reducible exact H | (rw [hy159]; exact H) | exact H
  have Ny159 := Aside0.mk hy159
  clear hy159
  replace H := Option.bind_eq_some_iff.mp H
  obtain ⟨⟨t162, t165⟩, A40, H⟩ := H
  replace H : ((tear_Apply.f k y159 (⟨#[111, 105, 108]⟩ : ByteArray) 1 9 0 true t162).bind fun bt166 => ((tear_Worth.f k (⟨#[111, 105, 108]⟩ : ByteArray) 0 100 1 0 1000 false 47 45 true 3).bind fun bt171 => ((tear_Worth.f k (⟨#[111, 105, 108]⟩ : ByteArray) 0 100 1 0 1000 false 47 45 false 3).bind fun bt173 => (if t165 = 0 then (if bt166.2 = 0 then (if bt171.2 = 0 then (if bt173.2 = 0 then (if bt171.1 = 600 then (if bt173.1 = (-600) then (if (t162.length : Int) = 3 then (if (bt166.1.length : Int) = 3 then (if 0 < (t162.length : Int) then (if ((rd_T62 t162 0).f1) = 2 then (if 1 < (t162.length : Int) then (if ((rd_T62 t162 1).f1) = 1 then (if 2 < (t162.length : Int) then (if ((rd_T62 t162 2).f1) = 1 then (if 0 < (bt166.1.length : Int) then (if (((rd_T58 bt166.1 0).f1).length : Int) = 1 then (if 0 < (((rd_T58 bt166.1 0).f1).length : Int) then (some (((rd_T52 ((rd_T58 bt166.1 0).f1) 0).f1) == 3)) else (none)) else (some false)) else (none)) else (some false)) else (none)) else (some false)) else (none)) else (some false)) else (none)) else (some false)) else (some false)) else (some false)) else (some false)) else (some false)) else (some false)) else (some false)) else (some false))))) = some r := H
  have A4 := Aside0.mk A40
  clear A40
  replace H := Option.bind_eq_some_iff.mp H
  obtain ⟨⟨t166, t169⟩, A50, H⟩ := H
  replace H : ((tear_Worth.f k (⟨#[111, 105, 108]⟩ : ByteArray) 0 100 1 0 1000 false 47 45 true 3).bind fun bt171 => ((tear_Worth.f k (⟨#[111, 105, 108]⟩ : ByteArray) 0 100 1 0 1000 false 47 45 false 3).bind fun bt173 => (if t165 = 0 then (if t169 = 0 then (if bt171.2 = 0 then (if bt173.2 = 0 then (if bt171.1 = 600 then (if bt173.1 = (-600) then (if (t162.length : Int) = 3 then (if (t166.length : Int) = 3 then (if 0 < (t162.length : Int) then (if ((rd_T62 t162 0).f1) = 2 then (if 1 < (t162.length : Int) then (if ((rd_T62 t162 1).f1) = 1 then (if 2 < (t162.length : Int) then (if ((rd_T62 t162 2).f1) = 1 then (if 0 < (t166.length : Int) then (if (((rd_T58 t166 0).f1).length : Int) = 1 then (if 0 < (((rd_T58 t166 0).f1).length : Int) then (some (((rd_T52 ((rd_T58 t166 0).f1) 0).f1) == 3)) else (none)) else (some false)) else (none)) else (some false)) else (none)) else (some false)) else (none)) else (some false)) else (none)) else (some false)) else (some false)) else (some false)) else (some false)) else (some false)) else (some false)) else (some false)) else (some false)))) = some r := H
  have A5 := Aside0.mk A50
  clear A50
  replace H := Option.bind_eq_some_iff.mp H
  obtain ⟨⟨t171, t172⟩, A60, H⟩ := H
  replace H : ((tear_Worth.f k (⟨#[111, 105, 108]⟩ : ByteArray) 0 100 1 0 1000 false 47 45 false 3).bind fun bt173 => (if t165 = 0 then (if t169 = 0 then (if t172 = 0 then (if bt173.2 = 0 then (if t171 = 600 then (if bt173.1 = (-600) then (if (t162.length : Int) = 3 then (if (t166.length : Int) = 3 then (if 0 < (t162.length : Int) then (if ((rd_T62 t162 0).f1) = 2 then (if 1 < (t162.length : Int) then (if ((rd_T62 t162 1).f1) = 1 then (if 2 < (t162.length : Int) then (if ((rd_T62 t162 2).f1) = 1 then (if 0 < (t166.length : Int) then (if (((rd_T58 t166 0).f1).length : Int) = 1 then (if 0 < (((rd_T58 t166 0).f1).length : Int) then (some (((rd_T52 ((rd_T58 t166 0).f1) 0).f1) == 3)) else (none)) else (some false)) else (none)) else (some false)) else (none)) else (some false)) else (none)) else (some false)) else (none)) else (some false)) else (some false)) else (some false)) else (some false)) else (some false)) else (some false)) else (some false)) else (some false))) = some r := H
  have A6 := Aside0.mk A60
  clear A60
  replace H := Option.bind_eq_some_iff.mp H
  obtain ⟨⟨t173, t174⟩, A70, H⟩ := H
  replace H : (if t165 = 0 then (if t169 = 0 then (if t172 = 0 then (if t174 = 0 then (if t171 = 600 then (if t173 = (-600) then (if (t162.length : Int) = 3 then (if (t166.length : Int) = 3 then (if 0 < (t162.length : Int) then (if ((rd_T62 t162 0).f1) = 2 then (if 1 < (t162.length : Int) then (if ((rd_T62 t162 1).f1) = 1 then (if 2 < (t162.length : Int) then (if ((rd_T62 t162 2).f1) = 1 then (if 0 < (t166.length : Int) then (if (((rd_T58 t166 0).f1).length : Int) = 1 then (if 0 < (((rd_T58 t166 0).f1).length : Int) then (some (((rd_T52 ((rd_T58 t166 0).f1) 0).f1) == 3)) else (none)) else (some false)) else (none)) else (some false)) else (none)) else (some false)) else (none)) else (some false)) else (none)) else (some false)) else (some false)) else (some false)) else (some false)) else (some false)) else (some false)) else (some false)) else (some false)) = some r := H
  have A7 := Aside0.mk A70
  clear A70
  by_cases c8 : t165 = 0
  · rw [if_pos c8] at H
    have c8b0 : (t165 == 0) = true := beq_iff_eq.mpr c8
    have c8b1 : (t165 != 0) = false := bne_eq_false_iff_eq.mpr c8
    clear c8
    by_cases c9 : t169 = 0
    · rw [if_pos c9] at H
      have c9b0 : (t169 == 0) = true := beq_iff_eq.mpr c9
      have c9b1 : (t169 != 0) = false := bne_eq_false_iff_eq.mpr c9
      clear c9
      by_cases c10 : t172 = 0
      · rw [if_pos c10] at H
        have c10b0 : (t172 == 0) = true := beq_iff_eq.mpr c10
        have c10b1 : (t172 != 0) = false := bne_eq_false_iff_eq.mpr c10
        clear c10
        by_cases c11 : t174 = 0
        · rw [if_pos c11] at H
          have c11b0 : (t174 == 0) = true := beq_iff_eq.mpr c11
          have c11b1 : (t174 != 0) = false := bne_eq_false_iff_eq.mpr c11
          clear c11
          by_cases c12 : t171 = 600
          · rw [if_pos c12] at H
            have c12b0 : (t171 == 600) = true := beq_iff_eq.mpr c12
            have c12b1 : (t171 != 600) = false := bne_eq_false_iff_eq.mpr c12
            clear c12
            by_cases c13 : t173 = (-600)
            · rw [if_pos c13] at H
              have c13b0 : (t173 == (-600)) = true := beq_iff_eq.mpr c13
              have c13b1 : (t173 != (-600)) = false := bne_eq_false_iff_eq.mpr c13
              clear c13
              by_cases c14 : (t162.length : Int) = 3
              · rw [if_pos c14] at H
                have c14b0 : ((t162.length : Int) == 3) = true := beq_iff_eq.mpr c14
                have c14b1 : ((t162.length : Int) != 3) = false := bne_eq_false_iff_eq.mpr c14
                clear c14
                by_cases c15 : (t166.length : Int) = 3
                · rw [if_pos c15] at H
                  have c15b0 : ((t166.length : Int) == 3) = true := beq_iff_eq.mpr c15
                  have c15b1 : ((t166.length : Int) != 3) = false := bne_eq_false_iff_eq.mpr c15
                  clear c15
                  by_cases c16 : 0 < (t162.length : Int)
                  · rw [if_pos c16] at H
                    have c16b0 : decide (0 < (t162.length : Int)) = true := decide_eq_true c16
                    have c16b1 : decide (0 < t162.length) = true := decide_eq_true (by omega)
                    clear c16
                    by_cases c17 : ((rd_T62 t162 0).f1) = 2
                    · rw [if_pos c17] at H
                      have c17b0 : (((rd_T62 t162 0).f1) == 2) = true := beq_iff_eq.mpr c17
                      have c17b1 : (((rd_T62 t162 0).f1) != 2) = false := bne_eq_false_iff_eq.mpr c17
                      clear c17
                      by_cases c18 : 1 < (t162.length : Int)
                      · rw [if_pos c18] at H
                        have c18b0 : decide (1 < (t162.length : Int)) = true := decide_eq_true c18
                        have c18b1 : decide (1 < t162.length) = true := decide_eq_true (by omega)
                        clear c18
                        by_cases c19 : ((rd_T62 t162 1).f1) = 1
                        · rw [if_pos c19] at H
                          have c19b0 : (((rd_T62 t162 1).f1) == 1) = true := beq_iff_eq.mpr c19
                          have c19b1 : (((rd_T62 t162 1).f1) != 1) = false := bne_eq_false_iff_eq.mpr c19
                          clear c19
                          by_cases c20 : 2 < (t162.length : Int)
                          · rw [if_pos c20] at H
                            have c20b0 : decide (2 < (t162.length : Int)) = true := decide_eq_true c20
                            have c20b1 : decide (2 < t162.length) = true := decide_eq_true (by omega)
                            clear c20
                            by_cases c21 : ((rd_T62 t162 2).f1) = 1
                            · rw [if_pos c21] at H
                              have c21b0 : (((rd_T62 t162 2).f1) == 1) = true := beq_iff_eq.mpr c21
                              have c21b1 : (((rd_T62 t162 2).f1) != 1) = false := bne_eq_false_iff_eq.mpr c21
                              clear c21
                              by_cases c22 : 0 < (t166.length : Int)
                              · rw [if_pos c22] at H
                                have c22b0 : decide (0 < (t166.length : Int)) = true := decide_eq_true c22
                                have c22b1 : decide (0 < t166.length) = true := decide_eq_true (by omega)
                                clear c22
                                by_cases c23 : (((rd_T58 t166 0).f1).length : Int) = 1
                                · rw [if_pos c23] at H
                                  have c23b0 : ((((rd_T58 t166 0).f1).length : Int) == 1) = true := beq_iff_eq.mpr c23
                                  have c23b1 : ((((rd_T58 t166 0).f1).length : Int) != 1) = false := bne_eq_false_iff_eq.mpr c23
                                  clear c23
                                  by_cases c24 : 0 < (((rd_T58 t166 0).f1).length : Int)
                                  · rw [if_pos c24] at H
                                    have c24b0 : decide (0 < (((rd_T58 t166 0).f1).length : Int)) = true := decide_eq_true c24
                                    have c24b1 : decide (0 < ((rd_T58 t166 0).f1).length) = true := decide_eq_true (by omega)
                                    clear c24
                                    obtain rfl := Option.some.inj H
                                    go_enter Try.func9, Try.ntmps9
                                    try go_wp2_with (first | ((with_reducible refine gate_dst (N := 1) rfl ?_); (try (refine gate_guard (by rfl) ?_; dsimp only)); refine box_event ?hg (N := 1) ?hd (cs := #[.string (⟨#[]⟩ : ByteArray), .int .i64 0, .int .i64 0, .int .i64 0]) (t := 24) ?hr ?_; (case hd => rfl); (case hg => rfl); (case hr => first | (go_simp; done) | (go_simp; rfl)); intro gb143 hg w25 hbox hb; have n0_ := Aside0.mk (below_step (bz0 HB.out) hb); have n1_ := Aside0.mk (hbox); have n2_ := Aside0.mk ((by rw [hg]; exact (below_size (bz0 HB.out)) : w.heap.size ≤ gb143)); have n3_ := Aside0.mk ((by rw [hg]; exact (below_size (bz0 HB.out)) : w.heap.size ≤ gb143)); clear HB; have HB := n0_; have BK143 := n1_; have GW143 := n2_; have GE143 := n3_; clear n0_ n1_ n2_ n3_; clear hb hbox hg; have hcz26_0 : w25.cell? ⟨gb143, 0, none⟩ = some (.string (⟨#[]⟩ : ByteArray)) := (blk_cell BK143.out 0).trans rfl; have hcz26_1 : w25.cell? ⟨gb143, 1, none⟩ = some (.int .i64 0) := (blk_cell BK143.out 1).trans rfl; have hcz26_2 : w25.cell? ⟨gb143, 2, none⟩ = some (.int .i64 0) := (blk_cell BK143.out 2).trans rfl; have hcz26_3 : w25.cell? ⟨gb143, 3, none⟩ = some (.int .i64 0) := (blk_cell BK143.out 3).trans rfl; have hfz26_0 := blk_frozen BK143.out 0; have hfz26_1 := blk_frozen BK143.out 1; have hfz26_2 := blk_frozen BK143.out 2; have hfz26_3 := blk_frozen BK143.out 3))
                                    have n0_ : Aside0 (((((w25.setCell ⟨gb143, 0, none⟩ (.string (⟨#[111, 105, 108]⟩ : ByteArray))).setCell ⟨gb143, 1, none⟩ (.int .i64 1)).setCell ⟨gb143, 2, none⟩ (.int .i64 9)).setCell ⟨gb143, 3, none⟩ (.int .i64 0)).heap[gb143]? = some (.cells #[.string (⟨#[111, 105, 108]⟩ : ByteArray), .int .i64 1, .int .i64 9, .int .i64 0] 24 (0, 0))) := ⟨by (with_reducible repeat (first | refine blk_drewN ?_ _ | refine blk_drew ?_ | refine blk_alloc ?_ _)); refine blk_put (cs := #[.string (⟨#[111, 105, 108]⟩ : ByteArray), .int .i64 1, .int .i64 9, .int .i64 0]) ?_ 3 _ rfl; (with_reducible repeat (first | refine blk_drewN ?_ _ | refine blk_drew ?_ | refine blk_alloc ?_ _)); refine blk_put (cs := #[.string (⟨#[111, 105, 108]⟩ : ByteArray), .int .i64 1, .int .i64 0, .int .i64 0]) ?_ 2 _ rfl; (with_reducible repeat (first | refine blk_drewN ?_ _ | refine blk_drew ?_ | refine blk_alloc ?_ _)); refine blk_put (cs := #[.string (⟨#[111, 105, 108]⟩ : ByteArray), .int .i64 0, .int .i64 0, .int .i64 0]) ?_ 1 _ rfl; (with_reducible repeat (first | refine blk_drewN ?_ _ | refine blk_drew ?_ | refine blk_alloc ?_ _)); refine blk_put (cs := #[.string (⟨#[]⟩ : ByteArray), .int .i64 0, .int .i64 0, .int .i64 0]) ?_ 0 _ rfl; (with_reducible repeat (first | refine blk_drewN ?_ _ | refine blk_drew ?_ | refine blk_alloc ?_ _)); exact BK143.out⟩
                                    have n1_ : Aside0 (Below w.heap.size w ((((w25.setCell ⟨gb143, 0, none⟩ (.string (⟨#[111, 105, 108]⟩ : ByteArray))).setCell ⟨gb143, 1, none⟩ (.int .i64 1)).setCell ⟨gb143, 2, none⟩ (.int .i64 9)).setCell ⟨gb143, 3, none⟩ (.int .i64 0))) := ⟨bz1 HB.out GE143.out⟩
                                    (try clear BK143)
                                    (try clear HB)
                                    generalize ((((w25.setCell ⟨gb143, 0, none⟩ (.string (⟨#[111, 105, 108]⟩ : ByteArray))).setCell ⟨gb143, 1, none⟩ (.int .i64 1)).setCell ⟨gb143, 2, none⟩ (.int .i64 9)).setCell ⟨gb143, 3, none⟩ (.int .i64 0)) = w27 at n0_ n1_ ⊢
                                    have BK143 := n0_
                                    have HB := n1_
                                    clear n0_ n1_
                                    have n0_ := Aside0.mk (blk_drew BK143.out)
                                    have n1_ := Aside0.mk (below_drew1 HB.out)
                                    clear BK143
                                    clear HB
                                    have BK143 := n0_
                                    have HB := n1_
                                    clear n0_ n1_
                                    refine start_ (n := 8) (S := fun w' => w'.cell? ⟨gb143, 0, none⟩ = some (.string (⟨#[111, 105, 108]⟩ : ByteArray)) ∧ w'.cell? ⟨gb143, 1, none⟩ = some (.int .i64 1) ∧ w'.cell? ⟨gb143, 2, none⟩ = some (.int .i64 9) ∧ w'.cell? ⟨gb143, 3, none⟩ = some (.int .i64 0)) (ds := []) (tf 0 8) (by kernel_rfl) rfl rfl ⟨(blk_cell BK143.out 0).trans rfl, (blk_cell BK143.out 1).trans rfl, (blk_cell BK143.out 2).trans rfl, (blk_cell BK143.out 3).trans rfl⟩ (fun hHeld => ?_); refine with_tabW contangolaw50_goes.tab2 contangolaw50_goes.bits2 (fun HT_ HW_ => ?_)
                                    generalize w27.drew = w28 at BK143 HB hHeld ⊢
                                    refine take_ (i := 0) (N := some 13) (v := ?_) (a' := ?_) (tf 1 7) rfl rfl (take_ofW HT_.out HW_.out (by kernel_rfl)) (fun _ _ _ h => h) (Or.inl ⟨by rfl, ?_⟩) hHeld ?_ ?_
                                    rotate_left
                                    · rintro w' ⟨s0, s1, s2, s3⟩
                                      go_simp
                                      with_reducible rfl
                                    rotate_left
                                    · exact ap_
                                    refine take_ (i := 2) (N := some 15) (v := ?_) (a' := ?_) #[true, false, true, false, false, false, false, false] rfl rfl (take_ofW HT_.out HW_.out (by kernel_rfl)) (fun _ _ _ h => h) (Or.inl ⟨by rfl, ?_⟩) hHeld ?_ ?_
                                    rotate_left
                                    · rintro w' ⟨s0, s1, s2, s3⟩
                                      go_simp
                                      with_reducible rfl
                                    rotate_left
                                    · exact ap_
                                    refine take_ (i := 4) (N := some 17) (v := ?_) (a' := ?_) #[true, false, true, false, true, false, false, false] rfl rfl (take_ofW HT_.out HW_.out (by kernel_rfl)) (fun _ _ _ h => h) (Or.inl ⟨by rfl, ?_⟩) hHeld ?_ ?_
                                    rotate_left
                                    · rintro w' ⟨s0, s1, s2, s3⟩
                                      go_simp
                                      with_reducible rfl
                                    rotate_left
                                    · exact ap_
                                    refine one_ (i := 1) (N := some 14) #[true, true, true, false, true, false, false, false] rfl rfl (one_of HT_.out (by kernel_rfl)) (by decide) (fun K hK => ?_)
                                    refine goes_ Try.func23 (by kernel_rfl) rfl #[.agg #[.string (⟨#[111, 105, 108]⟩ : ByteArray), .int .i64 1, .int .i64 9, .int .i64 0], .string (⟨#[97, 108, 102, 97]⟩ : ByteArray), .int .i64 5] (by rfl) rfl rfl pm_ ?_
                                    with_reducible refine (contangolaw50_hold.calls (⟨#[111, 105, 108]⟩ : ByteArray) 1 9 0 (⟨#[97, 108, 102, 97]⟩ : ByteArray) 5 t144 t145 t146 _ A1.out).mono ?_
                                    rintro e w29 ⟨v147, rfl, ho0, hb⟩
                                    refine ⟨_, rfl, ?_⟩
                                    have n0_ := Aside0.mk (Kd.R_lower ho0 (below_size (bz1 HB.out GE143.out)))
                                    have n1_ := Aside0.mk (blk_below (g := gb143) (o := .cells #[.string (⟨#[111, 105, 108]⟩ : ByteArray), .int .i64 1, .int .i64 9, .int .i64 0] 24 (0, 0)) (bk_ BK143.out) hb)
                                    have n2_ := Aside0.mk (below_step (bz1 HB.out GE143.out) hb)
                                    clear BK143
                                    clear HB
                                    have HO148 := n0_
                                    have BK143 := n1_
                                    have HB := n2_
                                    clear n0_ n1_ n2_
                                    (try clear hb)
                                    (try clear hb2)
                                    (try clear hk)
                                    (try clear hi)
                                    (try clear ho0)
                                    refine hK.out _ _ ⟨(blk_cell BK143.out 0).trans rfl, (blk_cell BK143.out 1).trans rfl, (blk_cell BK143.out 2).trans rfl, (blk_cell BK143.out 3).trans rfl⟩ (fun hHeld => ?_)
                                    clear hK K
                                    refine norm_ (a' := ?_) ?_ ?_
                                    rotate_left
                                    · show Act.put _ (some 14) _ = _
                                      simp only [Act.put, List.setIfInBounds_toArray, List.set_cons_zero, List.set_cons_succ, i64_w, i32_w]
                                      rfl
                                    refine one_ (i := 3) (N := some 16) (tf 5 3) rfl rfl (one_of HT_.out (by kernel_rfl)) (by decide) (fun K hK => ?_)
                                    refine goes_ Try.func23 (by kernel_rfl) rfl #[.agg #[.string (⟨#[111, 105, 108]⟩ : ByteArray), .int .i64 1, .int .i64 9, .int .i64 0], .string (⟨#[98, 114, 97, 118, 111]⟩ : ByteArray), .int .i64 3] (by rfl) rfl rfl pm_ ?_
                                    with_reducible refine (contangolaw50_hold.calls (⟨#[111, 105, 108]⟩ : ByteArray) 1 9 0 (⟨#[98, 114, 97, 118, 111]⟩ : ByteArray) 3 t149 t150 t151 _ A2.out).mono ?_
                                    rintro e w30 ⟨v152, rfl, ho0, hb⟩
                                    refine ⟨_, rfl, ?_⟩
                                    have n0_ := Aside0.mk (Kd.R_elder' (br_ HO148.out) (Kd.R_base ho0) hb)
                                    have n1_ := Aside0.mk (Kd.R_lower (Kd.R_new' ho0 (Kd.R_lt (br_ HO148.out))) (below_size (bz1 HB.out GE143.out)))
                                    have n2_ := Aside0.mk (blk_below (g := gb143) (o := .cells #[.string (⟨#[111, 105, 108]⟩ : ByteArray), .int .i64 1, .int .i64 9, .int .i64 0] 24 (0, 0)) (bk_ BK143.out) hb)
                                    have n3_ := Aside0.mk (below_step (bz1 HB.out GE143.out) hb)
                                    clear HO148
                                    clear BK143
                                    clear HB
                                    have HO148 := n0_
                                    have HO153 := n1_
                                    have BK143 := n2_
                                    have HB := n3_
                                    clear n0_ n1_ n2_ n3_
                                    (try clear hb)
                                    (try clear hb2)
                                    (try clear hk)
                                    (try clear hi)
                                    (try clear ho0)
                                    refine hK.out _ _ ⟨(blk_cell BK143.out 0).trans rfl, (blk_cell BK143.out 1).trans rfl, (blk_cell BK143.out 2).trans rfl, (blk_cell BK143.out 3).trans rfl⟩ (fun hHeld => ?_)
                                    clear hK K
                                    refine norm_ (a' := ?_) ?_ ?_
                                    rotate_left
                                    · show Act.put _ (some 16) _ = _
                                      simp only [Act.put, List.setIfInBounds_toArray, List.set_cons_zero, List.set_cons_succ, i64_w, i32_w]
                                      rfl
                                    refine one_ (i := 5) (N := some 18) (tf 6 2) rfl rfl (one_of HT_.out (by kernel_rfl)) (by decide) (fun K hK => ?_)
                                    refine goes_ Try.func23 (by kernel_rfl) rfl #[.agg #[.string (⟨#[111, 105, 108]⟩ : ByteArray), .int .i64 1, .int .i64 9, .int .i64 0], .string (⟨#[99, 97, 114, 108]⟩ : ByteArray), .int .i64 2] (by rfl) rfl rfl pm_ ?_
                                    with_reducible refine (contangolaw50_hold.calls (⟨#[111, 105, 108]⟩ : ByteArray) 1 9 0 (⟨#[99, 97, 114, 108]⟩ : ByteArray) 2 t154 t155 t156 _ A3.out).mono ?_
                                    rintro e w31 ⟨v157, rfl, ho0, hb⟩
                                    refine ⟨_, rfl, ?_⟩
                                    have n0_ := Aside0.mk (Kd.R_elder' (br_ HO148.out) (Kd.R_base ho0) hb)
                                    have n1_ := Aside0.mk (Kd.R_elder' (br_ HO153.out) (Kd.R_base ho0) hb)
                                    have n2_ := Aside0.mk (Kd.R_lower (Kd.R_new' (Kd.R_new' ho0 (Kd.R_lt (br_ HO148.out))) (Kd.R_lt (br_ HO153.out))) (below_size (bz1 HB.out GE143.out)))
                                    have n3_ := Aside0.mk (blk_below (g := gb143) (o := .cells #[.string (⟨#[111, 105, 108]⟩ : ByteArray), .int .i64 1, .int .i64 9, .int .i64 0] 24 (0, 0)) (bk_ BK143.out) hb)
                                    have n4_ := Aside0.mk (below_step (bz1 HB.out GE143.out) hb)
                                    clear HO148
                                    clear HO153
                                    clear BK143
                                    clear HB
                                    have HO148 := n0_
                                    have HO153 := n1_
                                    have HO158 := n2_
                                    have BK143 := n3_
                                    have HB := n4_
                                    clear n0_ n1_ n2_ n3_ n4_
                                    (try clear hb)
                                    (try clear hb2)
                                    (try clear hk)
                                    (try clear hi)
                                    (try clear ho0)
                                    obtain ⟨Ao32, co32, eo32⟩ := Kd.R_slice HO148.out
                                    (first | subst eo32 | (injection eo32 with f1_ f2_ f3_; have f4_ := f1_.symm; have f5_ := f3_.symm; clear f1_ f2_ f3_; subst f4_; subst f5_))
                                    obtain ⟨Ao33, co33, eo33⟩ := Kd.R_slice HO153.out
                                    (first | subst eo33 | (injection eo33 with f1_ f2_ f3_; have f4_ := f1_.symm; have f5_ := f3_.symm; clear f1_ f2_ f3_; subst f4_; subst f5_))
                                    obtain ⟨Ao34, co34, eo34⟩ := Kd.R_slice HO158.out
                                    (first | subst eo34 | (injection eo34 with f1_ f2_ f3_; have f4_ := f1_.symm; have f5_ := f3_.symm; clear f1_ f2_ f3_; subst f4_; subst f5_))
                                    refine hK.out _ _ ⟨(blk_cell BK143.out 0).trans rfl, (blk_cell BK143.out 1).trans rfl, (blk_cell BK143.out 2).trans rfl, (blk_cell BK143.out 3).trans rfl⟩ (fun hHeld => ?_)
                                    clear hK K
                                    refine norm_ (a' := ?_) ?_ ?_
                                    rotate_left
                                    · show Act.put _ (some 18) _ = _
                                      simp only [Act.put, List.setIfInBounds_toArray, List.set_cons_zero, List.set_cons_succ, i64_w, i32_w]
                                      rfl
                                    refine one_ (i := 6) (N := some 19) (tf 7 1) rfl rfl (one_of HT_.out (by kernel_rfl)) (by decide) (fun K hK => ?_)
                                    refine Kd.N_lit_step k58 _ 58 ?hg (N' := 19) ?hd (xs := ([(⟨(⟨t144, t145⟩ : S55), t146⟩ : S58), (⟨(⟨t149, t150⟩ : S55), t151⟩ : S58), (⟨(⟨t154, t155⟩ : S55), t156⟩ : S58)] : List (S58))) (inner := [.string t144, .string t145, .slice Ao32 t146.length co32, .string t149, .string t150, .slice Ao33 t151.length co33, .string t154, .string t155, .slice Ao34 t156.length co34]) (ok := (fun k_ => k_ ≠ gb143)) (okp := (fun k_ => k_ ≠ gb143)) ?hr ?hp (fun _ hk => hk) ((show ∀ k_, w31.heap.size ≤ k_ → (fun k_ => k_ ≠ gb143) k_ from fun k_ hk => Kd.freshB (g := gb143) (o := .cells #[.string (⟨#[111, 105, 108]⟩ : ByteArray), .int .i64 1, .int .i64 9, .int .i64 0] 24 (0, 0)) (bk_ BK143.out) k_ hk) _ (Nat.le_refl _)) (Below.refl _ _) (Nat.le_refl _) (by simp) ?_; (case hd => rfl); (case hg => rfl); (case hr => first | (go_simp; done) | (go_simp; rfl)); (case hp => exact (Reps.c3 (show Kd.FK k58 _ _ (⟨(⟨t144, t145⟩ : S55), t146⟩ : S58) [.string t144, .string t145, .slice Ao32 t146.length co32] from (k58_mkF _ _ (⟨(⟨t144, t145⟩ : S55), t146⟩ : S58) (Kd.R_reads' (Kd.R_mono (ok' := (fun k_ => k_ ≠ gb143)) (Kd.R_types (HO148.out) BK143.out (by decide)) (fun k_ hk => hk.2))).2.1 (Kd.R_F (Kd.R_mono (ok' := (fun k_ => k_ ≠ gb143)) (Kd.R_types (HO148.out) BK143.out (by decide)) (fun k_ hk => hk.2))))) (Reps.c3 (show Kd.FK k58 _ _ (⟨(⟨t149, t150⟩ : S55), t151⟩ : S58) [.string t149, .string t150, .slice Ao33 t151.length co33] from (k58_mkF _ _ (⟨(⟨t149, t150⟩ : S55), t151⟩ : S58) (Kd.R_reads' (Kd.R_mono (ok' := (fun k_ => k_ ≠ gb143)) (Kd.R_types (HO153.out) BK143.out (by decide)) (fun k_ hk => hk.2))).2.1 (Kd.R_F (Kd.R_mono (ok' := (fun k_ => k_ ≠ gb143)) (Kd.R_types (HO153.out) BK143.out (by decide)) (fun k_ hk => hk.2))))) (Reps.c3 (show Kd.FK k58 _ _ (⟨(⟨t154, t155⟩ : S55), t156⟩ : S58) [.string t154, .string t155, .slice Ao34 t156.length co34] from (k58_mkF _ _ (⟨(⟨t154, t155⟩ : S55), t156⟩ : S58) (Kd.R_reads' (Kd.R_mono (ok' := (fun k_ => k_ ≠ gb143)) (Kd.R_types (HO158.out) BK143.out (by decide)) (fun k_ hk => hk.2))).2.1 (Kd.R_F (Kd.R_mono (ok' := (fun k_ => k_ ≠ gb143)) (Kd.R_types (HO158.out) BK143.out (by decide)) (fun k_ hk => hk.2))))) (Reps.none _ _)))))
                                    intro v160 w35 ho36 hb hg_ hnew_
                                    clear hg_ hnew_
                                    (first | rw [← Ny159.out] at ho36 | (simp only [Int.reduceToNat] at ho36; rw [← Ny159.out] at ho36))
                                    have n0_ := Aside0.mk (Kd.N_lower ho36 (below_size (bz1 HB.out GE143.out)))
                                    have n1_ := Aside0.mk (blk_below (g := gb143) (o := .cells #[.string (⟨#[111, 105, 108]⟩ : ByteArray), .int .i64 1, .int .i64 9, .int .i64 0] 24 (0, 0)) (bk_ BK143.out) hb)
                                    have n2_ := Aside0.mk (below_step (bz1 HB.out GE143.out) hb)
                                    clear BK143
                                    clear HB
                                    clear HO148
                                    clear HO153
                                    clear HO158
                                    have HO161 := n0_
                                    have BK143 := n1_
                                    have HB := n2_
                                    clear n0_ n1_ n2_
                                    clear hb ho36
                                    refine hK.out _ _ ⟨(blk_cell BK143.out 0).trans rfl, (blk_cell BK143.out 1).trans rfl, (blk_cell BK143.out 2).trans rfl, (blk_cell BK143.out 3).trans rfl⟩ (fun hHeld => ?_)
                                    clear hK K
                                    refine norm_ (a' := ?_) ?_ ?_
                                    rotate_left
                                    · show Act.put _ (some 19) _ = _
                                      simp only [Act.put, List.setIfInBounds_toArray, List.set_cons_zero, List.set_cons_succ, i64_w, i32_w]
                                      rfl
                                    refine pv_ 7 2 (tf 8 0) HT_ ?_
                                    refine done_ (done_of HT_.out (by kernel_rfl)) ?_
                                    have hcz37_0 : w35.cell? ⟨gb143, 0, none⟩ = some (.string (⟨#[111, 105, 108]⟩ : ByteArray)) := (blk_cell BK143.out 0).trans rfl
                                    have hcz37_1 : w35.cell? ⟨gb143, 1, none⟩ = some (.int .i64 1) := (blk_cell BK143.out 1).trans rfl
                                    have hcz37_2 : w35.cell? ⟨gb143, 2, none⟩ = some (.int .i64 9) := (blk_cell BK143.out 2).trans rfl
                                    have hcz37_3 : w35.cell? ⟨gb143, 3, none⟩ = some (.int .i64 0) := (blk_cell BK143.out 3).trans rfl
                                    have hfz37_0 := blk_frozen BK143.out 0
                                    have hfz37_1 := blk_frozen BK143.out 1
                                    have hfz37_2 := blk_frozen BK143.out 2
                                    have hfz37_3 := blk_frozen BK143.out 3
                                    obtain ⟨Ao38, co38, eo38⟩ := Kd.N_slice HO161.out
                                    subst eo38
                                    try go_wp2_with (first | ((with_reducible refine gate_callee (f := 10) rfl ?_); refine goesL_ (some 23) rfl rfl Try.func10 (by kernel_rfl) rfl #[.slice Ao38 y159.length co38, .agg #[.string (⟨#[111, 105, 108]⟩ : ByteArray), .int .i64 1, .int .i64 9, .int .i64 0], .bool true, .int .i64 4] rfl pm_ ?_; (with_reducible refine (tear_Parts.calls k _ _ y159 (⟨#[111, 105, 108]⟩ : ByteArray) 1 9 0 true 4 t162 t165 _ ?side1 ?side2 A4.out).mono ?_); (case side1 => repeat (first | exact (Kd.N_reads' HO161.out).2.2 | (with_reducible refine Kd.C_alloc ?_ _) | (with_reducible refine Kd.C_drewN ?_ _) | (with_reducible refine Kd.C_drew ?_))); (case side2 => exact (Kd.N_reads' HO161.out).2.1); rintro e w39 ⟨v163, rfl, ho0, hb⟩; refine ⟨_, rfl, ?_⟩; have n0_ := Aside0.mk (Kd.N_elder' (by (with_reducible repeat (first | apply Kd.N_alloc | apply Kd.N_drewN | apply Kd.N_drew)); exact HO161.out) (Kd.R_base ho0) hb); have n1_ := Aside0.mk (Kd.R_lower ho0 (below_size (bz1 HB.out GE143.out))); have n2_ := Aside0.mk (blk_below (g := gb143) (o := .cells #[.string (⟨#[111, 105, 108]⟩ : ByteArray), .int .i64 1, .int .i64 9, .int .i64 0] 24 (0, 0)) (bk_ BK143.out) hb); have n3_ := Aside0.mk (below_step (bz1 HB.out GE143.out) hb); clear HO161; clear BK143; clear HB; have HO161 := n0_; have HO164 := n1_; have BK143 := n2_; have HB := n3_; clear n0_ n1_ n2_ n3_; (try clear hb); (try clear hb2); (try clear hk); (try clear hi); (try clear ho0); have hcz40_0 : w39.cell? ⟨gb143, 0, none⟩ = some (.string (⟨#[111, 105, 108]⟩ : ByteArray)) := (blk_cell BK143.out 0).trans rfl; have hcz40_1 : w39.cell? ⟨gb143, 1, none⟩ = some (.int .i64 1) := (blk_cell BK143.out 1).trans rfl; have hcz40_2 : w39.cell? ⟨gb143, 2, none⟩ = some (.int .i64 9) := (blk_cell BK143.out 2).trans rfl; have hcz40_3 : w39.cell? ⟨gb143, 3, none⟩ = some (.int .i64 0) := (blk_cell BK143.out 3).trans rfl; have hfz40_0 := blk_frozen BK143.out 0; have hfz40_1 := blk_frozen BK143.out 1; have hfz40_2 := blk_frozen BK143.out 2; have hfz40_3 := blk_frozen BK143.out 3; obtain ⟨Ao41, co41, eo41⟩ := Kd.R_slice HO164.out; subst eo41) | ((with_reducible refine gate_callee (f := 13) rfl ?_); refine goesL_ (some 30) rfl rfl Try.func13 (by kernel_rfl) rfl #[.slice Ao38 y159.length co38, .agg #[.string (⟨#[111, 105, 108]⟩ : ByteArray), .int .i64 1, .int .i64 9, .int .i64 0], .bool true, .slice Ao41 t162.length co41] rfl pm_ ?_; (with_reducible refine (tear_Apply.calls k _ _ y159 (⟨#[111, 105, 108]⟩ : ByteArray) 1 9 0 true _ _ t162 t166 t169 _ ?side1 ?side2 ?side3 ?side4 A5.out).mono ?_); (case side1 => repeat (first | exact (Kd.N_reads' HO161.out).2.2 | (with_reducible refine Kd.C_alloc ?_ _) | (with_reducible refine Kd.C_drewN ?_ _) | (with_reducible refine Kd.C_drew ?_))); (case side2 => exact (Kd.N_reads' HO161.out).2.1); (case side3 => repeat (first | exact (Kd.R_reads' HO164.out).2.2 | (with_reducible refine Kd.C_alloc ?_ _) | (with_reducible refine Kd.C_drewN ?_ _) | (with_reducible refine Kd.C_drew ?_))); (case side4 => exact (Kd.R_reads' HO164.out).2.1); rintro e w42 ⟨v167, rfl, ho0, hb⟩; refine ⟨_, rfl, ?_⟩; have n0_ := Aside0.mk (Kd.N_elder' (by (with_reducible repeat (first | apply Kd.N_alloc | apply Kd.N_drewN | apply Kd.N_drew)); exact HO161.out) (by first | exact Kd.N_base ho0 | exact Kd.N_base (Kd.S_N ho0)) hb); have n1_ := Aside0.mk (Kd.R_below (br_ HO164.out) hb); have n2_ := Aside0.mk (Kd.N_lower (Kd.N_mono (ok' := fun k_ => some k_ ≠ (.slice Ao38 y159.length co38 : Value).ownBlock ∧ some k_ ≠ (.slice Ao41 t162.length co41 : Value).ownBlock ∧ k_ ≠ gb143) (Kd.S_N (Kd.S_bound ho0)) (fun k_ hk_ => ⟨(Kd.fresh' (Kd.N_lt (by (with_reducible repeat (first | apply Kd.N_alloc | apply Kd.N_drewN | apply Kd.N_drew)); exact HO161.out)) k_ hk_.2.1), (Kd.fresh' (Kd.R_lt (br_ HO164.out)) k_ hk_.2.1), (Kd.freshB (g := gb143) (o := .cells #[.string (⟨#[111, 105, 108]⟩ : ByteArray), .int .i64 1, .int .i64 9, .int .i64 0] 24 (0, 0)) (bk_ BK143.out) k_ hk_.2.1)⟩)) (below_size (bz1 HB.out GE143.out))); have n3_ := Aside0.mk (blk_below (g := gb143) (o := .cells #[.string (⟨#[111, 105, 108]⟩ : ByteArray), .int .i64 1, .int .i64 9, .int .i64 0] 24 (0, 0)) (bk_ BK143.out) hb); have n4_ := Aside0.mk (below_step (bz1 HB.out GE143.out) hb); clear HO161; clear HO164; clear BK143; clear HB; have HO161 := n0_; have HO164 := n1_; have HO168 := n2_; have BK143 := n3_; have HB := n4_; clear n0_ n1_ n2_ n3_ n4_; (try clear hb); (try clear hb2); (try clear hk); (try clear hi); (try clear ho0)) | ((with_reducible refine gate_dst (N := 7) rfl ?_); (try (refine gate_guard (by rfl) ?_; dsimp only)); refine box_event ?hg (N := 7) ?hd (cs := #[.string (⟨#[]⟩ : ByteArray), .int .i64 0, .int .i64 0, .int .i64 0, .int .i64 0, .int .i64 0, .bool false]) (t := 44) ?hr ?_; (case hd => rfl); (case hg => rfl); (case hr => first | (go_simp; done) | (go_simp; rfl)); intro gb170 hg w43 hbox hb; have n0_ := Aside0.mk (Kd.N_below (Kd.N_elderB (by (with_reducible repeat (first | apply Kd.N_alloc | apply Kd.N_drewN | apply Kd.N_drew)); exact HO161.out) gb170 (Nat.le_of_eq hg.symm)) hb); have n1_ := Aside0.mk (Kd.R_below (br_ HO164.out) hb); have n2_ := Aside0.mk (Kd.N_below (Kd.N_elderB (by (with_reducible repeat (first | apply Kd.N_alloc | apply Kd.N_drewN | apply Kd.N_drew)); exact HO168.out) gb170 (Nat.le_of_eq hg.symm)) hb); have n3_ := Aside0.mk (blk_below (g := gb143) (o := .cells #[.string (⟨#[111, 105, 108]⟩ : ByteArray), .int .i64 1, .int .i64 9, .int .i64 0] 24 (0, 0)) (bk_ BK143.out) hb); have n4_ := Aside0.mk (below_step (bz1 HB.out GE143.out) hb); have n5_ := Aside0.mk (hbox); have n6_ := Aside0.mk ((by rw [hg]; exact (below_size (bz1 HB.out GE143.out)) : w.heap.size ≤ gb170)); have n7_ := Aside0.mk ((by rw [hg]; exact (below_size (bz1 HB.out GE143.out)) : w.heap.size ≤ gb170)); have n8_ := Aside0.mk ((by rw [hg]; exact Nat.ne_of_lt (blk_lt (g := gb143) (o := .cells #[.string (⟨#[111, 105, 108]⟩ : ByteArray), .int .i64 1, .int .i64 9, .int .i64 0] 24 (0, 0)) (bk_ BK143.out)) : gb143 ≠ gb170)); have n9_ := Aside0.mk ((by rw [hg]; exact Nat.ne_of_gt (blk_lt (g := gb143) (o := .cells #[.string (⟨#[111, 105, 108]⟩ : ByteArray), .int .i64 1, .int .i64 9, .int .i64 0] 24 (0, 0)) (bk_ BK143.out)) : gb170 ≠ gb143)); clear HO161; clear HO164; clear HO168; clear BK143; clear HB; have HO161 := n0_; have HO164 := n1_; have HO168 := n2_; have BK143 := n3_; have HB := n4_; have BK170 := n5_; have GW170 := n6_; have GE170 := n7_; have NB143_170 := n8_; have NB170_143 := n9_; clear n0_ n1_ n2_ n3_ n4_ n5_ n6_ n7_ n8_ n9_; clear hb hbox hg; have hnb44 := NB170_143.out; have hnc44 := NB143_170.out; have hcz45_0 : w43.cell? ⟨gb170, 0, none⟩ = some (.string (⟨#[]⟩ : ByteArray)) := (blk_cell BK170.out 0).trans rfl; have hcz45_1 : w43.cell? ⟨gb170, 1, none⟩ = some (.int .i64 0) := (blk_cell BK170.out 1).trans rfl; have hcz45_2 : w43.cell? ⟨gb170, 2, none⟩ = some (.int .i64 0) := (blk_cell BK170.out 2).trans rfl; have hcz45_3 : w43.cell? ⟨gb170, 3, none⟩ = some (.int .i64 0) := (blk_cell BK170.out 3).trans rfl; have hcz45_4 : w43.cell? ⟨gb170, 4, none⟩ = some (.int .i64 0) := (blk_cell BK170.out 4).trans rfl; have hcz45_5 : w43.cell? ⟨gb170, 5, none⟩ = some (.int .i64 0) := (blk_cell BK170.out 5).trans rfl; have hcz45_6 : w43.cell? ⟨gb170, 6, none⟩ = some (.bool false) := (blk_cell BK170.out 6).trans rfl; have hfz45_0 := blk_frozen BK170.out 0; have hfz45_1 := blk_frozen BK170.out 1; have hfz45_2 := blk_frozen BK170.out 2; have hfz45_3 := blk_frozen BK170.out 3; have hfz45_4 := blk_frozen BK170.out 4; have hfz45_5 := blk_frozen BK170.out 5; have hfz45_6 := blk_frozen BK170.out 6) | ((with_reducible refine gate_callee (f := 16) rfl ?_); refine goesL_ (some 36) rfl rfl Try.func16 (by kernel_rfl) rfl #[.agg #[.string (⟨#[111, 105, 108]⟩ : ByteArray), .int .i64 0, .int .i64 100, .int .i64 1, .int .i64 0, .int .i64 1000, .bool false], .int .i64 47, .int .i64 45, .bool true, .int .i64 3] rfl pm_ ?_; (with_reducible refine (tear_Worth.calls k (⟨#[111, 105, 108]⟩ : ByteArray) 0 100 1 0 1000 false 47 45 true 3 t171 t172 _ A6.out).mono ?_); rintro e w46 ⟨rfl, hb⟩; refine ⟨_, rfl, ?_⟩; have n0_ := Aside0.mk (Kd.N_below (by (with_reducible repeat (first | apply Kd.N_alloc | apply Kd.N_drewN | apply Kd.N_drew)); exact (Kd.N_mono (Kd.N_far (p := ⟨gb170, 6, none⟩) (Kd.N_far (p := ⟨gb170, 5, none⟩) (Kd.N_far (p := ⟨gb170, 4, none⟩) (Kd.N_far (p := ⟨gb170, 3, none⟩) (Kd.N_far (p := ⟨gb170, 2, none⟩) (Kd.N_far (p := ⟨gb170, 1, none⟩) (Kd.N_far (p := ⟨gb170, 0, none⟩) (Kd.N_mono HO161.out (fun k_ hk => (⟨hk, hk.2⟩ : _ ∧ k_ ≠ gb170))) (fun _ hk => hk.2) (.string (⟨#[111, 105, 108]⟩ : ByteArray))) (fun _ hk => hk.2) (.int .i64 0)) (fun _ hk => hk.2) (.int .i64 100)) (fun _ hk => hk.2) (.int .i64 1)) (fun _ hk => hk.2) (.int .i64 0)) (fun _ hk => hk.2) (.int .i64 1000)) (fun _ hk => hk.2) (.bool false)) (fun _ h_ => h_.1))) hb); have n1_ := Aside0.mk (Kd.R_below (by (with_reducible repeat (first | apply Kd.R_alloc | apply Kd.R_drewN | apply Kd.R_drew)); exact (Kd.R_mono (Kd.R_far (p := ⟨gb170, 6, none⟩) (Kd.R_far (p := ⟨gb170, 5, none⟩) (Kd.R_far (p := ⟨gb170, 4, none⟩) (Kd.R_far (p := ⟨gb170, 3, none⟩) (Kd.R_far (p := ⟨gb170, 2, none⟩) (Kd.R_far (p := ⟨gb170, 1, none⟩) (Kd.R_far (p := ⟨gb170, 0, none⟩) (Kd.R_types HO164.out BK170.out (by decide)) (fun _ hk => hk.2) (.string (⟨#[111, 105, 108]⟩ : ByteArray))) (fun _ hk => hk.2) (.int .i64 0)) (fun _ hk => hk.2) (.int .i64 100)) (fun _ hk => hk.2) (.int .i64 1)) (fun _ hk => hk.2) (.int .i64 0)) (fun _ hk => hk.2) (.int .i64 1000)) (fun _ hk => hk.2) (.bool false)) (fun _ h_ => h_.1))) hb); have n2_ := Aside0.mk (Kd.N_below (by (with_reducible repeat (first | apply Kd.N_alloc | apply Kd.N_drewN | apply Kd.N_drew)); exact (Kd.N_mono (Kd.N_far (p := ⟨gb170, 6, none⟩) (Kd.N_far (p := ⟨gb170, 5, none⟩) (Kd.N_far (p := ⟨gb170, 4, none⟩) (Kd.N_far (p := ⟨gb170, 3, none⟩) (Kd.N_far (p := ⟨gb170, 2, none⟩) (Kd.N_far (p := ⟨gb170, 1, none⟩) (Kd.N_far (p := ⟨gb170, 0, none⟩) (Kd.N_mono HO168.out (fun k_ hk => (⟨hk, hk.2⟩ : _ ∧ k_ ≠ gb170))) (fun _ hk => hk.2) (.string (⟨#[111, 105, 108]⟩ : ByteArray))) (fun _ hk => hk.2) (.int .i64 0)) (fun _ hk => hk.2) (.int .i64 100)) (fun _ hk => hk.2) (.int .i64 1)) (fun _ hk => hk.2) (.int .i64 0)) (fun _ hk => hk.2) (.int .i64 1000)) (fun _ hk => hk.2) (.bool false)) (fun _ h_ => h_.1))) hb); have n3_ := Aside0.mk (blk_below (g := gb143) (o := .cells #[.string (⟨#[111, 105, 108]⟩ : ByteArray), .int .i64 1, .int .i64 9, .int .i64 0] 24 (0, 0)) (by (with_reducible repeat (first | refine blk_drewN ?_ _ | refine blk_drew ?_ | refine blk_alloc ?_ _)); refine blk_far ?_ NB143_170.out _; (with_reducible repeat (first | refine blk_drewN ?_ _ | refine blk_drew ?_ | refine blk_alloc ?_ _)); refine blk_far ?_ NB143_170.out _; (with_reducible repeat (first | refine blk_drewN ?_ _ | refine blk_drew ?_ | refine blk_alloc ?_ _)); refine blk_far ?_ NB143_170.out _; (with_reducible repeat (first | refine blk_drewN ?_ _ | refine blk_drew ?_ | refine blk_alloc ?_ _)); refine blk_far ?_ NB143_170.out _; (with_reducible repeat (first | refine blk_drewN ?_ _ | refine blk_drew ?_ | refine blk_alloc ?_ _)); refine blk_far ?_ NB143_170.out _; (with_reducible repeat (first | refine blk_drewN ?_ _ | refine blk_drew ?_ | refine blk_alloc ?_ _)); refine blk_far ?_ NB143_170.out _; (with_reducible repeat (first | refine blk_drewN ?_ _ | refine blk_drew ?_ | refine blk_alloc ?_ _)); refine blk_far ?_ NB143_170.out _; (with_reducible repeat (first | refine blk_drewN ?_ _ | refine blk_drew ?_ | refine blk_alloc ?_ _)); exact BK143.out) hb); have n4_ := Aside0.mk (blk_below (g := gb170) (o := .cells #[.string (⟨#[111, 105, 108]⟩ : ByteArray), .int .i64 0, .int .i64 100, .int .i64 1, .int .i64 0, .int .i64 1000, .bool false] 44 (0, 0)) (by (with_reducible repeat (first | refine blk_drewN ?_ _ | refine blk_drew ?_ | refine blk_alloc ?_ _)); refine blk_put (cs := #[.string (⟨#[111, 105, 108]⟩ : ByteArray), .int .i64 0, .int .i64 100, .int .i64 1, .int .i64 0, .int .i64 1000, .bool false]) ?_ 6 _ rfl; (with_reducible repeat (first | refine blk_drewN ?_ _ | refine blk_drew ?_ | refine blk_alloc ?_ _)); refine blk_put (cs := #[.string (⟨#[111, 105, 108]⟩ : ByteArray), .int .i64 0, .int .i64 100, .int .i64 1, .int .i64 0, .int .i64 0, .bool false]) ?_ 5 _ rfl; (with_reducible repeat (first | refine blk_drewN ?_ _ | refine blk_drew ?_ | refine blk_alloc ?_ _)); refine blk_put (cs := #[.string (⟨#[111, 105, 108]⟩ : ByteArray), .int .i64 0, .int .i64 100, .int .i64 1, .int .i64 0, .int .i64 0, .bool false]) ?_ 4 _ rfl; (with_reducible repeat (first | refine blk_drewN ?_ _ | refine blk_drew ?_ | refine blk_alloc ?_ _)); refine blk_put (cs := #[.string (⟨#[111, 105, 108]⟩ : ByteArray), .int .i64 0, .int .i64 100, .int .i64 0, .int .i64 0, .int .i64 0, .bool false]) ?_ 3 _ rfl; (with_reducible repeat (first | refine blk_drewN ?_ _ | refine blk_drew ?_ | refine blk_alloc ?_ _)); refine blk_put (cs := #[.string (⟨#[111, 105, 108]⟩ : ByteArray), .int .i64 0, .int .i64 0, .int .i64 0, .int .i64 0, .int .i64 0, .bool false]) ?_ 2 _ rfl; (with_reducible repeat (first | refine blk_drewN ?_ _ | refine blk_drew ?_ | refine blk_alloc ?_ _)); refine blk_put (cs := #[.string (⟨#[111, 105, 108]⟩ : ByteArray), .int .i64 0, .int .i64 0, .int .i64 0, .int .i64 0, .int .i64 0, .bool false]) ?_ 1 _ rfl; (with_reducible repeat (first | refine blk_drewN ?_ _ | refine blk_drew ?_ | refine blk_alloc ?_ _)); refine blk_put (cs := #[.string (⟨#[]⟩ : ByteArray), .int .i64 0, .int .i64 0, .int .i64 0, .int .i64 0, .int .i64 0, .bool false]) ?_ 0 _ rfl; (with_reducible repeat (first | refine blk_drewN ?_ _ | refine blk_drew ?_ | refine blk_alloc ?_ _)); exact BK170.out) hb); have n5_ := Aside0.mk (below_step (bz2 HB.out GE143.out GE170.out) hb); clear HO161; clear HO164; clear HO168; clear BK143; clear BK170; clear HB; have HO161 := n0_; have HO164 := n1_; have HO168 := n2_; have BK143 := n3_; have BK170 := n4_; have HB := n5_; clear n0_ n1_ n2_ n3_ n4_ n5_; (try clear hb); (try clear hb2); (try clear hk); (try clear hi); have hcz47_0 : w46.cell? ⟨gb170, 0, none⟩ = some (.string (⟨#[111, 105, 108]⟩ : ByteArray)) := (blk_cell BK170.out 0).trans rfl; have hcz47_1 : w46.cell? ⟨gb170, 1, none⟩ = some (.int .i64 0) := (blk_cell BK170.out 1).trans rfl; have hcz47_2 : w46.cell? ⟨gb170, 2, none⟩ = some (.int .i64 100) := (blk_cell BK170.out 2).trans rfl; have hcz47_3 : w46.cell? ⟨gb170, 3, none⟩ = some (.int .i64 1) := (blk_cell BK170.out 3).trans rfl; have hcz47_4 : w46.cell? ⟨gb170, 4, none⟩ = some (.int .i64 0) := (blk_cell BK170.out 4).trans rfl; have hcz47_5 : w46.cell? ⟨gb170, 5, none⟩ = some (.int .i64 1000) := (blk_cell BK170.out 5).trans rfl; have hcz47_6 : w46.cell? ⟨gb170, 6, none⟩ = some (.bool false) := (blk_cell BK170.out 6).trans rfl; have hfz47_0 := blk_frozen BK170.out 0; have hfz47_1 := blk_frozen BK170.out 1; have hfz47_2 := blk_frozen BK170.out 2; have hfz47_3 := blk_frozen BK170.out 3; have hfz47_4 := blk_frozen BK170.out 4; have hfz47_5 := blk_frozen BK170.out 5; have hfz47_6 := blk_frozen BK170.out 6) | ((with_reducible refine gate_callee (f := 16) rfl ?_); refine goesL_ (some 41) rfl rfl Try.func16 (by kernel_rfl) rfl #[.agg #[.string (⟨#[111, 105, 108]⟩ : ByteArray), .int .i64 0, .int .i64 100, .int .i64 1, .int .i64 0, .int .i64 1000, .bool false], .int .i64 47, .int .i64 45, .bool false, .int .i64 3] rfl pm_ ?_; (with_reducible refine (tear_Worth.calls k (⟨#[111, 105, 108]⟩ : ByteArray) 0 100 1 0 1000 false 47 45 false 3 t173 t174 _ A7.out).mono ?_); rintro e w48 ⟨rfl, hb⟩; refine ⟨_, rfl, ?_⟩; have n0_ := Aside0.mk (Kd.N_below (by (with_reducible repeat (first | apply Kd.N_alloc | apply Kd.N_drewN | apply Kd.N_drew)); exact HO161.out) hb); have n1_ := Aside0.mk (Kd.R_below (br_ HO164.out) hb); have n2_ := Aside0.mk (Kd.N_below (by (with_reducible repeat (first | apply Kd.N_alloc | apply Kd.N_drewN | apply Kd.N_drew)); exact HO168.out) hb); have n3_ := Aside0.mk (blk_below (g := gb143) (o := .cells #[.string (⟨#[111, 105, 108]⟩ : ByteArray), .int .i64 1, .int .i64 9, .int .i64 0] 24 (0, 0)) (bk_ BK143.out) hb); have n4_ := Aside0.mk (blk_below (g := gb170) (o := .cells #[.string (⟨#[111, 105, 108]⟩ : ByteArray), .int .i64 0, .int .i64 100, .int .i64 1, .int .i64 0, .int .i64 1000, .bool false] 44 (0, 0)) (bk_ BK170.out) hb); have n5_ := Aside0.mk (below_step (bz2 HB.out GE143.out GE170.out) hb); clear HO161; clear HO164; clear HO168; clear BK143; clear BK170; clear HB; have HO161 := n0_; have HO164 := n1_; have HO168 := n2_; have BK143 := n3_; have BK170 := n4_; have HB := n5_; clear n0_ n1_ n2_ n3_ n4_ n5_; (try clear hb); (try clear hb2); (try clear hk); (try clear hi); obtain ⟨Ao49, co49, eo49⟩ := Kd.N_slice HO168.out; subst eo49; have p175 : 0 ≤ (0 : Int) := (by omega); have q175 : 0 < (t162.length : Int) := od_; obtain ⟨ad175, e175, hx175_0, hx175_1, hx175_2⟩ := at_T62 (Kd.R_reads' HO164.out).2.2 0 p175 q175; cases e175; have qi175 : (0 < t162.length) = True := eq_true (by omega); (try rw [show ((0 : Int)).toNat = 0 from rfl] at hx175_0); (try rw [show 0 * 3 = 0 from rfl] at hx175_0); (try rw [Addr.add_zero'] at hx175_0); (try rw [show ((0 : Int)).toNat = 0 from rfl] at hx175_1); (try rw [show 0 * 3 = 0 from rfl] at hx175_1); (try rw [Addr.add_zero'] at hx175_1); (try rw [show ((0 : Int)).toNat = 0 from rfl] at hx175_2); (try rw [show 0 * 3 = 0 from rfl] at hx175_2); (try rw [Addr.add_zero'] at hx175_2); replace p175 := eq_true p175; replace q175 := eq_true q175; have p176 : 0 ≤ (1 : Int) := (by omega); have q176 : 1 < (t162.length : Int) := od_; obtain ⟨ad176, e176, hx176_0, hx176_1, hx176_2⟩ := at_T62 (Kd.R_reads' HO164.out).2.2 1 p176 q176; obtain rfl : ad175 = ad176 := (by injection e176); (try simp only [show (1 : Int).toNat = 1 from rfl, Nat.reduceMul, Nat.reduceEqDiff, Go.Addr.add, ↓reduceIte] at hx176_0); (try simp only [show (1 : Int).toNat = 1 from rfl, Nat.reduceMul, Nat.reduceEqDiff, Go.Addr.add, ↓reduceIte] at hx176_1); (try simp only [show (1 : Int).toNat = 1 from rfl, Nat.reduceMul, Nat.reduceEqDiff, Go.Addr.add, ↓reduceIte] at hx176_2); have qi176 : (1 < t162.length) = True := eq_true (by omega); (try rw [show ((1 : Int)).toNat = 1 from rfl] at hx176_0); (try rw [show 1 * 3 = 3 from rfl] at hx176_0); (try rw [show ((1 : Int)).toNat = 1 from rfl] at hx176_1); (try rw [show 1 * 3 = 3 from rfl] at hx176_1); (try rw [show ((1 : Int)).toNat = 1 from rfl] at hx176_2); (try rw [show 1 * 3 = 3 from rfl] at hx176_2); replace p176 := eq_true p176; replace q176 := eq_true q176; have p177 : 0 ≤ (2 : Int) := (by omega); have q177 : 2 < (t162.length : Int) := od_; obtain ⟨ad177, e177, hx177_0, hx177_1, hx177_2⟩ := at_T62 (Kd.R_reads' HO164.out).2.2 2 p177 q177; obtain rfl : ad175 = ad177 := (by injection e177); (try simp only [show (2 : Int).toNat = 2 from rfl, Nat.reduceMul, Nat.reduceEqDiff, Go.Addr.add, ↓reduceIte] at hx177_0); (try simp only [show (2 : Int).toNat = 2 from rfl, Nat.reduceMul, Nat.reduceEqDiff, Go.Addr.add, ↓reduceIte] at hx177_1); (try simp only [show (2 : Int).toNat = 2 from rfl, Nat.reduceMul, Nat.reduceEqDiff, Go.Addr.add, ↓reduceIte] at hx177_2); have qi177 : (2 < t162.length) = True := eq_true (by omega); (try rw [show ((2 : Int)).toNat = 2 from rfl] at hx177_0); (try rw [show 2 * 3 = 6 from rfl] at hx177_0); (try rw [show ((2 : Int)).toNat = 2 from rfl] at hx177_1); (try rw [show 2 * 3 = 6 from rfl] at hx177_1); (try rw [show ((2 : Int)).toNat = 2 from rfl] at hx177_2); (try rw [show 2 * 3 = 6 from rfl] at hx177_2); replace p177 := eq_true p177; replace q177 := eq_true q177; have p178 : 0 ≤ (0 : Int) := (by omega); have q178 : 0 < (t166.length : Int) := od_; obtain ⟨ad178, A178_2, c178_2, e178, hx178_0, hx178_1, hx178_2, hl178_2, hi178_2⟩ := at_T58 (Kd.N_reads' HO168.out).2.2 0 p178 q178; cases e178; obtain ⟨ce178, hce178, hMe178, hcc178⟩ := Kd.N_get HO168.out z58 0 p178 (by first | exact q178 | exact od_ | (have e_ := (Kd.N_reads' HO168.out).1; omega)); obtain ⟨ua178_2, uc178_2, rfl, ul178_2, ge178_2⟩ := k58_openF hMe178; have hv178_2 := hcc178 2 _ rfl; rw [add_field _ _ 2 (by omega)] at hv178_2; replace hv178_2 := Option.some.inj (hv178_2.symm.trans hx178_2); injection hv178_2 with hva_ hvn_ hvc_; rw [hva_] at ge178_2; rw [hvc_] at ul178_2; have HL178_2 := Aside0.mk (show Kd.V k52 52 _ w.heap.size _ _ ((rd_T58 t166 0).f1) from Kd.V_mk ul178_2 ge178_2); clear hva_ hvn_ hvc_ ge178_2 ul178_2; clear hcc178 hce178; have qi178 : (0 < t166.length) = True := eq_true (by omega); (try rw [show ((0 : Int)).toNat = 0 from rfl] at hx178_0); (try rw [show 0 * 3 = 0 from rfl] at hx178_0); (try rw [Addr.add_zero'] at hx178_0); (try rw [show ((0 : Int)).toNat = 0 from rfl] at hx178_1); (try rw [show 0 * 3 = 0 from rfl] at hx178_1); (try rw [Addr.add_zero'] at hx178_1); (try rw [show ((0 : Int)).toNat = 0 from rfl] at hx178_2); (try rw [show 0 * 3 = 0 from rfl] at hx178_2); (try rw [Addr.add_zero'] at hx178_2); have HR178_2 := Aside0.mk hi178_2; have HC178_2 := Aside0.mk hl178_2; clear hi178_2 hl178_2; replace p178 := eq_true p178; replace q178 := eq_true q178; have p179 : 0 ≤ (0 : Int) := (by omega); have q179 : 0 < (t166.length : Int) := od_; obtain ⟨ad179, A179_2, c179_2, e179, hx179_0, hx179_1, hx179_2, hl179_2, hi179_2⟩ := at_T58 (Kd.N_reads' HO168.out).2.2 0 p179 q179; obtain rfl : ad178 = ad179 := (by injection e179); obtain ⟨ce179, hce179, hMe179, hcc179⟩ := Kd.N_get HO168.out z58 0 p179 (by first | exact q179 | exact od_ | (have e_ := (Kd.N_reads' HO168.out).1; omega)); obtain ⟨ua179_2, uc179_2, rfl, ul179_2, ge179_2⟩ := k58_openF hMe179; have hv179_2 := hcc179 2 _ rfl; rw [add_field _ _ 2 (by omega)] at hv179_2; replace hv179_2 := Option.some.inj (hv179_2.symm.trans hx179_2); injection hv179_2 with hva_ hvn_ hvc_; rw [hva_] at ge179_2; rw [hvc_] at ul179_2; have HL179_2 := Aside0.mk (show Kd.V k52 52 _ w.heap.size _ _ ((rd_T58 t166 0).f1) from Kd.V_mk ul179_2 ge179_2); clear hva_ hvn_ hvc_ ge179_2 ul179_2; clear hcc179 hce179; have qi179 : (0 < t166.length) = True := eq_true (by omega); (try rw [show ((0 : Int)).toNat = 0 from rfl] at hx179_0); (try rw [show 0 * 3 = 0 from rfl] at hx179_0); (try rw [Addr.add_zero'] at hx179_0); (try rw [show ((0 : Int)).toNat = 0 from rfl] at hx179_1); (try rw [show 0 * 3 = 0 from rfl] at hx179_1); (try rw [Addr.add_zero'] at hx179_1); (try rw [show ((0 : Int)).toNat = 0 from rfl] at hx179_2); (try rw [show 0 * 3 = 0 from rfl] at hx179_2); (try rw [Addr.add_zero'] at hx179_2); have HR179_2 := Aside0.mk hi179_2; have HC179_2 := Aside0.mk hl179_2; clear hi179_2 hl179_2; replace p179 := eq_true p179; replace q179 := eq_true q179; have ea_ := Option.some.inj (hx178_2.symm.trans hx179_2); injection ea_ with ea_ en_ ec_; subst ea_; subst ec_; clear en_; have p180 : 0 ≤ (0 : Int) := (by omega); have q180 : 0 < (((rd_T58 t166 0).f1).length : Int) := od_; obtain ⟨ad180, e180, hx180_0, hx180_1, hx180_2, hx180_3, hx180_4, hx180_5⟩ := at_T52 (by repeat (first | (with_reducible exact HR179_2.out) | (with_reducible refine Kd.C_alloc ?_ _) | (with_reducible refine Kd.C_drewN ?_ _) | (with_reducible refine Kd.C_drew ?_) | exact HR179_2.out)) 0 p180 q180; cases e180; have qi180 : (0 < ((rd_T58 t166 0).f1).length) = True := eq_true (by omega); (try rw [show ((0 : Int)).toNat = 0 from rfl] at hx180_0); (try rw [show 0 * 6 = 0 from rfl] at hx180_0); (try rw [Addr.add_zero'] at hx180_0); (try rw [show ((0 : Int)).toNat = 0 from rfl] at hx180_1); (try rw [show 0 * 6 = 0 from rfl] at hx180_1); (try rw [Addr.add_zero'] at hx180_1); (try rw [show ((0 : Int)).toNat = 0 from rfl] at hx180_2); (try rw [show 0 * 6 = 0 from rfl] at hx180_2); (try rw [Addr.add_zero'] at hx180_2); (try rw [show ((0 : Int)).toNat = 0 from rfl] at hx180_3); (try rw [show 0 * 6 = 0 from rfl] at hx180_3); (try rw [Addr.add_zero'] at hx180_3); (try rw [show ((0 : Int)).toNat = 0 from rfl] at hx180_4); (try rw [show 0 * 6 = 0 from rfl] at hx180_4); (try rw [Addr.add_zero'] at hx180_4); (try rw [show ((0 : Int)).toNat = 0 from rfl] at hx180_5); (try rw [show 0 * 6 = 0 from rfl] at hx180_5); (try rw [Addr.add_zero'] at hx180_5); replace p180 := eq_true p180; replace q180 := eq_true q180))
                                    go_ret
                                    exact ⟨by first | rfl | (simp [errW_none, errW_some] <;> rfl) | (simp [*, errW_none, errW_some] <;> rfl), bz2 HB.out GE143.out GE170.out⟩
                                  · rw [if_neg c24] at H
                                    exact absurd H (by simp)
                                · rw [if_neg c23] at H
                                  exact absurd (H.trans (congrArg some HRT.out)) (by first | simp [] | (simp only []; (repeat' split) <;> simp))
                              · rw [if_neg c22] at H
                                exact absurd H (by simp)
                            · rw [if_neg c21] at H
                              exact absurd (H.trans (congrArg some HRT.out)) (by first | simp [] | (simp only []; (repeat' split) <;> simp))
                          · rw [if_neg c20] at H
                            exact absurd H (by simp)
                        · rw [if_neg c19] at H
                          exact absurd (H.trans (congrArg some HRT.out)) (by first | simp [] | (simp only []; (repeat' split) <;> simp))
                      · rw [if_neg c18] at H
                        exact absurd H (by simp)
                    · rw [if_neg c17] at H
                      exact absurd (H.trans (congrArg some HRT.out)) (by first | simp [] | (simp only []; (repeat' split) <;> simp))
                  · rw [if_neg c16] at H
                    exact absurd H (by simp)
                · rw [if_neg c15] at H
                  exact absurd (H.trans (congrArg some HRT.out)) (by first | simp [] | (simp only []; (repeat' split) <;> simp))
              · rw [if_neg c14] at H
                exact absurd (H.trans (congrArg some HRT.out)) (by first | simp [] | (simp only []; (repeat' split) <;> simp))
            · rw [if_neg c13] at H
              exact absurd (H.trans (congrArg some HRT.out)) (by first | simp [] | (simp only []; (repeat' split) <;> simp))
          · rw [if_neg c12] at H
            exact absurd (H.trans (congrArg some HRT.out)) (by first | simp [] | (simp only []; (repeat' split) <;> simp))
        · rw [if_neg c11] at H
          exact absurd (H.trans (congrArg some HRT.out)) (by first | simp [] | (simp only []; (repeat' split) <;> simp))
      · rw [if_neg c10] at H
        exact absurd (H.trans (congrArg some HRT.out)) (by first | simp [] | (simp only []; (repeat' split) <;> simp))
    · rw [if_neg c9] at H
      exact absurd (H.trans (congrArg some HRT.out)) (by first | simp [] | (simp only []; (repeat' split) <;> simp))
  · rw [if_neg c8] at H
    exact absurd (H.trans (congrArg some HRT.out)) (by first | simp [] | (simp only []; (repeat' split) <;> simp))

end Go.Proofs.Ytjmkdmbgldcleaa.PTearWorth
