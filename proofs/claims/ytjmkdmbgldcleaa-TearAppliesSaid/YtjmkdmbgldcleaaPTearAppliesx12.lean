import Derived.Test.YtjmkdmbgldcleaaPTearAppliesx0
import Derived.Test.YtjmkdmbgldcleaaPTearAppliesx1
import Derived.Test.YtjmkdmbgldcleaaPTearAppliesx8
import Derived.Test.YtjmkdmbgldcleaaPTearAppliesx9
import Derived.Test.YtjmkdmbgldcleaaPTearAppliesx10
import Derived.Test.YtjmkdmbgldcleaaPTearAppliesx11
namespace Go.Proofs.Ytjmkdmbgldcleaa.PTearApplies
open Go.RowKit Go.Proofs.YtjmkdmbgldcleaaW.PrintWords Go.Proofs.YtjmkdmbgldcleaaW.PrintLast Go.Proofs.YtjmkdmbgldcleaaW.PrintMore
attribute [local go_sem] max2_int min2_int max_two min_two max_three min_three max_four min_four Go.Proofs.YtjmkdmbgldcleaaHand.run_leq_str Go.Proofs.YtjmkdmbgldcleaaHand.run_gtr_str Go.Proofs.YtjmkdmbgldcleaaHand.run_geq_str   -- for this text's walks alone
set_option linter.unusedVariables false
set_option linter.unusedSimpArgs false

attribute [local go_sem high] eqA24
/-! ### product_Value: function 40 -/
def product_Value.f (k : Nat) (a0_0 : ByteArray) (a0_1 : Int) (a0_2 : Int) (a0_3 : Int) (a0_4 : Int) (a0_5 : Int) (a0_6 : Bool) (a1 : Int) (a2 : Int) : Option (Int × Int) := (product_Check.f k a0_0 a0_1 a0_2 a0_3 a0_4 a0_5 a0_6).bind fun t132 => (if t132 = 0 then ((product_within.f a1 33554432).bind fun t133 => (if t133 = true then ((product_within.f a2 1048576).bind fun t134 => (if t134 = true then (some (wrap64 ((wrap64 (a1 * a0_2)) * a2), 0)) else (some (0, 18)))) else (some (0, 17)))) else (some (0, t132)))
theorem product_Value.mono : ∀ a0 a1 a2 a3 a4 a5 a6 a7 a8 k, LeO (product_Value.f k a0 a1 a2 a3 a4 a5 a6 a7 a8) (product_Value.f (k + 1) a0 a1 a2 a3 a4 a5 a6 a7 a8) := by
  intro a0 a1 a2 a3 a4 a5 a6 a7 a8 k
  unfold product_Value.f
  repeat' first
      | (with_reducible exact product_Check.mono _ _ _ _ _ _ _ _)
      | (with_reducible exact LeO.refl _)
      | (with_reducible exact LeO.none _)
      | (with_reducible refine LeO.ite ?_ ?_)
      | (with_reducible refine LeO.bind ?_ (fun _ => ?_))
      | exact LeO.none _
      | refine LeO.ite ?_ ?_
      | refine LeO.bind ?_ (fun _ => ?_)
set_option maxHeartbeats 8000000 in
set_option maxRecDepth 100000 in
theorem product_Value.calls (k : Nat) (a0_0 : ByteArray) (a0_1 : Int) (a0_2 : Int) (a0_3 : Int) (a0_4 : Int) (a0_5 : Int) (a0_6 : Bool) (a1 : Int) (a2 : Int) (r1 : Int) (r2 : Int) (w : World) (h : product_Value.f k a0_0 a0_1 a0_2 a0_3 a0_4 a0_5 a0_6 a1 a2 = some (r1, r2)) :
    Calls Try.prog 40 #[.agg #[.string a0_0, .int .i64 a0_1, .int .i64 a0_2, .int .i64 a0_3, .int .i64 a0_4, .int .i64 a0_5, .bool a0_6], .int .i64 a1, .int .i64 a2] w fun e w' => e = .returned (.tuple #[.int .i64 r1, .int .i64 r2]) ∧ Below w.heap.size w w' := by
  have hu44 := Try.underlying44
  have HB := Aside0.mk (Below.refl w.heap.size w)
  have H : ((product_Check.f k a0_0 a0_1 a0_2 a0_3 a0_4 a0_5 a0_6).bind fun t132 => (if t132 = 0 then ((product_within.f a1 33554432).bind fun t133 => (if t133 = true then ((product_within.f a2 1048576).bind fun t134 => (if t134 = true then (some (wrap64 ((wrap64 (a1 * a0_2)) * a2), 0)) else (some (0, 18)))) else (some (0, 17)))) else (some (0, t132)))) = some (r1, r2) := h
  clear h
  replace H := Option.bind_eq_some_iff.mp H
  obtain ⟨t132, A40, H⟩ := H
  replace H : (if t132 = 0 then ((product_within.f a1 33554432).bind fun t133 => (if t133 = true then ((product_within.f a2 1048576).bind fun t134 => (if t134 = true then (some (wrap64 ((wrap64 (a1 * a0_2)) * a2), 0)) else (some (0, 18)))) else (some (0, 17)))) else (some (0, t132))) = some (r1, r2) := H
  have A4 := Aside0.mk A40
  clear A40
  by_cases c5 : t132 = 0
  · rw [if_pos c5] at H
    have c5b0 : (t132 == 0) = true := beq_iff_eq.mpr c5
    have c5b1 : (t132 != 0) = false := bne_eq_false_iff_eq.mpr c5
    clear c5
    replace H := Option.bind_eq_some_iff.mp H
    obtain ⟨t133, A60, H⟩ := H
    replace H : (if t133 = true then ((product_within.f a2 1048576).bind fun t134 => (if t134 = true then (some (wrap64 ((wrap64 (a1 * a0_2)) * a2), 0)) else (some (0, 18)))) else (some (0, 17))) = some (r1, r2) := H
    have A6 := Aside0.mk A60
    clear A60
    by_cases c7 : t133 = true
    · subst c7
      have H1 : ((product_within.f a2 1048576).bind fun t134 => (if t134 = true then (some (wrap64 ((wrap64 (a1 * a0_2)) * a2), 0)) else (some (0, 18)))) = some (r1, r2) := by rw [if_pos rfl] at H; exact H
      clear H
      have H := H1
      clear H1
      replace H := Option.bind_eq_some_iff.mp H
      obtain ⟨t134, A80, H⟩ := H
      replace H : (if t134 = true then (some (wrap64 ((wrap64 (a1 * a0_2)) * a2), 0)) else (some (0, 18))) = some (r1, r2) := H
      have A8 := Aside0.mk A80
      clear A80
      by_cases c9 : t134 = true
      · subst c9
        have H1 : (some (wrap64 ((wrap64 (a1 * a0_2)) * a2), 0)) = some (r1, r2) := by rw [if_pos rfl] at H; exact H
        clear H
        have H := H1
        clear H1
        simp only [Option.some.injEq, Prod.mk.injEq] at H
        obtain ⟨rfl, rfl⟩ := H
        go_enter Try.func40, Try.ntmps40
        go_wp2_with (first | ((with_reducible refine gate_dst (N := 3) rfl ?_); refine box_event ?hg (N := 3) ?hd (cs := #[.string a0_0, .int .i64 a0_1, .int .i64 a0_2, .int .i64 a0_3, .int .i64 a0_4, .int .i64 a0_5, .bool a0_6]) (t := 44) ?hr ?_; (case hd => rfl); (case hg => rfl); (case hr => first | (go_simp; done) | (go_simp; rfl)); intro gb131 hg w10 hbox hb; have n0_ := Aside0.mk (below_step (bz0 HB.out) hb); have n1_ := Aside0.mk (hbox); have n2_ := Aside0.mk ((by rw [hg]; exact (below_size (bz0 HB.out)) : w.heap.size ≤ gb131)); have n3_ := Aside0.mk ((by rw [hg]; exact (below_size (bz0 HB.out)) : w.heap.size ≤ gb131)); clear HB; have HB := n0_; have BK131 := n1_; have GW131 := n2_; have GE131 := n3_; clear n0_ n1_ n2_ n3_; clear hb hbox hg; have hcz11_0 : w10.cell? ⟨gb131, 0, none⟩ = some (.string a0_0) := (blk_cell BK131.out 0).trans rfl; have hcz11_1 : w10.cell? ⟨gb131, 1, none⟩ = some (.int .i64 a0_1) := (blk_cell BK131.out 1).trans rfl; have hcz11_2 : w10.cell? ⟨gb131, 2, none⟩ = some (.int .i64 a0_2) := (blk_cell BK131.out 2).trans rfl; have hcz11_3 : w10.cell? ⟨gb131, 3, none⟩ = some (.int .i64 a0_3) := (blk_cell BK131.out 3).trans rfl; have hcz11_4 : w10.cell? ⟨gb131, 4, none⟩ = some (.int .i64 a0_4) := (blk_cell BK131.out 4).trans rfl; have hcz11_5 : w10.cell? ⟨gb131, 5, none⟩ = some (.int .i64 a0_5) := (blk_cell BK131.out 5).trans rfl; have hcz11_6 : w10.cell? ⟨gb131, 6, none⟩ = some (.bool a0_6) := (blk_cell BK131.out 6).trans rfl; have hfz11_0 := blk_frozen BK131.out 0; have hfz11_1 := blk_frozen BK131.out 1; have hfz11_2 := blk_frozen BK131.out 2; have hfz11_3 := blk_frozen BK131.out 3; have hfz11_4 := blk_frozen BK131.out 4; have hfz11_5 := blk_frozen BK131.out 5; have hfz11_6 := blk_frozen BK131.out 6) | ((with_reducible refine gate_callee (f := 39) rfl ?_); refine goesL_ (some 10) rfl rfl Try.func39 (by kernel_rfl) rfl #[.agg #[.string a0_0, .int .i64 a0_1, .int .i64 a0_2, .int .i64 a0_3, .int .i64 a0_4, .int .i64 a0_5, .bool a0_6]] rfl pm_ ?_; (with_reducible refine (product_Check.calls k a0_0 a0_1 a0_2 a0_3 a0_4 a0_5 a0_6 t132 _ A4.out).mono ?_); rintro e w12 ⟨rfl, hb⟩; refine ⟨_, rfl, ?_⟩; have n0_ := Aside0.mk (blk_below (g := gb131) (o := .cells #[.string a0_0, .int .i64 a0_1, .int .i64 a0_2, .int .i64 a0_3, .int .i64 a0_4, .int .i64 a0_5, .bool a0_6] 44 (0, 0)) (bk_ BK131.out) hb); have n1_ := Aside0.mk (below_step (bz1 HB.out GE131.out) hb); clear BK131; clear HB; have BK131 := n0_; have HB := n1_; clear n0_ n1_; (try clear hb); (try clear hb2); (try clear hk); (try clear hi)) | ((with_reducible refine gate_callee (f := 54) rfl ?_); refine goesL_ (some 15) rfl rfl Try.func54 (by kernel_rfl) rfl #[.int .i64 a1, .int .i64 33554432] rfl pm_ ?_; (with_reducible refine (product_within.calls a1 33554432 true _ A6.out).mono ?_); rintro e w' ⟨rfl, ⟨nd, rfl⟩⟩; refine ⟨_, rfl, ?_⟩) | ((with_reducible refine gate_callee (f := 54) rfl ?_); refine goesL_ (some 18) rfl rfl Try.func54 (by kernel_rfl) rfl #[.int .i64 a2, .int .i64 1048576] rfl pm_ ?_; (with_reducible refine (product_within.calls a2 1048576 true _ A8.out).mono ?_); rintro e w' ⟨rfl, ⟨nd, rfl⟩⟩; refine ⟨_, rfl, ?_⟩; have hcz13_0 : w12.cell? ⟨gb131, 0, none⟩ = some (.string a0_0) := (blk_cell BK131.out 0).trans rfl; have hcz13_1 : w12.cell? ⟨gb131, 1, none⟩ = some (.int .i64 a0_1) := (blk_cell BK131.out 1).trans rfl; have hcz13_2 : w12.cell? ⟨gb131, 2, none⟩ = some (.int .i64 a0_2) := (blk_cell BK131.out 2).trans rfl; have hcz13_3 : w12.cell? ⟨gb131, 3, none⟩ = some (.int .i64 a0_3) := (blk_cell BK131.out 3).trans rfl; have hcz13_4 : w12.cell? ⟨gb131, 4, none⟩ = some (.int .i64 a0_4) := (blk_cell BK131.out 4).trans rfl; have hcz13_5 : w12.cell? ⟨gb131, 5, none⟩ = some (.int .i64 a0_5) := (blk_cell BK131.out 5).trans rfl; have hcz13_6 : w12.cell? ⟨gb131, 6, none⟩ = some (.bool a0_6) := (blk_cell BK131.out 6).trans rfl; have hfz13_0 := blk_frozen BK131.out 0; have hfz13_1 := blk_frozen BK131.out 1; have hfz13_2 := blk_frozen BK131.out 2; have hfz13_3 := blk_frozen BK131.out 3; have hfz13_4 := blk_frozen BK131.out 4; have hfz13_5 := blk_frozen BK131.out 5; have hfz13_6 := blk_frozen BK131.out 6))
        go_ret2
        exact ⟨by first | rfl | (simp [errW_none, errW_some] <;> rfl) | (simp [*, errW_none, errW_some] <;> rfl), bz1 HB.out GE131.out⟩
      · replace c9 := Bool.eq_false_iff.mpr c9
        subst c9
        have H1 : (some (0, 18)) = some (r1, r2) := by rw [if_neg (show ¬ (false = true) by decide)] at H; exact H
        clear H
        have H := H1
        clear H1
        simp only [Option.some.injEq, Prod.mk.injEq] at H
        obtain ⟨rfl, rfl⟩ := H
        go_enter Try.func40, Try.ntmps40
        go_wp2_with (first | ((with_reducible refine gate_dst (N := 3) rfl ?_); refine box_event ?hg (N := 3) ?hd (cs := #[.string a0_0, .int .i64 a0_1, .int .i64 a0_2, .int .i64 a0_3, .int .i64 a0_4, .int .i64 a0_5, .bool a0_6]) (t := 44) ?hr ?_; (case hd => rfl); (case hg => rfl); (case hr => first | (go_simp; done) | (go_simp; rfl)); intro gb131 hg w14 hbox hb; have n0_ := Aside0.mk (below_step (bz0 HB.out) hb); have n1_ := Aside0.mk (hbox); have n2_ := Aside0.mk ((by rw [hg]; exact (below_size (bz0 HB.out)) : w.heap.size ≤ gb131)); have n3_ := Aside0.mk ((by rw [hg]; exact (below_size (bz0 HB.out)) : w.heap.size ≤ gb131)); clear HB; have HB := n0_; have BK131 := n1_; have GW131 := n2_; have GE131 := n3_; clear n0_ n1_ n2_ n3_; clear hb hbox hg; have hcz15_0 : w14.cell? ⟨gb131, 0, none⟩ = some (.string a0_0) := (blk_cell BK131.out 0).trans rfl; have hcz15_1 : w14.cell? ⟨gb131, 1, none⟩ = some (.int .i64 a0_1) := (blk_cell BK131.out 1).trans rfl; have hcz15_2 : w14.cell? ⟨gb131, 2, none⟩ = some (.int .i64 a0_2) := (blk_cell BK131.out 2).trans rfl; have hcz15_3 : w14.cell? ⟨gb131, 3, none⟩ = some (.int .i64 a0_3) := (blk_cell BK131.out 3).trans rfl; have hcz15_4 : w14.cell? ⟨gb131, 4, none⟩ = some (.int .i64 a0_4) := (blk_cell BK131.out 4).trans rfl; have hcz15_5 : w14.cell? ⟨gb131, 5, none⟩ = some (.int .i64 a0_5) := (blk_cell BK131.out 5).trans rfl; have hcz15_6 : w14.cell? ⟨gb131, 6, none⟩ = some (.bool a0_6) := (blk_cell BK131.out 6).trans rfl; have hfz15_0 := blk_frozen BK131.out 0; have hfz15_1 := blk_frozen BK131.out 1; have hfz15_2 := blk_frozen BK131.out 2; have hfz15_3 := blk_frozen BK131.out 3; have hfz15_4 := blk_frozen BK131.out 4; have hfz15_5 := blk_frozen BK131.out 5; have hfz15_6 := blk_frozen BK131.out 6) | ((with_reducible refine gate_callee (f := 39) rfl ?_); refine goesL_ (some 10) rfl rfl Try.func39 (by kernel_rfl) rfl #[.agg #[.string a0_0, .int .i64 a0_1, .int .i64 a0_2, .int .i64 a0_3, .int .i64 a0_4, .int .i64 a0_5, .bool a0_6]] rfl pm_ ?_; (with_reducible refine (product_Check.calls k a0_0 a0_1 a0_2 a0_3 a0_4 a0_5 a0_6 t132 _ A4.out).mono ?_); rintro e w16 ⟨rfl, hb⟩; refine ⟨_, rfl, ?_⟩; have n0_ := Aside0.mk (blk_below (g := gb131) (o := .cells #[.string a0_0, .int .i64 a0_1, .int .i64 a0_2, .int .i64 a0_3, .int .i64 a0_4, .int .i64 a0_5, .bool a0_6] 44 (0, 0)) (bk_ BK131.out) hb); have n1_ := Aside0.mk (below_step (bz1 HB.out GE131.out) hb); clear BK131; clear HB; have BK131 := n0_; have HB := n1_; clear n0_ n1_; (try clear hb); (try clear hb2); (try clear hk); (try clear hi)) | ((with_reducible refine gate_callee (f := 54) rfl ?_); refine goesL_ (some 15) rfl rfl Try.func54 (by kernel_rfl) rfl #[.int .i64 a1, .int .i64 33554432] rfl pm_ ?_; (with_reducible refine (product_within.calls a1 33554432 true _ A6.out).mono ?_); rintro e w' ⟨rfl, ⟨nd, rfl⟩⟩; refine ⟨_, rfl, ?_⟩) | ((with_reducible refine gate_callee (f := 54) rfl ?_); refine goesL_ (some 18) rfl rfl Try.func54 (by kernel_rfl) rfl #[.int .i64 a2, .int .i64 1048576] rfl pm_ ?_; (with_reducible refine (product_within.calls a2 1048576 false _ A8.out).mono ?_); rintro e w' ⟨rfl, ⟨nd, rfl⟩⟩; refine ⟨_, rfl, ?_⟩))
        go_ret2
        exact ⟨by first | rfl | (simp [errW_none, errW_some] <;> rfl) | (simp [*, errW_none, errW_some] <;> rfl), bz1 HB.out GE131.out⟩
    · replace c7 := Bool.eq_false_iff.mpr c7
      subst c7
      have H1 : (some (0, 17)) = some (r1, r2) := by rw [if_neg (show ¬ (false = true) by decide)] at H; exact H
      clear H
      have H := H1
      clear H1
      simp only [Option.some.injEq, Prod.mk.injEq] at H
      obtain ⟨rfl, rfl⟩ := H
      go_enter Try.func40, Try.ntmps40
      go_wp2_with (first | ((with_reducible refine gate_dst (N := 3) rfl ?_); refine box_event ?hg (N := 3) ?hd (cs := #[.string a0_0, .int .i64 a0_1, .int .i64 a0_2, .int .i64 a0_3, .int .i64 a0_4, .int .i64 a0_5, .bool a0_6]) (t := 44) ?hr ?_; (case hd => rfl); (case hg => rfl); (case hr => first | (go_simp; done) | (go_simp; rfl)); intro gb131 hg w17 hbox hb; have n0_ := Aside0.mk (below_step (bz0 HB.out) hb); have n1_ := Aside0.mk (hbox); have n2_ := Aside0.mk ((by rw [hg]; exact (below_size (bz0 HB.out)) : w.heap.size ≤ gb131)); have n3_ := Aside0.mk ((by rw [hg]; exact (below_size (bz0 HB.out)) : w.heap.size ≤ gb131)); clear HB; have HB := n0_; have BK131 := n1_; have GW131 := n2_; have GE131 := n3_; clear n0_ n1_ n2_ n3_; clear hb hbox hg; have hcz18_0 : w17.cell? ⟨gb131, 0, none⟩ = some (.string a0_0) := (blk_cell BK131.out 0).trans rfl; have hcz18_1 : w17.cell? ⟨gb131, 1, none⟩ = some (.int .i64 a0_1) := (blk_cell BK131.out 1).trans rfl; have hcz18_2 : w17.cell? ⟨gb131, 2, none⟩ = some (.int .i64 a0_2) := (blk_cell BK131.out 2).trans rfl; have hcz18_3 : w17.cell? ⟨gb131, 3, none⟩ = some (.int .i64 a0_3) := (blk_cell BK131.out 3).trans rfl; have hcz18_4 : w17.cell? ⟨gb131, 4, none⟩ = some (.int .i64 a0_4) := (blk_cell BK131.out 4).trans rfl; have hcz18_5 : w17.cell? ⟨gb131, 5, none⟩ = some (.int .i64 a0_5) := (blk_cell BK131.out 5).trans rfl; have hcz18_6 : w17.cell? ⟨gb131, 6, none⟩ = some (.bool a0_6) := (blk_cell BK131.out 6).trans rfl; have hfz18_0 := blk_frozen BK131.out 0; have hfz18_1 := blk_frozen BK131.out 1; have hfz18_2 := blk_frozen BK131.out 2; have hfz18_3 := blk_frozen BK131.out 3; have hfz18_4 := blk_frozen BK131.out 4; have hfz18_5 := blk_frozen BK131.out 5; have hfz18_6 := blk_frozen BK131.out 6) | ((with_reducible refine gate_callee (f := 39) rfl ?_); refine goesL_ (some 10) rfl rfl Try.func39 (by kernel_rfl) rfl #[.agg #[.string a0_0, .int .i64 a0_1, .int .i64 a0_2, .int .i64 a0_3, .int .i64 a0_4, .int .i64 a0_5, .bool a0_6]] rfl pm_ ?_; (with_reducible refine (product_Check.calls k a0_0 a0_1 a0_2 a0_3 a0_4 a0_5 a0_6 t132 _ A4.out).mono ?_); rintro e w19 ⟨rfl, hb⟩; refine ⟨_, rfl, ?_⟩; have n0_ := Aside0.mk (blk_below (g := gb131) (o := .cells #[.string a0_0, .int .i64 a0_1, .int .i64 a0_2, .int .i64 a0_3, .int .i64 a0_4, .int .i64 a0_5, .bool a0_6] 44 (0, 0)) (bk_ BK131.out) hb); have n1_ := Aside0.mk (below_step (bz1 HB.out GE131.out) hb); clear BK131; clear HB; have BK131 := n0_; have HB := n1_; clear n0_ n1_; (try clear hb); (try clear hb2); (try clear hk); (try clear hi)) | ((with_reducible refine gate_callee (f := 54) rfl ?_); refine goesL_ (some 15) rfl rfl Try.func54 (by kernel_rfl) rfl #[.int .i64 a1, .int .i64 33554432] rfl pm_ ?_; (with_reducible refine (product_within.calls a1 33554432 false _ A6.out).mono ?_); rintro e w' ⟨rfl, ⟨nd, rfl⟩⟩; refine ⟨_, rfl, ?_⟩))
      go_ret2
      exact ⟨by first | rfl | (simp [errW_none, errW_some] <;> rfl) | (simp [*, errW_none, errW_some] <;> rfl), bz1 HB.out GE131.out⟩
  · rw [if_neg c5] at H
    have c5b0 : (t132 == 0) = false := beq_eq_false_iff_ne.mpr c5
    have c5b1 : (t132 != 0) = true := bne_iff_ne.mpr c5
    simp only [Option.some.injEq, Prod.mk.injEq] at H
    obtain ⟨rfl, rfl⟩ := H
    go_enter Try.func40, Try.ntmps40
    go_wp2_with (first | ((with_reducible refine gate_dst (N := 3) rfl ?_); refine box_event ?hg (N := 3) ?hd (cs := #[.string a0_0, .int .i64 a0_1, .int .i64 a0_2, .int .i64 a0_3, .int .i64 a0_4, .int .i64 a0_5, .bool a0_6]) (t := 44) ?hr ?_; (case hd => rfl); (case hg => rfl); (case hr => first | (go_simp; done) | (go_simp; rfl)); intro gb131 hg w20 hbox hb; have n0_ := Aside0.mk (below_step (bz0 HB.out) hb); have n1_ := Aside0.mk (hbox); have n2_ := Aside0.mk ((by rw [hg]; exact (below_size (bz0 HB.out)) : w.heap.size ≤ gb131)); have n3_ := Aside0.mk ((by rw [hg]; exact (below_size (bz0 HB.out)) : w.heap.size ≤ gb131)); clear HB; have HB := n0_; have BK131 := n1_; have GW131 := n2_; have GE131 := n3_; clear n0_ n1_ n2_ n3_; clear hb hbox hg; have hcz21_0 : w20.cell? ⟨gb131, 0, none⟩ = some (.string a0_0) := (blk_cell BK131.out 0).trans rfl; have hcz21_1 : w20.cell? ⟨gb131, 1, none⟩ = some (.int .i64 a0_1) := (blk_cell BK131.out 1).trans rfl; have hcz21_2 : w20.cell? ⟨gb131, 2, none⟩ = some (.int .i64 a0_2) := (blk_cell BK131.out 2).trans rfl; have hcz21_3 : w20.cell? ⟨gb131, 3, none⟩ = some (.int .i64 a0_3) := (blk_cell BK131.out 3).trans rfl; have hcz21_4 : w20.cell? ⟨gb131, 4, none⟩ = some (.int .i64 a0_4) := (blk_cell BK131.out 4).trans rfl; have hcz21_5 : w20.cell? ⟨gb131, 5, none⟩ = some (.int .i64 a0_5) := (blk_cell BK131.out 5).trans rfl; have hcz21_6 : w20.cell? ⟨gb131, 6, none⟩ = some (.bool a0_6) := (blk_cell BK131.out 6).trans rfl; have hfz21_0 := blk_frozen BK131.out 0; have hfz21_1 := blk_frozen BK131.out 1; have hfz21_2 := blk_frozen BK131.out 2; have hfz21_3 := blk_frozen BK131.out 3; have hfz21_4 := blk_frozen BK131.out 4; have hfz21_5 := blk_frozen BK131.out 5; have hfz21_6 := blk_frozen BK131.out 6) | ((with_reducible refine gate_callee (f := 39) rfl ?_); refine goesL_ (some 10) rfl rfl Try.func39 (by kernel_rfl) rfl #[.agg #[.string a0_0, .int .i64 a0_1, .int .i64 a0_2, .int .i64 a0_3, .int .i64 a0_4, .int .i64 a0_5, .bool a0_6]] rfl pm_ ?_; (with_reducible refine (product_Check.calls k a0_0 a0_1 a0_2 a0_3 a0_4 a0_5 a0_6 t132 _ A4.out).mono ?_); rintro e w22 ⟨rfl, hb⟩; refine ⟨_, rfl, ?_⟩; have n0_ := Aside0.mk (blk_below (g := gb131) (o := .cells #[.string a0_0, .int .i64 a0_1, .int .i64 a0_2, .int .i64 a0_3, .int .i64 a0_4, .int .i64 a0_5, .bool a0_6] 44 (0, 0)) (bk_ BK131.out) hb); have n1_ := Aside0.mk (below_step (bz1 HB.out GE131.out) hb); clear BK131; clear HB; have BK131 := n0_; have HB := n1_; clear n0_ n1_; (try clear hb); (try clear hb2); (try clear hk); (try clear hi)))
    go_ret2
    exact ⟨by first | rfl | (simp [errW_none, errW_some] <;> rfl) | (simp [*, errW_none, errW_some] <;> rfl), bz1 HB.out GE131.out⟩

/-! ### tear_Worth: function 16 -/
def tear_Worth.j0 : Nat → Int → Int → Bool → Int → Bool → ByteArray → Int → Int → Int → Int → Int → Bool → Option (Int × Int)
  | 0, _, _, _, _, _, _, _, _, _, _, _, _ => none
  | k + 1, x1, x2, x3, x4, x26, x136000, x136001, x136002, x136003, x136004, x136005, x136006 => if x26 = true then (some (0, 17)) else ((product_Value.f k x136000 x136001 x136002 x136003 x136004 x136005 x136006 (wrap64 (x1 - x2)) x4).bind fun bt137 => (if x3 = true then (some (bt137.1, bt137.2)) else (some (wrap64 (-bt137.1), bt137.2))))
def tear_Worth.f (k : Nat) (a0_0 : ByteArray) (a0_1 : Int) (a0_2 : Int) (a0_3 : Int) (a0_4 : Int) (a0_5 : Int) (a0_6 : Bool) (a1 : Int) (a2 : Int) (a3 : Bool) (a4 : Int) : Option (Int × Int) := (product_Check.f k a0_0 a0_1 a0_2 a0_3 a0_4 a0_5 a0_6).bind fun t136 => (if t136 = 0 then (if (mn a1 a2) < (-16777216) then (tear_Worth.j0 k a1 a2 a3 a4 true a0_0 a0_1 a0_2 a0_3 a0_4 a0_5 a0_6) else (tear_Worth.j0 k a1 a2 a3 a4 (decide ((mx a1 a2) > 16777216)) a0_0 a0_1 a0_2 a0_3 a0_4 a0_5 a0_6)) else (some (0, t136)))
theorem tear_Worth.mono_l : ∀ k, (∀ y0 y1 y2 y3 y4 y5 y6 y7 y8 y9 y10 y11, LeO (tear_Worth.j0 k y0 y1 y2 y3 y4 y5 y6 y7 y8 y9 y10 y11) (tear_Worth.j0 (k + 1) y0 y1 y2 y3 y4 y5 y6 y7 y8 y9 y10 y11))
  | 0 => fun _ _ _ _ _ _ _ _ _ _ _ _ r h => by simp [tear_Worth.j0] at h
  | k + 1 => by
    have ih0 := tear_Worth.mono_l k
    · intro y0 y1 y2 y3 y4 y5 y6 y7 y8 y9 y10 y11
      unfold tear_Worth.j0
      repeat' first
      | (with_reducible exact ih0 _ _ _ _ _ _ _ _ _ _ _ _)
      | (with_reducible exact product_Check.mono _ _ _ _ _ _ _ _)
      | (with_reducible exact product_Value.mono _ _ _ _ _ _ _ _ _ _)
      | (with_reducible exact LeO.refl _)
      | (with_reducible exact LeO.none _)
      | (with_reducible refine LeO.ite ?_ ?_)
      | (with_reducible refine LeO.bind ?_ (fun _ => ?_))
      | exact LeO.none _
      | refine LeO.ite ?_ ?_
      | refine LeO.bind ?_ (fun _ => ?_)
theorem tear_Worth.mono : ∀ a0 a1 a2 a3 a4 a5 a6 a7 a8 a9 a10 k, LeO (tear_Worth.f k a0 a1 a2 a3 a4 a5 a6 a7 a8 a9 a10) (tear_Worth.f (k + 1) a0 a1 a2 a3 a4 a5 a6 a7 a8 a9 a10) := by
  intro a0 a1 a2 a3 a4 a5 a6 a7 a8 a9 a10 k
  have ih0 := tear_Worth.mono_l k
  unfold tear_Worth.f
  repeat' first
      | (with_reducible exact ih0 _ _ _ _ _ _ _ _ _ _ _ _)
      | (with_reducible exact product_Check.mono _ _ _ _ _ _ _ _)
      | (with_reducible exact product_Value.mono _ _ _ _ _ _ _ _ _ _)
      | (with_reducible exact LeO.refl _)
      | (with_reducible exact LeO.none _)
      | (with_reducible refine LeO.ite ?_ ?_)
      | (with_reducible refine LeO.bind ?_ (fun _ => ?_))
      | exact LeO.none _
      | refine LeO.ite ?_ ?_
      | refine LeO.bind ?_ (fun _ => ?_)
set_option maxHeartbeats 8000000 in
set_option maxRecDepth 100000 in
theorem tear_Worth.calls (k : Nat) (a0_0 : ByteArray) (a0_1 : Int) (a0_2 : Int) (a0_3 : Int) (a0_4 : Int) (a0_5 : Int) (a0_6 : Bool) (a1 : Int) (a2 : Int) (a3 : Bool) (a4 : Int) (r1 : Int) (r2 : Int) (w : World) (h : tear_Worth.f k a0_0 a0_1 a0_2 a0_3 a0_4 a0_5 a0_6 a1 a2 a3 a4 = some (r1, r2)) :
    Calls Try.prog 16 #[.agg #[.string a0_0, .int .i64 a0_1, .int .i64 a0_2, .int .i64 a0_3, .int .i64 a0_4, .int .i64 a0_5, .bool a0_6], .int .i64 a1, .int .i64 a2, .bool a3, .int .i64 a4] w fun e w' => e = .returned (.tuple #[.int .i64 r1, .int .i64 r2]) ∧ Below w.heap.size w w' := by
  have hu44 := Try.underlying44
  have HB := Aside0.mk (Below.refl w.heap.size w)
  have H : ((product_Check.f k a0_0 a0_1 a0_2 a0_3 a0_4 a0_5 a0_6).bind fun t136 => (if t136 = 0 then (if (mn a1 a2) < (-16777216) then (tear_Worth.j0 k a1 a2 a3 a4 true a0_0 a0_1 a0_2 a0_3 a0_4 a0_5 a0_6) else (tear_Worth.j0 k a1 a2 a3 a4 (decide ((mx a1 a2) > 16777216)) a0_0 a0_1 a0_2 a0_3 a0_4 a0_5 a0_6)) else (some (0, t136)))) = some (r1, r2) := h
  clear h
  replace H := Option.bind_eq_some_iff.mp H
  obtain ⟨t136, A60, H⟩ := H
  replace H : (if t136 = 0 then (if (mn a1 a2) < (-16777216) then (tear_Worth.j0 k a1 a2 a3 a4 true a0_0 a0_1 a0_2 a0_3 a0_4 a0_5 a0_6) else (tear_Worth.j0 k a1 a2 a3 a4 (decide ((mx a1 a2) > 16777216)) a0_0 a0_1 a0_2 a0_3 a0_4 a0_5 a0_6)) else (some (0, t136))) = some (r1, r2) := H
  have A6 := Aside0.mk A60
  clear A60
  by_cases c7 : t136 = 0
  · rw [if_pos c7] at H
    have c7b0 : (t136 == 0) = true := beq_iff_eq.mpr c7
    have c7b1 : (t136 != 0) = false := bne_eq_false_iff_eq.mpr c7
    clear c7
    have HC8 := Aside0.mk H
    clear H
    go_enter Try.func16, Try.ntmps16
    go_upto_region 4 with (first | ((with_reducible refine gate_dst (N := 5) rfl ?_); (try (refine gate_guard (by rfl) ?_; dsimp only)); refine box_event ?hg (N := 5) ?hd (cs := #[.string a0_0, .int .i64 a0_1, .int .i64 a0_2, .int .i64 a0_3, .int .i64 a0_4, .int .i64 a0_5, .bool a0_6]) (t := 44) ?hr ?_; (case hd => rfl); (case hg => rfl); (case hr => first | (go_simp; done) | (go_simp; rfl)); intro gb135 hg w9 hbox hb; have n0_ := Aside0.mk (below_step (bz0 HB.out) hb); have n1_ := Aside0.mk (hbox); have n2_ := Aside0.mk ((by rw [hg]; exact (below_size (bz0 HB.out)) : w.heap.size ≤ gb135)); have n3_ := Aside0.mk ((by rw [hg]; exact (below_size (bz0 HB.out)) : w.heap.size ≤ gb135)); clear HB; have HB := n0_; have BK135 := n1_; have GW135 := n2_; have GE135 := n3_; clear n0_ n1_ n2_ n3_; clear hb hbox hg; have hcz10_0 : w9.cell? ⟨gb135, 0, none⟩ = some (.string a0_0) := (blk_cell BK135.out 0).trans rfl; have hcz10_1 : w9.cell? ⟨gb135, 1, none⟩ = some (.int .i64 a0_1) := (blk_cell BK135.out 1).trans rfl; have hcz10_2 : w9.cell? ⟨gb135, 2, none⟩ = some (.int .i64 a0_2) := (blk_cell BK135.out 2).trans rfl; have hcz10_3 : w9.cell? ⟨gb135, 3, none⟩ = some (.int .i64 a0_3) := (blk_cell BK135.out 3).trans rfl; have hcz10_4 : w9.cell? ⟨gb135, 4, none⟩ = some (.int .i64 a0_4) := (blk_cell BK135.out 4).trans rfl; have hcz10_5 : w9.cell? ⟨gb135, 5, none⟩ = some (.int .i64 a0_5) := (blk_cell BK135.out 5).trans rfl; have hcz10_6 : w9.cell? ⟨gb135, 6, none⟩ = some (.bool a0_6) := (blk_cell BK135.out 6).trans rfl; have hfz10_0 := blk_frozen BK135.out 0; have hfz10_1 := blk_frozen BK135.out 1; have hfz10_2 := blk_frozen BK135.out 2; have hfz10_3 := blk_frozen BK135.out 3; have hfz10_4 := blk_frozen BK135.out 4; have hfz10_5 := blk_frozen BK135.out 5; have hfz10_6 := blk_frozen BK135.out 6) | ((with_reducible refine gate_callee (f := 39) rfl ?_); refine goesL_ (some 13) rfl rfl Try.func39 (by kernel_rfl) rfl #[.agg #[.string a0_0, .int .i64 a0_1, .int .i64 a0_2, .int .i64 a0_3, .int .i64 a0_4, .int .i64 a0_5, .bool a0_6]] rfl pm_ ?_; (with_reducible refine (product_Check.calls k a0_0 a0_1 a0_2 a0_3 a0_4 a0_5 a0_6 t136 _ A6.out).mono ?_); rintro e w11 ⟨rfl, hb⟩; refine ⟨_, rfl, ?_⟩; have n0_ := Aside0.mk (blk_below (g := gb135) (o := .cells #[.string a0_0, .int .i64 a0_1, .int .i64 a0_2, .int .i64 a0_3, .int .i64 a0_4, .int .i64 a0_5, .bool a0_6] 44 (0, 0)) (bk_ BK135.out) hb); have n1_ := Aside0.mk (below_step (bz1 HB.out GE135.out) hb); clear BK135; clear HB; have BK135 := n0_; have HB := n1_; clear n0_ n1_; (try clear hb); (try clear hb2); (try clear hk); (try clear hi)))
    (try simp only [Act.put, List.setIfInBounds_toArray, List.set_cons_zero, List.set_cons_succ])
    go_cut [26] (fun v26 wc => ∃ (kq : Nat) (x26_7 : Bool), v26 = .bool x26_7 ∧ Aside0 (tear_Worth.j0 kq a1 a2 a3 a4 x26_7 a0_0 a0_1 a0_2 a0_3 a0_4 a0_5 a0_6 = some (r1, r2)) ∧ Aside0 (kq ≤ k) ∧ Aside0 (wc.heap[gb135]? = some (.cells #[.string a0_0, .int .i64 a0_1, .int .i64 a0_2, .int .i64 a0_3, .int .i64 a0_4, .int .i64 a0_5, .bool a0_6] 44 (0, 0))) ∧ Aside0 (Below w.heap.size w wc))
    case first =>
      have H := HC8.out
      clear HC8
      obtain ⟨ji12, hji12⟩ : ∃ j_ : Int, (mn a1 a2) = j_ := ⟨_, rfl⟩
      replace H : (if (ji12) < (-16777216) then (tear_Worth.j0 k a1 a2 a3 a4 true a0_0 a0_1 a0_2 a0_3 a0_4 a0_5 a0_6) else (tear_Worth.j0 k a1 a2 a3 a4 (decide ((mx a1 a2) > 16777216)) a0_0 a0_1 a0_2 a0_3 a0_4 a0_5 a0_6)) = some (r1, r2) := by first | (rw [hji12] at H; exact H) | (simp only [hji12] at H ⊢; exact H)
      have hji12_ : (if a2 < a1 then a2 else a1) = ji12 := hji12
      by_cases c13 : (ji12) < (-16777216)
      · rw [if_pos c13] at H
        have c13b0 : decide ((ji12) < (-16777216)) = true := decide_eq_true c13
        clear c13
        (first | rw [c13b0] | (simp only [i64_w, i32_w]; rw [c13b0]) | skip)
        have H' := Aside0.mk H
        clear H
        go_wp2
        go_meet
        case rel => exact ⟨_, (true), rf_, H', ⟨by first | omega | exact Nat.le_refl _⟩, ⟨by (with_reducible repeat (first | refine blk_drewN ?_ _ | refine blk_drew ?_ | refine blk_alloc ?_ _)); exact BK135.out⟩, ⟨bz1 HB.out GE135.out⟩⟩
      · rw [if_neg c13] at H
        have c13b0 : decide ((ji12) < (-16777216)) = false := decide_eq_false c13
        clear c13
        (first | rw [c13b0] | (simp only [i64_w, i32_w]; rw [c13b0]) | skip)
        obtain ⟨ji14, hji14⟩ : ∃ j_ : Int, (mx a1 a2) = j_ := ⟨_, rfl⟩
        replace H : (tear_Worth.j0 k a1 a2 a3 a4 (decide ((ji14) > 16777216)) a0_0 a0_1 a0_2 a0_3 a0_4 a0_5 a0_6) = some (r1, r2) := by first | (rw [hji14] at H; exact H) | (simp only [hji14] at H ⊢; exact H)
        have hji14_ : (if a1 < a2 then a2 else a1) = ji14 := hji14
        have H' := Aside0.mk H
        clear H
        go_wp2
        go_meet
        case rel => exact ⟨_, (decide ((ji14) > 16777216)), (by first | rfl | (simp; done) | (simp only [← hji14] <;> (first | rfl | simp)) | (simp [*]; done)), H', ⟨by first | omega | exact Nat.le_refl _⟩, ⟨by (with_reducible repeat (first | refine blk_drewN ?_ _ | refine blk_drew ?_ | refine blk_alloc ?_ _)); exact BK135.out⟩, ⟨bz1 HB.out GE135.out⟩⟩
    case rest =>
      clear HC8
      try clear c1
      try clear p2
      try clear c3
      try clear c7
      try clear c7b0
      try clear c7b1
      try clear c13
      try clear c13b0
      try clear hcz10_0
      try clear hcz10_1
      try clear hcz10_2
      try clear hcz10_3
      try clear hcz10_4
      try clear hcz10_5
      try clear hcz10_6
      try clear hfz10_0
      try clear hfz10_1
      try clear hfz10_2
      try clear hfz10_3
      try clear hfz10_4
      try clear hfz10_5
      try clear hfz10_6
      obtain ⟨kq, x26_7, rfl, HA, HJ7, BK135, HB⟩ := hcut
      cases kq with
      | zero => exact absurd HA.out (by simp [tear_Worth.j0])
      | succ kj7 =>
        have H := HA.out
        clear HA
        simp only [tear_Worth.j0] at H
        by_cases c15 : x26_7 = true
        · subst c15
          have H1 : (some (0, 17)) = some (r1, r2) := by rw [if_pos rfl] at H; exact H
          clear H
          have H := H1
          clear H1
          simp only [Option.some.injEq, Prod.mk.injEq] at H
          obtain ⟨rfl, rfl⟩ := H
          go_wp2
          go_ret2
          exact ⟨by first | rfl | (simp [errW_none, errW_some] <;> rfl) | (simp [*, errW_none, errW_some] <;> rfl), bz1 HB.out GE135.out⟩
        · replace c15 := Bool.eq_false_iff.mpr c15
          subst c15
          have H1 : ((product_Value.f kj7 a0_0 a0_1 a0_2 a0_3 a0_4 a0_5 a0_6 (wrap64 (a1 - a2)) a4).bind fun bt137 => (if a3 = true then (some (bt137.1, bt137.2)) else (some (wrap64 (-bt137.1), bt137.2)))) = some (r1, r2) := by rw [if_neg (show ¬ (false = true) by decide)] at H; exact H
          clear H
          have H := H1
          clear H1
          replace H := Option.bind_eq_some_iff.mp H
          obtain ⟨⟨t137, t138⟩, A160, H⟩ := H
          replace H : (if a3 = true then (some (t137, t138)) else (some (wrap64 (-t137), t138))) = some (r1, r2) := H
          have A16 := Aside0.mk A160
          clear A160
          by_cases c17 : a3 = true
          · subst c17
            have H1 : (some (t137, t138)) = some (r1, r2) := by rw [if_pos rfl] at H; exact H
            clear H
            have H := H1
            clear H1
            simp only [Option.some.injEq, Prod.mk.injEq] at H
            obtain ⟨rfl, rfl⟩ := H
            have hcz18_0 : wc.cell? ⟨gb135, 0, none⟩ = some (.string a0_0) := (blk_cell BK135.out 0).trans rfl
            have hcz18_1 : wc.cell? ⟨gb135, 1, none⟩ = some (.int .i64 a0_1) := (blk_cell BK135.out 1).trans rfl
            have hcz18_2 : wc.cell? ⟨gb135, 2, none⟩ = some (.int .i64 a0_2) := (blk_cell BK135.out 2).trans rfl
            have hcz18_3 : wc.cell? ⟨gb135, 3, none⟩ = some (.int .i64 a0_3) := (blk_cell BK135.out 3).trans rfl
            have hcz18_4 : wc.cell? ⟨gb135, 4, none⟩ = some (.int .i64 a0_4) := (blk_cell BK135.out 4).trans rfl
            have hcz18_5 : wc.cell? ⟨gb135, 5, none⟩ = some (.int .i64 a0_5) := (blk_cell BK135.out 5).trans rfl
            have hcz18_6 : wc.cell? ⟨gb135, 6, none⟩ = some (.bool a0_6) := (blk_cell BK135.out 6).trans rfl
            have hfz18_0 := blk_frozen BK135.out 0
            have hfz18_1 := blk_frozen BK135.out 1
            have hfz18_2 := blk_frozen BK135.out 2
            have hfz18_3 := blk_frozen BK135.out 3
            have hfz18_4 := blk_frozen BK135.out 4
            have hfz18_5 := blk_frozen BK135.out 5
            have hfz18_6 := blk_frozen BK135.out 6
            go_wp2_with (first | ((with_reducible refine gate_callee (f := 40) rfl ?_); refine goesL_ (some 33) rfl rfl Try.func40 (by kernel_rfl) rfl #[.agg #[.string a0_0, .int .i64 a0_1, .int .i64 a0_2, .int .i64 a0_3, .int .i64 a0_4, .int .i64 a0_5, .bool a0_6], .int .i64 (wrap64 (a1 - a2)), .int .i64 a4] rfl pm_ ?_; (with_reducible refine (product_Value.calls kj7 a0_0 a0_1 a0_2 a0_3 a0_4 a0_5 a0_6 (wrap64 (a1 - a2)) a4 t137 t138 _ A16.out).mono ?_); rintro e w19 ⟨rfl, hb⟩; refine ⟨_, rfl, ?_⟩; have n0_ := Aside0.mk (blk_below (g := gb135) (o := .cells #[.string a0_0, .int .i64 a0_1, .int .i64 a0_2, .int .i64 a0_3, .int .i64 a0_4, .int .i64 a0_5, .bool a0_6] 44 (0, 0)) (bk_ BK135.out) hb); have n1_ := Aside0.mk (below_step (bz1 HB.out GE135.out) hb); clear BK135; clear HB; have BK135 := n0_; have HB := n1_; clear n0_ n1_; (try clear hb); (try clear hb2); (try clear hk); (try clear hi)))
            go_ret2
            exact ⟨by first | rfl | (simp [errW_none, errW_some] <;> rfl) | (simp [*, errW_none, errW_some] <;> rfl), bz1 HB.out GE135.out⟩
          · replace c17 := Bool.eq_false_iff.mpr c17
            subst c17
            have H1 : (some (wrap64 (-t137), t138)) = some (r1, r2) := by rw [if_neg (show ¬ (false = true) by decide)] at H; exact H
            clear H
            have H := H1
            clear H1
            simp only [Option.some.injEq, Prod.mk.injEq] at H
            obtain ⟨rfl, rfl⟩ := H
            have hcz20_0 : wc.cell? ⟨gb135, 0, none⟩ = some (.string a0_0) := (blk_cell BK135.out 0).trans rfl
            have hcz20_1 : wc.cell? ⟨gb135, 1, none⟩ = some (.int .i64 a0_1) := (blk_cell BK135.out 1).trans rfl
            have hcz20_2 : wc.cell? ⟨gb135, 2, none⟩ = some (.int .i64 a0_2) := (blk_cell BK135.out 2).trans rfl
            have hcz20_3 : wc.cell? ⟨gb135, 3, none⟩ = some (.int .i64 a0_3) := (blk_cell BK135.out 3).trans rfl
            have hcz20_4 : wc.cell? ⟨gb135, 4, none⟩ = some (.int .i64 a0_4) := (blk_cell BK135.out 4).trans rfl
            have hcz20_5 : wc.cell? ⟨gb135, 5, none⟩ = some (.int .i64 a0_5) := (blk_cell BK135.out 5).trans rfl
            have hcz20_6 : wc.cell? ⟨gb135, 6, none⟩ = some (.bool a0_6) := (blk_cell BK135.out 6).trans rfl
            have hfz20_0 := blk_frozen BK135.out 0
            have hfz20_1 := blk_frozen BK135.out 1
            have hfz20_2 := blk_frozen BK135.out 2
            have hfz20_3 := blk_frozen BK135.out 3
            have hfz20_4 := blk_frozen BK135.out 4
            have hfz20_5 := blk_frozen BK135.out 5
            have hfz20_6 := blk_frozen BK135.out 6
            go_wp2_with (first | ((with_reducible refine gate_callee (f := 40) rfl ?_); refine goesL_ (some 33) rfl rfl Try.func40 (by kernel_rfl) rfl #[.agg #[.string a0_0, .int .i64 a0_1, .int .i64 a0_2, .int .i64 a0_3, .int .i64 a0_4, .int .i64 a0_5, .bool a0_6], .int .i64 (wrap64 (a1 - a2)), .int .i64 a4] rfl pm_ ?_; (with_reducible refine (product_Value.calls kj7 a0_0 a0_1 a0_2 a0_3 a0_4 a0_5 a0_6 (wrap64 (a1 - a2)) a4 t137 t138 _ A16.out).mono ?_); rintro e w21 ⟨rfl, hb⟩; refine ⟨_, rfl, ?_⟩; have n0_ := Aside0.mk (blk_below (g := gb135) (o := .cells #[.string a0_0, .int .i64 a0_1, .int .i64 a0_2, .int .i64 a0_3, .int .i64 a0_4, .int .i64 a0_5, .bool a0_6] 44 (0, 0)) (bk_ BK135.out) hb); have n1_ := Aside0.mk (below_step (bz1 HB.out GE135.out) hb); clear BK135; clear HB; have BK135 := n0_; have HB := n1_; clear n0_ n1_; (try clear hb); (try clear hb2); (try clear hk); (try clear hi)))
            go_ret2
            exact ⟨by first | rfl | (simp [errW_none, errW_some] <;> rfl) | (simp [*, errW_none, errW_some] <;> rfl), bz1 HB.out GE135.out⟩
  · rw [if_neg c7] at H
    have c7b0 : (t136 == 0) = false := beq_eq_false_iff_ne.mpr c7
    have c7b1 : (t136 != 0) = true := bne_iff_ne.mpr c7
    simp only [Option.some.injEq, Prod.mk.injEq] at H
    obtain ⟨rfl, rfl⟩ := H
    go_enter Try.func16, Try.ntmps16
    go_wp2_with (first | ((with_reducible refine gate_dst (N := 5) rfl ?_); (try (refine gate_guard (by rfl) ?_; dsimp only)); refine box_event ?hg (N := 5) ?hd (cs := #[.string a0_0, .int .i64 a0_1, .int .i64 a0_2, .int .i64 a0_3, .int .i64 a0_4, .int .i64 a0_5, .bool a0_6]) (t := 44) ?hr ?_; (case hd => rfl); (case hg => rfl); (case hr => first | (go_simp; done) | (go_simp; rfl)); intro gb135 hg w22 hbox hb; have n0_ := Aside0.mk (below_step (bz0 HB.out) hb); have n1_ := Aside0.mk (hbox); have n2_ := Aside0.mk ((by rw [hg]; exact (below_size (bz0 HB.out)) : w.heap.size ≤ gb135)); have n3_ := Aside0.mk ((by rw [hg]; exact (below_size (bz0 HB.out)) : w.heap.size ≤ gb135)); clear HB; have HB := n0_; have BK135 := n1_; have GW135 := n2_; have GE135 := n3_; clear n0_ n1_ n2_ n3_; clear hb hbox hg; have hcz23_0 : w22.cell? ⟨gb135, 0, none⟩ = some (.string a0_0) := (blk_cell BK135.out 0).trans rfl; have hcz23_1 : w22.cell? ⟨gb135, 1, none⟩ = some (.int .i64 a0_1) := (blk_cell BK135.out 1).trans rfl; have hcz23_2 : w22.cell? ⟨gb135, 2, none⟩ = some (.int .i64 a0_2) := (blk_cell BK135.out 2).trans rfl; have hcz23_3 : w22.cell? ⟨gb135, 3, none⟩ = some (.int .i64 a0_3) := (blk_cell BK135.out 3).trans rfl; have hcz23_4 : w22.cell? ⟨gb135, 4, none⟩ = some (.int .i64 a0_4) := (blk_cell BK135.out 4).trans rfl; have hcz23_5 : w22.cell? ⟨gb135, 5, none⟩ = some (.int .i64 a0_5) := (blk_cell BK135.out 5).trans rfl; have hcz23_6 : w22.cell? ⟨gb135, 6, none⟩ = some (.bool a0_6) := (blk_cell BK135.out 6).trans rfl; have hfz23_0 := blk_frozen BK135.out 0; have hfz23_1 := blk_frozen BK135.out 1; have hfz23_2 := blk_frozen BK135.out 2; have hfz23_3 := blk_frozen BK135.out 3; have hfz23_4 := blk_frozen BK135.out 4; have hfz23_5 := blk_frozen BK135.out 5; have hfz23_6 := blk_frozen BK135.out 6) | ((with_reducible refine gate_callee (f := 39) rfl ?_); refine goesL_ (some 13) rfl rfl Try.func39 (by kernel_rfl) rfl #[.agg #[.string a0_0, .int .i64 a0_1, .int .i64 a0_2, .int .i64 a0_3, .int .i64 a0_4, .int .i64 a0_5, .bool a0_6]] rfl pm_ ?_; (with_reducible refine (product_Check.calls k a0_0 a0_1 a0_2 a0_3 a0_4 a0_5 a0_6 t136 _ A6.out).mono ?_); rintro e w24 ⟨rfl, hb⟩; refine ⟨_, rfl, ?_⟩; have n0_ := Aside0.mk (blk_below (g := gb135) (o := .cells #[.string a0_0, .int .i64 a0_1, .int .i64 a0_2, .int .i64 a0_3, .int .i64 a0_4, .int .i64 a0_5, .bool a0_6] 44 (0, 0)) (bk_ BK135.out) hb); have n1_ := Aside0.mk (below_step (bz1 HB.out GE135.out) hb); clear BK135; clear HB; have BK135 := n0_; have HB := n1_; clear n0_ n1_; (try clear hb); (try clear hb2); (try clear hk); (try clear hi)))
    go_ret2
    exact ⟨by first | rfl | (simp [errW_none, errW_some] <;> rfl) | (simp [*, errW_none, errW_some] <;> rfl), bz1 HB.out GE135.out⟩

/-! ### contangolaw50_hold: function 23 -/
def contangolaw50_hold.f (a0_0 : ByteArray) (a0_1 : Int) (a0_2 : Int) (a0_3 : Int) (a1 : ByteArray) (a2 : Int) : Option (ByteArray × ByteArray × (List (S52))) := some (a1, (⟨#[104, 111, 117, 115, 101]⟩ : ByteArray), (([(⟨(⟨a0_0, a0_1, a0_2, a0_3⟩ : S24), a2, 0⟩ : S52)] : List (S52))))
set_option maxHeartbeats 8000000 in
set_option maxRecDepth 100000 in
theorem contangolaw50_hold.calls (a0_0 : ByteArray) (a0_1 : Int) (a0_2 : Int) (a0_3 : Int) (a1 : ByteArray) (a2 : Int) (r1 : ByteArray) (r2 : ByteArray) (r3 : List (S52)) (w : World) (h : contangolaw50_hold.f a0_0 a0_1 a0_2 a0_3 a1 a2 = some (r1, r2, r3)) :
    Calls Try.prog 23 #[.agg #[.string a0_0, .int .i64 a0_1, .int .i64 a0_2, .int .i64 a0_3], .string a1, .int .i64 a2] w fun e w' => ∃ v2_ : Value, e = .returned (.agg #[.string r1, .string r2, v2_]) ∧ Kd.R k52 52 w' w.heap.size (fun _ => True) v2_ r3 ∧ Below w.heap.size w w' := by
  have hu24 := Try.underlying24
  have hu58 := Try.underlying58
  have hu55 := Try.underlying55
  have hu52 := Try.underlying52
  have HB := Aside0.mk (Below.refl w.heap.size w)
  have H : (some (a1, (⟨#[104, 111, 117, 115, 101]⟩ : ByteArray), (([(⟨(⟨a0_0, a0_1, a0_2, a0_3⟩ : S24), a2, 0⟩ : S52)] : List (S52))))) = some (r1, r2, r3) := h
  clear h
  obtain ⟨y141, hy141⟩ : ∃ y_ : List (S52), y_ = (([(⟨(⟨a0_0, a0_1, a0_2, a0_3⟩ : S24), a2, 0⟩ : S52)] : List (S52))) := ⟨_, rfl⟩
  replace H : (some (a1, (⟨#[104, 111, 117, 115, 101]⟩ : ByteArray), y141)) = some (r1, r2, r3) := by first | (rw [hy141]; with_reducible exact H) | (have H2_ := (Option.bind_some _ _).symm.trans H; rw [hy141]; with_reducible exact H2_) | (have H2_ := (Option.bind_some _ _).symm.trans H; with_reducible exact H2_) | with_reducible exact H | (rw [hy141]; exact H) | exact H
  have Ny141 := Aside0.mk hy141
  clear hy141
  simp only [Option.some.injEq, Prod.mk.injEq] at H
  obtain ⟨rfl, rfl, rfl⟩ := H
  go_enter Try.func23, Try.ntmps23
  go_wp2_with (first | ((with_reducible refine gate_dst (N := 3) rfl ?_); refine box_event ?hg (N := 3) ?hd (cs := #[.string a0_0, .int .i64 a0_1, .int .i64 a0_2, .int .i64 a0_3]) (t := 24) ?hr ?_; (case hd => rfl); (case hg => rfl); (case hr => first | (go_simp; done) | (go_simp; rfl)); intro gb139 hg w4 hbox hb; have n0_ := Aside0.mk (below_step (bz0 HB.out) hb); have n1_ := Aside0.mk (hbox); have n2_ := Aside0.mk ((by rw [hg]; exact (below_size (bz0 HB.out)) : w.heap.size ≤ gb139)); have n3_ := Aside0.mk ((by rw [hg]; exact (below_size (bz0 HB.out)) : w.heap.size ≤ gb139)); clear HB; have HB := n0_; have BK139 := n1_; have GW139 := n2_; have GE139 := n3_; clear n0_ n1_ n2_ n3_; clear hb hbox hg) | ((with_reducible refine gate_dst (N := 6) rfl ?_); refine box_event ?hg (N := 6) ?hd (cs := #[.string (⟨#[]⟩ : ByteArray), .string (⟨#[]⟩ : ByteArray), .slice none 0 0]) (t := 58) ?hr ?_; (case hd => rfl); (case hg => rfl); (case hr => first | (go_simp; done) | (go_simp; rfl)); intro gb140 hg w5 hbox hb; have n0_ := Aside0.mk (blk_below (g := gb139) (o := .cells #[.string a0_0, .int .i64 a0_1, .int .i64 a0_2, .int .i64 a0_3] 24 (0, 0)) (bk_ BK139.out) hb); have n1_ := Aside0.mk (below_step (bz1 HB.out GE139.out) hb); have n2_ := Aside0.mk (hbox); have n3_ := Aside0.mk ((by rw [hg]; exact (below_size (bz1 HB.out GE139.out)) : w.heap.size ≤ gb140)); have n4_ := Aside0.mk ((by rw [hg]; exact (below_size (bz1 HB.out GE139.out)) : w.heap.size ≤ gb140)); have n5_ := Aside0.mk ((by rw [hg]; exact Nat.ne_of_lt (blk_lt (g := gb139) (o := .cells #[.string a0_0, .int .i64 a0_1, .int .i64 a0_2, .int .i64 a0_3] 24 (0, 0)) (bk_ BK139.out)) : gb139 ≠ gb140)); have n6_ := Aside0.mk ((by rw [hg]; exact Nat.ne_of_gt (blk_lt (g := gb139) (o := .cells #[.string a0_0, .int .i64 a0_1, .int .i64 a0_2, .int .i64 a0_3] 24 (0, 0)) (bk_ BK139.out)) : gb140 ≠ gb139)); clear BK139; clear HB; have BK139 := n0_; have HB := n1_; have BK140 := n2_; have GW140 := n3_; have GE140 := n4_; have NB139_140 := n5_; have NB140_139 := n6_; clear n0_ n1_ n2_ n3_ n4_ n5_ n6_; clear hb hbox hg; have hnb6 := NB139_140.out; have hnc6 := NB140_139.out; have hcz7_0 : w5.cell? ⟨gb139, 0, none⟩ = some (.string a0_0) := (blk_cell BK139.out 0).trans rfl; have hcz7_1 : w5.cell? ⟨gb139, 1, none⟩ = some (.int .i64 a0_1) := (blk_cell BK139.out 1).trans rfl; have hcz7_2 : w5.cell? ⟨gb139, 2, none⟩ = some (.int .i64 a0_2) := (blk_cell BK139.out 2).trans rfl; have hcz7_3 : w5.cell? ⟨gb139, 3, none⟩ = some (.int .i64 a0_3) := (blk_cell BK139.out 3).trans rfl; have hfz7_0 := blk_frozen BK139.out 0; have hfz7_1 := blk_frozen BK139.out 1; have hfz7_2 := blk_frozen BK139.out 2; have hfz7_3 := blk_frozen BK139.out 3) | ((with_reducible refine gate_dst (N := 12) rfl ?_); refine Kd.R_lit k52 _ 52 ?hg (N := 12) ?hd (xs := ([(⟨(⟨a0_0, a0_1, a0_2, a0_3⟩ : S24), a2, 0⟩ : S52)] : List (S52))) (inner := [.string a0_0, .int .i64 a0_1, .int .i64 a0_2, .int .i64 a0_3, .int .i64 a2, .int .i64 0]) (ok := fun _ => True) (okp := fun _ => True) ?hr ?hp (fun _ hk => hk) trivial (Below.refl _ _) (Nat.le_refl _) (by simp) ?_; (case hd => rfl); (case hg => rfl); (case hr => first | (go_simp; done) | (go_simp; rfl)); (case hp => exact (Reps.c6 (show Kd.M k52 _ _ _ (⟨(⟨a0_0, a0_1, a0_2, a0_3⟩ : S24), a2, 0⟩ : S52) [.string a0_0, .int .i64 a0_1, .int .i64 a0_2, .int .i64 a0_3, .int .i64 a2, .int .i64 0] from (k52_mkM _ _ _ (⟨(⟨a0_0, a0_1, a0_2, a0_3⟩ : S24), a2, 0⟩ : S52) )) (Reps.none _ _))); intro v142 w8 ho9 hb hg_ hnew_; clear hg_ hnew_; (first | rw [← Ny141.out] at ho9 | (simp only [Int.reduceToNat] at ho9; rw [← Ny141.out] at ho9)); have n0_ := Aside0.mk (Kd.R_lower ho9 (below_size (bz2 HB.out GE139.out GE140.out))); have n1_ := Aside0.mk (blk_below (g := gb139) (o := .cells #[.string a0_0, .int .i64 a0_1, .int .i64 a0_2, .int .i64 a0_3] 24 (0, 0)) (bk_ BK139.out) hb); have n2_ := Aside0.mk (blk_below (g := gb140) (o := .cells #[.string (⟨#[]⟩ : ByteArray), .string (⟨#[]⟩ : ByteArray), .slice none 0 0] 58 (0, 0)) (bk_ BK140.out) hb); have n3_ := Aside0.mk (below_step (bz2 HB.out GE139.out GE140.out) hb); clear BK139; clear BK140; clear HB; have HO143 := n0_; have BK139 := n1_; have BK140 := n2_; have HB := n3_; clear n0_ n1_ n2_ n3_; clear hb ho9; obtain ⟨Ao10, co10, eo10⟩ := Kd.R_slice HO143.out; subst eo10; have hcz11_0 : w8.cell? ⟨gb140, 0, none⟩ = some (.string (⟨#[]⟩ : ByteArray)) := (blk_cell BK140.out 0).trans rfl; have hcz11_1 : w8.cell? ⟨gb140, 1, none⟩ = some (.string (⟨#[]⟩ : ByteArray)) := (blk_cell BK140.out 1).trans rfl; have hcz11_2 : w8.cell? ⟨gb140, 2, none⟩ = some (.slice none 0 0) := (blk_cell BK140.out 2).trans rfl; have hfz11_0 := blk_frozen BK140.out 0; have hfz11_1 := blk_frozen BK140.out 1; have hfz11_2 := blk_frozen BK140.out 2))
  refine bodyPost_ret (results_cell_row rfl _ _ gb140 58 #[.string a1, .string (⟨#[104, 111, 117, 115, 101]⟩ : ByteArray), .slice Ao10 y141.length co10] (0, 0) _ rfl (by (with_reducible repeat (first | refine blk_drewN ?_ _ | refine blk_drew ?_ | refine blk_alloc ?_ _)); refine blk_put (cs := #[.string a1, .string (⟨#[104, 111, 117, 115, 101]⟩ : ByteArray), .slice none 0 0]) ?_ 2 _ rfl; (with_reducible repeat (first | refine blk_drewN ?_ _ | refine blk_drew ?_ | refine blk_alloc ?_ _)); refine blk_put (cs := #[.string a1, .string (⟨#[]⟩ : ByteArray), .slice none 0 0]) ?_ 1 _ rfl; (with_reducible repeat (first | refine blk_drewN ?_ _ | refine blk_drew ?_ | refine blk_alloc ?_ _)); refine blk_put (cs := #[.string (⟨#[]⟩ : ByteArray), .string (⟨#[]⟩ : ByteArray), .slice none 0 0]) ?_ 0 _ rfl; (with_reducible repeat (first | refine blk_drewN ?_ _ | refine blk_drew ?_ | refine blk_alloc ?_ _)); exact BK140.out) Try.underlying58 rfl (by kernel_rfl)) rfl ?_
  exact ⟨_, by first | rfl | (simp [errW_none, errW_some] <;> rfl) | (simp [*, errW_none, errW_some] <;> rfl), by (with_reducible repeat (first | apply Kd.R_alloc | apply Kd.R_drewN | apply Kd.R_drew)); exact Kd.R_mono (Kd.R_far (p := ⟨gb140, 2, none⟩) (Kd.R_far (p := ⟨gb140, 1, none⟩) (Kd.R_far (p := ⟨gb140, 0, none⟩) (Kd.R_types HO143.out BK140.out (by decide)) (fun _ hk => hk.2) (.string a1)) (fun _ hk => hk.2) (.string (⟨#[104, 111, 117, 115, 101]⟩ : ByteArray))) (fun _ hk => hk.2) (.slice Ao10 y141.length co10)) (fun _ hk => trivial), bz2 HB.out GE139.out GE140.out⟩

/-! ### contangolaw50_goes: function 9 -/
def contangolaw50_goes.f (k : Nat)  : Option (Bool) := (contangolaw50_hold.f (⟨#[111, 105, 108]⟩ : ByteArray) 1 9 0 (⟨#[97, 108, 102, 97]⟩ : ByteArray) 5).bind fun bt145 => ((contangolaw50_hold.f (⟨#[111, 105, 108]⟩ : ByteArray) 1 9 0 (⟨#[98, 114, 97, 118, 111]⟩ : ByteArray) 3).bind fun bt150 => ((contangolaw50_hold.f (⟨#[111, 105, 108]⟩ : ByteArray) 1 9 0 (⟨#[99, 97, 114, 108]⟩ : ByteArray) 2).bind fun bt155 => ((some (([(⟨(⟨bt145.1, bt145.2.1⟩ : S55), bt145.2.2⟩ : S58), (⟨(⟨bt150.1, bt150.2.1⟩ : S55), bt150.2.2⟩ : S58), (⟨(⟨bt155.1, bt155.2.1⟩ : S55), bt155.2.2⟩ : S58)] : List (S58)) : List (S58))).bind fun y160 => ((tear_Parts.f k y160 (⟨#[111, 105, 108]⟩ : ByteArray) 1 9 0 true 4).bind fun bt163 => ((tear_Apply.f k y160 (⟨#[111, 105, 108]⟩ : ByteArray) 1 9 0 true bt163.1).bind fun bt167 => ((tear_Worth.f k (⟨#[111, 105, 108]⟩ : ByteArray) 0 100 1 0 1000 false 47 45 true 3).bind fun bt172 => ((tear_Worth.f k (⟨#[111, 105, 108]⟩ : ByteArray) 0 100 1 0 1000 false 47 45 false 3).bind fun bt174 => (if bt163.2 = 0 then (if bt167.2 = 0 then (if bt172.2 = 0 then (if bt174.2 = 0 then (if bt172.1 = 600 then (if bt174.1 = (-600) then (if (bt163.1.length : Int) = 3 then (if (bt167.1.length : Int) = 3 then (if 0 < (bt163.1.length : Int) then (if ((rd_T62 bt163.1 0).f1) = 2 then (if 1 < (bt163.1.length : Int) then (if ((rd_T62 bt163.1 1).f1) = 1 then (if 2 < (bt163.1.length : Int) then (if ((rd_T62 bt163.1 2).f1) = 1 then (if 0 < (bt167.1.length : Int) then (if (((rd_T58 bt167.1 0).f1).length : Int) = 1 then (if 0 < (((rd_T58 bt167.1 0).f1).length : Int) then (some (((rd_T52 ((rd_T58 bt167.1 0).f1) 0).f1) == 3)) else (none)) else (some false)) else (none)) else (some false)) else (none)) else (some false)) else (none)) else (some false)) else (none)) else (some false)) else (some false)) else (some false)) else (some false)) else (some false)) else (some false)) else (some false)) else (some false)))))))))
theorem contangolaw50_goes.mono : ∀ k, LeO (contangolaw50_goes.f k ) (contangolaw50_goes.f (k + 1) ) := by
  intro  k
  unfold contangolaw50_goes.f
  repeat' first
      | (with_reducible exact tear_Apply.mono _ _ _ _ _ _ _ _)
      | (with_reducible exact tear_Parts.mono _ _ _ _ _ _ _ _)
      | (with_reducible exact tear_Worth.mono _ _ _ _ _ _ _ _ _ _ _ _)
      | (with_reducible exact LeO.refl _)
      | (with_reducible exact LeO.none _)
      | (with_reducible refine LeO.ite ?_ ?_)
      | (with_reducible refine LeO.bind ?_ (fun _ => ?_))
      | exact LeO.none _
      | refine LeO.ite ?_ ?_
      | refine LeO.bind ?_ (fun _ => ?_)
theorem contangolaw50_goes.only (k : Nat) (r : Bool) (h : contangolaw50_goes.f k  = some r) : r = true := by
  exact Option.some.inj ((at_rounds (fun k => contangolaw50_goes.mono k) (Nat.le_max_left k 100) h).symm.trans (at_rounds (fun k => contangolaw50_goes.mono k) (Nat.le_max_right k 100) (by decide +kernel : contangolaw50_goes.f 100 = some true)))
def contangolaw50_goes.T2 : Bool × List (List Nat × List Nat) := (true, [([], []), ([0], [0]), ([], []), ([2, 1], [2]), ([], []), ([4, 3], [4]), ([1, 3, 5], [1, 3, 5]), ([6, 5, 0, 1, 2, 3, 4, 5, 6], [6])])
def contangolaw50_goes.B2 : List Nat := [0, 1, 0, 7, 0, 31, 63, 127]
theorem contangolaw50_goes.tab2 : rtab .any (opsOf Try.f9 2) = contangolaw50_goes.T2 := by kernel_rfl
theorem contangolaw50_goes.bits2 : waitsOk contangolaw50_goes.T2.2 contangolaw50_goes.B2 = true := by kernel_rfl
set_option maxHeartbeats 8000000 in
set_option maxRecDepth 100000 in
theorem contangolaw50_goes.calls (k : Nat)  (r : Bool) (w : World) (h : contangolaw50_goes.f k  = some r) :
    Calls Try.prog 9 #[] w fun e w' => e = .returned (.bool r) ∧ Below w.heap.size w w' := by
  have hu24 := Try.underlying24
  have hu44 := Try.underlying44
  have HB := Aside0.mk (Below.refl w.heap.size w)
  have HRT := Aside0.mk (contangolaw50_goes.only k r h)
  have H : ((contangolaw50_hold.f (⟨#[111, 105, 108]⟩ : ByteArray) 1 9 0 (⟨#[97, 108, 102, 97]⟩ : ByteArray) 5).bind fun bt145 => ((contangolaw50_hold.f (⟨#[111, 105, 108]⟩ : ByteArray) 1 9 0 (⟨#[98, 114, 97, 118, 111]⟩ : ByteArray) 3).bind fun bt150 => ((contangolaw50_hold.f (⟨#[111, 105, 108]⟩ : ByteArray) 1 9 0 (⟨#[99, 97, 114, 108]⟩ : ByteArray) 2).bind fun bt155 => ((some (([(⟨(⟨bt145.1, bt145.2.1⟩ : S55), bt145.2.2⟩ : S58), (⟨(⟨bt150.1, bt150.2.1⟩ : S55), bt150.2.2⟩ : S58), (⟨(⟨bt155.1, bt155.2.1⟩ : S55), bt155.2.2⟩ : S58)] : List (S58)) : List (S58))).bind fun y160 => ((tear_Parts.f k y160 (⟨#[111, 105, 108]⟩ : ByteArray) 1 9 0 true 4).bind fun bt163 => ((tear_Apply.f k y160 (⟨#[111, 105, 108]⟩ : ByteArray) 1 9 0 true bt163.1).bind fun bt167 => ((tear_Worth.f k (⟨#[111, 105, 108]⟩ : ByteArray) 0 100 1 0 1000 false 47 45 true 3).bind fun bt172 => ((tear_Worth.f k (⟨#[111, 105, 108]⟩ : ByteArray) 0 100 1 0 1000 false 47 45 false 3).bind fun bt174 => (if bt163.2 = 0 then (if bt167.2 = 0 then (if bt172.2 = 0 then (if bt174.2 = 0 then (if bt172.1 = 600 then (if bt174.1 = (-600) then (if (bt163.1.length : Int) = 3 then (if (bt167.1.length : Int) = 3 then (if 0 < (bt163.1.length : Int) then (if ((rd_T62 bt163.1 0).f1) = 2 then (if 1 < (bt163.1.length : Int) then (if ((rd_T62 bt163.1 1).f1) = 1 then (if 2 < (bt163.1.length : Int) then (if ((rd_T62 bt163.1 2).f1) = 1 then (if 0 < (bt167.1.length : Int) then (if (((rd_T58 bt167.1 0).f1).length : Int) = 1 then (if 0 < (((rd_T58 bt167.1 0).f1).length : Int) then (some (((rd_T52 ((rd_T58 bt167.1 0).f1) 0).f1) == 3)) else (none)) else (some false)) else (none)) else (some false)) else (none)) else (some false)) else (none)) else (some false)) else (none)) else (some false)) else (some false)) else (some false)) else (some false)) else (some false)) else (some false)) else (some false)) else (some false)))))))))) = some r := h
  clear h
  replace H := Option.bind_eq_some_iff.mp H
  obtain ⟨⟨t145, t146, t147⟩, A10, H⟩ := H
  replace H : ((contangolaw50_hold.f (⟨#[111, 105, 108]⟩ : ByteArray) 1 9 0 (⟨#[98, 114, 97, 118, 111]⟩ : ByteArray) 3).bind fun bt150 => ((contangolaw50_hold.f (⟨#[111, 105, 108]⟩ : ByteArray) 1 9 0 (⟨#[99, 97, 114, 108]⟩ : ByteArray) 2).bind fun bt155 => ((some (([(⟨(⟨t145, t146⟩ : S55), t147⟩ : S58), (⟨(⟨bt150.1, bt150.2.1⟩ : S55), bt150.2.2⟩ : S58), (⟨(⟨bt155.1, bt155.2.1⟩ : S55), bt155.2.2⟩ : S58)] : List (S58)) : List (S58))).bind fun y160 => ((tear_Parts.f k y160 (⟨#[111, 105, 108]⟩ : ByteArray) 1 9 0 true 4).bind fun bt163 => ((tear_Apply.f k y160 (⟨#[111, 105, 108]⟩ : ByteArray) 1 9 0 true bt163.1).bind fun bt167 => ((tear_Worth.f k (⟨#[111, 105, 108]⟩ : ByteArray) 0 100 1 0 1000 false 47 45 true 3).bind fun bt172 => ((tear_Worth.f k (⟨#[111, 105, 108]⟩ : ByteArray) 0 100 1 0 1000 false 47 45 false 3).bind fun bt174 => (if bt163.2 = 0 then (if bt167.2 = 0 then (if bt172.2 = 0 then (if bt174.2 = 0 then (if bt172.1 = 600 then (if bt174.1 = (-600) then (if (bt163.1.length : Int) = 3 then (if (bt167.1.length : Int) = 3 then (if 0 < (bt163.1.length : Int) then (if ((rd_T62 bt163.1 0).f1) = 2 then (if 1 < (bt163.1.length : Int) then (if ((rd_T62 bt163.1 1).f1) = 1 then (if 2 < (bt163.1.length : Int) then (if ((rd_T62 bt163.1 2).f1) = 1 then (if 0 < (bt167.1.length : Int) then (if (((rd_T58 bt167.1 0).f1).length : Int) = 1 then (if 0 < (((rd_T58 bt167.1 0).f1).length : Int) then (some (((rd_T52 ((rd_T58 bt167.1 0).f1) 0).f1) == 3)) else (none)) else (some false)) else (none)) else (some false)) else (none)) else (some false)) else (none)) else (some false)) else (none)) else (some false)) else (some false)) else (some false)) else (some false)) else (some false)) else (some false)) else (some false)) else (some false))))))))) = some r := H
  have A1 := Aside0.mk A10
  clear A10
  replace H := Option.bind_eq_some_iff.mp H
  obtain ⟨⟨t150, t151, t152⟩, A20, H⟩ := H
  replace H : ((contangolaw50_hold.f (⟨#[111, 105, 108]⟩ : ByteArray) 1 9 0 (⟨#[99, 97, 114, 108]⟩ : ByteArray) 2).bind fun bt155 => ((some (([(⟨(⟨t145, t146⟩ : S55), t147⟩ : S58), (⟨(⟨t150, t151⟩ : S55), t152⟩ : S58), (⟨(⟨bt155.1, bt155.2.1⟩ : S55), bt155.2.2⟩ : S58)] : List (S58)) : List (S58))).bind fun y160 => ((tear_Parts.f k y160 (⟨#[111, 105, 108]⟩ : ByteArray) 1 9 0 true 4).bind fun bt163 => ((tear_Apply.f k y160 (⟨#[111, 105, 108]⟩ : ByteArray) 1 9 0 true bt163.1).bind fun bt167 => ((tear_Worth.f k (⟨#[111, 105, 108]⟩ : ByteArray) 0 100 1 0 1000 false 47 45 true 3).bind fun bt172 => ((tear_Worth.f k (⟨#[111, 105, 108]⟩ : ByteArray) 0 100 1 0 1000 false 47 45 false 3).bind fun bt174 => (if bt163.2 = 0 then (if bt167.2 = 0 then (if bt172.2 = 0 then (if bt174.2 = 0 then (if bt172.1 = 600 then (if bt174.1 = (-600) then (if (bt163.1.length : Int) = 3 then (if (bt167.1.length : Int) = 3 then (if 0 < (bt163.1.length : Int) then (if ((rd_T62 bt163.1 0).f1) = 2 then (if 1 < (bt163.1.length : Int) then (if ((rd_T62 bt163.1 1).f1) = 1 then (if 2 < (bt163.1.length : Int) then (if ((rd_T62 bt163.1 2).f1) = 1 then (if 0 < (bt167.1.length : Int) then (if (((rd_T58 bt167.1 0).f1).length : Int) = 1 then (if 0 < (((rd_T58 bt167.1 0).f1).length : Int) then (some (((rd_T52 ((rd_T58 bt167.1 0).f1) 0).f1) == 3)) else (none)) else (some false)) else (none)) else (some false)) else (none)) else (some false)) else (none)) else (some false)) else (none)) else (some false)) else (some false)) else (some false)) else (some false)) else (some false)) else (some false)) else (some false)) else (some false)))))))) = some r := H
  have A2 := Aside0.mk A20
  clear A20
  replace H := Option.bind_eq_some_iff.mp H
  obtain ⟨⟨t155, t156, t157⟩, A30, H⟩ := H
  replace H : ((some (([(⟨(⟨t145, t146⟩ : S55), t147⟩ : S58), (⟨(⟨t150, t151⟩ : S55), t152⟩ : S58), (⟨(⟨t155, t156⟩ : S55), t157⟩ : S58)] : List (S58)) : List (S58))).bind fun y160 => ((tear_Parts.f k y160 (⟨#[111, 105, 108]⟩ : ByteArray) 1 9 0 true 4).bind fun bt163 => ((tear_Apply.f k y160 (⟨#[111, 105, 108]⟩ : ByteArray) 1 9 0 true bt163.1).bind fun bt167 => ((tear_Worth.f k (⟨#[111, 105, 108]⟩ : ByteArray) 0 100 1 0 1000 false 47 45 true 3).bind fun bt172 => ((tear_Worth.f k (⟨#[111, 105, 108]⟩ : ByteArray) 0 100 1 0 1000 false 47 45 false 3).bind fun bt174 => (if bt163.2 = 0 then (if bt167.2 = 0 then (if bt172.2 = 0 then (if bt174.2 = 0 then (if bt172.1 = 600 then (if bt174.1 = (-600) then (if (bt163.1.length : Int) = 3 then (if (bt167.1.length : Int) = 3 then (if 0 < (bt163.1.length : Int) then (if ((rd_T62 bt163.1 0).f1) = 2 then (if 1 < (bt163.1.length : Int) then (if ((rd_T62 bt163.1 1).f1) = 1 then (if 2 < (bt163.1.length : Int) then (if ((rd_T62 bt163.1 2).f1) = 1 then (if 0 < (bt167.1.length : Int) then (if (((rd_T58 bt167.1 0).f1).length : Int) = 1 then (if 0 < (((rd_T58 bt167.1 0).f1).length : Int) then (some (((rd_T52 ((rd_T58 bt167.1 0).f1) 0).f1) == 3)) else (none)) else (some false)) else (none)) else (some false)) else (none)) else (some false)) else (none)) else (some false)) else (none)) else (some false)) else (some false)) else (some false)) else (some false)) else (some false)) else (some false)) else (some false)) else (some false))))))) = some r := H
  have A3 := Aside0.mk A30
  clear A30
  obtain ⟨y160, hy160⟩ : ∃ y_ : List (S58), y_ = (([(⟨(⟨t145, t146⟩ : S55), t147⟩ : S58), (⟨(⟨t150, t151⟩ : S55), t152⟩ : S58), (⟨(⟨t155, t156⟩ : S55), t157⟩ : S58)] : List (S58))) := ⟨_, rfl⟩
  replace H : ((tear_Parts.f k y160 (⟨#[111, 105, 108]⟩ : ByteArray) 1 9 0 true 4).bind fun bt163 => ((tear_Apply.f k y160 (⟨#[111, 105, 108]⟩ : ByteArray) 1 9 0 true bt163.1).bind fun bt167 => ((tear_Worth.f k (⟨#[111, 105, 108]⟩ : ByteArray) 0 100 1 0 1000 false 47 45 true 3).bind fun bt172 => ((tear_Worth.f k (⟨#[111, 105, 108]⟩ : ByteArray) 0 100 1 0 1000 false 47 45 false 3).bind fun bt174 => (if bt163.2 = 0 then (if bt167.2 = 0 then (if bt172.2 = 0 then (if bt174.2 = 0 then (if bt172.1 = 600 then (if bt174.1 = (-600) then (if (bt163.1.length : Int) = 3 then (if (bt167.1.length : Int) = 3 then (if 0 < (bt163.1.length : Int) then (if ((rd_T62 bt163.1 0).f1) = 2 then (if 1 < (bt163.1.length : Int) then (if ((rd_T62 bt163.1 1).f1) = 1 then (if 2 < (bt163.1.length : Int) then (if ((rd_T62 bt163.1 2).f1) = 1 then (if 0 < (bt167.1.length : Int) then (if (((rd_T58 bt167.1 0).f1).length : Int) = 1 then (if 0 < (((rd_T58 bt167.1 0).f1).length : Int) then (some (((rd_T52 ((rd_T58 bt167.1 0).f1) 0).f1) == 3)) else (none)) else (some false)) else (none)) else (some false)) else (none)) else (some false)) else (none)) else (some false)) else (none)) else (some false)) else (some false)) else (some false)) else (some false)) else (some false)) else (some false)) else (some false)) else (some false)))))) = some r := by first | (rw [hy160]; with_reducible exact H) | (have H2_ := (Option.bind_some _ _).symm.trans H; rw [hy160]; with_reducible exact H2_) | (have H2_ := (Option.bind_some _ _).symm.trans H; with_reducible exact H2_) | with_reducible exact H | (rw [hy160]; exact H) | exact H
  have Ny160 := Aside0.mk hy160
  clear hy160
  replace H := Option.bind_eq_some_iff.mp H
  obtain ⟨⟨t163, t166⟩, A40, H⟩ := H
  replace H : ((tear_Apply.f k y160 (⟨#[111, 105, 108]⟩ : ByteArray) 1 9 0 true t163).bind fun bt167 => ((tear_Worth.f k (⟨#[111, 105, 108]⟩ : ByteArray) 0 100 1 0 1000 false 47 45 true 3).bind fun bt172 => ((tear_Worth.f k (⟨#[111, 105, 108]⟩ : ByteArray) 0 100 1 0 1000 false 47 45 false 3).bind fun bt174 => (if t166 = 0 then (if bt167.2 = 0 then (if bt172.2 = 0 then (if bt174.2 = 0 then (if bt172.1 = 600 then (if bt174.1 = (-600) then (if (t163.length : Int) = 3 then (if (bt167.1.length : Int) = 3 then (if 0 < (t163.length : Int) then (if ((rd_T62 t163 0).f1) = 2 then (if 1 < (t163.length : Int) then (if ((rd_T62 t163 1).f1) = 1 then (if 2 < (t163.length : Int) then (if ((rd_T62 t163 2).f1) = 1 then (if 0 < (bt167.1.length : Int) then (if (((rd_T58 bt167.1 0).f1).length : Int) = 1 then (if 0 < (((rd_T58 bt167.1 0).f1).length : Int) then (some (((rd_T52 ((rd_T58 bt167.1 0).f1) 0).f1) == 3)) else (none)) else (some false)) else (none)) else (some false)) else (none)) else (some false)) else (none)) else (some false)) else (none)) else (some false)) else (some false)) else (some false)) else (some false)) else (some false)) else (some false)) else (some false)) else (some false))))) = some r := H
  have A4 := Aside0.mk A40
  clear A40
  replace H := Option.bind_eq_some_iff.mp H
  obtain ⟨⟨t167, t170⟩, A50, H⟩ := H
  replace H : ((tear_Worth.f k (⟨#[111, 105, 108]⟩ : ByteArray) 0 100 1 0 1000 false 47 45 true 3).bind fun bt172 => ((tear_Worth.f k (⟨#[111, 105, 108]⟩ : ByteArray) 0 100 1 0 1000 false 47 45 false 3).bind fun bt174 => (if t166 = 0 then (if t170 = 0 then (if bt172.2 = 0 then (if bt174.2 = 0 then (if bt172.1 = 600 then (if bt174.1 = (-600) then (if (t163.length : Int) = 3 then (if (t167.length : Int) = 3 then (if 0 < (t163.length : Int) then (if ((rd_T62 t163 0).f1) = 2 then (if 1 < (t163.length : Int) then (if ((rd_T62 t163 1).f1) = 1 then (if 2 < (t163.length : Int) then (if ((rd_T62 t163 2).f1) = 1 then (if 0 < (t167.length : Int) then (if (((rd_T58 t167 0).f1).length : Int) = 1 then (if 0 < (((rd_T58 t167 0).f1).length : Int) then (some (((rd_T52 ((rd_T58 t167 0).f1) 0).f1) == 3)) else (none)) else (some false)) else (none)) else (some false)) else (none)) else (some false)) else (none)) else (some false)) else (none)) else (some false)) else (some false)) else (some false)) else (some false)) else (some false)) else (some false)) else (some false)) else (some false)))) = some r := H
  have A5 := Aside0.mk A50
  clear A50
  replace H := Option.bind_eq_some_iff.mp H
  obtain ⟨⟨t172, t173⟩, A60, H⟩ := H
  replace H : ((tear_Worth.f k (⟨#[111, 105, 108]⟩ : ByteArray) 0 100 1 0 1000 false 47 45 false 3).bind fun bt174 => (if t166 = 0 then (if t170 = 0 then (if t173 = 0 then (if bt174.2 = 0 then (if t172 = 600 then (if bt174.1 = (-600) then (if (t163.length : Int) = 3 then (if (t167.length : Int) = 3 then (if 0 < (t163.length : Int) then (if ((rd_T62 t163 0).f1) = 2 then (if 1 < (t163.length : Int) then (if ((rd_T62 t163 1).f1) = 1 then (if 2 < (t163.length : Int) then (if ((rd_T62 t163 2).f1) = 1 then (if 0 < (t167.length : Int) then (if (((rd_T58 t167 0).f1).length : Int) = 1 then (if 0 < (((rd_T58 t167 0).f1).length : Int) then (some (((rd_T52 ((rd_T58 t167 0).f1) 0).f1) == 3)) else (none)) else (some false)) else (none)) else (some false)) else (none)) else (some false)) else (none)) else (some false)) else (none)) else (some false)) else (some false)) else (some false)) else (some false)) else (some false)) else (some false)) else (some false)) else (some false))) = some r := H
  have A6 := Aside0.mk A60
  clear A60
  replace H := Option.bind_eq_some_iff.mp H
  obtain ⟨⟨t174, t175⟩, A70, H⟩ := H
  replace H : (if t166 = 0 then (if t170 = 0 then (if t173 = 0 then (if t175 = 0 then (if t172 = 600 then (if t174 = (-600) then (if (t163.length : Int) = 3 then (if (t167.length : Int) = 3 then (if 0 < (t163.length : Int) then (if ((rd_T62 t163 0).f1) = 2 then (if 1 < (t163.length : Int) then (if ((rd_T62 t163 1).f1) = 1 then (if 2 < (t163.length : Int) then (if ((rd_T62 t163 2).f1) = 1 then (if 0 < (t167.length : Int) then (if (((rd_T58 t167 0).f1).length : Int) = 1 then (if 0 < (((rd_T58 t167 0).f1).length : Int) then (some (((rd_T52 ((rd_T58 t167 0).f1) 0).f1) == 3)) else (none)) else (some false)) else (none)) else (some false)) else (none)) else (some false)) else (none)) else (some false)) else (none)) else (some false)) else (some false)) else (some false)) else (some false)) else (some false)) else (some false)) else (some false)) else (some false)) = some r := H
  have A7 := Aside0.mk A70
  clear A70
  by_cases c8 : t166 = 0
  · rw [if_pos c8] at H
    have c8b0 : (t166 == 0) = true := beq_iff_eq.mpr c8
    have c8b1 : (t166 != 0) = false := bne_eq_false_iff_eq.mpr c8
    clear c8
    by_cases c9 : t170 = 0
    · rw [if_pos c9] at H
      have c9b0 : (t170 == 0) = true := beq_iff_eq.mpr c9
      have c9b1 : (t170 != 0) = false := bne_eq_false_iff_eq.mpr c9
      clear c9
      by_cases c10 : t173 = 0
      · rw [if_pos c10] at H
        have c10b0 : (t173 == 0) = true := beq_iff_eq.mpr c10
        have c10b1 : (t173 != 0) = false := bne_eq_false_iff_eq.mpr c10
        clear c10
        by_cases c11 : t175 = 0
        · rw [if_pos c11] at H
          have c11b0 : (t175 == 0) = true := beq_iff_eq.mpr c11
          have c11b1 : (t175 != 0) = false := bne_eq_false_iff_eq.mpr c11
          clear c11
          by_cases c12 : t172 = 600
          · rw [if_pos c12] at H
            have c12b0 : (t172 == 600) = true := beq_iff_eq.mpr c12
            have c12b1 : (t172 != 600) = false := bne_eq_false_iff_eq.mpr c12
            clear c12
            by_cases c13 : t174 = (-600)
            · rw [if_pos c13] at H
              have c13b0 : (t174 == (-600)) = true := beq_iff_eq.mpr c13
              have c13b1 : (t174 != (-600)) = false := bne_eq_false_iff_eq.mpr c13
              clear c13
              by_cases c14 : (t163.length : Int) = 3
              · rw [if_pos c14] at H
                have c14b0 : ((t163.length : Int) == 3) = true := beq_iff_eq.mpr c14
                have c14b1 : ((t163.length : Int) != 3) = false := bne_eq_false_iff_eq.mpr c14
                clear c14
                by_cases c15 : (t167.length : Int) = 3
                · rw [if_pos c15] at H
                  have c15b0 : ((t167.length : Int) == 3) = true := beq_iff_eq.mpr c15
                  have c15b1 : ((t167.length : Int) != 3) = false := bne_eq_false_iff_eq.mpr c15
                  clear c15
                  by_cases c16 : 0 < (t163.length : Int)
                  · rw [if_pos c16] at H
                    have c16b0 : decide (0 < (t163.length : Int)) = true := decide_eq_true c16
                    have c16b1 : decide (0 < t163.length) = true := decide_eq_true (by omega)
                    clear c16
                    by_cases c17 : ((rd_T62 t163 0).f1) = 2
                    · rw [if_pos c17] at H
                      have c17b0 : (((rd_T62 t163 0).f1) == 2) = true := beq_iff_eq.mpr c17
                      have c17b1 : (((rd_T62 t163 0).f1) != 2) = false := bne_eq_false_iff_eq.mpr c17
                      clear c17
                      by_cases c18 : 1 < (t163.length : Int)
                      · rw [if_pos c18] at H
                        have c18b0 : decide (1 < (t163.length : Int)) = true := decide_eq_true c18
                        have c18b1 : decide (1 < t163.length) = true := decide_eq_true (by omega)
                        clear c18
                        by_cases c19 : ((rd_T62 t163 1).f1) = 1
                        · rw [if_pos c19] at H
                          have c19b0 : (((rd_T62 t163 1).f1) == 1) = true := beq_iff_eq.mpr c19
                          have c19b1 : (((rd_T62 t163 1).f1) != 1) = false := bne_eq_false_iff_eq.mpr c19
                          clear c19
                          by_cases c20 : 2 < (t163.length : Int)
                          · rw [if_pos c20] at H
                            have c20b0 : decide (2 < (t163.length : Int)) = true := decide_eq_true c20
                            have c20b1 : decide (2 < t163.length) = true := decide_eq_true (by omega)
                            clear c20
                            by_cases c21 : ((rd_T62 t163 2).f1) = 1
                            · rw [if_pos c21] at H
                              have c21b0 : (((rd_T62 t163 2).f1) == 1) = true := beq_iff_eq.mpr c21
                              have c21b1 : (((rd_T62 t163 2).f1) != 1) = false := bne_eq_false_iff_eq.mpr c21
                              clear c21
                              by_cases c22 : 0 < (t167.length : Int)
                              · rw [if_pos c22] at H
                                have c22b0 : decide (0 < (t167.length : Int)) = true := decide_eq_true c22
                                have c22b1 : decide (0 < t167.length) = true := decide_eq_true (by omega)
                                clear c22
                                by_cases c23 : (((rd_T58 t167 0).f1).length : Int) = 1
                                · rw [if_pos c23] at H
                                  have c23b0 : ((((rd_T58 t167 0).f1).length : Int) == 1) = true := beq_iff_eq.mpr c23
                                  have c23b1 : ((((rd_T58 t167 0).f1).length : Int) != 1) = false := bne_eq_false_iff_eq.mpr c23
                                  clear c23
                                  by_cases c24 : 0 < (((rd_T58 t167 0).f1).length : Int)
                                  · rw [if_pos c24] at H
                                    have c24b0 : decide (0 < (((rd_T58 t167 0).f1).length : Int)) = true := decide_eq_true c24
                                    have c24b1 : decide (0 < ((rd_T58 t167 0).f1).length) = true := decide_eq_true (by omega)
                                    clear c24
                                    obtain rfl := Option.some.inj H
                                    go_enter Try.func9, Try.ntmps9
                                    try go_wp2_with (first | ((with_reducible refine gate_dst (N := 1) rfl ?_); (try (refine gate_guard (by rfl) ?_; dsimp only)); refine box_event ?hg (N := 1) ?hd (cs := #[.string (⟨#[]⟩ : ByteArray), .int .i64 0, .int .i64 0, .int .i64 0]) (t := 24) ?hr ?_; (case hd => rfl); (case hg => rfl); (case hr => first | (go_simp; done) | (go_simp; rfl)); intro gb144 hg w25 hbox hb; have n0_ := Aside0.mk (below_step (bz0 HB.out) hb); have n1_ := Aside0.mk (hbox); have n2_ := Aside0.mk ((by rw [hg]; exact (below_size (bz0 HB.out)) : w.heap.size ≤ gb144)); have n3_ := Aside0.mk ((by rw [hg]; exact (below_size (bz0 HB.out)) : w.heap.size ≤ gb144)); clear HB; have HB := n0_; have BK144 := n1_; have GW144 := n2_; have GE144 := n3_; clear n0_ n1_ n2_ n3_; clear hb hbox hg; have hcz26_0 : w25.cell? ⟨gb144, 0, none⟩ = some (.string (⟨#[]⟩ : ByteArray)) := (blk_cell BK144.out 0).trans rfl; have hcz26_1 : w25.cell? ⟨gb144, 1, none⟩ = some (.int .i64 0) := (blk_cell BK144.out 1).trans rfl; have hcz26_2 : w25.cell? ⟨gb144, 2, none⟩ = some (.int .i64 0) := (blk_cell BK144.out 2).trans rfl; have hcz26_3 : w25.cell? ⟨gb144, 3, none⟩ = some (.int .i64 0) := (blk_cell BK144.out 3).trans rfl; have hfz26_0 := blk_frozen BK144.out 0; have hfz26_1 := blk_frozen BK144.out 1; have hfz26_2 := blk_frozen BK144.out 2; have hfz26_3 := blk_frozen BK144.out 3))
                                    have n0_ : Aside0 (((((w25.setCell ⟨gb144, 0, none⟩ (.string (⟨#[111, 105, 108]⟩ : ByteArray))).setCell ⟨gb144, 1, none⟩ (.int .i64 1)).setCell ⟨gb144, 2, none⟩ (.int .i64 9)).setCell ⟨gb144, 3, none⟩ (.int .i64 0)).heap[gb144]? = some (.cells #[.string (⟨#[111, 105, 108]⟩ : ByteArray), .int .i64 1, .int .i64 9, .int .i64 0] 24 (0, 0))) := ⟨by (with_reducible repeat (first | refine blk_drewN ?_ _ | refine blk_drew ?_ | refine blk_alloc ?_ _)); refine blk_put (cs := #[.string (⟨#[111, 105, 108]⟩ : ByteArray), .int .i64 1, .int .i64 9, .int .i64 0]) ?_ 3 _ rfl; (with_reducible repeat (first | refine blk_drewN ?_ _ | refine blk_drew ?_ | refine blk_alloc ?_ _)); refine blk_put (cs := #[.string (⟨#[111, 105, 108]⟩ : ByteArray), .int .i64 1, .int .i64 0, .int .i64 0]) ?_ 2 _ rfl; (with_reducible repeat (first | refine blk_drewN ?_ _ | refine blk_drew ?_ | refine blk_alloc ?_ _)); refine blk_put (cs := #[.string (⟨#[111, 105, 108]⟩ : ByteArray), .int .i64 0, .int .i64 0, .int .i64 0]) ?_ 1 _ rfl; (with_reducible repeat (first | refine blk_drewN ?_ _ | refine blk_drew ?_ | refine blk_alloc ?_ _)); refine blk_put (cs := #[.string (⟨#[]⟩ : ByteArray), .int .i64 0, .int .i64 0, .int .i64 0]) ?_ 0 _ rfl; (with_reducible repeat (first | refine blk_drewN ?_ _ | refine blk_drew ?_ | refine blk_alloc ?_ _)); exact BK144.out⟩
                                    have n1_ : Aside0 (Below w.heap.size w ((((w25.setCell ⟨gb144, 0, none⟩ (.string (⟨#[111, 105, 108]⟩ : ByteArray))).setCell ⟨gb144, 1, none⟩ (.int .i64 1)).setCell ⟨gb144, 2, none⟩ (.int .i64 9)).setCell ⟨gb144, 3, none⟩ (.int .i64 0))) := ⟨bz1 HB.out GE144.out⟩
                                    (try clear BK144)
                                    (try clear HB)
                                    generalize ((((w25.setCell ⟨gb144, 0, none⟩ (.string (⟨#[111, 105, 108]⟩ : ByteArray))).setCell ⟨gb144, 1, none⟩ (.int .i64 1)).setCell ⟨gb144, 2, none⟩ (.int .i64 9)).setCell ⟨gb144, 3, none⟩ (.int .i64 0)) = w27 at n0_ n1_ ⊢
                                    have BK144 := n0_
                                    have HB := n1_
                                    clear n0_ n1_
                                    have n0_ := Aside0.mk (blk_drew BK144.out)
                                    have n1_ := Aside0.mk (below_drew1 HB.out)
                                    clear BK144
                                    clear HB
                                    have BK144 := n0_
                                    have HB := n1_
                                    clear n0_ n1_
                                    refine start_ (n := 8) (S := fun w' => w'.cell? ⟨gb144, 0, none⟩ = some (.string (⟨#[111, 105, 108]⟩ : ByteArray)) ∧ w'.cell? ⟨gb144, 1, none⟩ = some (.int .i64 1) ∧ w'.cell? ⟨gb144, 2, none⟩ = some (.int .i64 9) ∧ w'.cell? ⟨gb144, 3, none⟩ = some (.int .i64 0)) (ds := []) (tf 0 8) (by kernel_rfl) rfl rfl ⟨(blk_cell BK144.out 0).trans rfl, (blk_cell BK144.out 1).trans rfl, (blk_cell BK144.out 2).trans rfl, (blk_cell BK144.out 3).trans rfl⟩ (fun hHeld => ?_); refine with_tabW contangolaw50_goes.tab2 contangolaw50_goes.bits2 (fun HT_ HW_ => ?_)
                                    generalize w27.drew = w28 at BK144 HB hHeld ⊢
                                    refine take_ (i := 0) (N := some 13) (v := ?_) (a' := ?_) (tf 1 7) rfl rfl (take_ofW HT_.out HW_.out (by kernel_rfl)) (fun _ _ _ h => h) (Or.inl ⟨by rfl, ?_⟩) hHeld ?_ ?_
                                    rotate_left
                                    · rintro w' ⟨s0, s1, s2, s3⟩
                                      go_simp
                                      with_reducible rfl
                                    rotate_left
                                    · exact ap_
                                    refine take_ (i := 2) (N := some 15) (v := ?_) (a' := ?_) #[true, false, true, false, false, false, false, false] rfl rfl (take_ofW HT_.out HW_.out (by kernel_rfl)) (fun _ _ _ h => h) (Or.inl ⟨by rfl, ?_⟩) hHeld ?_ ?_
                                    rotate_left
                                    · rintro w' ⟨s0, s1, s2, s3⟩
                                      go_simp
                                      with_reducible rfl
                                    rotate_left
                                    · exact ap_
                                    refine take_ (i := 4) (N := some 17) (v := ?_) (a' := ?_) #[true, false, true, false, true, false, false, false] rfl rfl (take_ofW HT_.out HW_.out (by kernel_rfl)) (fun _ _ _ h => h) (Or.inl ⟨by rfl, ?_⟩) hHeld ?_ ?_
                                    rotate_left
                                    · rintro w' ⟨s0, s1, s2, s3⟩
                                      go_simp
                                      with_reducible rfl
                                    rotate_left
                                    · exact ap_
                                    refine one_ (i := 1) (N := some 14) #[true, true, true, false, true, false, false, false] rfl rfl (one_of HT_.out (by kernel_rfl)) (by decide) (fun K hK => ?_)
                                    refine goes_ Try.func23 (by kernel_rfl) rfl #[.agg #[.string (⟨#[111, 105, 108]⟩ : ByteArray), .int .i64 1, .int .i64 9, .int .i64 0], .string (⟨#[97, 108, 102, 97]⟩ : ByteArray), .int .i64 5] (by rfl) rfl rfl pm_ ?_
                                    with_reducible refine (contangolaw50_hold.calls (⟨#[111, 105, 108]⟩ : ByteArray) 1 9 0 (⟨#[97, 108, 102, 97]⟩ : ByteArray) 5 t145 t146 t147 _ A1.out).mono ?_
                                    rintro e w29 ⟨v148, rfl, ho0, hb⟩
                                    refine ⟨_, rfl, ?_⟩
                                    have n0_ := Aside0.mk (Kd.R_lower ho0 (below_size (bz1 HB.out GE144.out)))
                                    have n1_ := Aside0.mk (blk_below (g := gb144) (o := .cells #[.string (⟨#[111, 105, 108]⟩ : ByteArray), .int .i64 1, .int .i64 9, .int .i64 0] 24 (0, 0)) (bk_ BK144.out) hb)
                                    have n2_ := Aside0.mk (below_step (bz1 HB.out GE144.out) hb)
                                    clear BK144
                                    clear HB
                                    have HO149 := n0_
                                    have BK144 := n1_
                                    have HB := n2_
                                    clear n0_ n1_ n2_
                                    (try clear hb)
                                    (try clear hb2)
                                    (try clear hk)
                                    (try clear hi)
                                    (try clear ho0)
                                    refine hK.out _ _ ⟨(blk_cell BK144.out 0).trans rfl, (blk_cell BK144.out 1).trans rfl, (blk_cell BK144.out 2).trans rfl, (blk_cell BK144.out 3).trans rfl⟩ (fun hHeld => ?_)
                                    clear hK K
                                    refine norm_ (a' := ?_) ?_ ?_
                                    rotate_left
                                    · show Act.put _ (some 14) _ = _
                                      simp only [Act.put, List.setIfInBounds_toArray, List.set_cons_zero, List.set_cons_succ, i64_w, i32_w]
                                      rfl
                                    refine one_ (i := 3) (N := some 16) (tf 5 3) rfl rfl (one_of HT_.out (by kernel_rfl)) (by decide) (fun K hK => ?_)
                                    refine goes_ Try.func23 (by kernel_rfl) rfl #[.agg #[.string (⟨#[111, 105, 108]⟩ : ByteArray), .int .i64 1, .int .i64 9, .int .i64 0], .string (⟨#[98, 114, 97, 118, 111]⟩ : ByteArray), .int .i64 3] (by rfl) rfl rfl pm_ ?_
                                    with_reducible refine (contangolaw50_hold.calls (⟨#[111, 105, 108]⟩ : ByteArray) 1 9 0 (⟨#[98, 114, 97, 118, 111]⟩ : ByteArray) 3 t150 t151 t152 _ A2.out).mono ?_
                                    rintro e w30 ⟨v153, rfl, ho0, hb⟩
                                    refine ⟨_, rfl, ?_⟩
                                    have n0_ := Aside0.mk (Kd.R_elder' (br_ HO149.out) (Kd.R_base ho0) hb)
                                    have n1_ := Aside0.mk (Kd.R_lower (Kd.R_new' ho0 (Kd.R_lt (br_ HO149.out))) (below_size (bz1 HB.out GE144.out)))
                                    have n2_ := Aside0.mk (blk_below (g := gb144) (o := .cells #[.string (⟨#[111, 105, 108]⟩ : ByteArray), .int .i64 1, .int .i64 9, .int .i64 0] 24 (0, 0)) (bk_ BK144.out) hb)
                                    have n3_ := Aside0.mk (below_step (bz1 HB.out GE144.out) hb)
                                    clear HO149
                                    clear BK144
                                    clear HB
                                    have HO149 := n0_
                                    have HO154 := n1_
                                    have BK144 := n2_
                                    have HB := n3_
                                    clear n0_ n1_ n2_ n3_
                                    (try clear hb)
                                    (try clear hb2)
                                    (try clear hk)
                                    (try clear hi)
                                    (try clear ho0)
                                    refine hK.out _ _ ⟨(blk_cell BK144.out 0).trans rfl, (blk_cell BK144.out 1).trans rfl, (blk_cell BK144.out 2).trans rfl, (blk_cell BK144.out 3).trans rfl⟩ (fun hHeld => ?_)
                                    clear hK K
                                    refine norm_ (a' := ?_) ?_ ?_
                                    rotate_left
                                    · show Act.put _ (some 16) _ = _
                                      simp only [Act.put, List.setIfInBounds_toArray, List.set_cons_zero, List.set_cons_succ, i64_w, i32_w]
                                      rfl
                                    refine one_ (i := 5) (N := some 18) (tf 6 2) rfl rfl (one_of HT_.out (by kernel_rfl)) (by decide) (fun K hK => ?_)
                                    refine goes_ Try.func23 (by kernel_rfl) rfl #[.agg #[.string (⟨#[111, 105, 108]⟩ : ByteArray), .int .i64 1, .int .i64 9, .int .i64 0], .string (⟨#[99, 97, 114, 108]⟩ : ByteArray), .int .i64 2] (by rfl) rfl rfl pm_ ?_
                                    with_reducible refine (contangolaw50_hold.calls (⟨#[111, 105, 108]⟩ : ByteArray) 1 9 0 (⟨#[99, 97, 114, 108]⟩ : ByteArray) 2 t155 t156 t157 _ A3.out).mono ?_
                                    rintro e w31 ⟨v158, rfl, ho0, hb⟩
                                    refine ⟨_, rfl, ?_⟩
                                    have n0_ := Aside0.mk (Kd.R_elder' (br_ HO149.out) (Kd.R_base ho0) hb)
                                    have n1_ := Aside0.mk (Kd.R_elder' (br_ HO154.out) (Kd.R_base ho0) hb)
                                    have n2_ := Aside0.mk (Kd.R_lower (Kd.R_new' (Kd.R_new' ho0 (Kd.R_lt (br_ HO149.out))) (Kd.R_lt (br_ HO154.out))) (below_size (bz1 HB.out GE144.out)))
                                    have n3_ := Aside0.mk (blk_below (g := gb144) (o := .cells #[.string (⟨#[111, 105, 108]⟩ : ByteArray), .int .i64 1, .int .i64 9, .int .i64 0] 24 (0, 0)) (bk_ BK144.out) hb)
                                    have n4_ := Aside0.mk (below_step (bz1 HB.out GE144.out) hb)
                                    clear HO149
                                    clear HO154
                                    clear BK144
                                    clear HB
                                    have HO149 := n0_
                                    have HO154 := n1_
                                    have HO159 := n2_
                                    have BK144 := n3_
                                    have HB := n4_
                                    clear n0_ n1_ n2_ n3_ n4_
                                    (try clear hb)
                                    (try clear hb2)
                                    (try clear hk)
                                    (try clear hi)
                                    (try clear ho0)
                                    obtain ⟨Ao32, co32, eo32⟩ := Kd.R_slice HO149.out
                                    (first | subst eo32 | (injection eo32 with f1_ f2_ f3_; have f4_ := f1_.symm; have f5_ := f3_.symm; clear f1_ f2_ f3_; subst f4_; subst f5_))
                                    obtain ⟨Ao33, co33, eo33⟩ := Kd.R_slice HO154.out
                                    (first | subst eo33 | (injection eo33 with f1_ f2_ f3_; have f4_ := f1_.symm; have f5_ := f3_.symm; clear f1_ f2_ f3_; subst f4_; subst f5_))
                                    obtain ⟨Ao34, co34, eo34⟩ := Kd.R_slice HO159.out
                                    (first | subst eo34 | (injection eo34 with f1_ f2_ f3_; have f4_ := f1_.symm; have f5_ := f3_.symm; clear f1_ f2_ f3_; subst f4_; subst f5_))
                                    refine hK.out _ _ ⟨(blk_cell BK144.out 0).trans rfl, (blk_cell BK144.out 1).trans rfl, (blk_cell BK144.out 2).trans rfl, (blk_cell BK144.out 3).trans rfl⟩ (fun hHeld => ?_)
                                    clear hK K
                                    refine norm_ (a' := ?_) ?_ ?_
                                    rotate_left
                                    · show Act.put _ (some 18) _ = _
                                      simp only [Act.put, List.setIfInBounds_toArray, List.set_cons_zero, List.set_cons_succ, i64_w, i32_w]
                                      rfl
                                    refine one_ (i := 6) (N := some 19) (tf 7 1) rfl rfl (one_of HT_.out (by kernel_rfl)) (by decide) (fun K hK => ?_)
                                    refine Kd.N_lit_step k58 _ 58 ?hg (N' := 19) ?hd (xs := ([(⟨(⟨t145, t146⟩ : S55), t147⟩ : S58), (⟨(⟨t150, t151⟩ : S55), t152⟩ : S58), (⟨(⟨t155, t156⟩ : S55), t157⟩ : S58)] : List (S58))) (inner := [.string t145, .string t146, .slice Ao32 t147.length co32, .string t150, .string t151, .slice Ao33 t152.length co33, .string t155, .string t156, .slice Ao34 t157.length co34]) (ok := (fun k_ => k_ ≠ gb144)) (okp := (fun k_ => k_ ≠ gb144)) ?hr ?hp (fun _ hk => hk) ((show ∀ k_, w31.heap.size ≤ k_ → (fun k_ => k_ ≠ gb144) k_ from fun k_ hk => Kd.freshB (g := gb144) (o := .cells #[.string (⟨#[111, 105, 108]⟩ : ByteArray), .int .i64 1, .int .i64 9, .int .i64 0] 24 (0, 0)) (bk_ BK144.out) k_ hk) _ (Nat.le_refl _)) (Below.refl _ _) (Nat.le_refl _) (by simp) ?_; (case hd => rfl); (case hg => rfl); (case hr => first | (go_simp; done) | (go_simp; rfl)); (case hp => exact (Reps.c3 (show Kd.FK k58 _ _ (⟨(⟨t145, t146⟩ : S55), t147⟩ : S58) [.string t145, .string t146, .slice Ao32 t147.length co32] from (k58_mkF _ _ (⟨(⟨t145, t146⟩ : S55), t147⟩ : S58) (Kd.R_reads' (Kd.R_mono (ok' := (fun k_ => k_ ≠ gb144)) (Kd.R_types (HO149.out) BK144.out (by decide)) (fun k_ hk => hk.2))).2.1 (Kd.R_F (Kd.R_mono (ok' := (fun k_ => k_ ≠ gb144)) (Kd.R_types (HO149.out) BK144.out (by decide)) (fun k_ hk => hk.2))))) (Reps.c3 (show Kd.FK k58 _ _ (⟨(⟨t150, t151⟩ : S55), t152⟩ : S58) [.string t150, .string t151, .slice Ao33 t152.length co33] from (k58_mkF _ _ (⟨(⟨t150, t151⟩ : S55), t152⟩ : S58) (Kd.R_reads' (Kd.R_mono (ok' := (fun k_ => k_ ≠ gb144)) (Kd.R_types (HO154.out) BK144.out (by decide)) (fun k_ hk => hk.2))).2.1 (Kd.R_F (Kd.R_mono (ok' := (fun k_ => k_ ≠ gb144)) (Kd.R_types (HO154.out) BK144.out (by decide)) (fun k_ hk => hk.2))))) (Reps.c3 (show Kd.FK k58 _ _ (⟨(⟨t155, t156⟩ : S55), t157⟩ : S58) [.string t155, .string t156, .slice Ao34 t157.length co34] from (k58_mkF _ _ (⟨(⟨t155, t156⟩ : S55), t157⟩ : S58) (Kd.R_reads' (Kd.R_mono (ok' := (fun k_ => k_ ≠ gb144)) (Kd.R_types (HO159.out) BK144.out (by decide)) (fun k_ hk => hk.2))).2.1 (Kd.R_F (Kd.R_mono (ok' := (fun k_ => k_ ≠ gb144)) (Kd.R_types (HO159.out) BK144.out (by decide)) (fun k_ hk => hk.2))))) (Reps.none _ _)))))
                                    intro v161 w35 ho36 hb hg_ hnew_
                                    clear hg_ hnew_
                                    (first | rw [← Ny160.out] at ho36 | (simp only [Int.reduceToNat] at ho36; rw [← Ny160.out] at ho36))
                                    have n0_ := Aside0.mk (Kd.N_lower ho36 (below_size (bz1 HB.out GE144.out)))
                                    have n1_ := Aside0.mk (blk_below (g := gb144) (o := .cells #[.string (⟨#[111, 105, 108]⟩ : ByteArray), .int .i64 1, .int .i64 9, .int .i64 0] 24 (0, 0)) (bk_ BK144.out) hb)
                                    have n2_ := Aside0.mk (below_step (bz1 HB.out GE144.out) hb)
                                    clear BK144
                                    clear HB
                                    clear HO149
                                    clear HO154
                                    clear HO159
                                    have HO162 := n0_
                                    have BK144 := n1_
                                    have HB := n2_
                                    clear n0_ n1_ n2_
                                    clear hb ho36
                                    refine hK.out _ _ ⟨(blk_cell BK144.out 0).trans rfl, (blk_cell BK144.out 1).trans rfl, (blk_cell BK144.out 2).trans rfl, (blk_cell BK144.out 3).trans rfl⟩ (fun hHeld => ?_)
                                    clear hK K
                                    refine norm_ (a' := ?_) ?_ ?_
                                    rotate_left
                                    · show Act.put _ (some 19) _ = _
                                      simp only [Act.put, List.setIfInBounds_toArray, List.set_cons_zero, List.set_cons_succ, i64_w, i32_w]
                                      rfl
                                    refine pv_ 7 2 (tf 8 0) HT_ ?_
                                    refine done_ (done_of HT_.out (by kernel_rfl)) ?_
                                    have hcz37_0 : w35.cell? ⟨gb144, 0, none⟩ = some (.string (⟨#[111, 105, 108]⟩ : ByteArray)) := (blk_cell BK144.out 0).trans rfl
                                    have hcz37_1 : w35.cell? ⟨gb144, 1, none⟩ = some (.int .i64 1) := (blk_cell BK144.out 1).trans rfl
                                    have hcz37_2 : w35.cell? ⟨gb144, 2, none⟩ = some (.int .i64 9) := (blk_cell BK144.out 2).trans rfl
                                    have hcz37_3 : w35.cell? ⟨gb144, 3, none⟩ = some (.int .i64 0) := (blk_cell BK144.out 3).trans rfl
                                    have hfz37_0 := blk_frozen BK144.out 0
                                    have hfz37_1 := blk_frozen BK144.out 1
                                    have hfz37_2 := blk_frozen BK144.out 2
                                    have hfz37_3 := blk_frozen BK144.out 3
                                    obtain ⟨Ao38, co38, eo38⟩ := Kd.N_slice HO162.out
                                    subst eo38
                                    try go_wp2_with (first | ((with_reducible refine gate_callee (f := 10) rfl ?_); refine goesL_ (some 23) rfl rfl Try.func10 (by kernel_rfl) rfl #[.slice Ao38 y160.length co38, .agg #[.string (⟨#[111, 105, 108]⟩ : ByteArray), .int .i64 1, .int .i64 9, .int .i64 0], .bool true, .int .i64 4] rfl pm_ ?_; (with_reducible refine (tear_Parts.calls k _ _ y160 (⟨#[111, 105, 108]⟩ : ByteArray) 1 9 0 true 4 t163 t166 _ ?side1 ?side2 A4.out).mono ?_); (case side1 => repeat (first | exact (Kd.N_reads' HO162.out).2.2 | (with_reducible refine Kd.C_alloc ?_ _) | (with_reducible refine Kd.C_drewN ?_ _) | (with_reducible refine Kd.C_drew ?_))); (case side2 => exact (Kd.N_reads' HO162.out).2.1); rintro e w39 ⟨v164, rfl, ho0, hb⟩; refine ⟨_, rfl, ?_⟩; have n0_ := Aside0.mk (Kd.N_elder' (by (with_reducible repeat (first | apply Kd.N_alloc | apply Kd.N_drewN | apply Kd.N_drew)); exact HO162.out) (Kd.R_base ho0) hb); have n1_ := Aside0.mk (Kd.R_lower ho0 (below_size (bz1 HB.out GE144.out))); have n2_ := Aside0.mk (blk_below (g := gb144) (o := .cells #[.string (⟨#[111, 105, 108]⟩ : ByteArray), .int .i64 1, .int .i64 9, .int .i64 0] 24 (0, 0)) (bk_ BK144.out) hb); have n3_ := Aside0.mk (below_step (bz1 HB.out GE144.out) hb); clear HO162; clear BK144; clear HB; have HO162 := n0_; have HO165 := n1_; have BK144 := n2_; have HB := n3_; clear n0_ n1_ n2_ n3_; (try clear hb); (try clear hb2); (try clear hk); (try clear hi); (try clear ho0); have hcz40_0 : w39.cell? ⟨gb144, 0, none⟩ = some (.string (⟨#[111, 105, 108]⟩ : ByteArray)) := (blk_cell BK144.out 0).trans rfl; have hcz40_1 : w39.cell? ⟨gb144, 1, none⟩ = some (.int .i64 1) := (blk_cell BK144.out 1).trans rfl; have hcz40_2 : w39.cell? ⟨gb144, 2, none⟩ = some (.int .i64 9) := (blk_cell BK144.out 2).trans rfl; have hcz40_3 : w39.cell? ⟨gb144, 3, none⟩ = some (.int .i64 0) := (blk_cell BK144.out 3).trans rfl; have hfz40_0 := blk_frozen BK144.out 0; have hfz40_1 := blk_frozen BK144.out 1; have hfz40_2 := blk_frozen BK144.out 2; have hfz40_3 := blk_frozen BK144.out 3; obtain ⟨Ao41, co41, eo41⟩ := Kd.R_slice HO165.out; subst eo41) | ((with_reducible refine gate_callee (f := 13) rfl ?_); refine goesL_ (some 30) rfl rfl Try.func13 (by kernel_rfl) rfl #[.slice Ao38 y160.length co38, .agg #[.string (⟨#[111, 105, 108]⟩ : ByteArray), .int .i64 1, .int .i64 9, .int .i64 0], .bool true, .slice Ao41 t163.length co41] rfl pm_ ?_; (with_reducible refine (tear_Apply.calls k _ _ y160 (⟨#[111, 105, 108]⟩ : ByteArray) 1 9 0 true _ _ t163 t167 t170 _ ?side1 ?side2 ?side3 ?side4 A5.out).mono ?_); (case side1 => repeat (first | exact (Kd.N_reads' HO162.out).2.2 | (with_reducible refine Kd.C_alloc ?_ _) | (with_reducible refine Kd.C_drewN ?_ _) | (with_reducible refine Kd.C_drew ?_))); (case side2 => exact (Kd.N_reads' HO162.out).2.1); (case side3 => repeat (first | exact (Kd.R_reads' HO165.out).2.2 | (with_reducible refine Kd.C_alloc ?_ _) | (with_reducible refine Kd.C_drewN ?_ _) | (with_reducible refine Kd.C_drew ?_))); (case side4 => exact (Kd.R_reads' HO165.out).2.1); rintro e w42 ⟨v168, rfl, ho0, hb⟩; refine ⟨_, rfl, ?_⟩; have n0_ := Aside0.mk (Kd.N_elder' (by (with_reducible repeat (first | apply Kd.N_alloc | apply Kd.N_drewN | apply Kd.N_drew)); exact HO162.out) (by first | exact Kd.N_base ho0 | exact Kd.N_base (Kd.S_N ho0)) hb); have n1_ := Aside0.mk (Kd.R_below (br_ HO165.out) hb); have n2_ := Aside0.mk (Kd.N_lower (Kd.N_mono (ok' := fun k_ => some k_ ≠ (.slice Ao38 y160.length co38 : Value).ownBlock ∧ some k_ ≠ (.slice Ao41 t163.length co41 : Value).ownBlock ∧ k_ ≠ gb144) (Kd.S_N (Kd.S_bound ho0)) (fun k_ hk_ => ⟨(Kd.fresh' (Kd.N_lt (by (with_reducible repeat (first | apply Kd.N_alloc | apply Kd.N_drewN | apply Kd.N_drew)); exact HO162.out)) k_ hk_.2.1), (Kd.fresh' (Kd.R_lt (br_ HO165.out)) k_ hk_.2.1), (Kd.freshB (g := gb144) (o := .cells #[.string (⟨#[111, 105, 108]⟩ : ByteArray), .int .i64 1, .int .i64 9, .int .i64 0] 24 (0, 0)) (bk_ BK144.out) k_ hk_.2.1)⟩)) (below_size (bz1 HB.out GE144.out))); have n3_ := Aside0.mk (blk_below (g := gb144) (o := .cells #[.string (⟨#[111, 105, 108]⟩ : ByteArray), .int .i64 1, .int .i64 9, .int .i64 0] 24 (0, 0)) (bk_ BK144.out) hb); have n4_ := Aside0.mk (below_step (bz1 HB.out GE144.out) hb); clear HO162; clear HO165; clear BK144; clear HB; have HO162 := n0_; have HO165 := n1_; have HO169 := n2_; have BK144 := n3_; have HB := n4_; clear n0_ n1_ n2_ n3_ n4_; (try clear hb); (try clear hb2); (try clear hk); (try clear hi); (try clear ho0)) | ((with_reducible refine gate_dst (N := 7) rfl ?_); (try (refine gate_guard (by rfl) ?_; dsimp only)); refine box_event ?hg (N := 7) ?hd (cs := #[.string (⟨#[]⟩ : ByteArray), .int .i64 0, .int .i64 0, .int .i64 0, .int .i64 0, .int .i64 0, .bool false]) (t := 44) ?hr ?_; (case hd => rfl); (case hg => rfl); (case hr => first | (go_simp; done) | (go_simp; rfl)); intro gb171 hg w43 hbox hb; have n0_ := Aside0.mk (Kd.N_below (Kd.N_elderB (by (with_reducible repeat (first | apply Kd.N_alloc | apply Kd.N_drewN | apply Kd.N_drew)); exact HO162.out) gb171 (Nat.le_of_eq hg.symm)) hb); have n1_ := Aside0.mk (Kd.R_below (br_ HO165.out) hb); have n2_ := Aside0.mk (Kd.N_below (Kd.N_elderB (by (with_reducible repeat (first | apply Kd.N_alloc | apply Kd.N_drewN | apply Kd.N_drew)); exact HO169.out) gb171 (Nat.le_of_eq hg.symm)) hb); have n3_ := Aside0.mk (blk_below (g := gb144) (o := .cells #[.string (⟨#[111, 105, 108]⟩ : ByteArray), .int .i64 1, .int .i64 9, .int .i64 0] 24 (0, 0)) (bk_ BK144.out) hb); have n4_ := Aside0.mk (below_step (bz1 HB.out GE144.out) hb); have n5_ := Aside0.mk (hbox); have n6_ := Aside0.mk ((by rw [hg]; exact (below_size (bz1 HB.out GE144.out)) : w.heap.size ≤ gb171)); have n7_ := Aside0.mk ((by rw [hg]; exact (below_size (bz1 HB.out GE144.out)) : w.heap.size ≤ gb171)); have n8_ := Aside0.mk ((by rw [hg]; exact Nat.ne_of_lt (blk_lt (g := gb144) (o := .cells #[.string (⟨#[111, 105, 108]⟩ : ByteArray), .int .i64 1, .int .i64 9, .int .i64 0] 24 (0, 0)) (bk_ BK144.out)) : gb144 ≠ gb171)); have n9_ := Aside0.mk ((by rw [hg]; exact Nat.ne_of_gt (blk_lt (g := gb144) (o := .cells #[.string (⟨#[111, 105, 108]⟩ : ByteArray), .int .i64 1, .int .i64 9, .int .i64 0] 24 (0, 0)) (bk_ BK144.out)) : gb171 ≠ gb144)); clear HO162; clear HO165; clear HO169; clear BK144; clear HB; have HO162 := n0_; have HO165 := n1_; have HO169 := n2_; have BK144 := n3_; have HB := n4_; have BK171 := n5_; have GW171 := n6_; have GE171 := n7_; have NB144_171 := n8_; have NB171_144 := n9_; clear n0_ n1_ n2_ n3_ n4_ n5_ n6_ n7_ n8_ n9_; clear hb hbox hg; have hnb44 := NB171_144.out; have hnc44 := NB144_171.out; have hcz45_0 : w43.cell? ⟨gb171, 0, none⟩ = some (.string (⟨#[]⟩ : ByteArray)) := (blk_cell BK171.out 0).trans rfl; have hcz45_1 : w43.cell? ⟨gb171, 1, none⟩ = some (.int .i64 0) := (blk_cell BK171.out 1).trans rfl; have hcz45_2 : w43.cell? ⟨gb171, 2, none⟩ = some (.int .i64 0) := (blk_cell BK171.out 2).trans rfl; have hcz45_3 : w43.cell? ⟨gb171, 3, none⟩ = some (.int .i64 0) := (blk_cell BK171.out 3).trans rfl; have hcz45_4 : w43.cell? ⟨gb171, 4, none⟩ = some (.int .i64 0) := (blk_cell BK171.out 4).trans rfl; have hcz45_5 : w43.cell? ⟨gb171, 5, none⟩ = some (.int .i64 0) := (blk_cell BK171.out 5).trans rfl; have hcz45_6 : w43.cell? ⟨gb171, 6, none⟩ = some (.bool false) := (blk_cell BK171.out 6).trans rfl; have hfz45_0 := blk_frozen BK171.out 0; have hfz45_1 := blk_frozen BK171.out 1; have hfz45_2 := blk_frozen BK171.out 2; have hfz45_3 := blk_frozen BK171.out 3; have hfz45_4 := blk_frozen BK171.out 4; have hfz45_5 := blk_frozen BK171.out 5; have hfz45_6 := blk_frozen BK171.out 6) | ((with_reducible refine gate_callee (f := 16) rfl ?_); refine goesL_ (some 36) rfl rfl Try.func16 (by kernel_rfl) rfl #[.agg #[.string (⟨#[111, 105, 108]⟩ : ByteArray), .int .i64 0, .int .i64 100, .int .i64 1, .int .i64 0, .int .i64 1000, .bool false], .int .i64 47, .int .i64 45, .bool true, .int .i64 3] rfl pm_ ?_; (with_reducible refine (tear_Worth.calls k (⟨#[111, 105, 108]⟩ : ByteArray) 0 100 1 0 1000 false 47 45 true 3 t172 t173 _ A6.out).mono ?_); rintro e w46 ⟨rfl, hb⟩; refine ⟨_, rfl, ?_⟩; have n0_ := Aside0.mk (Kd.N_below (by (with_reducible repeat (first | apply Kd.N_alloc | apply Kd.N_drewN | apply Kd.N_drew)); exact (Kd.N_mono (Kd.N_far (p := ⟨gb171, 6, none⟩) (Kd.N_far (p := ⟨gb171, 5, none⟩) (Kd.N_far (p := ⟨gb171, 4, none⟩) (Kd.N_far (p := ⟨gb171, 3, none⟩) (Kd.N_far (p := ⟨gb171, 2, none⟩) (Kd.N_far (p := ⟨gb171, 1, none⟩) (Kd.N_far (p := ⟨gb171, 0, none⟩) (Kd.N_mono HO162.out (fun k_ hk => (⟨hk, hk.2⟩ : _ ∧ k_ ≠ gb171))) (fun _ hk => hk.2) (.string (⟨#[111, 105, 108]⟩ : ByteArray))) (fun _ hk => hk.2) (.int .i64 0)) (fun _ hk => hk.2) (.int .i64 100)) (fun _ hk => hk.2) (.int .i64 1)) (fun _ hk => hk.2) (.int .i64 0)) (fun _ hk => hk.2) (.int .i64 1000)) (fun _ hk => hk.2) (.bool false)) (fun _ h_ => h_.1))) hb); have n1_ := Aside0.mk (Kd.R_below (by (with_reducible repeat (first | apply Kd.R_alloc | apply Kd.R_drewN | apply Kd.R_drew)); exact (Kd.R_mono (Kd.R_far (p := ⟨gb171, 6, none⟩) (Kd.R_far (p := ⟨gb171, 5, none⟩) (Kd.R_far (p := ⟨gb171, 4, none⟩) (Kd.R_far (p := ⟨gb171, 3, none⟩) (Kd.R_far (p := ⟨gb171, 2, none⟩) (Kd.R_far (p := ⟨gb171, 1, none⟩) (Kd.R_far (p := ⟨gb171, 0, none⟩) (Kd.R_types HO165.out BK171.out (by decide)) (fun _ hk => hk.2) (.string (⟨#[111, 105, 108]⟩ : ByteArray))) (fun _ hk => hk.2) (.int .i64 0)) (fun _ hk => hk.2) (.int .i64 100)) (fun _ hk => hk.2) (.int .i64 1)) (fun _ hk => hk.2) (.int .i64 0)) (fun _ hk => hk.2) (.int .i64 1000)) (fun _ hk => hk.2) (.bool false)) (fun _ h_ => h_.1))) hb); have n2_ := Aside0.mk (Kd.N_below (by (with_reducible repeat (first | apply Kd.N_alloc | apply Kd.N_drewN | apply Kd.N_drew)); exact (Kd.N_mono (Kd.N_far (p := ⟨gb171, 6, none⟩) (Kd.N_far (p := ⟨gb171, 5, none⟩) (Kd.N_far (p := ⟨gb171, 4, none⟩) (Kd.N_far (p := ⟨gb171, 3, none⟩) (Kd.N_far (p := ⟨gb171, 2, none⟩) (Kd.N_far (p := ⟨gb171, 1, none⟩) (Kd.N_far (p := ⟨gb171, 0, none⟩) (Kd.N_mono HO169.out (fun k_ hk => (⟨hk, hk.2⟩ : _ ∧ k_ ≠ gb171))) (fun _ hk => hk.2) (.string (⟨#[111, 105, 108]⟩ : ByteArray))) (fun _ hk => hk.2) (.int .i64 0)) (fun _ hk => hk.2) (.int .i64 100)) (fun _ hk => hk.2) (.int .i64 1)) (fun _ hk => hk.2) (.int .i64 0)) (fun _ hk => hk.2) (.int .i64 1000)) (fun _ hk => hk.2) (.bool false)) (fun _ h_ => h_.1))) hb); have n3_ := Aside0.mk (blk_below (g := gb144) (o := .cells #[.string (⟨#[111, 105, 108]⟩ : ByteArray), .int .i64 1, .int .i64 9, .int .i64 0] 24 (0, 0)) (by (with_reducible repeat (first | refine blk_drewN ?_ _ | refine blk_drew ?_ | refine blk_alloc ?_ _)); refine blk_far ?_ NB144_171.out _; (with_reducible repeat (first | refine blk_drewN ?_ _ | refine blk_drew ?_ | refine blk_alloc ?_ _)); refine blk_far ?_ NB144_171.out _; (with_reducible repeat (first | refine blk_drewN ?_ _ | refine blk_drew ?_ | refine blk_alloc ?_ _)); refine blk_far ?_ NB144_171.out _; (with_reducible repeat (first | refine blk_drewN ?_ _ | refine blk_drew ?_ | refine blk_alloc ?_ _)); refine blk_far ?_ NB144_171.out _; (with_reducible repeat (first | refine blk_drewN ?_ _ | refine blk_drew ?_ | refine blk_alloc ?_ _)); refine blk_far ?_ NB144_171.out _; (with_reducible repeat (first | refine blk_drewN ?_ _ | refine blk_drew ?_ | refine blk_alloc ?_ _)); refine blk_far ?_ NB144_171.out _; (with_reducible repeat (first | refine blk_drewN ?_ _ | refine blk_drew ?_ | refine blk_alloc ?_ _)); refine blk_far ?_ NB144_171.out _; (with_reducible repeat (first | refine blk_drewN ?_ _ | refine blk_drew ?_ | refine blk_alloc ?_ _)); exact BK144.out) hb); have n4_ := Aside0.mk (blk_below (g := gb171) (o := .cells #[.string (⟨#[111, 105, 108]⟩ : ByteArray), .int .i64 0, .int .i64 100, .int .i64 1, .int .i64 0, .int .i64 1000, .bool false] 44 (0, 0)) (by (with_reducible repeat (first | refine blk_drewN ?_ _ | refine blk_drew ?_ | refine blk_alloc ?_ _)); refine blk_put (cs := #[.string (⟨#[111, 105, 108]⟩ : ByteArray), .int .i64 0, .int .i64 100, .int .i64 1, .int .i64 0, .int .i64 1000, .bool false]) ?_ 6 _ rfl; (with_reducible repeat (first | refine blk_drewN ?_ _ | refine blk_drew ?_ | refine blk_alloc ?_ _)); refine blk_put (cs := #[.string (⟨#[111, 105, 108]⟩ : ByteArray), .int .i64 0, .int .i64 100, .int .i64 1, .int .i64 0, .int .i64 0, .bool false]) ?_ 5 _ rfl; (with_reducible repeat (first | refine blk_drewN ?_ _ | refine blk_drew ?_ | refine blk_alloc ?_ _)); refine blk_put (cs := #[.string (⟨#[111, 105, 108]⟩ : ByteArray), .int .i64 0, .int .i64 100, .int .i64 1, .int .i64 0, .int .i64 0, .bool false]) ?_ 4 _ rfl; (with_reducible repeat (first | refine blk_drewN ?_ _ | refine blk_drew ?_ | refine blk_alloc ?_ _)); refine blk_put (cs := #[.string (⟨#[111, 105, 108]⟩ : ByteArray), .int .i64 0, .int .i64 100, .int .i64 0, .int .i64 0, .int .i64 0, .bool false]) ?_ 3 _ rfl; (with_reducible repeat (first | refine blk_drewN ?_ _ | refine blk_drew ?_ | refine blk_alloc ?_ _)); refine blk_put (cs := #[.string (⟨#[111, 105, 108]⟩ : ByteArray), .int .i64 0, .int .i64 0, .int .i64 0, .int .i64 0, .int .i64 0, .bool false]) ?_ 2 _ rfl; (with_reducible repeat (first | refine blk_drewN ?_ _ | refine blk_drew ?_ | refine blk_alloc ?_ _)); refine blk_put (cs := #[.string (⟨#[111, 105, 108]⟩ : ByteArray), .int .i64 0, .int .i64 0, .int .i64 0, .int .i64 0, .int .i64 0, .bool false]) ?_ 1 _ rfl; (with_reducible repeat (first | refine blk_drewN ?_ _ | refine blk_drew ?_ | refine blk_alloc ?_ _)); refine blk_put (cs := #[.string (⟨#[]⟩ : ByteArray), .int .i64 0, .int .i64 0, .int .i64 0, .int .i64 0, .int .i64 0, .bool false]) ?_ 0 _ rfl; (with_reducible repeat (first | refine blk_drewN ?_ _ | refine blk_drew ?_ | refine blk_alloc ?_ _)); exact BK171.out) hb); have n5_ := Aside0.mk (below_step (bz2 HB.out GE144.out GE171.out) hb); clear HO162; clear HO165; clear HO169; clear BK144; clear BK171; clear HB; have HO162 := n0_; have HO165 := n1_; have HO169 := n2_; have BK144 := n3_; have BK171 := n4_; have HB := n5_; clear n0_ n1_ n2_ n3_ n4_ n5_; (try clear hb); (try clear hb2); (try clear hk); (try clear hi); have hcz47_0 : w46.cell? ⟨gb171, 0, none⟩ = some (.string (⟨#[111, 105, 108]⟩ : ByteArray)) := (blk_cell BK171.out 0).trans rfl; have hcz47_1 : w46.cell? ⟨gb171, 1, none⟩ = some (.int .i64 0) := (blk_cell BK171.out 1).trans rfl; have hcz47_2 : w46.cell? ⟨gb171, 2, none⟩ = some (.int .i64 100) := (blk_cell BK171.out 2).trans rfl; have hcz47_3 : w46.cell? ⟨gb171, 3, none⟩ = some (.int .i64 1) := (blk_cell BK171.out 3).trans rfl; have hcz47_4 : w46.cell? ⟨gb171, 4, none⟩ = some (.int .i64 0) := (blk_cell BK171.out 4).trans rfl; have hcz47_5 : w46.cell? ⟨gb171, 5, none⟩ = some (.int .i64 1000) := (blk_cell BK171.out 5).trans rfl; have hcz47_6 : w46.cell? ⟨gb171, 6, none⟩ = some (.bool false) := (blk_cell BK171.out 6).trans rfl; have hfz47_0 := blk_frozen BK171.out 0; have hfz47_1 := blk_frozen BK171.out 1; have hfz47_2 := blk_frozen BK171.out 2; have hfz47_3 := blk_frozen BK171.out 3; have hfz47_4 := blk_frozen BK171.out 4; have hfz47_5 := blk_frozen BK171.out 5; have hfz47_6 := blk_frozen BK171.out 6) | ((with_reducible refine gate_callee (f := 16) rfl ?_); refine goesL_ (some 41) rfl rfl Try.func16 (by kernel_rfl) rfl #[.agg #[.string (⟨#[111, 105, 108]⟩ : ByteArray), .int .i64 0, .int .i64 100, .int .i64 1, .int .i64 0, .int .i64 1000, .bool false], .int .i64 47, .int .i64 45, .bool false, .int .i64 3] rfl pm_ ?_; (with_reducible refine (tear_Worth.calls k (⟨#[111, 105, 108]⟩ : ByteArray) 0 100 1 0 1000 false 47 45 false 3 t174 t175 _ A7.out).mono ?_); rintro e w48 ⟨rfl, hb⟩; refine ⟨_, rfl, ?_⟩; have n0_ := Aside0.mk (Kd.N_below (by (with_reducible repeat (first | apply Kd.N_alloc | apply Kd.N_drewN | apply Kd.N_drew)); exact HO162.out) hb); have n1_ := Aside0.mk (Kd.R_below (br_ HO165.out) hb); have n2_ := Aside0.mk (Kd.N_below (by (with_reducible repeat (first | apply Kd.N_alloc | apply Kd.N_drewN | apply Kd.N_drew)); exact HO169.out) hb); have n3_ := Aside0.mk (blk_below (g := gb144) (o := .cells #[.string (⟨#[111, 105, 108]⟩ : ByteArray), .int .i64 1, .int .i64 9, .int .i64 0] 24 (0, 0)) (bk_ BK144.out) hb); have n4_ := Aside0.mk (blk_below (g := gb171) (o := .cells #[.string (⟨#[111, 105, 108]⟩ : ByteArray), .int .i64 0, .int .i64 100, .int .i64 1, .int .i64 0, .int .i64 1000, .bool false] 44 (0, 0)) (bk_ BK171.out) hb); have n5_ := Aside0.mk (below_step (bz2 HB.out GE144.out GE171.out) hb); clear HO162; clear HO165; clear HO169; clear BK144; clear BK171; clear HB; have HO162 := n0_; have HO165 := n1_; have HO169 := n2_; have BK144 := n3_; have BK171 := n4_; have HB := n5_; clear n0_ n1_ n2_ n3_ n4_ n5_; (try clear hb); (try clear hb2); (try clear hk); (try clear hi); obtain ⟨Ao49, co49, eo49⟩ := Kd.N_slice HO169.out; subst eo49; have p176 : 0 ≤ (0 : Int) := (by omega); have q176 : 0 < (t163.length : Int) := od_; obtain ⟨ad176, e176, hx176_0, hx176_1, hx176_2⟩ := at_T62 (Kd.R_reads' HO165.out).2.2 0 p176 q176; cases e176; have qi176 : (0 < t163.length) = True := eq_true (by omega); (try rw [show ((0 : Int)).toNat = 0 from rfl] at hx176_0); (try rw [show 0 * 3 = 0 from rfl] at hx176_0); (try rw [Addr.add_zero'] at hx176_0); (try rw [show ((0 : Int)).toNat = 0 from rfl] at hx176_1); (try rw [show 0 * 3 = 0 from rfl] at hx176_1); (try rw [Addr.add_zero'] at hx176_1); (try rw [show ((0 : Int)).toNat = 0 from rfl] at hx176_2); (try rw [show 0 * 3 = 0 from rfl] at hx176_2); (try rw [Addr.add_zero'] at hx176_2); replace p176 := eq_true p176; replace q176 := eq_true q176; have p177 : 0 ≤ (1 : Int) := (by omega); have q177 : 1 < (t163.length : Int) := od_; obtain ⟨ad177, e177, hx177_0, hx177_1, hx177_2⟩ := at_T62 (Kd.R_reads' HO165.out).2.2 1 p177 q177; obtain rfl : ad176 = ad177 := (by injection e177); (try simp only [show (1 : Int).toNat = 1 from rfl, Nat.reduceMul, Nat.reduceEqDiff, Go.Addr.add, ↓reduceIte] at hx177_0); (try simp only [show (1 : Int).toNat = 1 from rfl, Nat.reduceMul, Nat.reduceEqDiff, Go.Addr.add, ↓reduceIte] at hx177_1); (try simp only [show (1 : Int).toNat = 1 from rfl, Nat.reduceMul, Nat.reduceEqDiff, Go.Addr.add, ↓reduceIte] at hx177_2); have qi177 : (1 < t163.length) = True := eq_true (by omega); (try rw [show ((1 : Int)).toNat = 1 from rfl] at hx177_0); (try rw [show 1 * 3 = 3 from rfl] at hx177_0); (try rw [show ((1 : Int)).toNat = 1 from rfl] at hx177_1); (try rw [show 1 * 3 = 3 from rfl] at hx177_1); (try rw [show ((1 : Int)).toNat = 1 from rfl] at hx177_2); (try rw [show 1 * 3 = 3 from rfl] at hx177_2); replace p177 := eq_true p177; replace q177 := eq_true q177; have p178 : 0 ≤ (2 : Int) := (by omega); have q178 : 2 < (t163.length : Int) := od_; obtain ⟨ad178, e178, hx178_0, hx178_1, hx178_2⟩ := at_T62 (Kd.R_reads' HO165.out).2.2 2 p178 q178; obtain rfl : ad176 = ad178 := (by injection e178); (try simp only [show (2 : Int).toNat = 2 from rfl, Nat.reduceMul, Nat.reduceEqDiff, Go.Addr.add, ↓reduceIte] at hx178_0); (try simp only [show (2 : Int).toNat = 2 from rfl, Nat.reduceMul, Nat.reduceEqDiff, Go.Addr.add, ↓reduceIte] at hx178_1); (try simp only [show (2 : Int).toNat = 2 from rfl, Nat.reduceMul, Nat.reduceEqDiff, Go.Addr.add, ↓reduceIte] at hx178_2); have qi178 : (2 < t163.length) = True := eq_true (by omega); (try rw [show ((2 : Int)).toNat = 2 from rfl] at hx178_0); (try rw [show 2 * 3 = 6 from rfl] at hx178_0); (try rw [show ((2 : Int)).toNat = 2 from rfl] at hx178_1); (try rw [show 2 * 3 = 6 from rfl] at hx178_1); (try rw [show ((2 : Int)).toNat = 2 from rfl] at hx178_2); (try rw [show 2 * 3 = 6 from rfl] at hx178_2); replace p178 := eq_true p178; replace q178 := eq_true q178; have p179 : 0 ≤ (0 : Int) := (by omega); have q179 : 0 < (t167.length : Int) := od_; obtain ⟨ad179, A179_2, c179_2, e179, hx179_0, hx179_1, hx179_2, hl179_2, hi179_2⟩ := at_T58 (Kd.N_reads' HO169.out).2.2 0 p179 q179; cases e179; obtain ⟨ce179, hce179, hMe179, hcc179⟩ := Kd.N_get HO169.out z58 0 p179 (by first | exact q179 | exact od_ | (have e_ := (Kd.N_reads' HO169.out).1; omega)); obtain ⟨ua179_2, uc179_2, rfl, ul179_2, ge179_2⟩ := k58_openF hMe179; have hv179_2 := hcc179 2 _ rfl; rw [add_field _ _ 2 (by omega)] at hv179_2; replace hv179_2 := Option.some.inj (hv179_2.symm.trans hx179_2); injection hv179_2 with hva_ hvn_ hvc_; rw [hva_] at ge179_2; rw [hvc_] at ul179_2; have HL179_2 := Aside0.mk (show Kd.V k52 52 _ w.heap.size _ _ ((rd_T58 t167 0).f1) from Kd.V_mk ul179_2 ge179_2); clear hva_ hvn_ hvc_ ge179_2 ul179_2; clear hcc179 hce179; have qi179 : (0 < t167.length) = True := eq_true (by omega); (try rw [show ((0 : Int)).toNat = 0 from rfl] at hx179_0); (try rw [show 0 * 3 = 0 from rfl] at hx179_0); (try rw [Addr.add_zero'] at hx179_0); (try rw [show ((0 : Int)).toNat = 0 from rfl] at hx179_1); (try rw [show 0 * 3 = 0 from rfl] at hx179_1); (try rw [Addr.add_zero'] at hx179_1); (try rw [show ((0 : Int)).toNat = 0 from rfl] at hx179_2); (try rw [show 0 * 3 = 0 from rfl] at hx179_2); (try rw [Addr.add_zero'] at hx179_2); have HR179_2 := Aside0.mk hi179_2; have HC179_2 := Aside0.mk hl179_2; clear hi179_2 hl179_2; replace p179 := eq_true p179; replace q179 := eq_true q179; have p180 : 0 ≤ (0 : Int) := (by omega); have q180 : 0 < (t167.length : Int) := od_; obtain ⟨ad180, A180_2, c180_2, e180, hx180_0, hx180_1, hx180_2, hl180_2, hi180_2⟩ := at_T58 (Kd.N_reads' HO169.out).2.2 0 p180 q180; obtain rfl : ad179 = ad180 := (by injection e180); obtain ⟨ce180, hce180, hMe180, hcc180⟩ := Kd.N_get HO169.out z58 0 p180 (by first | exact q180 | exact od_ | (have e_ := (Kd.N_reads' HO169.out).1; omega)); obtain ⟨ua180_2, uc180_2, rfl, ul180_2, ge180_2⟩ := k58_openF hMe180; have hv180_2 := hcc180 2 _ rfl; rw [add_field _ _ 2 (by omega)] at hv180_2; replace hv180_2 := Option.some.inj (hv180_2.symm.trans hx180_2); injection hv180_2 with hva_ hvn_ hvc_; rw [hva_] at ge180_2; rw [hvc_] at ul180_2; have HL180_2 := Aside0.mk (show Kd.V k52 52 _ w.heap.size _ _ ((rd_T58 t167 0).f1) from Kd.V_mk ul180_2 ge180_2); clear hva_ hvn_ hvc_ ge180_2 ul180_2; clear hcc180 hce180; have qi180 : (0 < t167.length) = True := eq_true (by omega); (try rw [show ((0 : Int)).toNat = 0 from rfl] at hx180_0); (try rw [show 0 * 3 = 0 from rfl] at hx180_0); (try rw [Addr.add_zero'] at hx180_0); (try rw [show ((0 : Int)).toNat = 0 from rfl] at hx180_1); (try rw [show 0 * 3 = 0 from rfl] at hx180_1); (try rw [Addr.add_zero'] at hx180_1); (try rw [show ((0 : Int)).toNat = 0 from rfl] at hx180_2); (try rw [show 0 * 3 = 0 from rfl] at hx180_2); (try rw [Addr.add_zero'] at hx180_2); have HR180_2 := Aside0.mk hi180_2; have HC180_2 := Aside0.mk hl180_2; clear hi180_2 hl180_2; replace p180 := eq_true p180; replace q180 := eq_true q180; have ea_ := Option.some.inj (hx179_2.symm.trans hx180_2); injection ea_ with ea_ en_ ec_; subst ea_; subst ec_; clear en_; have p181 : 0 ≤ (0 : Int) := (by omega); have q181 : 0 < (((rd_T58 t167 0).f1).length : Int) := od_; obtain ⟨ad181, e181, hx181_0, hx181_1, hx181_2, hx181_3, hx181_4, hx181_5⟩ := at_T52 (by repeat (first | (with_reducible exact HR180_2.out) | (with_reducible refine Kd.C_alloc ?_ _) | (with_reducible refine Kd.C_drewN ?_ _) | (with_reducible refine Kd.C_drew ?_) | exact HR180_2.out)) 0 p181 q181; cases e181; have qi181 : (0 < ((rd_T58 t167 0).f1).length) = True := eq_true (by omega); (try rw [show ((0 : Int)).toNat = 0 from rfl] at hx181_0); (try rw [show 0 * 6 = 0 from rfl] at hx181_0); (try rw [Addr.add_zero'] at hx181_0); (try rw [show ((0 : Int)).toNat = 0 from rfl] at hx181_1); (try rw [show 0 * 6 = 0 from rfl] at hx181_1); (try rw [Addr.add_zero'] at hx181_1); (try rw [show ((0 : Int)).toNat = 0 from rfl] at hx181_2); (try rw [show 0 * 6 = 0 from rfl] at hx181_2); (try rw [Addr.add_zero'] at hx181_2); (try rw [show ((0 : Int)).toNat = 0 from rfl] at hx181_3); (try rw [show 0 * 6 = 0 from rfl] at hx181_3); (try rw [Addr.add_zero'] at hx181_3); (try rw [show ((0 : Int)).toNat = 0 from rfl] at hx181_4); (try rw [show 0 * 6 = 0 from rfl] at hx181_4); (try rw [Addr.add_zero'] at hx181_4); (try rw [show ((0 : Int)).toNat = 0 from rfl] at hx181_5); (try rw [show 0 * 6 = 0 from rfl] at hx181_5); (try rw [Addr.add_zero'] at hx181_5); replace p181 := eq_true p181; replace q181 := eq_true q181))
                                    go_ret
                                    exact ⟨by first | rfl | (simp [errW_none, errW_some] <;> rfl) | (simp [*, errW_none, errW_some] <;> rfl), bz2 HB.out GE144.out GE171.out⟩
                                  · rw [if_neg c24] at H
                                    exact absurd H (by simp)
                                · rw [if_neg c23] at H
                                  exact absurd (H.trans (congrArg some HRT.out)) (by first | simp [] | (simp only []; (repeat' split) <;> simp))
                              · rw [if_neg c22] at H
                                exact absurd H (by simp)
                            · rw [if_neg c21] at H
                              exact absurd (H.trans (congrArg some HRT.out)) (by first | simp [] | (simp only []; (repeat' split) <;> simp))
                          · rw [if_neg c20] at H
                            exact absurd H (by simp)
                        · rw [if_neg c19] at H
                          exact absurd (H.trans (congrArg some HRT.out)) (by first | simp [] | (simp only []; (repeat' split) <;> simp))
                      · rw [if_neg c18] at H
                        exact absurd H (by simp)
                    · rw [if_neg c17] at H
                      exact absurd (H.trans (congrArg some HRT.out)) (by first | simp [] | (simp only []; (repeat' split) <;> simp))
                  · rw [if_neg c16] at H
                    exact absurd H (by simp)
                · rw [if_neg c15] at H
                  exact absurd (H.trans (congrArg some HRT.out)) (by first | simp [] | (simp only []; (repeat' split) <;> simp))
              · rw [if_neg c14] at H
                exact absurd (H.trans (congrArg some HRT.out)) (by first | simp [] | (simp only []; (repeat' split) <;> simp))
            · rw [if_neg c13] at H
              exact absurd (H.trans (congrArg some HRT.out)) (by first | simp [] | (simp only []; (repeat' split) <;> simp))
          · rw [if_neg c12] at H
            exact absurd (H.trans (congrArg some HRT.out)) (by first | simp [] | (simp only []; (repeat' split) <;> simp))
        · rw [if_neg c11] at H
          exact absurd (H.trans (congrArg some HRT.out)) (by first | simp [] | (simp only []; (repeat' split) <;> simp))
      · rw [if_neg c10] at H
        exact absurd (H.trans (congrArg some HRT.out)) (by first | simp [] | (simp only []; (repeat' split) <;> simp))
    · rw [if_neg c9] at H
      exact absurd (H.trans (congrArg some HRT.out)) (by first | simp [] | (simp only []; (repeat' split) <;> simp))
  · rw [if_neg c8] at H
    exact absurd (H.trans (congrArg some HRT.out)) (by first | simp [] | (simp only []; (repeat' split) <;> simp))

/-! ### contangoref15_Find: function 19 -/
def contangoref15_Find.l0 : Nat → List (S52) → Int → ByteArray → Int → Int → Int → Option (ByteArray × Int × Int × Int × Int × Int)
  | 0, _, _, _, _, _, _ => none
  | k + 1, x0, x5, x183000, x183001, x183002, x183003 => if x5 < (x0.length : Int) then (if 0 ≤ x5 then (if (eqD24 ((rd_T52 x0 x5).f0.f0) x183000 ((rd_T52 x0 x5).f0.f1) x183001 ((rd_T52 x0 x5).f0.f2) x183002 ((rd_T52 x0 x5).f0.f3) x183003) = true then (some ((rd_T52 x0 x5).f0.f0, (rd_T52 x0 x5).f0.f1, (rd_T52 x0 x5).f0.f2, (rd_T52 x0 x5).f0.f3, (rd_T52 x0 x5).f1, (rd_T52 x0 x5).f2)) else (contangoref15_Find.l0 k x0 (wrap64 (x5 + 1)) x183000 x183001 x183002 x183003)) else (none)) else (some (x183000, x183001, x183002, x183003, 0, 0))
def contangoref15_Find.f (k : Nat) (l0 : List (S52)) (a1_0 : ByteArray) (a1_1 : Int) (a1_2 : Int) (a1_3 : Int) : Option (ByteArray × Int × Int × Int × Int × Int) := contangoref15_Find.l0 k l0 0 a1_0 a1_1 a1_2 a1_3
theorem contangoref15_Find.mono_l : ∀ k, (∀ y0 y1 y2 y3 y4 y5, LeO (contangoref15_Find.l0 k y0 y1 y2 y3 y4 y5) (contangoref15_Find.l0 (k + 1) y0 y1 y2 y3 y4 y5))
  | 0 => fun _ _ _ _ _ _ r h => by simp [contangoref15_Find.l0] at h
  | k + 1 => by
    have ih0 := contangoref15_Find.mono_l k
    · intro y0 y1 y2 y3 y4 y5
      unfold contangoref15_Find.l0
      repeat' first
      | (with_reducible exact ih0 _ _ _ _ _ _)
      | (with_reducible exact LeO.refl _)
      | (with_reducible exact LeO.none _)
      | (with_reducible refine LeO.ite ?_ ?_)
      | (with_reducible refine LeO.bind ?_ (fun _ => ?_))
      | exact LeO.none _
      | refine LeO.ite ?_ ?_
      | refine LeO.bind ?_ (fun _ => ?_)
theorem contangoref15_Find.mono : ∀ a0 a1 a2 a3 a4 k, LeO (contangoref15_Find.f k a0 a1 a2 a3 a4) (contangoref15_Find.f (k + 1) a0 a1 a2 a3 a4) := by
  intro a0 a1 a2 a3 a4 k
  have ih0 := contangoref15_Find.mono_l k
  unfold contangoref15_Find.f
  repeat' first
      | (with_reducible exact ih0 _ _ _ _ _ _)
      | (with_reducible exact LeO.refl _)
      | (with_reducible exact LeO.none _)
      | (with_reducible refine LeO.ite ?_ ?_)
      | (with_reducible refine LeO.bind ?_ (fun _ => ?_))
      | exact LeO.none _
      | refine LeO.ite ?_ ?_
      | refine LeO.bind ?_ (fun _ => ?_)
set_option maxHeartbeats 8000000 in
set_option maxRecDepth 100000 in
theorem contangoref15_Find.calls (k : Nat) (A0 : Option Addr) (c0 : Nat) (l0 : List (S52)) (a1_0 : ByteArray) (a1_1 : Int) (a1_2 : Int) (a1_3 : Int) (r1 : ByteArray) (r2 : Int) (r3 : Int) (r4 : Int) (r5 : Int) (r6 : Int) (w : World) (hr0 : Kd.C k52 w A0 l0.length l0) (hc0 : l0.length ≤ c0) (h : contangoref15_Find.f k l0 a1_0 a1_1 a1_2 a1_3 = some (r1, r2, r3, r4, r5, r6)) :
    Calls Try.prog 19 #[.slice A0 l0.length c0, .agg #[.string a1_0, .int .i64 a1_1, .int .i64 a1_2, .int .i64 a1_3]] w fun e w' => e = .returned (.agg #[.string r1, .int .i64 r2, .int .i64 r3, .int .i64 r4, .int .i64 r5, .int .i64 r6]) ∧ Below w.heap.size w w' := by
  have hu24 := Try.underlying24
  have hu52 := Try.underlying52
  have HR0 := Aside0.mk hr0
  have HC0 := Aside0.mk hc0
  clear hr0 hc0
  have HB := Aside0.mk (Below.refl w.heap.size w)
  have H : (contangoref15_Find.l0 k l0 0 a1_0 a1_1 a1_2 a1_3) = some (r1, r2, r3, r4, r5, r6) := h
  clear h
  have H' := Aside0.mk H
  clear H
  go_enter Try.func19, Try.ntmps19
  go_wp2_with (first | ((with_reducible refine gate_dst (N := 3) rfl ?_); refine box_event ?hg (N := 3) ?hd (cs := #[.string a1_0, .int .i64 a1_1, .int .i64 a1_2, .int .i64 a1_3]) (t := 24) ?hr ?_; (case hd => rfl); (case hg => rfl); (case hr => first | (go_simp; done) | (go_simp; rfl)); intro gb182 hg w3 hbox hb; have n0_ := Aside0.mk (below_step (bz0 HB.out) hb); have n1_ := Aside0.mk (hbox); have n2_ := Aside0.mk ((by rw [hg]; exact (below_size (bz0 HB.out)) : w.heap.size ≤ gb182)); have n3_ := Aside0.mk ((by rw [hg]; exact (below_size (bz0 HB.out)) : w.heap.size ≤ gb182)); clear HB; have HB := n0_; have BK182 := n1_; have GW182 := n2_; have GE182 := n3_; clear n0_ n1_ n2_ n3_; clear hb hbox hg) | ((with_reducible refine gate_dst (N := 4) rfl ?_); refine box_event ?hg (N := 4) ?hd (cs := #[.string (⟨#[]⟩ : ByteArray), .int .i64 0, .int .i64 0, .int .i64 0, .int .i64 0, .int .i64 0]) (t := 52) ?hr ?_; (case hd => rfl); (case hg => rfl); (case hr => first | (go_simp; done) | (go_simp; rfl)); intro gb183 hg w4 hbox hb; have n0_ := Aside0.mk (blk_below (g := gb182) (o := .cells #[.string a1_0, .int .i64 a1_1, .int .i64 a1_2, .int .i64 a1_3] 24 (0, 0)) (bk_ BK182.out) hb); have n1_ := Aside0.mk (below_step (bz1 HB.out GE182.out) hb); have n2_ := Aside0.mk (hbox); have n3_ := Aside0.mk ((by rw [hg]; exact (below_size (bz1 HB.out GE182.out)) : w.heap.size ≤ gb183)); have n4_ := Aside0.mk ((by rw [hg]; exact (below_size (bz1 HB.out GE182.out)) : w.heap.size ≤ gb183)); have n5_ := Aside0.mk ((by rw [hg]; exact Nat.ne_of_lt (blk_lt (g := gb182) (o := .cells #[.string a1_0, .int .i64 a1_1, .int .i64 a1_2, .int .i64 a1_3] 24 (0, 0)) (bk_ BK182.out)) : gb182 ≠ gb183)); have n6_ := Aside0.mk ((by rw [hg]; exact Nat.ne_of_gt (blk_lt (g := gb182) (o := .cells #[.string a1_0, .int .i64 a1_1, .int .i64 a1_2, .int .i64 a1_3] 24 (0, 0)) (bk_ BK182.out)) : gb183 ≠ gb182)); clear BK182; clear HB; have BK182 := n0_; have HB := n1_; have BK183 := n2_; have GW183 := n3_; have GE183 := n4_; have NB182_183 := n5_; have NB183_182 := n6_; clear n0_ n1_ n2_ n3_ n4_ n5_ n6_; clear hb hbox hg))
  repeat (go_quiet (first | ((with_reducible refine gate_dst (N := 3) rfl ?_); refine box_event ?hg (N := 3) ?hd (cs := #[.string a1_0, .int .i64 a1_1, .int .i64 a1_2, .int .i64 a1_3]) (t := 24) ?hr ?_; (case hd => rfl); (case hg => rfl); (case hr => first | (go_simp; done) | (go_simp; rfl)); intro gb182 hg w3 hbox hb; have n0_ := Aside0.mk (below_step (bz0 HB.out) hb); have n1_ := Aside0.mk (hbox); have n2_ := Aside0.mk ((by rw [hg]; exact (below_size (bz0 HB.out)) : w.heap.size ≤ gb182)); have n3_ := Aside0.mk ((by rw [hg]; exact (below_size (bz0 HB.out)) : w.heap.size ≤ gb182)); clear HB; have HB := n0_; have BK182 := n1_; have GW182 := n2_; have GE182 := n3_; clear n0_ n1_ n2_ n3_; clear hb hbox hg) | ((with_reducible refine gate_dst (N := 4) rfl ?_); refine box_event ?hg (N := 4) ?hd (cs := #[.string (⟨#[]⟩ : ByteArray), .int .i64 0, .int .i64 0, .int .i64 0, .int .i64 0, .int .i64 0]) (t := 52) ?hr ?_; (case hd => rfl); (case hg => rfl); (case hr => first | (go_simp; done) | (go_simp; rfl)); intro gb183 hg w4 hbox hb; have n0_ := Aside0.mk (blk_below (g := gb182) (o := .cells #[.string a1_0, .int .i64 a1_1, .int .i64 a1_2, .int .i64 a1_3] 24 (0, 0)) (bk_ BK182.out) hb); have n1_ := Aside0.mk (below_step (bz1 HB.out GE182.out) hb); have n2_ := Aside0.mk (hbox); have n3_ := Aside0.mk ((by rw [hg]; exact (below_size (bz1 HB.out GE182.out)) : w.heap.size ≤ gb183)); have n4_ := Aside0.mk ((by rw [hg]; exact (below_size (bz1 HB.out GE182.out)) : w.heap.size ≤ gb183)); have n5_ := Aside0.mk ((by rw [hg]; exact Nat.ne_of_lt (blk_lt (g := gb182) (o := .cells #[.string a1_0, .int .i64 a1_1, .int .i64 a1_2, .int .i64 a1_3] 24 (0, 0)) (bk_ BK182.out)) : gb182 ≠ gb183)); have n6_ := Aside0.mk ((by rw [hg]; exact Nat.ne_of_gt (blk_lt (g := gb182) (o := .cells #[.string a1_0, .int .i64 a1_1, .int .i64 a1_2, .int .i64 a1_3] 24 (0, 0)) (bk_ BK182.out)) : gb183 ≠ gb182)); clear BK182; clear HB; have BK182 := n0_; have HB := n1_; have BK183 := n2_; have GW183 := n3_; have GE183 := n4_; have NB182_183 := n5_; have NB183_182 := n6_; clear n0_ n1_ n2_ n3_ n4_ n5_ n6_; clear hb hbox hg)); try go_wp2_with (first | ((with_reducible refine gate_dst (N := 3) rfl ?_); refine box_event ?hg (N := 3) ?hd (cs := #[.string a1_0, .int .i64 a1_1, .int .i64 a1_2, .int .i64 a1_3]) (t := 24) ?hr ?_; (case hd => rfl); (case hg => rfl); (case hr => first | (go_simp; done) | (go_simp; rfl)); intro gb182 hg w3 hbox hb; have n0_ := Aside0.mk (below_step (bz0 HB.out) hb); have n1_ := Aside0.mk (hbox); have n2_ := Aside0.mk ((by rw [hg]; exact (below_size (bz0 HB.out)) : w.heap.size ≤ gb182)); have n3_ := Aside0.mk ((by rw [hg]; exact (below_size (bz0 HB.out)) : w.heap.size ≤ gb182)); clear HB; have HB := n0_; have BK182 := n1_; have GW182 := n2_; have GE182 := n3_; clear n0_ n1_ n2_ n3_; clear hb hbox hg) | ((with_reducible refine gate_dst (N := 4) rfl ?_); refine box_event ?hg (N := 4) ?hd (cs := #[.string (⟨#[]⟩ : ByteArray), .int .i64 0, .int .i64 0, .int .i64 0, .int .i64 0, .int .i64 0]) (t := 52) ?hr ?_; (case hd => rfl); (case hg => rfl); (case hr => first | (go_simp; done) | (go_simp; rfl)); intro gb183 hg w4 hbox hb; have n0_ := Aside0.mk (blk_below (g := gb182) (o := .cells #[.string a1_0, .int .i64 a1_1, .int .i64 a1_2, .int .i64 a1_3] 24 (0, 0)) (bk_ BK182.out) hb); have n1_ := Aside0.mk (below_step (bz1 HB.out GE182.out) hb); have n2_ := Aside0.mk (hbox); have n3_ := Aside0.mk ((by rw [hg]; exact (below_size (bz1 HB.out GE182.out)) : w.heap.size ≤ gb183)); have n4_ := Aside0.mk ((by rw [hg]; exact (below_size (bz1 HB.out GE182.out)) : w.heap.size ≤ gb183)); have n5_ := Aside0.mk ((by rw [hg]; exact Nat.ne_of_lt (blk_lt (g := gb182) (o := .cells #[.string a1_0, .int .i64 a1_1, .int .i64 a1_2, .int .i64 a1_3] 24 (0, 0)) (bk_ BK182.out)) : gb182 ≠ gb183)); have n6_ := Aside0.mk ((by rw [hg]; exact Nat.ne_of_gt (blk_lt (g := gb182) (o := .cells #[.string a1_0, .int .i64 a1_1, .int .i64 a1_2, .int .i64 a1_3] 24 (0, 0)) (bk_ BK182.out)) : gb183 ≠ gb182)); clear BK182; clear HB; have BK182 := n0_; have HB := n1_; have BK183 := n2_; have GW183 := n3_; have GE183 := n4_; have NB182_183 := n5_; have NB183_182 := n6_; clear n0_ n1_ n2_ n3_ n4_ n5_ n6_; clear hb hbox hg)))
  go_loopg [5] k (fun kq v5 w' => ∃ (x5_1 : Int) (x184000_1 : ByteArray) (x184001_1 : Int) (x184002_1 : Int) (x184003_1 : Int) (x184004_1 : Int) (x184005_1 : Int), v5 = .int .i64 x5_1 ∧ Aside0 (contangoref15_Find.l0 kq l0 x5_1 a1_0 a1_1 a1_2 a1_3 = some (r1, r2, r3, r4, r5, r6)) ∧ Aside0 (kq ≤ k) ∧ Aside0 (w'.heap[gb182]? = some (.cells #[.string a1_0, .int .i64 a1_1, .int .i64 a1_2, .int .i64 a1_3] 24 (0, 0))) ∧ Aside0 (w'.heap[gb183]? = some (.cells #[.string x184000_1, .int .i64 x184001_1, .int .i64 x184002_1, .int .i64 x184003_1, .int .i64 x184004_1, .int .i64 x184005_1] 52 (0, 0))) ∧ Aside0 (Below w.heap.size w w'))
  case atStart => exact ⟨(0), ((⟨#[]⟩ : ByteArray)), (0), (0), (0), (0), (0), rf_, H', ⟨Nat.le_refl _⟩, ⟨by (with_reducible repeat (first | refine blk_drewN ?_ _ | refine blk_drew ?_ | refine blk_alloc ?_ _)); exact BK182.out⟩, ⟨by (with_reducible repeat (first | refine blk_drewN ?_ _ | refine blk_drew ?_ | refine blk_alloc ?_ _)); exact BK183.out⟩, ⟨bz2 HB.out GE182.out GE183.out⟩⟩
  case round =>
    clear H'
    try clear c1
    try clear p2
    obtain ⟨x5_1, x184000_1, x184001_1, x184002_1, x184003_1, x184004_1, x184005_1, rfl, HA, HK1, BK182, BK183, HB⟩ := hrel
    cases gk with
    | zero => exact absurd HA.out (by simp [contangoref15_Find.l0])
    | succ k1 =>
      have H := HA.out
      clear HA
      simp only [contangoref15_Find.l0] at H
      by_cases c5 : x5_1 < (l0.length : Int)
      · rw [if_pos c5] at H
        have c5b0 : decide (x5_1 < (l0.length : Int)) = true := decide_eq_true c5
        clear c5
        by_cases c6 : 0 ≤ x5_1
        · rw [if_pos c6] at H
          have c6b0 : decide (0 ≤ x5_1) = true := decide_eq_true c6
          clear c6
          by_cases c7 : (eqD24 ((rd_T52 l0 x5_1).f0.f0) a1_0 ((rd_T52 l0 x5_1).f0.f1) a1_1 ((rd_T52 l0 x5_1).f0.f2) a1_2 ((rd_T52 l0 x5_1).f0.f3) a1_3) = true
          · rw [if_pos c7] at H
            have c7b0 : (eqD24 ((rd_T52 l0 x5_1).f0.f0) a1_0 ((rd_T52 l0 x5_1).f0.f1) a1_1 ((rd_T52 l0 x5_1).f0.f2) a1_2 ((rd_T52 l0 x5_1).f0.f3) a1_3) = true := c7
            clear c7
            simp only [Option.some.injEq, Prod.mk.injEq] at H
            obtain ⟨rfl, rfl, rfl, rfl, rfl, rfl⟩ := H
            have p184 : 0 ≤ (x5_1 : Int) := od_
            have q184 : x5_1 < (l0.length : Int) := od_
            obtain ⟨ad184, e184, hx184_0, hx184_1, hx184_2, hx184_3, hx184_4, hx184_5⟩ := at_T52 HR0.out x5_1 p184 q184
            cases e184
            replace hx184_0 := (HB.out.cell (World.block_lt_of_cell? w _ hx184_0)).trans hx184_0
            replace hx184_1 := (HB.out.cell (World.block_lt_of_cell? w _ hx184_1)).trans hx184_1
            replace hx184_2 := (HB.out.cell (World.block_lt_of_cell? w _ hx184_2)).trans hx184_2
            replace hx184_3 := (HB.out.cell (World.block_lt_of_cell? w _ hx184_3)).trans hx184_3
            replace hx184_4 := (HB.out.cell (World.block_lt_of_cell? w _ hx184_4)).trans hx184_4
            replace hx184_5 := (HB.out.cell (World.block_lt_of_cell? w _ hx184_5)).trans hx184_5
            replace p184 := eq_true p184
            replace q184 := eq_true q184
            have hnb8 := NB182_183.out
            have hnc8 := NB183_182.out
            have hcz9_0 : wr.cell? ⟨gb182, 0, none⟩ = some (.string a1_0) := (blk_cell BK182.out 0).trans rfl
            have hcz9_1 : wr.cell? ⟨gb182, 1, none⟩ = some (.int .i64 a1_1) := (blk_cell BK182.out 1).trans rfl
            have hcz9_2 : wr.cell? ⟨gb182, 2, none⟩ = some (.int .i64 a1_2) := (blk_cell BK182.out 2).trans rfl
            have hcz9_3 : wr.cell? ⟨gb182, 3, none⟩ = some (.int .i64 a1_3) := (blk_cell BK182.out 3).trans rfl
            have hfz9_0 := blk_frozen BK182.out 0
            have hfz9_1 := blk_frozen BK182.out 1
            have hfz9_2 := blk_frozen BK182.out 2
            have hfz9_3 := blk_frozen BK182.out 3
            have p185 : 0 ≤ (x5_1 : Int) := od_
            have q185 : x5_1 < (l0.length : Int) := od_
            obtain ⟨ad185, e185, hx185_0, hx185_1, hx185_2, hx185_3, hx185_4, hx185_5⟩ := at_T52 HR0.out x5_1 p185 q185
            obtain rfl : ad184 = ad185 := (by injection e185)
            replace hx185_0 := (HB.out.cell (World.block_lt_of_cell? w _ hx185_0)).trans hx185_0
            replace hx185_1 := (HB.out.cell (World.block_lt_of_cell? w _ hx185_1)).trans hx185_1
            replace hx185_2 := (HB.out.cell (World.block_lt_of_cell? w _ hx185_2)).trans hx185_2
            replace hx185_3 := (HB.out.cell (World.block_lt_of_cell? w _ hx185_3)).trans hx185_3
            replace hx185_4 := (HB.out.cell (World.block_lt_of_cell? w _ hx185_4)).trans hx185_4
            replace hx185_5 := (HB.out.cell (World.block_lt_of_cell? w _ hx185_5)).trans hx185_5
            replace p185 := eq_true p185
            replace q185 := eq_true q185
            have hcz10_0 : wr.cell? ⟨gb183, 0, none⟩ = some (.string x184000_1) := (blk_cell BK183.out 0).trans rfl
            have hcz10_1 : wr.cell? ⟨gb183, 1, none⟩ = some (.int .i64 x184001_1) := (blk_cell BK183.out 1).trans rfl
            have hcz10_2 : wr.cell? ⟨gb183, 2, none⟩ = some (.int .i64 x184002_1) := (blk_cell BK183.out 2).trans rfl
            have hcz10_3 : wr.cell? ⟨gb183, 3, none⟩ = some (.int .i64 x184003_1) := (blk_cell BK183.out 3).trans rfl
            have hcz10_4 : wr.cell? ⟨gb183, 4, none⟩ = some (.int .i64 x184004_1) := (blk_cell BK183.out 4).trans rfl
            have hcz10_5 : wr.cell? ⟨gb183, 5, none⟩ = some (.int .i64 x184005_1) := (blk_cell BK183.out 5).trans rfl
            have hfz10_0 := blk_frozen BK183.out 0
            have hfz10_1 := blk_frozen BK183.out 1
            have hfz10_2 := blk_frozen BK183.out 2
            have hfz10_3 := blk_frozen BK183.out 3
            have hfz10_4 := blk_frozen BK183.out 4
            have hfz10_5 := blk_frozen BK183.out 5
            go_wp2
            repeat (go_quiet (fail); try go_wp2)
            refine bodyPost_ret (results_cell_row rfl _ _ gb183 52 #[.string ((rd_T52 l0 x5_1).f0.f0), .int .i64 ((rd_T52 l0 x5_1).f0.f1), .int .i64 ((rd_T52 l0 x5_1).f0.f2), .int .i64 ((rd_T52 l0 x5_1).f0.f3), .int .i64 ((rd_T52 l0 x5_1).f1), .int .i64 ((rd_T52 l0 x5_1).f2)] (0, 0) _ rfl (by (with_reducible repeat (first | refine blk_drewN ?_ _ | refine blk_drew ?_ | refine blk_alloc ?_ _)); refine blk_put (cs := #[.string ((rd_T52 l0 x5_1).f0.f0), .int .i64 ((rd_T52 l0 x5_1).f0.f1), .int .i64 ((rd_T52 l0 x5_1).f0.f2), .int .i64 ((rd_T52 l0 x5_1).f0.f3), .int .i64 ((rd_T52 l0 x5_1).f1), .int .i64 x184005_1]) ?_ 5 _ rfl; (with_reducible repeat (first | refine blk_drewN ?_ _ | refine blk_drew ?_ | refine blk_alloc ?_ _)); refine blk_put (cs := #[.string ((rd_T52 l0 x5_1).f0.f0), .int .i64 ((rd_T52 l0 x5_1).f0.f1), .int .i64 ((rd_T52 l0 x5_1).f0.f2), .int .i64 ((rd_T52 l0 x5_1).f0.f3), .int .i64 x184004_1, .int .i64 x184005_1]) ?_ 4 _ rfl; (with_reducible repeat (first | refine blk_drewN ?_ _ | refine blk_drew ?_ | refine blk_alloc ?_ _)); refine blk_put (cs := #[.string ((rd_T52 l0 x5_1).f0.f0), .int .i64 ((rd_T52 l0 x5_1).f0.f1), .int .i64 ((rd_T52 l0 x5_1).f0.f2), .int .i64 x184003_1, .int .i64 x184004_1, .int .i64 x184005_1]) ?_ 3 _ rfl; (with_reducible repeat (first | refine blk_drewN ?_ _ | refine blk_drew ?_ | refine blk_alloc ?_ _)); refine blk_put (cs := #[.string ((rd_T52 l0 x5_1).f0.f0), .int .i64 ((rd_T52 l0 x5_1).f0.f1), .int .i64 x184002_1, .int .i64 x184003_1, .int .i64 x184004_1, .int .i64 x184005_1]) ?_ 2 _ rfl; (with_reducible repeat (first | refine blk_drewN ?_ _ | refine blk_drew ?_ | refine blk_alloc ?_ _)); refine blk_put (cs := #[.string ((rd_T52 l0 x5_1).f0.f0), .int .i64 x184001_1, .int .i64 x184002_1, .int .i64 x184003_1, .int .i64 x184004_1, .int .i64 x184005_1]) ?_ 1 _ rfl; (with_reducible repeat (first | refine blk_drewN ?_ _ | refine blk_drew ?_ | refine blk_alloc ?_ _)); refine blk_put (cs := #[.string x184000_1, .int .i64 x184001_1, .int .i64 x184002_1, .int .i64 x184003_1, .int .i64 x184004_1, .int .i64 x184005_1]) ?_ 0 _ rfl; (with_reducible repeat (first | refine blk_drewN ?_ _ | refine blk_drew ?_ | refine blk_alloc ?_ _)); exact BK183.out) Try.underlying52 rfl (by kernel_rfl)) rfl ?_
            exact ⟨by first | rfl | (simp [errW_none, errW_some] <;> rfl) | (simp [*, errW_none, errW_some] <;> rfl), bz2 HB.out GE182.out GE183.out⟩
          · rw [if_neg c7] at H
            have c7b0 : (eqD24 ((rd_T52 l0 x5_1).f0.f0) a1_0 ((rd_T52 l0 x5_1).f0.f1) a1_1 ((rd_T52 l0 x5_1).f0.f2) a1_2 ((rd_T52 l0 x5_1).f0.f3) a1_3) = false := by simpa using c7
            clear c7
            have H' := Aside0.mk H
            clear H
            have p184 : 0 ≤ (x5_1 : Int) := od_
            have q184 : x5_1 < (l0.length : Int) := od_
            obtain ⟨ad184, e184, hx184_0, hx184_1, hx184_2, hx184_3, hx184_4, hx184_5⟩ := at_T52 HR0.out x5_1 p184 q184
            cases e184
            replace hx184_0 := (HB.out.cell (World.block_lt_of_cell? w _ hx184_0)).trans hx184_0
            replace hx184_1 := (HB.out.cell (World.block_lt_of_cell? w _ hx184_1)).trans hx184_1
            replace hx184_2 := (HB.out.cell (World.block_lt_of_cell? w _ hx184_2)).trans hx184_2
            replace hx184_3 := (HB.out.cell (World.block_lt_of_cell? w _ hx184_3)).trans hx184_3
            replace hx184_4 := (HB.out.cell (World.block_lt_of_cell? w _ hx184_4)).trans hx184_4
            replace hx184_5 := (HB.out.cell (World.block_lt_of_cell? w _ hx184_5)).trans hx184_5
            replace p184 := eq_true p184
            replace q184 := eq_true q184
            have hnb11 := NB182_183.out
            have hnc11 := NB183_182.out
            have hcz12_0 : wr.cell? ⟨gb182, 0, none⟩ = some (.string a1_0) := (blk_cell BK182.out 0).trans rfl
            have hcz12_1 : wr.cell? ⟨gb182, 1, none⟩ = some (.int .i64 a1_1) := (blk_cell BK182.out 1).trans rfl
            have hcz12_2 : wr.cell? ⟨gb182, 2, none⟩ = some (.int .i64 a1_2) := (blk_cell BK182.out 2).trans rfl
            have hcz12_3 : wr.cell? ⟨gb182, 3, none⟩ = some (.int .i64 a1_3) := (blk_cell BK182.out 3).trans rfl
            have hfz12_0 := blk_frozen BK182.out 0
            have hfz12_1 := blk_frozen BK182.out 1
            have hfz12_2 := blk_frozen BK182.out 2
            have hfz12_3 := blk_frozen BK182.out 3
            go_wp2
            repeat (go_quiet (fail); try go_wp2)
            go_roundg k1
            case measure => have := HK1.out; omega
            case rel => exact ⟨(wrap64 (x5_1 + 1)), (x184000_1), (x184001_1), (x184002_1), (x184003_1), (x184004_1), (x184005_1), rf_, H', ⟨by have := HK1.out; omega⟩, ⟨by (with_reducible repeat (first | refine blk_drewN ?_ _ | refine blk_drew ?_ | refine blk_alloc ?_ _)); exact BK182.out⟩, ⟨by (with_reducible repeat (first | refine blk_drewN ?_ _ | refine blk_drew ?_ | refine blk_alloc ?_ _)); exact BK183.out⟩, ⟨bz2 HB.out GE182.out GE183.out⟩⟩
        · rw [if_neg c6] at H
          exact absurd H (by simp)
      · rw [if_neg c5] at H
        have c5b0 : decide (x5_1 < (l0.length : Int)) = false := decide_eq_false c5
        clear c5
        simp only [Option.some.injEq, Prod.mk.injEq] at H
        obtain ⟨rfl, rfl, rfl, rfl, rfl, rfl⟩ := H
        have hnb13 := NB182_183.out
        have hnc13 := NB183_182.out
        have hcz14_0 : wr.cell? ⟨gb182, 0, none⟩ = some (.string a1_0) := (blk_cell BK182.out 0).trans rfl
        have hcz14_1 : wr.cell? ⟨gb182, 1, none⟩ = some (.int .i64 a1_1) := (blk_cell BK182.out 1).trans rfl
        have hcz14_2 : wr.cell? ⟨gb182, 2, none⟩ = some (.int .i64 a1_2) := (blk_cell BK182.out 2).trans rfl
        have hcz14_3 : wr.cell? ⟨gb182, 3, none⟩ = some (.int .i64 a1_3) := (blk_cell BK182.out 3).trans rfl
        have hfz14_0 := blk_frozen BK182.out 0
        have hfz14_1 := blk_frozen BK182.out 1
        have hfz14_2 := blk_frozen BK182.out 2
        have hfz14_3 := blk_frozen BK182.out 3
        have hcz15_0 : wr.cell? ⟨gb183, 0, none⟩ = some (.string x184000_1) := (blk_cell BK183.out 0).trans rfl
        have hcz15_1 : wr.cell? ⟨gb183, 1, none⟩ = some (.int .i64 x184001_1) := (blk_cell BK183.out 1).trans rfl
        have hcz15_2 : wr.cell? ⟨gb183, 2, none⟩ = some (.int .i64 x184002_1) := (blk_cell BK183.out 2).trans rfl
        have hcz15_3 : wr.cell? ⟨gb183, 3, none⟩ = some (.int .i64 x184003_1) := (blk_cell BK183.out 3).trans rfl
        have hcz15_4 : wr.cell? ⟨gb183, 4, none⟩ = some (.int .i64 x184004_1) := (blk_cell BK183.out 4).trans rfl
        have hcz15_5 : wr.cell? ⟨gb183, 5, none⟩ = some (.int .i64 x184005_1) := (blk_cell BK183.out 5).trans rfl
        have hfz15_0 := blk_frozen BK183.out 0
        have hfz15_1 := blk_frozen BK183.out 1
        have hfz15_2 := blk_frozen BK183.out 2
        have hfz15_3 := blk_frozen BK183.out 3
        have hfz15_4 := blk_frozen BK183.out 4
        have hfz15_5 := blk_frozen BK183.out 5
        go_wp2
        repeat (go_quiet (fail); try go_wp2)
        refine bodyPost_ret (results_cell_row rfl _ _ gb183 52 #[.string a1_0, .int .i64 a1_1, .int .i64 a1_2, .int .i64 a1_3, .int .i64 0, .int .i64 0] (0, 0) _ rfl (by (with_reducible repeat (first | refine blk_drewN ?_ _ | refine blk_drew ?_ | refine blk_alloc ?_ _)); refine blk_put (cs := #[.string a1_0, .int .i64 a1_1, .int .i64 a1_2, .int .i64 a1_3, .int .i64 0, .int .i64 x184005_1]) ?_ 5 _ rfl; (with_reducible repeat (first | refine blk_drewN ?_ _ | refine blk_drew ?_ | refine blk_alloc ?_ _)); refine blk_put (cs := #[.string a1_0, .int .i64 a1_1, .int .i64 a1_2, .int .i64 a1_3, .int .i64 x184004_1, .int .i64 x184005_1]) ?_ 4 _ rfl; (with_reducible repeat (first | refine blk_drewN ?_ _ | refine blk_drew ?_ | refine blk_alloc ?_ _)); refine blk_put (cs := #[.string a1_0, .int .i64 a1_1, .int .i64 a1_2, .int .i64 x184003_1, .int .i64 x184004_1, .int .i64 x184005_1]) ?_ 3 _ rfl; (with_reducible repeat (first | refine blk_drewN ?_ _ | refine blk_drew ?_ | refine blk_alloc ?_ _)); refine blk_put (cs := #[.string a1_0, .int .i64 a1_1, .int .i64 x184002_1, .int .i64 x184003_1, .int .i64 x184004_1, .int .i64 x184005_1]) ?_ 2 _ rfl; (with_reducible repeat (first | refine blk_drewN ?_ _ | refine blk_drew ?_ | refine blk_alloc ?_ _)); refine blk_put (cs := #[.string a1_0, .int .i64 x184001_1, .int .i64 x184002_1, .int .i64 x184003_1, .int .i64 x184004_1, .int .i64 x184005_1]) ?_ 1 _ rfl; (with_reducible repeat (first | refine blk_drewN ?_ _ | refine blk_drew ?_ | refine blk_alloc ?_ _)); refine blk_put (cs := #[.string x184000_1, .int .i64 x184001_1, .int .i64 x184002_1, .int .i64 x184003_1, .int .i64 x184004_1, .int .i64 x184005_1]) ?_ 0 _ rfl; (with_reducible repeat (first | refine blk_drewN ?_ _ | refine blk_drew ?_ | refine blk_alloc ?_ _)); exact BK183.out) Try.underlying52 rfl (by kernel_rfl)) rfl ?_
        exact ⟨by first | rfl | (simp [errW_none, errW_some] <;> rfl) | (simp [*, errW_none, errW_some] <;> rfl), bz2 HB.out GE182.out GE183.out⟩

end Go.Proofs.Ytjmkdmbgldcleaa.PTearApplies
