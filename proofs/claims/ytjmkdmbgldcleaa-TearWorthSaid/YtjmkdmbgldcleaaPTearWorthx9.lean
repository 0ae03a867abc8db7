import Derived.Test.YtjmkdmbgldcleaaPTearWorthx0
import Derived.Test.YtjmkdmbgldcleaaPTearWorthx2
import Derived.Test.YtjmkdmbgldcleaaPTearWorthx8
namespace Go.Proofs.Ytjmkdmbgldcleaa.PTearWorth
open Go.RowKit Go.Proofs.YtjmkdmbgldcleaaW.PrintWords Go.Proofs.YtjmkdmbgldcleaaW.PrintLast Go.Proofs.YtjmkdmbgldcleaaW.PrintMore
attribute [local go_sem] max2_int min2_int max_two min_two max_three min_three max_four min_four Go.Proofs.YtjmkdmbgldcleaaHand.run_leq_str Go.Proofs.YtjmkdmbgldcleaaHand.run_gtr_str Go.Proofs.YtjmkdmbgldcleaaHand.run_geq_str   -- for this text's walks alone
set_option linter.unusedVariables false
set_option linter.unusedSimpArgs false

attribute [local go_sem high] eqA44
/-! ### product_Check: function 39 -/
mutual
def product_Check.j0 : Nat → Bool → ByteArray → Int → Int → Int → Int → Int → Bool → Option (Int)
  | 0, _, _, _, _, _, _, _, _ => none
  | k + 1, x3, x127000, x127001, x127002, x127003, x127004, x127005, x127006 => if x3 = true then (some 10) else (if x127001 < 0 then (product_Check.j1 k true x127000 x127001 x127002 x127003 x127004 x127005 x127006) else (product_Check.j1 k (decide (x127001 ≥ 8)) x127000 x127001 x127002 x127003 x127004 x127005 x127006))
def product_Check.j1 : Nat → Bool → ByteArray → Int → Int → Int → Int → Int → Bool → Option (Int)
  | 0, _, _, _, _, _, _, _, _ => none
  | k + 1, x13, x127000, x127001, x127002, x127003, x127004, x127005, x127006 => if x13 = true then (some 25) else (if x127002 < 1 then (product_Check.j2 k true x127000 x127001 x127002 x127003 x127004 x127005 x127006) else (product_Check.j2 k (decide (x127002 > 4096)) x127000 x127001 x127002 x127003 x127004 x127005 x127006))
def product_Check.j2 : Nat → Bool → ByteArray → Int → Int → Int → Int → Int → Bool → Option (Int)
  | 0, _, _, _, _, _, _, _, _ => none
  | k + 1, x22, x127000, x127001, x127002, x127003, x127004, x127005, x127006 => if x22 = true then (some 2) else (if x127003 < 1 then (product_Check.j3 k true x127000 x127001 x127002 x127003 x127004 x127005 x127006) else (product_Check.j3 k (decide (x127003 > 16777216)) x127000 x127001 x127002 x127003 x127004 x127005 x127006))
def product_Check.j3 : Nat → Bool → ByteArray → Int → Int → Int → Int → Int → Bool → Option (Int)
  | 0, _, _, _, _, _, _, _, _ => none
  | k + 1, x31, x127000, x127001, x127002, x127003, x127004, x127005, x127006 => if x31 = true then (some 16) else ((product_within.f x127004 16777216).bind fun t128 => (if t128 = true then ((product_within.f x127005 16777216).bind fun t129 => (if t129 = true then (if x127004 > x127005 then (some 17) else (if x127003 = 0 then (none) else (if (Int.tmod x127004 x127003) = 0 then (if (Int.tmod x127005 x127003) = 0 then (some 0) else (some 17)) else (some 17)))) else (some 17))) else (some 17)))
end
def product_Check.f (k : Nat) (a0_0 : ByteArray) (a0_1 : Int) (a0_2 : Int) (a0_3 : Int) (a0_4 : Int) (a0_5 : Int) (a0_6 : Bool) : Option (Int) := if (eqD44 a0_0 (⟨#[]⟩ : ByteArray) a0_1 0 a0_2 0 a0_3 0 a0_4 0 a0_5 0 a0_6 false) = true then (product_Check.j0 k true a0_0 a0_1 a0_2 a0_3 a0_4 a0_5 a0_6) else ((words_Name.f k a0_0).bind fun t127 => (product_Check.j0 k (!t127) a0_0 a0_1 a0_2 a0_3 a0_4 a0_5 a0_6))
theorem product_Check.mono_l : ∀ k, (∀ y0 y1 y2 y3 y4 y5 y6 y7, LeO (product_Check.j0 k y0 y1 y2 y3 y4 y5 y6 y7) (product_Check.j0 (k + 1) y0 y1 y2 y3 y4 y5 y6 y7)) ∧ (∀ y0 y1 y2 y3 y4 y5 y6 y7, LeO (product_Check.j1 k y0 y1 y2 y3 y4 y5 y6 y7) (product_Check.j1 (k + 1) y0 y1 y2 y3 y4 y5 y6 y7)) ∧ (∀ y0 y1 y2 y3 y4 y5 y6 y7, LeO (product_Check.j2 k y0 y1 y2 y3 y4 y5 y6 y7) (product_Check.j2 (k + 1) y0 y1 y2 y3 y4 y5 y6 y7)) ∧ (∀ y0 y1 y2 y3 y4 y5 y6 y7, LeO (product_Check.j3 k y0 y1 y2 y3 y4 y5 y6 y7) (product_Check.j3 (k + 1) y0 y1 y2 y3 y4 y5 y6 y7))
  | 0 => ⟨fun _ _ _ _ _ _ _ _ r h => by simp [product_Check.j0] at h, fun _ _ _ _ _ _ _ _ r h => by simp [product_Check.j1] at h, fun _ _ _ _ _ _ _ _ r h => by simp [product_Check.j2] at h, fun _ _ _ _ _ _ _ _ r h => by simp [product_Check.j3] at h⟩
  | k + 1 => by
    obtain ⟨ih0, ih1, ih2, ih3⟩ := product_Check.mono_l k
    refine ⟨?_, ?_, ?_, ?_⟩
    · intro y0 y1 y2 y3 y4 y5 y6 y7
      unfold product_Check.j0
      repeat' first
      | (with_reducible exact ih0 _ _ _ _ _ _ _ _)
      | (with_reducible exact ih1 _ _ _ _ _ _ _ _)
      | (with_reducible exact ih2 _ _ _ _ _ _ _ _)
      | (with_reducible exact ih3 _ _ _ _ _ _ _ _)
      | (with_reducible exact words_Name.mono _ _)
      | (with_reducible exact LeO.refl _)
      | (with_reducible exact LeO.none _)
      | (with_reducible refine LeO.ite ?_ ?_)
      | (with_reducible refine LeO.bind ?_ (fun _ => ?_))
      | exact LeO.none _
      | refine LeO.ite ?_ ?_
      | refine LeO.bind ?_ (fun _ => ?_)
    · intro y0 y1 y2 y3 y4 y5 y6 y7
      unfold product_Check.j1
      repeat' first
      | (with_reducible exact ih0 _ _ _ _ _ _ _ _)
      | (with_reducible exact ih1 _ _ _ _ _ _ _ _)
      | (with_reducible exact ih2 _ _ _ _ _ _ _ _)
      | (with_reducible exact ih3 _ _ _ _ _ _ _ _)
      | (with_reducible exact words_Name.mono _ _)
      | (with_reducible exact LeO.refl _)
      | (with_reducible exact LeO.none _)
      | (with_reducible refine LeO.ite ?_ ?_)
      | (with_reducible refine LeO.bind ?_ (fun _ => ?_))
      | exact LeO.none _
      | refine LeO.ite ?_ ?_
      | refine LeO.bind ?_ (fun _ => ?_)
    · intro y0 y1 y2 y3 y4 y5 y6 y7
      unfold product_Check.j2
      repeat' first
      | (with_reducible exact ih0 _ _ _ _ _ _ _ _)
      | (with_reducible exact ih1 _ _ _ _ _ _ _ _)
      | (with_reducible exact ih2 _ _ _ _ _ _ _ _)
      | (with_reducible exact ih3 _ _ _ _ _ _ _ _)
      | (with_reducible exact words_Name.mono _ _)
      | (with_reducible exact LeO.refl _)
      | (with_reducible exact LeO.none _)
      | (with_reducible refine LeO.ite ?_ ?_)
      | (with_reducible refine LeO.bind ?_ (fun _ => ?_))
      | exact LeO.none _
      | refine LeO.ite ?_ ?_
      | refine LeO.bind ?_ (fun _ => ?_)
    · intro y0 y1 y2 y3 y4 y5 y6 y7
      unfold product_Check.j3
      repeat' first
      | (with_reducible exact ih0 _ _ _ _ _ _ _ _)
      | (with_reducible exact ih1 _ _ _ _ _ _ _ _)
      | (with_reducible exact ih2 _ _ _ _ _ _ _ _)
      | (with_reducible exact ih3 _ _ _ _ _ _ _ _)
      | (with_reducible exact words_Name.mono _ _)
      | (with_reducible exact LeO.refl _)
      | (with_reducible exact LeO.none _)
      | (with_reducible refine LeO.ite ?_ ?_)
      | (with_reducible refine LeO.bind ?_ (fun _ => ?_))
      | exact LeO.none _
      | refine LeO.ite ?_ ?_
      | refine LeO.bind ?_ (fun _ => ?_)
theorem product_Check.mono : ∀ a0 a1 a2 a3 a4 a5 a6 k, LeO (product_Check.f k a0 a1 a2 a3 a4 a5 a6) (product_Check.f (k + 1) a0 a1 a2 a3 a4 a5 a6) := by
  intro a0 a1 a2 a3 a4 a5 a6 k
  obtain ⟨ih0, ih1, ih2, ih3⟩ := product_Check.mono_l k
  unfold product_Check.f
  repeat' first
      | (with_reducible exact ih0 _ _ _ _ _ _ _ _)
      | (with_reducible exact ih1 _ _ _ _ _ _ _ _)
      | (with_reducible exact ih2 _ _ _ _ _ _ _ _)
      | (with_reducible exact ih3 _ _ _ _ _ _ _ _)
      | (with_reducible exact words_Name.mono _ _)
      | (with_reducible exact LeO.refl _)
      | (with_reducible exact LeO.none _)
      | (with_reducible refine LeO.ite ?_ ?_)
      | (with_reducible refine LeO.bind ?_ (fun _ => ?_))
      | exact LeO.none _
      | refine LeO.ite ?_ ?_
      | refine LeO.bind ?_ (fun _ => ?_)
set_option maxHeartbeats 8000000 in
set_option maxRecDepth 100000 in
theorem product_Check.calls (k : Nat) (a0_0 : ByteArray) (a0_1 : Int) (a0_2 : Int) (a0_3 : Int) (a0_4 : Int) (a0_5 : Int) (a0_6 : Bool) (r : Int) (w : World) (h : product_Check.f k a0_0 a0_1 a0_2 a0_3 a0_4 a0_5 a0_6 = some r) :
    Calls Try.prog 39 #[.agg #[.string a0_0, .int .i64 a0_1, .int .i64 a0_2, .int .i64 a0_3, .int .i64 a0_4, .int .i64 a0_5, .bool a0_6]] w fun e w' => e = .returned (.int .i64 r) ∧ Below w.heap.size w w' := by
  have hu44 := Try.underlying44
  have HB := Aside0.mk (Below.refl w.heap.size w)
  have H : (if (eqD44 a0_0 (⟨#[]⟩ : ByteArray) a0_1 0 a0_2 0 a0_3 0 a0_4 0 a0_5 0 a0_6 false) = true then (product_Check.j0 k true a0_0 a0_1 a0_2 a0_3 a0_4 a0_5 a0_6) else ((words_Name.f k a0_0).bind fun t127 => (product_Check.j0 k (!t127) a0_0 a0_1 a0_2 a0_3 a0_4 a0_5 a0_6))) = some r := h
  clear h
  have HC2 := Aside0.mk H
  clear H
  go_enter Try.func39, Try.ntmps39
  go_upto_region 1 with (first | ((with_reducible refine gate_dst (N := 1) rfl ?_); refine box_event ?hg (N := 1) ?hd (cs := #[.string a0_0, .int .i64 a0_1, .int .i64 a0_2, .int .i64 a0_3, .int .i64 a0_4, .int .i64 a0_5, .bool a0_6]) (t := 44) ?hr ?_; (case hd => rfl); (case hg => rfl); (case hr => first | (go_simp; done) | (go_simp; rfl)); intro gb126 hg w3 hbox hb; have n0_ := Aside0.mk (below_step (bz0 HB.out) hb); have n1_ := Aside0.mk (hbox); have n2_ := Aside0.mk ((by rw [hg]; exact (below_size (bz0 HB.out)) : w.heap.size ≤ gb126)); have n3_ := Aside0.mk ((by rw [hg]; exact (below_size (bz0 HB.out)) : w.heap.size ≤ gb126)); clear HB; have HB := n0_; have BK126 := n1_; have GW126 := n2_; have GE126 := n3_; clear n0_ n1_ n2_ n3_; clear hb hbox hg))
  (try simp only [Act.put, List.setIfInBounds_toArray, List.set_cons_zero, List.set_cons_succ])
  go_cut [3] (fun v3 wc => ∃ (kq : Nat) (x3_1 : Bool), v3 = .bool x3_1 ∧ Aside0 (product_Check.j0 kq x3_1 a0_0 a0_1 a0_2 a0_3 a0_4 a0_5 a0_6 = some r) ∧ Aside0 (kq ≤ k) ∧ Aside0 (wc.heap[gb126]? = some (.cells #[.string a0_0, .int .i64 a0_1, .int .i64 a0_2, .int .i64 a0_3, .int .i64 a0_4, .int .i64 a0_5, .bool a0_6] 44 (0, 0))) ∧ Aside0 (Below w.heap.size w wc))
  case first =>
    have H := HC2.out
    clear HC2
    by_cases c4 : (eqD44 a0_0 (⟨#[]⟩ : ByteArray) a0_1 0 a0_2 0 a0_3 0 a0_4 0 a0_5 0 a0_6 false) = true
    · rw [if_pos c4] at H
      have c4b0 : (eqD44 a0_0 (⟨#[]⟩ : ByteArray) a0_1 0 a0_2 0 a0_3 0 a0_4 0 a0_5 0 a0_6 false) = true := c4
      clear c4
      (first | rw [c4b0] | (simp only [i64_w, i32_w]; rw [c4b0]) | skip)
      have H' := Aside0.mk H
      clear H
      have hcz5_0 : w3.cell? ⟨gb126, 0, none⟩ = some (.string a0_0) := (blk_cell BK126.out 0).trans rfl
      have hcz5_1 : w3.cell? ⟨gb126, 1, none⟩ = some (.int .i64 a0_1) := (blk_cell BK126.out 1).trans rfl
      have hcz5_2 : w3.cell? ⟨gb126, 2, none⟩ = some (.int .i64 a0_2) := (blk_cell BK126.out 2).trans rfl
      have hcz5_3 : w3.cell? ⟨gb126, 3, none⟩ = some (.int .i64 a0_3) := (blk_cell BK126.out 3).trans rfl
      have hcz5_4 : w3.cell? ⟨gb126, 4, none⟩ = some (.int .i64 a0_4) := (blk_cell BK126.out 4).trans rfl
      have hcz5_5 : w3.cell? ⟨gb126, 5, none⟩ = some (.int .i64 a0_5) := (blk_cell BK126.out 5).trans rfl
      have hcz5_6 : w3.cell? ⟨gb126, 6, none⟩ = some (.bool a0_6) := (blk_cell BK126.out 6).trans rfl
      have hfz5_0 := blk_frozen BK126.out 0
      have hfz5_1 := blk_frozen BK126.out 1
      have hfz5_2 := blk_frozen BK126.out 2
      have hfz5_3 := blk_frozen BK126.out 3
      have hfz5_4 := blk_frozen BK126.out 4
      have hfz5_5 := blk_frozen BK126.out 5
      have hfz5_6 := blk_frozen BK126.out 6
      go_wp2
      go_meet
      case rel => exact ⟨_, (true), rf_, H', ⟨by first | omega | exact Nat.le_refl _⟩, ⟨by (with_reducible repeat (first | refine blk_drewN ?_ _ | refine blk_drew ?_ | refine blk_alloc ?_ _)); exact BK126.out⟩, ⟨bz1 HB.out GE126.out⟩⟩
    · rw [if_neg c4] at H
      have c4b0 : (eqD44 a0_0 (⟨#[]⟩ : ByteArray) a0_1 0 a0_2 0 a0_3 0 a0_4 0 a0_5 0 a0_6 false) = false := by simpa using c4
      clear c4
      (first | rw [c4b0] | (simp only [i64_w, i32_w]; rw [c4b0]) | skip)
      replace H := Option.bind_eq_some_iff.mp H
      obtain ⟨t127, A60, H⟩ := H
      replace H : (product_Check.j0 k (!t127) a0_0 a0_1 a0_2 a0_3 a0_4 a0_5 a0_6) = some r := H
      have A6 := Aside0.mk A60
      clear A60
      have H' := Aside0.mk H
      clear H
      have hcz7_0 : w3.cell? ⟨gb126, 0, none⟩ = some (.string a0_0) := (blk_cell BK126.out 0).trans rfl
      have hcz7_1 : w3.cell? ⟨gb126, 1, none⟩ = some (.int .i64 a0_1) := (blk_cell BK126.out 1).trans rfl
      have hcz7_2 : w3.cell? ⟨gb126, 2, none⟩ = some (.int .i64 a0_2) := (blk_cell BK126.out 2).trans rfl
      have hcz7_3 : w3.cell? ⟨gb126, 3, none⟩ = some (.int .i64 a0_3) := (blk_cell BK126.out 3).trans rfl
      have hcz7_4 : w3.cell? ⟨gb126, 4, none⟩ = some (.int .i64 a0_4) := (blk_cell BK126.out 4).trans rfl
      have hcz7_5 : w3.cell? ⟨gb126, 5, none⟩ = some (.int .i64 a0_5) := (blk_cell BK126.out 5).trans rfl
      have hcz7_6 : w3.cell? ⟨gb126, 6, none⟩ = some (.bool a0_6) := (blk_cell BK126.out 6).trans rfl
      have hfz7_0 := blk_frozen BK126.out 0
      have hfz7_1 := blk_frozen BK126.out 1
      have hfz7_2 := blk_frozen BK126.out 2
      have hfz7_3 := blk_frozen BK126.out 3
      have hfz7_4 := blk_frozen BK126.out 4
      have hfz7_5 := blk_frozen BK126.out 5
      have hfz7_6 := blk_frozen BK126.out 6
      go_wp2_with (first | (go_at_call 53; (with_reducible refine (words_Name.calls k a0_0 t127 _ A6.out).mono ?_); rintro e w' ⟨rfl, ⟨nd, rfl⟩⟩))
      go_meet
      case rel => exact ⟨_, (!t127), rf_, H', ⟨by first | omega | exact Nat.le_refl _⟩, ⟨by (with_reducible repeat (first | refine blk_drewN ?_ _ | refine blk_drew ?_ | refine blk_alloc ?_ _)); exact BK126.out⟩, ⟨bz1 HB.out GE126.out⟩⟩
  case rest =>
    clear HC2
    try clear p2
    try clear c3
    try clear c4
    try clear c4b0
    try clear hcz5_0
    try clear hcz5_1
    try clear hcz5_2
    try clear hcz5_3
    try clear hcz5_4
    try clear hcz5_5
    try clear hcz5_6
    try clear hcz7_0
    try clear hcz7_1
    try clear hcz7_2
    try clear hcz7_3
    try clear hcz7_4
    try clear hcz7_5
    try clear hcz7_6
    try clear hfz5_0
    try clear hfz5_1
    try clear hfz5_2
    try clear hfz5_3
    try clear hfz5_4
    try clear hfz5_5
    try clear hfz5_6
    try clear hfz7_0
    try clear hfz7_1
    try clear hfz7_2
    try clear hfz7_3
    try clear hfz7_4
    try clear hfz7_5
    try clear hfz7_6
    obtain ⟨kq, x3_1, rfl, HA, HJ1, BK126, HB⟩ := hcut
    cases kq with
    | zero => exact absurd HA.out (by simp [product_Check.j0])
    | succ kj1 =>
      have H := HA.out
      clear HA
      simp only [product_Check.j0] at H
      by_cases c8 : x3_1 = true
      · subst c8
        have H1 : (some 10) = some r := by rw [if_pos rfl] at H; exact H
        clear H
        have H := H1
        clear H1
        obtain rfl := Option.some.inj H
        go_wp2
        go_ret
        exact ⟨by first | rfl | (simp [errW_none, errW_some] <;> rfl) | (simp [*, errW_none, errW_some] <;> rfl), bz1 HB.out GE126.out⟩
      · replace c8 := Bool.eq_false_iff.mpr c8
        subst c8
        have H1 : (if a0_1 < 0 then (product_Check.j1 kj1 true a0_0 a0_1 a0_2 a0_3 a0_4 a0_5 a0_6) else (product_Check.j1 kj1 (decide (a0_1 ≥ 8)) a0_0 a0_1 a0_2 a0_3 a0_4 a0_5 a0_6)) = some r := by rw [if_neg (show ¬ (false = true) by decide)] at H; exact H
        clear H
        have H := H1
        clear H1
        have HC9 := Aside0.mk H
        clear H
        go_upto_region 3 with (fail)
        go_cut [13] (fun v13 wc => ∃ (kq : Nat) (x13_8 : Bool), v13 = .bool x13_8 ∧ Aside0 (product_Check.j1 kq x13_8 a0_0 a0_1 a0_2 a0_3 a0_4 a0_5 a0_6 = some r) ∧ Aside0 (kq ≤ kj1) ∧ Aside0 (wc.heap[gb126]? = some (.cells #[.string a0_0, .int .i64 a0_1, .int .i64 a0_2, .int .i64 a0_3, .int .i64 a0_4, .int .i64 a0_5, .bool a0_6] 44 (0, 0))) ∧ Aside0 (Below w.heap.size w wc))
        case first =>
          have H := HC9.out
          clear HC9
          by_cases c10 : a0_1 < 0
          · rw [if_pos c10] at H
            have c10b0 : decide (a0_1 < 0) = true := decide_eq_true c10
            clear c10
            (first | rw [c10b0] | (simp only [i64_w, i32_w]; rw [c10b0]) | skip)
            have H' := Aside0.mk H
            clear H
            have hcz11_0 : wc.cell? ⟨gb126, 0, none⟩ = some (.string a0_0) := (blk_cell BK126.out 0).trans rfl
            have hcz11_1 : wc.cell? ⟨gb126, 1, none⟩ = some (.int .i64 a0_1) := (blk_cell BK126.out 1).trans rfl
            have hcz11_2 : wc.cell? ⟨gb126, 2, none⟩ = some (.int .i64 a0_2) := (blk_cell BK126.out 2).trans rfl
            have hcz11_3 : wc.cell? ⟨gb126, 3, none⟩ = some (.int .i64 a0_3) := (blk_cell BK126.out 3).trans rfl
            have hcz11_4 : wc.cell? ⟨gb126, 4, none⟩ = some (.int .i64 a0_4) := (blk_cell BK126.out 4).trans rfl
            have hcz11_5 : wc.cell? ⟨gb126, 5, none⟩ = some (.int .i64 a0_5) := (blk_cell BK126.out 5).trans rfl
            have hcz11_6 : wc.cell? ⟨gb126, 6, none⟩ = some (.bool a0_6) := (blk_cell BK126.out 6).trans rfl
            have hfz11_0 := blk_frozen BK126.out 0
            have hfz11_1 := blk_frozen BK126.out 1
            have hfz11_2 := blk_frozen BK126.out 2
            have hfz11_3 := blk_frozen BK126.out 3
            have hfz11_4 := blk_frozen BK126.out 4
            have hfz11_5 := blk_frozen BK126.out 5
            have hfz11_6 := blk_frozen BK126.out 6
            go_wp2
            go_meet
            case rel => exact ⟨_, (true), rf_, H', ⟨by have := HJ1.out; first | omega | exact Nat.le_refl _⟩, ⟨by (with_reducible repeat (first | refine blk_drewN ?_ _ | refine blk_drew ?_ | refine blk_alloc ?_ _)); exact BK126.out⟩, ⟨bz1 HB.out GE126.out⟩⟩
          · rw [if_neg c10] at H
            have c10b0 : decide (a0_1 < 0) = false := decide_eq_false c10
            clear c10
            (first | rw [c10b0] | (simp only [i64_w, i32_w]; rw [c10b0]) | skip)
            have H' := Aside0.mk H
            clear H
            have hcz12_0 : wc.cell? ⟨gb126, 0, none⟩ = some (.string a0_0) := (blk_cell BK126.out 0).trans rfl
            have hcz12_1 : wc.cell? ⟨gb126, 1, none⟩ = some (.int .i64 a0_1) := (blk_cell BK126.out 1).trans rfl
            have hcz12_2 : wc.cell? ⟨gb126, 2, none⟩ = some (.int .i64 a0_2) := (blk_cell BK126.out 2).trans rfl
            have hcz12_3 : wc.cell? ⟨gb126, 3, none⟩ = some (.int .i64 a0_3) := (blk_cell BK126.out 3).trans rfl
            have hcz12_4 : wc.cell? ⟨gb126, 4, none⟩ = some (.int .i64 a0_4) := (blk_cell BK126.out 4).trans rfl
            have hcz12_5 : wc.cell? ⟨gb126, 5, none⟩ = some (.int .i64 a0_5) := (blk_cell BK126.out 5).trans rfl
            have hcz12_6 : wc.cell? ⟨gb126, 6, none⟩ = some (.bool a0_6) := (blk_cell BK126.out 6).trans rfl
            have hfz12_0 := blk_frozen BK126.out 0
            have hfz12_1 := blk_frozen BK126.out 1
            have hfz12_2 := blk_frozen BK126.out 2
            have hfz12_3 := blk_frozen BK126.out 3
            have hfz12_4 := blk_frozen BK126.out 4
            have hfz12_5 := blk_frozen BK126.out 5
            have hfz12_6 := blk_frozen BK126.out 6
            go_wp2
            go_meet
            case rel => exact ⟨_, (decide (a0_1 ≥ 8)), rf_, H', ⟨by have := HJ1.out; first | omega | exact Nat.le_refl _⟩, ⟨by (with_reducible repeat (first | refine blk_drewN ?_ _ | refine blk_drew ?_ | refine blk_alloc ?_ _)); exact BK126.out⟩, ⟨bz1 HB.out GE126.out⟩⟩
        case rest =>
          clear HC9
          try clear c1
          try clear p2
          try clear c3
          try clear c4
          try clear c4b0
          try clear c8
          try clear c10
          try clear c10b0
          try clear hcz11_0
          try clear hcz11_1
          try clear hcz11_2
          try clear hcz11_3
          try clear hcz11_4
          try clear hcz11_5
          try clear hcz11_6
          try clear hcz12_0
          try clear hcz12_1
          try clear hcz12_2
          try clear hcz12_3
          try clear hcz12_4
          try clear hcz12_5
          try clear hcz12_6
          try clear hcz5_0
          try clear hcz5_1
          try clear hcz5_2
          try clear hcz5_3
          try clear hcz5_4
          try clear hcz5_5
          try clear hcz5_6
          try clear hcz7_0
          try clear hcz7_1
          try clear hcz7_2
          try clear hcz7_3
          try clear hcz7_4
          try clear hcz7_5
          try clear hcz7_6
          try clear hfz11_0
          try clear hfz11_1
          try clear hfz11_2
          try clear hfz11_3
          try clear hfz11_4
          try clear hfz11_5
          try clear hfz11_6
          try clear hfz12_0
          try clear hfz12_1
          try clear hfz12_2
          try clear hfz12_3
          try clear hfz12_4
          try clear hfz12_5
          try clear hfz12_6
          try clear hfz5_0
          try clear hfz5_1
          try clear hfz5_2
          try clear hfz5_3
          try clear hfz5_4
          try clear hfz5_5
          try clear hfz5_6
          try clear hfz7_0
          try clear hfz7_1
          try clear hfz7_2
          try clear hfz7_3
          try clear hfz7_4
          try clear hfz7_5
          try clear hfz7_6
          try clear p2
          obtain ⟨kq, x13_8, rfl, HA, HJ8, BK126, HB⟩ := hcut
          cases kq with
          | zero => exact absurd HA.out (by simp [product_Check.j1])
          | succ kj8 =>
            have H := HA.out
            clear HA
            simp only [product_Check.j1] at H
            by_cases c13 : x13_8 = true
            · subst c13
              have H1 : (some 25) = some r := by rw [if_pos rfl] at H; exact H
              clear H
              have H := H1
              clear H1
              obtain rfl := Option.some.inj H
              go_wp2
              go_ret
              exact ⟨by first | rfl | (simp [errW_none, errW_some] <;> rfl) | (simp [*, errW_none, errW_some] <;> rfl), bz1 HB.out GE126.out⟩
            · replace c13 := Bool.eq_false_iff.mpr c13
              subst c13
              have H1 : (if a0_2 < 1 then (product_Check.j2 kj8 true a0_0 a0_1 a0_2 a0_3 a0_4 a0_5 a0_6) else (product_Check.j2 kj8 (decide (a0_2 > 4096)) a0_0 a0_1 a0_2 a0_3 a0_4 a0_5 a0_6)) = some r := by rw [if_neg (show ¬ (false = true) by decide)] at H; exact H
              clear H
              have H := H1
              clear H1
              have HC14 := Aside0.mk H
              clear H
              go_upto_region 5 with (fail)
              go_cut [22] (fun v22 wc => ∃ (kq : Nat) (x22_13 : Bool), v22 = .bool x22_13 ∧ Aside0 (product_Check.j2 kq x22_13 a0_0 a0_1 a0_2 a0_3 a0_4 a0_5 a0_6 = some r) ∧ Aside0 (kq ≤ kj8) ∧ Aside0 (wc.heap[gb126]? = some (.cells #[.string a0_0, .int .i64 a0_1, .int .i64 a0_2, .int .i64 a0_3, .int .i64 a0_4, .int .i64 a0_5, .bool a0_6] 44 (0, 0))) ∧ Aside0 (Below w.heap.size w wc))
              case first =>
                have H := HC14.out
                clear HC14
                by_cases c15 : a0_2 < 1
                · rw [if_pos c15] at H
                  have c15b0 : decide (a0_2 < 1) = true := decide_eq_true c15
                  clear c15
                  (first | rw [c15b0] | (simp only [i64_w, i32_w]; rw [c15b0]) | skip)
                  have H' := Aside0.mk H
                  clear H
                  have hcz16_0 : wc.cell? ⟨gb126, 0, none⟩ = some (.string a0_0) := (blk_cell BK126.out 0).trans rfl
                  have hcz16_1 : wc.cell? ⟨gb126, 1, none⟩ = some (.int .i64 a0_1) := (blk_cell BK126.out 1).trans rfl
                  have hcz16_2 : wc.cell? ⟨gb126, 2, none⟩ = some (.int .i64 a0_2) := (blk_cell BK126.out 2).trans rfl
                  have hcz16_3 : wc.cell? ⟨gb126, 3, none⟩ = some (.int .i64 a0_3) := (blk_cell BK126.out 3).trans rfl
                  have hcz16_4 : wc.cell? ⟨gb126, 4, none⟩ = some (.int .i64 a0_4) := (blk_cell BK126.out 4).trans rfl
                  have hcz16_5 : wc.cell? ⟨gb126, 5, none⟩ = some (.int .i64 a0_5) := (blk_cell BK126.out 5).trans rfl
                  have hcz16_6 : wc.cell? ⟨gb126, 6, none⟩ = some (.bool a0_6) := (blk_cell BK126.out 6).trans rfl
                  have hfz16_0 := blk_frozen BK126.out 0
                  have hfz16_1 := blk_frozen BK126.out 1
                  have hfz16_2 := blk_frozen BK126.out 2
                  have hfz16_3 := blk_frozen BK126.out 3
                  have hfz16_4 := blk_frozen BK126.out 4
                  have hfz16_5 := blk_frozen BK126.out 5
                  have hfz16_6 := blk_frozen BK126.out 6
                  go_wp2
                  go_meet
                  case rel => exact ⟨_, (true), rf_, H', ⟨by have := HJ1.out; have := HJ8.out; first | omega | exact Nat.le_refl _⟩, ⟨by (with_reducible repeat (first | refine blk_drewN ?_ _ | refine blk_drew ?_ | refine blk_alloc ?_ _)); exact BK126.out⟩, ⟨bz1 HB.out GE126.out⟩⟩
                · rw [if_neg c15] at H
                  have c15b0 : decide (a0_2 < 1) = false := decide_eq_false c15
                  clear c15
                  (first | rw [c15b0] | (simp only [i64_w, i32_w]; rw [c15b0]) | skip)
                  have H' := Aside0.mk H
                  clear H
                  have hcz17_0 : wc.cell? ⟨gb126, 0, none⟩ = some (.string a0_0) := (blk_cell BK126.out 0).trans rfl
                  have hcz17_1 : wc.cell? ⟨gb126, 1, none⟩ = some (.int .i64 a0_1) := (blk_cell BK126.out 1).trans rfl
                  have hcz17_2 : wc.cell? ⟨gb126, 2, none⟩ = some (.int .i64 a0_2) := (blk_cell BK126.out 2).trans rfl
                  have hcz17_3 : wc.cell? ⟨gb126, 3, none⟩ = some (.int .i64 a0_3) := (blk_cell BK126.out 3).trans rfl
                  have hcz17_4 : wc.cell? ⟨gb126, 4, none⟩ = some (.int .i64 a0_4) := (blk_cell BK126.out 4).trans rfl
                  have hcz17_5 : wc.cell? ⟨gb126, 5, none⟩ = some (.int .i64 a0_5) := (blk_cell BK126.out 5).trans rfl
                  have hcz17_6 : wc.cell? ⟨gb126, 6, none⟩ = some (.bool a0_6) := (blk_cell BK126.out 6).trans rfl
                  have hfz17_0 := blk_frozen BK126.out 0
                  have hfz17_1 := blk_frozen BK126.out 1
                  have hfz17_2 := blk_frozen BK126.out 2
                  have hfz17_3 := blk_frozen BK126.out 3
                  have hfz17_4 := blk_frozen BK126.out 4
                  have hfz17_5 := blk_frozen BK126.out 5
                  have hfz17_6 := blk_frozen BK126.out 6
                  go_wp2
                  go_meet
                  case rel => exact ⟨_, (decide (a0_2 > 4096)), rf_, H', ⟨by have := HJ1.out; have := HJ8.out; first | omega | exact Nat.le_refl _⟩, ⟨by (with_reducible repeat (first | refine blk_drewN ?_ _ | refine blk_drew ?_ | refine blk_alloc ?_ _)); exact BK126.out⟩, ⟨bz1 HB.out GE126.out⟩⟩
              case rest =>
                clear HC14
                try clear c1
                try clear p2
                try clear c3
                try clear c4
                try clear c4b0
                try clear c8
                try clear c10
                try clear c10b0
                try clear c13
                try clear c15
                try clear c15b0
                try clear hcz11_0
                try clear hcz11_1
                try clear hcz11_2
                try clear hcz11_3
                try clear hcz11_4
                try clear hcz11_5
                try clear hcz11_6
                try clear hcz12_0
                try clear hcz12_1
                try clear hcz12_2
                try clear hcz12_3
                try clear hcz12_4
                try clear hcz12_5
                try clear hcz12_6
                try clear hcz16_0
                try clear hcz16_1
                try clear hcz16_2
                try clear hcz16_3
                try clear hcz16_4
                try clear hcz16_5
                try clear hcz16_6
                try clear hcz17_0
                try clear hcz17_1
                try clear hcz17_2
                try clear hcz17_3
                try clear hcz17_4
                try clear hcz17_5
                try clear hcz17_6
                try clear hcz5_0
                try clear hcz5_1
                try clear hcz5_2
                try clear hcz5_3
                try clear hcz5_4
                try clear hcz5_5
                try clear hcz5_6
                try clear hcz7_0
                try clear hcz7_1
                try clear hcz7_2
                try clear hcz7_3
                try clear hcz7_4
                try clear hcz7_5
                try clear hcz7_6
                try clear hfz11_0
                try clear hfz11_1
                try clear hfz11_2
                try clear hfz11_3
                try clear hfz11_4
                try clear hfz11_5
                try clear hfz11_6
                try clear hfz12_0
                try clear hfz12_1
                try clear hfz12_2
                try clear hfz12_3
                try clear hfz12_4
                try clear hfz12_5
                try clear hfz12_6
                try clear hfz16_0
                try clear hfz16_1
                try clear hfz16_2
                try clear hfz16_3
                try clear hfz16_4
                try clear hfz16_5
                try clear hfz16_6
                try clear hfz17_0
                try clear hfz17_1
                try clear hfz17_2
                try clear hfz17_3
                try clear hfz17_4
                try clear hfz17_5
                try clear hfz17_6
                try clear hfz5_0
                try clear hfz5_1
                try clear hfz5_2
                try clear hfz5_3
                try clear hfz5_4
                try clear hfz5_5
                try clear hfz5_6
                try clear hfz7_0
                try clear hfz7_1
                try clear hfz7_2
                try clear hfz7_3
                try clear hfz7_4
                try clear hfz7_5
                try clear hfz7_6
                try clear p2
                obtain ⟨kq, x22_13, rfl, HA, HJ13, BK126, HB⟩ := hcut
                cases kq with
                | zero => exact absurd HA.out (by simp [product_Check.j2])
                | succ kj13 =>
                  have H := HA.out
                  clear HA
                  simp only [product_Check.j2] at H
                  by_cases c18 : x22_13 = true
                  · subst c18
                    have H1 : (some 2) = some r := by rw [if_pos rfl] at H; exact H
                    clear H
                    have H := H1
                    clear H1
                    obtain rfl := Option.some.inj H
                    go_wp2
                    go_ret
                    exact ⟨by first | rfl | (simp [errW_none, errW_some] <;> rfl) | (simp [*, errW_none, errW_some] <;> rfl), bz1 HB.out GE126.out⟩
                  · replace c18 := Bool.eq_false_iff.mpr c18
                    subst c18
                    have H1 : (if a0_3 < 1 then (product_Check.j3 kj13 true a0_0 a0_1 a0_2 a0_3 a0_4 a0_5 a0_6) else (product_Check.j3 kj13 (decide (a0_3 > 16777216)) a0_0 a0_1 a0_2 a0_3 a0_4 a0_5 a0_6)) = some r := by rw [if_neg (show ¬ (false = true) by decide)] at H; exact H
                    clear H
                    have H := H1
                    clear H1
                    have HC19 := Aside0.mk H
                    clear H
                    go_upto_region 7 with (fail)
                    go_cut [31] (fun v31 wc => ∃ (kq : Nat) (x31_18 : Bool), v31 = .bool x31_18 ∧ Aside0 (product_Check.j3 kq x31_18 a0_0 a0_1 a0_2 a0_3 a0_4 a0_5 a0_6 = some r) ∧ Aside0 (kq ≤ kj13) ∧ Aside0 (wc.heap[gb126]? = some (.cells #[.string a0_0, .int .i64 a0_1, .int .i64 a0_2, .int .i64 a0_3, .int .i64 a0_4, .int .i64 a0_5, .bool a0_6] 44 (0, 0))) ∧ Aside0 (Below w.heap.size w wc))
                    case first =>
                      have H := HC19.out
                      clear HC19
                      by_cases c20 : a0_3 < 1
                      · rw [if_pos c20] at H
                        have c20b0 : decide (a0_3 < 1) = true := decide_eq_true c20
                        clear c20
                        (first | rw [c20b0] | (simp only [i64_w, i32_w]; rw [c20b0]) | skip)
                        have H' := Aside0.mk H
                        clear H
                        have hcz21_0 : wc.cell? ⟨gb126, 0, none⟩ = some (.string a0_0) := (blk_cell BK126.out 0).trans rfl
                        have hcz21_1 : wc.cell? ⟨gb126, 1, none⟩ = some (.int .i64 a0_1) := (blk_cell BK126.out 1).trans rfl
                        have hcz21_2 : wc.cell? ⟨gb126, 2, none⟩ = some (.int .i64 a0_2) := (blk_cell BK126.out 2).trans rfl
                        have hcz21_3 : wc.cell? ⟨gb126, 3, none⟩ = some (.int .i64 a0_3) := (blk_cell BK126.out 3).trans rfl
                        have hcz21_4 : wc.cell? ⟨gb126, 4, none⟩ = some (.int .i64 a0_4) := (blk_cell BK126.out 4).trans rfl
                        have hcz21_5 : wc.cell? ⟨gb126, 5, none⟩ = some (.int .i64 a0_5) := (blk_cell BK126.out 5).trans rfl
                        have hcz21_6 : wc.cell? ⟨gb126, 6, none⟩ = some (.bool a0_6) := (blk_cell BK126.out 6).trans rfl
                        have hfz21_0 := blk_frozen BK126.out 0
                        have hfz21_1 := blk_frozen BK126.out 1
                        have hfz21_2 := blk_frozen BK126.out 2
                        have hfz21_3 := blk_frozen BK126.out 3
                        have hfz21_4 := blk_frozen BK126.out 4
                        have hfz21_5 := blk_frozen BK126.out 5
                        have hfz21_6 := blk_frozen BK126.out 6
                        go_wp2
                        go_meet
                        case rel => exact ⟨_, (true), rf_, H', ⟨by have := HJ1.out; have := HJ8.out; have := HJ13.out; first | omega | exact Nat.le_refl _⟩, ⟨by (with_reducible repeat (first | refine blk_drewN ?_ _ | refine blk_drew ?_ | refine blk_alloc ?_ _)); exact BK126.out⟩, ⟨bz1 HB.out GE126.out⟩⟩
                      · rw [if_neg c20] at H
                        have c20b0 : decide (a0_3 < 1) = false := decide_eq_false c20
                        clear c20
                        (first | rw [c20b0] | (simp only [i64_w, i32_w]; rw [c20b0]) | skip)
                        have H' := Aside0.mk H
                        clear H
                        have hcz22_0 : wc.cell? ⟨gb126, 0, none⟩ = some (.string a0_0) := (blk_cell BK126.out 0).trans rfl
                        have hcz22_1 : wc.cell? ⟨gb126, 1, none⟩ = some (.int .i64 a0_1) := (blk_cell BK126.out 1).trans rfl
                        have hcz22_2 : wc.cell? ⟨gb126, 2, none⟩ = some (.int .i64 a0_2) := (blk_cell BK126.out 2).trans rfl
                        have hcz22_3 : wc.cell? ⟨gb126, 3, none⟩ = some (.int .i64 a0_3) := (blk_cell BK126.out 3).trans rfl
                        have hcz22_4 : wc.cell? ⟨gb126, 4, none⟩ = some (.int .i64 a0_4) := (blk_cell BK126.out 4).trans rfl
                        have hcz22_5 : wc.cell? ⟨gb126, 5, none⟩ = some (.int .i64 a0_5) := (blk_cell BK126.out 5).trans rfl
                        have hcz22_6 : wc.cell? ⟨gb126, 6, none⟩ = some (.bool a0_6) := (blk_cell BK126.out 6).trans rfl
                        have hfz22_0 := blk_frozen BK126.out 0
                        have hfz22_1 := blk_frozen BK126.out 1
                        have hfz22_2 := blk_frozen BK126.out 2
                        have hfz22_3 := blk_frozen BK126.out 3
                        have hfz22_4 := blk_frozen BK126.out 4
                        have hfz22_5 := blk_frozen BK126.out 5
                        have hfz22_6 := blk_frozen BK126.out 6
                        go_wp2
                        go_meet
                        case rel => exact ⟨_, (decide (a0_3 > 16777216)), rf_, H', ⟨by have := HJ1.out; have := HJ8.out; have := HJ13.out; first | omega | exact Nat.le_refl _⟩, ⟨by (with_reducible repeat (first | refine blk_drewN ?_ _ | refine blk_drew ?_ | refine blk_alloc ?_ _)); exact BK126.out⟩, ⟨bz1 HB.out GE126.out⟩⟩
                    case rest =>
                      clear HC19
                      try clear c1
                      try clear c2
                      try clear p2
                      try clear c3
                      try clear c4
                      try clear c4b0
                      try clear c8
                      try clear c10
                      try clear c10b0
                      try clear c13
                      try clear c15
                      try clear c15b0
                      try clear c18
                      try clear c20
                      try clear c20b0
                      try clear hcz11_0
                      try clear hcz11_1
                      try clear hcz11_2
                      try clear hcz11_3
                      try clear hcz11_4
                      try clear hcz11_5
                      try clear hcz11_6
                      try clear hcz12_0
                      try clear hcz12_1
                      try clear hcz12_2
                      try clear hcz12_3
                      try clear hcz12_4
                      try clear hcz12_5
                      try clear hcz12_6
                      try clear hcz16_0
                      try clear hcz16_1
                      try clear hcz16_2
                      try clear hcz16_3
                      try clear hcz16_4
                      try clear hcz16_5
                      try clear hcz16_6
                      try clear hcz17_0
                      try clear hcz17_1
                      try clear hcz17_2
                      try clear hcz17_3
                      try clear hcz17_4
                      try clear hcz17_5
                      try clear hcz17_6
                      try clear hcz21_0
                      try clear hcz21_1
                      try clear hcz21_2
                      try clear hcz21_3
                      try clear hcz21_4
                      try clear hcz21_5
                      try clear hcz21_6
                      try clear hcz22_0
                      try clear hcz22_1
                      try clear hcz22_2
                      try clear hcz22_3
                      try clear hcz22_4
                      try clear hcz22_5
                      try clear hcz22_6
                      try clear hcz5_0
                      try clear hcz5_1
                      try clear hcz5_2
                      try clear hcz5_3
                      try clear hcz5_4
                      try clear hcz5_5
                      try clear hcz5_6
                      try clear hcz7_0
                      try clear hcz7_1
                      try clear hcz7_2
                      try clear hcz7_3
                      try clear hcz7_4
                      try clear hcz7_5
                      try clear hcz7_6
                      try clear hfz11_0
                      try clear hfz11_1
                      try clear hfz11_2
                      try clear hfz11_3
                      try clear hfz11_4
                      try clear hfz11_5
                      try clear hfz11_6
                      try clear hfz12_0
                      try clear hfz12_1
                      try clear hfz12_2
                      try clear hfz12_3
                      try clear hfz12_4
                      try clear hfz12_5
                      try clear hfz12_6
                      try clear hfz16_0
                      try clear hfz16_1
                      try clear hfz16_2
                      try clear hfz16_3
                      try clear hfz16_4
                      try clear hfz16_5
                      try clear hfz16_6
                      try clear hfz17_0
                      try clear hfz17_1
                      try clear hfz17_2
                      try clear hfz17_3
                      try clear hfz17_4
                      try clear hfz17_5
                      try clear hfz17_6
                      try clear hfz21_0
                      try clear hfz21_1
                      try clear hfz21_2
                      try clear hfz21_3
                      try clear hfz21_4
                      try clear hfz21_5
                      try clear hfz21_6
                      try clear hfz22_0
                      try clear hfz22_1
                      try clear hfz22_2
                      try clear hfz22_3
                      try clear hfz22_4
                      try clear hfz22_5
                      try clear hfz22_6
                      try clear hfz5_0
                      try clear hfz5_1
                      try clear hfz5_2
                      try clear hfz5_3
                      try clear hfz5_4
                      try clear hfz5_5
                      try clear hfz5_6
                      try clear hfz7_0
                      try clear hfz7_1
                      try clear hfz7_2
                      try clear hfz7_3
                      try clear hfz7_4
                      try clear hfz7_5
                      try clear hfz7_6
                      try clear p2
                      obtain ⟨kq, x31_18, rfl, HA, HJ18, BK126, HB⟩ := hcut
                      cases kq with
                      | zero => exact absurd HA.out (by simp [product_Check.j3])
                      | succ kj18 =>
                        have H := HA.out
                        clear HA
                        simp only [product_Check.j3] at H
                        by_cases c23 : x31_18 = true
                        · subst c23
                          have H1 : (some 16) = some r := by rw [if_pos rfl] at H; exact H
                          clear H
                          have H := H1
                          clear H1
                          obtain rfl := Option.some.inj H
                          go_wp2
                          go_ret
                          exact ⟨by first | rfl | (simp [errW_none, errW_some] <;> rfl) | (simp [*, errW_none, errW_some] <;> rfl), bz1 HB.out GE126.out⟩
                        · replace c23 := Bool.eq_false_iff.mpr c23
                          subst c23
                          have H1 : ((product_within.f a0_4 16777216).bind fun t128 => (if t128 = true then ((product_within.f a0_5 16777216).bind fun t129 => (if t129 = true then (if a0_4 > a0_5 then (some 17) else (if a0_3 = 0 then (none) else (if (Int.tmod a0_4 a0_3) = 0 then (if (Int.tmod a0_5 a0_3) = 0 then (some 0) else (some 17)) else (some 17)))) else (some 17))) else (some 17))) = some r := by rw [if_neg (show ¬ (false = true) by decide)] at H; exact H
                          clear H
                          have H := H1
                          clear H1
                          replace H := Option.bind_eq_some_iff.mp H
                          obtain ⟨t128, A240, H⟩ := H
                          replace H : (if t128 = true then ((product_within.f a0_5 16777216).bind fun t129 => (if t129 = true then (if a0_4 > a0_5 then (some 17) else (if a0_3 = 0 then (none) else (if (Int.tmod a0_4 a0_3) = 0 then (if (Int.tmod a0_5 a0_3) = 0 then (some 0) else (some 17)) else (some 17)))) else (some 17))) else (some 17)) = some r := H
                          have A24 := Aside0.mk A240
                          clear A240
                          by_cases c25 : t128 = true
                          · subst c25
                            have H1 : ((product_within.f a0_5 16777216).bind fun t129 => (if t129 = true then (if a0_4 > a0_5 then (some 17) else (if a0_3 = 0 then (none) else (if (Int.tmod a0_4 a0_3) = 0 then (if (Int.tmod a0_5 a0_3) = 0 then (some 0) else (some 17)) else (some 17)))) else (some 17))) = some r := by rw [if_pos rfl] at H; exact H
                            clear H
                            have H := H1
                            clear H1
                            replace H := Option.bind_eq_some_iff.mp H
                            obtain ⟨t129, A260, H⟩ := H
                            replace H : (if t129 = true then (if a0_4 > a0_5 then (some 17) else (if a0_3 = 0 then (none) else (if (Int.tmod a0_4 a0_3) = 0 then (if (Int.tmod a0_5 a0_3) = 0 then (some 0) else (some 17)) else (some 17)))) else (some 17)) = some r := H
                            have A26 := Aside0.mk A260
                            clear A260
                            by_cases c27 : t129 = true
                            · subst c27
                              have H1 : (if a0_4 > a0_5 then (some 17) else (if a0_3 = 0 then (none) else (if (Int.tmod a0_4 a0_3) = 0 then (if (Int.tmod a0_5 a0_3) = 0 then (some 0) else (some 17)) else (some 17)))) = some r := by rw [if_pos rfl] at H; exact H
                              clear H
                              have H := H1
                              clear H1
                              by_cases c28 : a0_4 > a0_5
                              · rw [if_pos c28] at H
                                have c28b0 : decide (a0_5 < a0_4) = true := decide_eq_true c28
                                clear c28
                                obtain rfl := Option.some.inj H
                                have hcz29_0 : wc.cell? ⟨gb126, 0, none⟩ = some (.string a0_0) := (blk_cell BK126.out 0).trans rfl
                                have hcz29_1 : wc.cell? ⟨gb126, 1, none⟩ = some (.int .i64 a0_1) := (blk_cell BK126.out 1).trans rfl
                                have hcz29_2 : wc.cell? ⟨gb126, 2, none⟩ = some (.int .i64 a0_2) := (blk_cell BK126.out 2).trans rfl
                                have hcz29_3 : wc.cell? ⟨gb126, 3, none⟩ = some (.int .i64 a0_3) := (blk_cell BK126.out 3).trans rfl
                                have hcz29_4 : wc.cell? ⟨gb126, 4, none⟩ = some (.int .i64 a0_4) := (blk_cell BK126.out 4).trans rfl
                                have hcz29_5 : wc.cell? ⟨gb126, 5, none⟩ = some (.int .i64 a0_5) := (blk_cell BK126.out 5).trans rfl
                                have hcz29_6 : wc.cell? ⟨gb126, 6, none⟩ = some (.bool a0_6) := (blk_cell BK126.out 6).trans rfl
                                have hfz29_0 := blk_frozen BK126.out 0
                                have hfz29_1 := blk_frozen BK126.out 1
                                have hfz29_2 := blk_frozen BK126.out 2
                                have hfz29_3 := blk_frozen BK126.out 3
                                have hfz29_4 := blk_frozen BK126.out 4
                                have hfz29_5 := blk_frozen BK126.out 5
                                have hfz29_6 := blk_frozen BK126.out 6
                                go_wp2_with (first | ((with_reducible refine gate_callee (f := 54) rfl ?_); refine goesL_ (some 43) rfl rfl Try.func54 (by kernel_rfl) rfl #[.int .i64 a0_4, .int .i64 16777216] rfl pm_ ?_; (with_reducible refine (product_within.calls a0_4 16777216 true _ A24.out).mono ?_); rintro e w' ⟨rfl, ⟨nd, rfl⟩⟩; refine ⟨_, rfl, ?_⟩) | (go_at_call 54; (with_reducible refine (product_within.calls a0_5 16777216 true _ A26.out).mono ?_); rintro e w' ⟨rfl, ⟨nd, rfl⟩⟩))
                                go_ret
                                exact ⟨by first | rfl | (simp [errW_none, errW_some] <;> rfl) | (simp [*, errW_none, errW_some] <;> rfl), bz1 HB.out GE126.out⟩
                              · rw [if_neg c28] at H
                                have c28b0 : decide (a0_5 < a0_4) = false := decide_eq_false c28
                                clear c28
                                by_cases c30 : a0_3 = 0
                                · rw [if_pos c30] at H
                                  exact absurd H (by simp)
                                · rw [if_neg c30] at H
                                  have c30b0 : (a0_3 == 0) = false := beq_eq_false_iff_ne.mpr c30
                                  have c30b1 : (a0_3 != 0) = true := bne_iff_ne.mpr c30
                                  by_cases c31 : (Int.tmod a0_4 a0_3) = 0
                                  · rw [if_pos c31] at H
                                    have c31b0 : ((Int.tmod a0_4 a0_3) == 0) = true := beq_iff_eq.mpr c31
                                    have c31b1 : ((Int.tmod a0_4 a0_3) != 0) = false := bne_eq_false_iff_eq.mpr c31
                                    clear c31
                                    by_cases c32 : (Int.tmod a0_5 a0_3) = 0
                                    · rw [if_pos c32] at H
                                      have c32b0 : ((Int.tmod a0_5 a0_3) == 0) = true := beq_iff_eq.mpr c32
                                      have c32b1 : ((Int.tmod a0_5 a0_3) != 0) = false := bne_eq_false_iff_eq.mpr c32
                                      clear c32
                                      obtain rfl := Option.some.inj H
                                      have hcz33_0 : wc.cell? ⟨gb126, 0, none⟩ = some (.string a0_0) := (blk_cell BK126.out 0).trans rfl
                                      have hcz33_1 : wc.cell? ⟨gb126, 1, none⟩ = some (.int .i64 a0_1) := (blk_cell BK126.out 1).trans rfl
                                      have hcz33_2 : wc.cell? ⟨gb126, 2, none⟩ = some (.int .i64 a0_2) := (blk_cell BK126.out 2).trans rfl
                                      have hcz33_3 : wc.cell? ⟨gb126, 3, none⟩ = some (.int .i64 a0_3) := (blk_cell BK126.out 3).trans rfl
                                      have hcz33_4 : wc.cell? ⟨gb126, 4, none⟩ = some (.int .i64 a0_4) := (blk_cell BK126.out 4).trans rfl
                                      have hcz33_5 : wc.cell? ⟨gb126, 5, none⟩ = some (.int .i64 a0_5) := (blk_cell BK126.out 5).trans rfl
                                      have hcz33_6 : wc.cell? ⟨gb126, 6, none⟩ = some (.bool a0_6) := (blk_cell BK126.out 6).trans rfl
                                      have hfz33_0 := blk_frozen BK126.out 0
                                      have hfz33_1 := blk_frozen BK126.out 1
                                      have hfz33_2 := blk_frozen BK126.out 2
                                      have hfz33_3 := blk_frozen BK126.out 3
                                      have hfz33_4 := blk_frozen BK126.out 4
                                      have hfz33_5 := blk_frozen BK126.out 5
                                      have hfz33_6 := blk_frozen BK126.out 6
                                      go_wp2_with (first | ((with_reducible refine gate_callee (f := 54) rfl ?_); refine goesL_ (some 43) rfl rfl Try.func54 (by kernel_rfl) rfl #[.int .i64 a0_4, .int .i64 16777216] rfl pm_ ?_; (with_reducible refine (product_within.calls a0_4 16777216 true _ A24.out).mono ?_); rintro e w' ⟨rfl, ⟨nd, rfl⟩⟩; refine ⟨_, rfl, ?_⟩) | (go_at_call 54; (with_reducible refine (product_within.calls a0_5 16777216 true _ A26.out).mono ?_); rintro e w' ⟨rfl, ⟨nd, rfl⟩⟩))
                                      go_ret
                                      exact ⟨by first | rfl | (simp [errW_none, errW_some] <;> rfl) | (simp [*, errW_none, errW_some] <;> rfl), bz1 HB.out GE126.out⟩
                                    · rw [if_neg c32] at H
                                      have c32b0 : ((Int.tmod a0_5 a0_3) == 0) = false := beq_eq_false_iff_ne.mpr c32
                                      have c32b1 : ((Int.tmod a0_5 a0_3) != 0) = true := bne_iff_ne.mpr c32
                                      obtain rfl := Option.some.inj H
                                      have hcz34_0 : wc.cell? ⟨gb126, 0, none⟩ = some (.string a0_0) := (blk_cell BK126.out 0).trans rfl
                                      have hcz34_1 : wc.cell? ⟨gb126, 1, none⟩ = some (.int .i64 a0_1) := (blk_cell BK126.out 1).trans rfl
                                      have hcz34_2 : wc.cell? ⟨gb126, 2, none⟩ = some (.int .i64 a0_2) := (blk_cell BK126.out 2).trans rfl
                                      have hcz34_3 : wc.cell? ⟨gb126, 3, none⟩ = some (.int .i64 a0_3) := (blk_cell BK126.out 3).trans rfl
                                      have hcz34_4 : wc.cell? ⟨gb126, 4, none⟩ = some (.int .i64 a0_4) := (blk_cell BK126.out 4).trans rfl
                                      have hcz34_5 : wc.cell? ⟨gb126, 5, none⟩ = some (.int .i64 a0_5) := (blk_cell BK126.out 5).trans rfl
                                      have hcz34_6 : wc.cell? ⟨gb126, 6, none⟩ = some (.bool a0_6) := (blk_cell BK126.out 6).trans rfl
                                      have hfz34_0 := blk_frozen BK126.out 0
                                      have hfz34_1 := blk_frozen BK126.out 1
                                      have hfz34_2 := blk_frozen BK126.out 2
                                      have hfz34_3 := blk_frozen BK126.out 3
                                      have hfz34_4 := blk_frozen BK126.out 4
                                      have hfz34_5 := blk_frozen BK126.out 5
                                      have hfz34_6 := blk_frozen BK126.out 6
                                      go_wp2_with (first | ((with_reducible refine gate_callee (f := 54) rfl ?_); refine goesL_ (some 43) rfl rfl Try.func54 (by kernel_rfl) rfl #[.int .i64 a0_4, .int .i64 16777216] rfl pm_ ?_; (with_reducible refine (product_within.calls a0_4 16777216 true _ A24.out).mono ?_); rintro e w' ⟨rfl, ⟨nd, rfl⟩⟩; refine ⟨_, rfl, ?_⟩) | (go_at_call 54; (with_reducible refine (product_within.calls a0_5 16777216 true _ A26.out).mono ?_); rintro e w' ⟨rfl, ⟨nd, rfl⟩⟩))
                                      go_ret
                                      exact ⟨by first | rfl | (simp [errW_none, errW_some] <;> rfl) | (simp [*, errW_none, errW_some] <;> rfl), bz1 HB.out GE126.out⟩
                                  · rw [if_neg c31] at H
                                    have c31b0 : ((Int.tmod a0_4 a0_3) == 0) = false := beq_eq_false_iff_ne.mpr c31
                                    have c31b1 : ((Int.tmod a0_4 a0_3) != 0) = true := bne_iff_ne.mpr c31
                                    obtain rfl := Option.some.inj H
                                    have hcz35_0 : wc.cell? ⟨gb126, 0, none⟩ = some (.string a0_0) := (blk_cell BK126.out 0).trans rfl
                                    have hcz35_1 : wc.cell? ⟨gb126, 1, none⟩ = some (.int .i64 a0_1) := (blk_cell BK126.out 1).trans rfl
                                    have hcz35_2 : wc.cell? ⟨gb126, 2, none⟩ = some (.int .i64 a0_2) := (blk_cell BK126.out 2).trans rfl
                                    have hcz35_3 : wc.cell? ⟨gb126, 3, none⟩ = some (.int .i64 a0_3) := (blk_cell BK126.out 3).trans rfl
                                    have hcz35_4 : wc.cell? ⟨gb126, 4, none⟩ = some (.int .i64 a0_4) := (blk_cell BK126.out 4).trans rfl
                                    have hcz35_5 : wc.cell? ⟨gb126, 5, none⟩ = some (.int .i64 a0_5) := (blk_cell BK126.out 5).trans rfl
                                    have hcz35_6 : wc.cell? ⟨gb126, 6, none⟩ = some (.bool a0_6) := (blk_cell BK126.out 6).trans rfl
                                    have hfz35_0 := blk_frozen BK126.out 0
                                    have hfz35_1 := blk_frozen BK126.out 1
                                    have hfz35_2 := blk_frozen BK126.out 2
                                    have hfz35_3 := blk_frozen BK126.out 3
                                    have hfz35_4 := blk_frozen BK126.out 4
                                    have hfz35_5 := blk_frozen BK126.out 5
                                    have hfz35_6 := blk_frozen BK126.out 6
                                    go_wp2_with (first | ((with_reducible refine gate_callee (f := 54) rfl ?_); refine goesL_ (some 43) rfl rfl Try.func54 (by kernel_rfl) rfl #[.int .i64 a0_4, .int .i64 16777216] rfl pm_ ?_; (with_reducible refine (product_within.calls a0_4 16777216 true _ A24.out).mono ?_); rintro e w' ⟨rfl, ⟨nd, rfl⟩⟩; refine ⟨_, rfl, ?_⟩) | (go_at_call 54; (with_reducible refine (product_within.calls a0_5 16777216 true _ A26.out).mono ?_); rintro e w' ⟨rfl, ⟨nd, rfl⟩⟩))
                                    go_ret
                                    exact ⟨by first | rfl | (simp [errW_none, errW_some] <;> rfl) | (simp [*, errW_none, errW_some] <;> rfl), bz1 HB.out GE126.out⟩
                            · replace c27 := Bool.eq_false_iff.mpr c27
                              subst c27
                              have H1 : (some 17) = some r := by rw [if_neg (show ¬ (false = true) by decide)] at H; exact H
                              clear H
                              have H := H1
                              clear H1
                              obtain rfl := Option.some.inj H
                              have hcz36_0 : wc.cell? ⟨gb126, 0, none⟩ = some (.string a0_0) := (blk_cell BK126.out 0).trans rfl
                              have hcz36_1 : wc.cell? ⟨gb126, 1, none⟩ = some (.int .i64 a0_1) := (blk_cell BK126.out 1).trans rfl
                              have hcz36_2 : wc.cell? ⟨gb126, 2, none⟩ = some (.int .i64 a0_2) := (blk_cell BK126.out 2).trans rfl
                              have hcz36_3 : wc.cell? ⟨gb126, 3, none⟩ = some (.int .i64 a0_3) := (blk_cell BK126.out 3).trans rfl
                              have hcz36_4 : wc.cell? ⟨gb126, 4, none⟩ = some (.int .i64 a0_4) := (blk_cell BK126.out 4).trans rfl
                              have hcz36_5 : wc.cell? ⟨gb126, 5, none⟩ = some (.int .i64 a0_5) := (blk_cell BK126.out 5).trans rfl
                              have hcz36_6 : wc.cell? ⟨gb126, 6, none⟩ = some (.bool a0_6) := (blk_cell BK126.out 6).trans rfl
                              have hfz36_0 := blk_frozen BK126.out 0
                              have hfz36_1 := blk_frozen BK126.out 1
                              have hfz36_2 := blk_frozen BK126.out 2
                              have hfz36_3 := blk_frozen BK126.out 3
                              have hfz36_4 := blk_frozen BK126.out 4
                              have hfz36_5 := blk_frozen BK126.out 5
                              have hfz36_6 := blk_frozen BK126.out 6
                              go_wp2_with (first | ((with_reducible refine gate_callee (f := 54) rfl ?_); refine goesL_ (some 43) rfl rfl Try.func54 (by kernel_rfl) rfl #[.int .i64 a0_4, .int .i64 16777216] rfl pm_ ?_; (with_reducible refine (product_within.calls a0_4 16777216 true _ A24.out).mono ?_); rintro e w' ⟨rfl, ⟨nd, rfl⟩⟩; refine ⟨_, rfl, ?_⟩) | (go_at_call 54; (with_reducible refine (product_within.calls a0_5 16777216 false _ A26.out).mono ?_); rintro e w' ⟨rfl, ⟨nd, rfl⟩⟩))
                              go_ret
                              exact ⟨by first | rfl | (simp [errW_none, errW_some] <;> rfl) | (simp [*, errW_none, errW_some] <;> rfl), bz1 HB.out GE126.out⟩
                          · replace c25 := Bool.eq_false_iff.mpr c25
                            subst c25
                            have H1 : (some 17) = some r := by rw [if_neg (show ¬ (false = true) by decide)] at H; exact H
                            clear H
                            have H := H1
                            clear H1
                            obtain rfl := Option.some.inj H
                            have hcz37_0 : wc.cell? ⟨gb126, 0, none⟩ = some (.string a0_0) := (blk_cell BK126.out 0).trans rfl
                            have hcz37_1 : wc.cell? ⟨gb126, 1, none⟩ = some (.int .i64 a0_1) := (blk_cell BK126.out 1).trans rfl
                            have hcz37_2 : wc.cell? ⟨gb126, 2, none⟩ = some (.int .i64 a0_2) := (blk_cell BK126.out 2).trans rfl
                            have hcz37_3 : wc.cell? ⟨gb126, 3, none⟩ = some (.int .i64 a0_3) := (blk_cell BK126.out 3).trans rfl
                            have hcz37_4 : wc.cell? ⟨gb126, 4, none⟩ = some (.int .i64 a0_4) := (blk_cell BK126.out 4).trans rfl
                            have hcz37_5 : wc.cell? ⟨gb126, 5, none⟩ = some (.int .i64 a0_5) := (blk_cell BK126.out 5).trans rfl
                            have hcz37_6 : wc.cell? ⟨gb126, 6, none⟩ = some (.bool a0_6) := (blk_cell BK126.out 6).trans rfl
                            have hfz37_0 := blk_frozen BK126.out 0
                            have hfz37_1 := blk_frozen BK126.out 1
                            have hfz37_2 := blk_frozen BK126.out 2
                            have hfz37_3 := blk_frozen BK126.out 3
                            have hfz37_4 := blk_frozen BK126.out 4
                            have hfz37_5 := blk_frozen BK126.out 5
                            have hfz37_6 := blk_frozen BK126.out 6
                            go_wp2_with (first | ((with_reducible refine gate_callee (f := 54) rfl ?_); refine goesL_ (some 43) rfl rfl Try.func54 (by kernel_rfl) rfl #[.int .i64 a0_4, .int .i64 16777216] rfl pm_ ?_; (with_reducible refine (product_within.calls a0_4 16777216 false _ A24.out).mono ?_); rintro e w' ⟨rfl, ⟨nd, rfl⟩⟩; refine ⟨_, rfl, ?_⟩))
                            go_ret
                            exact ⟨by first | rfl | (simp [errW_none, errW_some] <;> rfl) | (simp [*, errW_none, errW_some] <;> rfl), bz1 HB.out GE126.out⟩

end Go.Proofs.Ytjmkdmbgldcleaa.PTearWorth
