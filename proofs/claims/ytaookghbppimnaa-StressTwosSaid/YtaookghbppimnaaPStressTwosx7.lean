-- Written by a program of this session's (a turned copy of the kit's print, with functions proved by hand).
import Derived.Test.YtaookghbppimnaaPStressTwosx0
import Derived.Test.YtaookghbppimnaaPStressTwosx5
namespace Go.Proofs.Ytaookghbppimnaa.PStressTwos
open Go.RowKit Go.Proofs.YtaookghbppimnaaW.PrintWords Go.Proofs.YtaookghbppimnaaW.PrintLast Go.Proofs.YtaookghbppimnaaW.PrintMore
attribute [local go_sem] max2_int min2_int max_two min_two max_three min_three max_four min_four Go.Proofs.YtaookghbppimnaaHand.run_leq_str Go.Proofs.YtaookghbppimnaaHand.run_gtr_str Go.Proofs.YtaookghbppimnaaHand.run_geq_str   -- for this text's walks alone
set_option linter.unusedVariables false
set_option linter.unusedSimpArgs false

/-! ### contangolaw39_kept: function 17 -/
abbrev y7 : Bool := true
abbrev n7 : Bool := false
def contangolaw39_kept.l0 : Nat → List (S49) → List (S49) → Int → Int → Option (Bool)
  | 0, _, _, _, _ => none
  | k + 1, x0, x1, x7, x8 => if x8 < x7 then (if 0 ≤ x8 then (if x8 < (x0.length : Int) then (if x8 < (x1.length : Int) then (if ((rd_T49 x0 x8).f0).toList = ((rd_T49 x1 x8).f0).toList then (if ((rd_T49 x0 x8).f1).toList = ((rd_T49 x1 x8).f1).toList then (if ((rd_T49 x0 x8).f3) = ((rd_T49 x1 x8).f3) then ((contangoref39_Ints.f k ((rd_T49 x0 x8).f2) ((rd_T49 x1 x8).f2)).bind fun t209 => (if t209 = true then (contangolaw39_kept.l0 k x0 x1 x7 (wrap64 (x8 + 1))) else (some false))) else (some false)) else (some false)) else (some false)) else (none)) else (none)) else (none)) else (some true)
def contangolaw39_kept.f (k : Nat) (l0 : List (S49)) (l1 : List (S49)) : Option (Bool) := contangolaw39_kept.l0 k l0 l1 (l0.length : Int) 0
theorem contangolaw39_kept.mono_l : ∀ k, (∀ y0 y1 y2 y3, LeO (contangolaw39_kept.l0 k y0 y1 y2 y3) (contangolaw39_kept.l0 (k + 1) y0 y1 y2 y3))
  | 0 => fun _ _ _ _ r h => by simp [contangolaw39_kept.l0] at h
  | k + 1 => by
    have ih0 := contangolaw39_kept.mono_l k
    · intro y0 y1 y2 y3
      unfold contangolaw39_kept.l0
      repeat' first
      | (with_reducible exact ih0 _ _ _ _)
      | (with_reducible exact contangoref39_Ints.mono _ _ _)
      | (with_reducible exact LeO.refl _)
      | (with_reducible exact LeO.none _)
      | (with_reducible refine LeO.ite ?_ ?_)
      | (with_reducible refine LeO.bind ?_ (fun _ => ?_))
      | exact ih0 _ _ _ _
      | exact contangoref39_Ints.mono _ _ _
      | exact LeO.none _
      | refine LeO.ite ?_ ?_
      | refine LeO.bind ?_ (fun _ => ?_)
theorem contangolaw39_kept.mono : ∀ a0 a1 k, LeO (contangolaw39_kept.f k a0 a1) (contangolaw39_kept.f (k + 1) a0 a1) := by
  intro a0 a1 k
  have ih0 := contangolaw39_kept.mono_l k
  unfold contangolaw39_kept.f
  repeat' first
      | (with_reducible exact ih0 _ _ _ _)
      | (with_reducible exact contangoref39_Ints.mono _ _ _)
      | (with_reducible exact LeO.refl _)
      | (with_reducible exact LeO.none _)
      | (with_reducible refine LeO.ite ?_ ?_)
      | (with_reducible refine LeO.bind ?_ (fun _ => ?_))
      | exact ih0 _ _ _ _
      | exact contangoref39_Ints.mono _ _ _
      | exact LeO.none _
      | refine LeO.ite ?_ ?_
      | refine LeO.bind ?_ (fun _ => ?_)
def contangolaw39_kept.T4 : Bool × List (List Nat × List Nat) := (true, [([], []), ([], []), ([0, 1], [0, 1]), ([2], [2]), ([3], [3]), ([], []), ([], []), ([5, 6], [5, 6]), ([7], [7]), ([8], [8]), ([4, 9], [4, 9]), ([10], [10]), ([11], [11]), ([11], [11]), ([12, 13, 11], [11, 12, 13]), ([14, 11], [11, 14]), ([15, 11], [11, 15]), ([11], [11]), ([11], [11]), ([17, 18, 11], [11, 17, 18]), ([19, 11], [11, 19]), ([20, 11], [11, 20]), ([16, 21, 11], [11, 16, 21]), ([11, 22], [11, 22]), ([23, 11], [23]), ([24], [24]), ([24], [24]), ([25, 26, 24], [24, 25, 26]), ([27, 24], [24, 27]), ([28, 24], [24, 28]), ([24], [24]), ([24], [24]), ([30, 31, 24], [24, 30, 31]), ([32, 24], [24, 32]), ([33, 24], [24, 33]), ([29, 34, 24], [24, 29, 34]), ([24, 35], [24, 35]), ([36, 24], [36]), ([37], [37]), ([37], [37]), ([38, 39, 37], [37, 38, 39]), ([40, 37], [37, 40]), ([41, 37], [37, 41]), ([37], [37]), ([37], [37]), ([43, 44, 37], [37, 43, 44]), ([45, 37], [37, 45]), ([46, 37], [37, 46]), ([42, 47, 37, 37], [37, 42, 47]), ([48, 37], [37, 48]), ([37, 49], [37, 49])])
def contangolaw39_kept.B4 : List Nat := [0, 0, 3, 7, 15, 0, 0, 96, 224, 480, 1023, 2047, 4095, 4095, 16383, 32767, 65535, 4095, 4095, 397311, 921599, 1970175, 4194303, 8388607, 16777215, 33554431, 33554431, 134217727, 268435455, 536870911, 33554431, 33554431, 3254779903, 7549747199, 16139681791, 34359738367, 68719476735, 137438953471, 274877906943, 274877906943, 1099511627775, 2199023255551, 4398046511103, 274877906943, 274877906943, 26663156973567, 61847529062399, 132216273240063, 281474976710655, 562949953421311, 1125899906842623]
theorem contangolaw39_kept.tab4 : rtab .any (opsOf Try.f17 4) = contangolaw39_kept.T4 := by kernel_rfl
theorem contangolaw39_kept.bits4 : waitsOk contangolaw39_kept.T4.2 contangolaw39_kept.B4 = true := by kernel_rfl
set_option maxHeartbeats 8000000 in
set_option maxRecDepth 100000 in
theorem contangolaw39_kept.calls (k : Nat) (A0 : Option Addr) (c0 : Nat) (l0 : List (S49)) (A1 : Option Addr) (c1 : Nat) (l1 : List (S49)) (r : Bool) (w : World) (hr0 : Kd.C k49 w A0 l0.length l0) (hc0 : l0.length ≤ c0) (hr1 : Kd.C k49 w A1 l1.length l1) (hc1 : l1.length ≤ c1) (h : contangolaw39_kept.f k l0 l1 = some r) :
    Calls Try.prog 17 #[.slice A0 l0.length c0, .slice A1 l1.length c1] w fun e w' => e = .returned (.bool r) ∧ Below w.heap.size w w' := by
 have HR0 := Aside0.mk hr0
 have HC0 := Aside0.mk hc0
 clear hr0 hc0
 have HR1 := Aside0.mk hr1
 have HC1 := Aside0.mk hc1
 clear hr1 hc1
 have HB := Aside0.mk (Below.refl w.heap.size w)
 have H : (contangolaw39_kept.l0 k l0 l1 (l0.length : Int) 0) = some r := h
 clear h
 have H' := Aside0.mk H
 clear H
 go_enter Try.func17, Try.ntmps17
 go_wp2
 go_loopg [8] k (fun kq v8 w' => ∃ (x8_1 : Int), v8 = .int .i64 x8_1 ∧ Aside0 (contangolaw39_kept.l0 kq l0 l1 (l0.length : Int) x8_1 = some r) ∧ Aside0 (kq ≤ k) ∧ Aside0 (Below w.heap.size w w'))
 case atStart => exact ⟨(0), (by first | rfl | (simp; done) | (simp [*]; done)), H', ⟨Nat.le_refl _⟩, ⟨by repeat (with_reducible first | exact HB.out | apply below_alloc | apply pw_below_drewN | apply below_drew1)⟩⟩
 case round =>
  clear H'
  try clear c1
  try clear p2
  obtain ⟨x8_1, rfl, HA, HK1, HB⟩ := hrel
  cases gk with
  | zero => exact absurd HA.out (by simp [contangolaw39_kept.l0])
  | succ k1 =>
   have H := HA.out
   clear HA
   simp only [contangolaw39_kept.l0] at H
   by_cases c3 : x8_1 < (l0.length : Int)
   rotate_left
   · rw [if_neg c3] at H
     have c3b0 : decide (x8_1 < (l0.length : Int)) = false := decide_eq_false c3
     clear c3
     obtain rfl := Option.some.inj H
     go_wp2
     go_ret
     exact ⟨by first | rfl | (simp [errW_none, errW_some] <;> rfl) | (simp [*, errW_none, errW_some] <;> rfl), by repeat (with_reducible first | exact HB.out | apply below_alloc | apply pw_below_drewN | apply below_drew1)⟩
   rw [if_pos c3] at H
   have c3b0 : decide (x8_1 < (l0.length : Int)) = true := decide_eq_true c3
   clear c3
   by_cases c4 : 0 ≤ x8_1
   rotate_left
   · rw [if_neg c4] at H
     exact absurd H (by simp)
   rw [if_pos c4] at H
   have c4b0 : decide (0 ≤ x8_1) = true := decide_eq_true c4
   clear c4
   by_cases c5 : x8_1 < (l0.length : Int)
   rotate_left
   · rw [if_neg c5] at H
     exact absurd H (by simp)
   rw [if_pos c5] at H
   have c5b0 : decide (x8_1 < (l0.length : Int)) = true := decide_eq_true c5
   clear c5
   by_cases c6 : x8_1 < (l1.length : Int)
   rotate_left
   · rw [if_neg c6] at H
     exact absurd H (by simp)
   rw [if_pos c6] at H
   have c6b0 : decide (x8_1 < (l1.length : Int)) = true := decide_eq_true c6
   clear c6
   by_cases c7 : ((rd_T49 l0 x8_1).f0).toList = ((rd_T49 l1 x8_1).f0).toList
   rotate_left
   · rw [if_neg c7] at H
     have c7b0 : (((rd_T49 l0 x8_1).f0).toList == ((rd_T49 l1 x8_1).f0).toList) = false := beq_eq_false_iff_ne.mpr c7
     have c7b1 : (((rd_T49 l0 x8_1).f0).toList != ((rd_T49 l1 x8_1).f0).toList) = true := bne_iff_ne.mpr c7
     obtain rfl := Option.some.inj H
     try go_wp2
     have n0_ := Aside0.mk (below_drew1 HB.out)
     clear HB
     have HB := n0_
     clear n0_
     have p201 : 0 ≤ (x8_1 : Int) := of_decide_eq_true (by first | (with_reducible assumption) | assumption)
     have q201 : x8_1 < (l0.length : Int) := of_decide_eq_true (by first | (with_reducible assumption) | assumption)
     obtain ⟨ad201, A201_2, c201_2, e201, hx201_0, hx201_1, hx201_2, hx201_3, hl201_2, hi201_2⟩ := at_T49 HR0.out x8_1 p201 q201
     have hw201_3 := hx201_3
     have hw201_2 := hx201_2
     have hw201_1 := hx201_1
     have hw201_0 := hx201_0
     cases e201
     replace hx201_0 := (HB.out.cell (World.block_lt_of_cell? w _ hx201_0)).trans hx201_0
     replace hx201_1 := (HB.out.cell (World.block_lt_of_cell? w _ hx201_1)).trans hx201_1
     replace hx201_2 := (HB.out.cell (World.block_lt_of_cell? w _ hx201_2)).trans hx201_2
     replace hx201_3 := (HB.out.cell (World.block_lt_of_cell? w _ hx201_3)).trans hx201_3
     have HR201_2 := Aside0.mk hi201_2
     have HC201_2 := Aside0.mk hl201_2
     clear hi201_2 hl201_2
     replace p201 := eq_true p201
     replace q201 := eq_true q201
     have p202 : 0 ≤ (x8_1 : Int) := of_decide_eq_true (by first | (with_reducible assumption) | assumption)
     have q202 : x8_1 < (l1.length : Int) := of_decide_eq_true (by first | (with_reducible assumption) | assumption)
     obtain ⟨ad202, A202_2, c202_2, e202, hx202_0, hx202_1, hx202_2, hx202_3, hl202_2, hi202_2⟩ := at_T49 HR1.out x8_1 p202 q202
     have hw202_3 := hx202_3
     have hw202_2 := hx202_2
     have hw202_1 := hx202_1
     have hw202_0 := hx202_0
     cases e202
     replace hx202_0 := (HB.out.cell (World.block_lt_of_cell? w _ hx202_0)).trans hx202_0
     replace hx202_1 := (HB.out.cell (World.block_lt_of_cell? w _ hx202_1)).trans hx202_1
     replace hx202_2 := (HB.out.cell (World.block_lt_of_cell? w _ hx202_2)).trans hx202_2
     replace hx202_3 := (HB.out.cell (World.block_lt_of_cell? w _ hx202_3)).trans hx202_3
     have HR202_2 := Aside0.mk hi202_2
     have HC202_2 := Aside0.mk hl202_2
     clear hi202_2 hl202_2
     replace p202 := eq_true p202
     replace q202 := eq_true q202
     refine start_ (n := 51) (S := fun w' => w'.cell? (ad201.add ((x8_1).toNat * 4)) = some (.string ((rd_T49 l0 x8_1).f0)) ∧ w'.cell? ⟨(ad201.add ((x8_1).toNat * 4)).block, (ad201.add ((x8_1).toNat * 4)).off + 1, none⟩ = some (.string ((rd_T49 l0 x8_1).f1)) ∧ w'.cell? ⟨(ad201.add ((x8_1).toNat * 4)).block, (ad201.add ((x8_1).toNat * 4)).off + 2, none⟩ = some (.slice A201_2 ((rd_T49 l0 x8_1).f2).length c201_2) ∧ w'.cell? ⟨(ad201.add ((x8_1).toNat * 4)).block, (ad201.add ((x8_1).toNat * 4)).off + 3, none⟩ = some (.int .i64 ((rd_T49 l0 x8_1).f3)) ∧ w'.cell? (ad202.add ((x8_1).toNat * 4)) = some (.string ((rd_T49 l1 x8_1).f0)) ∧ w'.cell? ⟨(ad202.add ((x8_1).toNat * 4)).block, (ad202.add ((x8_1).toNat * 4)).off + 1, none⟩ = some (.string ((rd_T49 l1 x8_1).f1)) ∧ w'.cell? ⟨(ad202.add ((x8_1).toNat * 4)).block, (ad202.add ((x8_1).toNat * 4)).off + 2, none⟩ = some (.slice A202_2 ((rd_T49 l1 x8_1).f2).length c202_2) ∧ w'.cell? ⟨(ad202.add ((x8_1).toNat * 4)).block, (ad202.add ((x8_1).toNat * 4)).off + 3, none⟩ = some (.int .i64 ((rd_T49 l1 x8_1).f3))) (ds := []) #[n7, n7, n7, n7, n7, n7, n7, n7, n7, n7, n7, n7, n7, n7, n7, n7, n7, n7, n7, n7, n7, n7, n7, n7, n7, n7, n7, n7, n7, n7, n7, n7, n7, n7, n7, n7, n7, n7, n7, n7, n7, n7, n7, n7, n7, n7, n7, n7, n7, n7, n7] (by kernel_rfl) rfl rfl ⟨((HB.out.cell (World.block_lt_of_cell? w _ hw201_0)).trans hw201_0), ((HB.out.cell (World.block_lt_of_cell? w _ hw201_1)).trans hw201_1), ((HB.out.cell (World.block_lt_of_cell? w _ hw201_2)).trans hw201_2), ((HB.out.cell (World.block_lt_of_cell? w _ hw201_3)).trans hw201_3), ((HB.out.cell (World.block_lt_of_cell? w _ hw202_0)).trans hw202_0), ((HB.out.cell (World.block_lt_of_cell? w _ hw202_1)).trans hw202_1), ((HB.out.cell (World.block_lt_of_cell? w _ hw202_2)).trans hw202_2), ((HB.out.cell (World.block_lt_of_cell? w _ hw202_3)).trans hw202_3)⟩ (fun hHeld => ?_); refine with_tabW contangolaw39_kept.tab4 contangolaw39_kept.bits4 (fun HT_ HW_ => ?_)
     generalize wr.drew = w16 at HB HR201_2 HR202_2 hx201_0 hx201_1 hx201_2 hx201_3 hx202_0 hx202_1 hx202_2 hx202_3 hHeld ⊢
     refine pure_ (i := 0) (N := some 11) (v := ?_) (a' := ?_) #[y7, n7, n7, n7, n7, n7, n7, n7, n7, n7, n7, n7, n7, n7, n7, n7, n7, n7, n7, n7, n7, n7, n7, n7, n7, n7, n7, n7, n7, n7, n7, n7, n7, n7, n7, n7, n7, n7, n7, n7, n7, n7, n7, n7, n7, n7, n7, n7, n7, n7, n7] rfl rfl (any_of HT_.out (by kernel_rfl)) (fun _ _ _ h => h) (Or.inl ⟨by rfl, ?_⟩) ?_ ?_
     rotate_left
     · intro w'
       go_simp
       with_reducible rfl
     rotate_left
     · simp only [Act.put, List.setIfInBounds_toArray, List.set_cons_zero, List.set_cons_succ, i64_w, i32_w]
       rfl
     refine pure_ (i := 1) (N := some 12) (v := ?_) (a' := ?_) #[y7, y7, n7, n7, n7, n7, n7, n7, n7, n7, n7, n7, n7, n7, n7, n7, n7, n7, n7, n7, n7, n7, n7, n7, n7, n7, n7, n7, n7, n7, n7, n7, n7, n7, n7, n7, n7, n7, n7, n7, n7, n7, n7, n7, n7, n7, n7, n7, n7, n7, n7] rfl rfl (any_of HT_.out (by kernel_rfl)) (fun _ _ _ h => h) (Or.inl ⟨by rfl, ?_⟩) ?_ ?_
     rotate_left
     · intro w'
       go_simp
       with_reducible rfl
     rotate_left
     · simp only [Act.put, List.setIfInBounds_toArray, List.set_cons_zero, List.set_cons_succ, i64_w, i32_w]
       rfl
     refine pure_ (i := 2) (N := some 13) (v := ?_) (a' := ?_) #[y7, y7, y7, n7, n7, n7, n7, n7, n7, n7, n7, n7, n7, n7, n7, n7, n7, n7, n7, n7, n7, n7, n7, n7, n7, n7, n7, n7, n7, n7, n7, n7, n7, n7, n7, n7, n7, n7, n7, n7, n7, n7, n7, n7, n7, n7, n7, n7, n7, n7, n7] rfl rfl (any_of HT_.out (by kernel_rfl)) (fun _ _ _ h => h) (Or.inl ⟨by rfl, ?_⟩) ?_ ?_
     rotate_left
     · intro w'
       go_simp
       with_reducible rfl
     rotate_left
     · simp only [Act.put, List.setIfInBounds_toArray, List.set_cons_zero, List.set_cons_succ, i64_w, i32_w]
       rfl
     refine pure_ (i := 3) (N := some 14) (v := ?_) (a' := ?_) #[y7, y7, y7, y7, n7, n7, n7, n7, n7, n7, n7, n7, n7, n7, n7, n7, n7, n7, n7, n7, n7, n7, n7, n7, n7, n7, n7, n7, n7, n7, n7, n7, n7, n7, n7, n7, n7, n7, n7, n7, n7, n7, n7, n7, n7, n7, n7, n7, n7, n7, n7] rfl rfl (any_of HT_.out (by kernel_rfl)) (fun _ _ _ h => h) (Or.inl ⟨by rfl, ?_⟩) ?_ ?_
     rotate_left
     · intro w'
       go_simp
       with_reducible rfl
     rotate_left
     · simp only [Act.put, List.setIfInBounds_toArray, List.set_cons_zero, List.set_cons_succ, i64_w, i32_w]
       rfl
     refine pure_ (i := 5) (N := some 16) (v := ?_) (a' := ?_) #[y7, y7, y7, y7, n7, y7, n7, n7, n7, n7, n7, n7, n7, n7, n7, n7, n7, n7, n7, n7, n7, n7, n7, n7, n7, n7, n7, n7, n7, n7, n7, n7, n7, n7, n7, n7, n7, n7, n7, n7, n7, n7, n7, n7, n7, n7, n7, n7, n7, n7, n7] rfl rfl (any_of HT_.out (by kernel_rfl)) (fun _ _ _ h => h) (Or.inl ⟨by rfl, ?_⟩) ?_ ?_
     rotate_left
     · intro w'
       go_simp
       with_reducible rfl
     rotate_left
     · simp only [Act.put, List.setIfInBounds_toArray, List.set_cons_zero, List.set_cons_succ, i64_w, i32_w]
       rfl
     refine pure_ (i := 6) (N := some 17) (v := ?_) (a' := ?_) #[y7, y7, y7, y7, n7, y7, y7, n7, n7, n7, n7, n7, n7, n7, n7, n7, n7, n7, n7, n7, n7, n7, n7, n7, n7, n7, n7, n7, n7, n7, n7, n7, n7, n7, n7, n7, n7, n7, n7, n7, n7, n7, n7, n7, n7, n7, n7, n7, n7, n7, n7] rfl rfl (any_of HT_.out (by kernel_rfl)) (fun _ _ _ h => h) (Or.inl ⟨by rfl, ?_⟩) ?_ ?_
     rotate_left
     · intro w'
       go_simp
       with_reducible rfl
     rotate_left
     · simp only [Act.put, List.setIfInBounds_toArray, List.set_cons_zero, List.set_cons_succ, i64_w, i32_w]
       rfl
     refine pure_ (i := 7) (N := some 18) (v := ?_) (a' := ?_) #[y7, y7, y7, y7, n7, y7, y7, y7, n7, n7, n7, n7, n7, n7, n7, n7, n7, n7, n7, n7, n7, n7, n7, n7, n7, n7, n7, n7, n7, n7, n7, n7, n7, n7, n7, n7, n7, n7, n7, n7, n7, n7, n7, n7, n7, n7, n7, n7, n7, n7, n7] rfl rfl (any_of HT_.out (by kernel_rfl)) (fun _ _ _ h => h) (Or.inl ⟨by rfl, ?_⟩) ?_ ?_
     rotate_left
     · intro w'
       go_simp
       with_reducible rfl
     rotate_left
     · simp only [Act.put, List.setIfInBounds_toArray, List.set_cons_zero, List.set_cons_succ, i64_w, i32_w]
       rfl
     refine pure_ (i := 8) (N := some 19) (v := ?_) (a' := ?_) #[y7, y7, y7, y7, n7, y7, y7, y7, y7, n7, n7, n7, n7, n7, n7, n7, n7, n7, n7, n7, n7, n7, n7, n7, n7, n7, n7, n7, n7, n7, n7, n7, n7, n7, n7, n7, n7, n7, n7, n7, n7, n7, n7, n7, n7, n7, n7, n7, n7, n7, n7] rfl rfl (any_of HT_.out (by kernel_rfl)) (fun _ _ _ h => h) (Or.inl ⟨by rfl, ?_⟩) ?_ ?_
     rotate_left
     · intro w'
       go_simp
       with_reducible rfl
     rotate_left
     · simp only [Act.put, List.setIfInBounds_toArray, List.set_cons_zero, List.set_cons_succ, i64_w, i32_w]
       rfl
     refine take_ (i := 4) (N := some 15) (v := ?_) (a' := ?_) #[y7, y7, y7, y7, y7, y7, y7, y7, y7, n7, n7, n7, n7, n7, n7, n7, n7, n7, n7, n7, n7, n7, n7, n7, n7, n7, n7, n7, n7, n7, n7, n7, n7, n7, n7, n7, n7, n7, n7, n7, n7, n7, n7, n7, n7, n7, n7, n7, n7, n7, n7] rfl rfl (take_ofW HT_.out HW_.out (by kernel_rfl)) (fun _ _ _ h => h) (Or.inl ⟨by rfl, ?_⟩) hHeld ?_ ?_
     rotate_left
     · rintro w' ⟨s0, s1, s2, s3, s4, s5, s6, s7⟩
       go_simp
       with_reducible rfl
     rotate_left
     · simp only [Act.put, List.setIfInBounds_toArray, List.set_cons_zero, List.set_cons_succ, i64_w, i32_w]
       rfl
     refine take_ (i := 9) (N := some 20) (v := ?_) (a' := ?_) #[y7, y7, y7, y7, y7, y7, y7, y7, y7, y7, n7, n7, n7, n7, n7, n7, n7, n7, n7, n7, n7, n7, n7, n7, n7, n7, n7, n7, n7, n7, n7, n7, n7, n7, n7, n7, n7, n7, n7, n7, n7, n7, n7, n7, n7, n7, n7, n7, n7, n7, n7] rfl rfl (take_ofW HT_.out HW_.out (by kernel_rfl)) (fun _ _ _ h => h) (Or.inl ⟨by rfl, ?_⟩) hHeld ?_ ?_
     rotate_left
     · rintro w' ⟨s0, s1, s2, s3, s4, s5, s6, s7⟩
       go_simp
       with_reducible rfl
     rotate_left
     · simp only [Act.put, List.setIfInBounds_toArray, List.set_cons_zero, List.set_cons_succ, i64_w, i32_w]
       rfl
     refine pure_ (i := 10) (N := some 21) (v := ?_) (a' := ?_) #[y7, y7, y7, y7, y7, y7, y7, y7, y7, y7, y7, n7, n7, n7, n7, n7, n7, n7, n7, n7, n7, n7, n7, n7, n7, n7, n7, n7, n7, n7, n7, n7, n7, n7, n7, n7, n7, n7, n7, n7, n7, n7, n7, n7, n7, n7, n7, n7, n7, n7, n7] rfl rfl (any_of HT_.out (by kernel_rfl)) (fun _ _ _ h => h) (Or.inl ⟨by rfl, ?_⟩) ?_ ?_
     rotate_left
     · intro w'
       go_simp
       with_reducible rfl
     rotate_left
     · simp only [Act.put, List.setIfInBounds_toArray, List.set_cons_zero, List.set_cons_succ, i64_w, i32_w]
       rfl
     refine pure_ (i := 11) (N := some 22) (v := ?_) (a' := ?_) #[y7, y7, y7, y7, y7, y7, y7, y7, y7, y7, y7, y7, n7, n7, n7, n7, n7, n7, n7, n7, n7, n7, n7, n7, n7, n7, n7, n7, n7, n7, n7, n7, n7, n7, n7, n7, n7, n7, n7, n7, n7, n7, n7, n7, n7, n7, n7, n7, n7, n7, n7] rfl rfl (any_of HT_.out (by kernel_rfl)) (fun _ _ _ h => h) (Or.inl ⟨by rfl, ?_⟩) ?_ ?_
     rotate_left
     · intro w'
       go_simp
       with_reducible rfl
     rotate_left
     · simp only [Act.put, List.setIfInBounds_toArray, List.set_cons_zero, List.set_cons_succ, i64_w, i32_w]
       rfl
     refine pure_ (i := 12) (N := some 23) (v := undef) (a' := ?_) #[y7, y7, y7, y7, y7, y7, y7, y7, y7, y7, y7, y7, y7, n7, n7, n7, n7, n7, n7, n7, n7, n7, n7, n7, n7, n7, n7, n7, n7, n7, n7, n7, n7, n7, n7, n7, n7, n7, n7, n7, n7, n7, n7, n7, n7, n7, n7, n7, n7, n7, n7] rfl rfl (any_of HT_.out (by kernel_rfl)) (fun _ _ _ h => h) (Or.inr ⟨by rfl, rfl⟩) ?_ ?_
     rotate_left
     · simp only [Act.put, List.setIfInBounds_toArray, List.set_cons_zero, List.set_cons_succ, i64_w, i32_w]
       rfl
     refine pure_ (i := 13) (N := some 24) (v := undef) (a' := ?_) #[y7, y7, y7, y7, y7, y7, y7, y7, y7, y7, y7, y7, y7, y7, n7, n7, n7, n7, n7, n7, n7, n7, n7, n7, n7, n7, n7, n7, n7, n7, n7, n7, n7, n7, n7, n7, n7, n7, n7, n7, n7, n7, n7, n7, n7, n7, n7, n7, n7, n7, n7] rfl rfl (any_of HT_.out (by kernel_rfl)) (fun _ _ _ h => h) (Or.inr ⟨by rfl, rfl⟩) ?_ ?_
     rotate_left
     · simp only [Act.put, List.setIfInBounds_toArray, List.set_cons_zero, List.set_cons_succ, i64_w, i32_w]
       rfl
     refine pure_ (i := 14) (N := some 25) (v := undef) (a' := ?_) #[y7, y7, y7, y7, y7, y7, y7, y7, y7, y7, y7, y7, y7, y7, y7, n7, n7, n7, n7, n7, n7, n7, n7, n7, n7, n7, n7, n7, n7, n7, n7, n7, n7, n7, n7, n7, n7, n7, n7, n7, n7, n7, n7, n7, n7, n7, n7, n7, n7, n7, n7] rfl rfl (any_of HT_.out (by kernel_rfl)) (fun _ _ _ h => h) (Or.inr ⟨by rfl, rfl⟩) ?_ ?_
     rotate_left
     · simp only [Act.put, List.setIfInBounds_toArray, List.set_cons_zero, List.set_cons_succ, i64_w, i32_w]
       rfl
     refine pure_ (i := 15) (N := some 26) (v := undef) (a' := ?_) #[y7, y7, y7, y7, y7, y7, y7, y7, y7, y7, y7, y7, y7, y7, y7, y7, n7, n7, n7, n7, n7, n7, n7, n7, n7, n7, n7, n7, n7, n7, n7, n7, n7, n7, n7, n7, n7, n7, n7, n7, n7, n7, n7, n7, n7, n7, n7, n7, n7, n7, n7] rfl rfl (any_of HT_.out (by kernel_rfl)) (fun _ _ _ h => h) (Or.inr ⟨by rfl, rfl⟩) ?_ ?_
     rotate_left
     · simp only [Act.put, List.setIfInBounds_toArray, List.set_cons_zero, List.set_cons_succ, i64_w, i32_w]
       rfl
     refine pure_ (i := 16) (N := some 27) (v := undef) (a' := ?_) #[y7, y7, y7, y7, y7, y7, y7, y7, y7, y7, y7, y7, y7, y7, y7, y7, y7, n7, n7, n7, n7, n7, n7, n7, n7, n7, n7, n7, n7, n7, n7, n7, n7, n7, n7, n7, n7, n7, n7, n7, n7, n7, n7, n7, n7, n7, n7, n7, n7, n7, n7] rfl rfl (any_of HT_.out (by kernel_rfl)) (fun _ _ _ h => h) (Or.inr ⟨by rfl, rfl⟩) ?_ ?_
     rotate_left
     · simp only [Act.put, List.setIfInBounds_toArray, List.set_cons_zero, List.set_cons_succ, i64_w, i32_w]
       rfl
     refine pure_ (i := 17) (N := some 28) (v := undef) (a' := ?_) #[y7, y7, y7, y7, y7, y7, y7, y7, y7, y7, y7, y7, y7, y7, y7, y7, y7, y7, n7, n7, n7, n7, n7, n7, n7, n7, n7, n7, n7, n7, n7, n7, n7, n7, n7, n7, n7, n7, n7, n7, n7, n7, n7, n7, n7, n7, n7, n7, n7, n7, n7] rfl rfl (any_of HT_.out (by kernel_rfl)) (fun _ _ _ h => h) (Or.inr ⟨by rfl, rfl⟩) ?_ ?_
     rotate_left
     · simp only [Act.put, List.setIfInBounds_toArray, List.set_cons_zero, List.set_cons_succ, i64_w, i32_w]
       rfl
     refine pure_ (i := 18) (N := some 29) (v := undef) (a' := ?_) #[y7, y7, y7, y7, y7, y7, y7, y7, y7, y7, y7, y7, y7, y7, y7, y7, y7, y7, y7, n7, n7, n7, n7, n7, n7, n7, n7, n7, n7, n7, n7, n7, n7, n7, n7, n7, n7, n7, n7, n7, n7, n7, n7, n7, n7, n7, n7, n7, n7, n7, n7] rfl rfl (any_of HT_.out (by kernel_rfl)) (fun _ _ _ h => h) (Or.inr ⟨by rfl, rfl⟩) ?_ ?_
     rotate_left
     · simp only [Act.put, List.setIfInBounds_toArray, List.set_cons_zero, List.set_cons_succ, i64_w, i32_w]
       rfl
     refine pure_ (i := 19) (N := some 30) (v := undef) (a' := ?_) #[y7, y7, y7, y7, y7, y7, y7, y7, y7, y7, y7, y7, y7, y7, y7, y7, y7, y7, y7, y7, n7, n7, n7, n7, n7, n7, n7, n7, n7, n7, n7, n7, n7, n7, n7, n7, n7, n7, n7, n7, n7, n7, n7, n7, n7, n7, n7, n7, n7, n7, n7] rfl rfl (any_of HT_.out (by kernel_rfl)) (fun _ _ _ h => h) (Or.inr ⟨by rfl, rfl⟩) ?_ ?_
     rotate_left
     · simp only [Act.put, List.setIfInBounds_toArray, List.set_cons_zero, List.set_cons_succ, i64_w, i32_w]
       rfl
     refine pure_ (i := 20) (N := some 31) (v := undef) (a' := ?_) #[y7, y7, y7, y7, y7, y7, y7, y7, y7, y7, y7, y7, y7, y7, y7, y7, y7, y7, y7, y7, y7, n7, n7, n7, n7, n7, n7, n7, n7, n7, n7, n7, n7, n7, n7, n7, n7, n7, n7, n7, n7, n7, n7, n7, n7, n7, n7, n7, n7, n7, n7] rfl rfl (any_of HT_.out (by kernel_rfl)) (fun _ _ _ h => h) (Or.inr ⟨by rfl, rfl⟩) ?_ ?_
     rotate_left
     · simp only [Act.put, List.setIfInBounds_toArray, List.set_cons_zero, List.set_cons_succ, i64_w, i32_w]
       rfl
     refine pure_ (i := 21) (N := some 32) (v := undef) (a' := ?_) #[y7, y7, y7, y7, y7, y7, y7, y7, y7, y7, y7, y7, y7, y7, y7, y7, y7, y7, y7, y7, y7, y7, n7, n7, n7, n7, n7, n7, n7, n7, n7, n7, n7, n7, n7, n7, n7, n7, n7, n7, n7, n7, n7, n7, n7, n7, n7, n7, n7, n7, n7] rfl rfl (any_of HT_.out (by kernel_rfl)) (fun _ _ _ h => h) (Or.inr ⟨by rfl, rfl⟩) ?_ ?_
     rotate_left
     · simp only [Act.put, List.setIfInBounds_toArray, List.set_cons_zero, List.set_cons_succ, i64_w, i32_w]
       rfl
     refine pure_ (i := 22) (N := some 33) (v := undef) (a' := ?_) #[y7, y7, y7, y7, y7, y7, y7, y7, y7, y7, y7, y7, y7, y7, y7, y7, y7, y7, y7, y7, y7, y7, y7, n7, n7, n7, n7, n7, n7, n7, n7, n7, n7, n7, n7, n7, n7, n7, n7, n7, n7, n7, n7, n7, n7, n7, n7, n7, n7, n7, n7] rfl rfl (any_of HT_.out (by kernel_rfl)) (fun _ _ _ h => h) (Or.inr ⟨by rfl, rfl⟩) ?_ ?_
     rotate_left
     · simp only [Act.put, List.setIfInBounds_toArray, List.set_cons_zero, List.set_cons_succ, i64_w, i32_w]
       rfl
     refine pure_ (i := 23) (N := some 34) (v := ?_) (a' := ?_) #[y7, y7, y7, y7, y7, y7, y7, y7, y7, y7, y7, y7, y7, y7, y7, y7, y7, y7, y7, y7, y7, y7, y7, y7, n7, n7, n7, n7, n7, n7, n7, n7, n7, n7, n7, n7, n7, n7, n7, n7, n7, n7, n7, n7, n7, n7, n7, n7, n7, n7, n7] rfl rfl (any_of HT_.out (by kernel_rfl)) (fun _ _ _ h => h) (Or.inl ⟨by rfl, ?_⟩) ?_ ?_
     rotate_left
     · intro w'
       go_simp
       with_reducible rfl
     rotate_left
     · simp only [Act.put, List.setIfInBounds_toArray, List.set_cons_zero, List.set_cons_succ, i64_w, i32_w]
       rfl
     refine pure_ (i := 24) (N := some 35) (v := ?_) (a' := ?_) #[y7, y7, y7, y7, y7, y7, y7, y7, y7, y7, y7, y7, y7, y7, y7, y7, y7, y7, y7, y7, y7, y7, y7, y7, y7, n7, n7, n7, n7, n7, n7, n7, n7, n7, n7, n7, n7, n7, n7, n7, n7, n7, n7, n7, n7, n7, n7, n7, n7, n7, n7] rfl rfl (any_of HT_.out (by kernel_rfl)) (fun _ _ _ h => h) (Or.inl ⟨by rfl, ?_⟩) ?_ ?_
     rotate_left
     · intro w'
       go_simp
       with_reducible rfl
     rotate_left
     · simp only [Act.put, List.setIfInBounds_toArray, List.set_cons_zero, List.set_cons_succ, i64_w, i32_w]
       rfl
     refine pure_ (i := 25) (N := some 36) (v := undef) (a' := ?_) #[y7, y7, y7, y7, y7, y7, y7, y7, y7, y7, y7, y7, y7, y7, y7, y7, y7, y7, y7, y7, y7, y7, y7, y7, y7, y7, n7, n7, n7, n7, n7, n7, n7, n7, n7, n7, n7, n7, n7, n7, n7, n7, n7, n7, n7, n7, n7, n7, n7, n7, n7] rfl rfl (any_of HT_.out (by kernel_rfl)) (fun _ _ _ h => h) (Or.inr ⟨by rfl, rfl⟩) ?_ ?_
     rotate_left
     · simp only [Act.put, List.setIfInBounds_toArray, List.set_cons_zero, List.set_cons_succ, i64_w, i32_w]
       rfl
     refine pure_ (i := 26) (N := some 37) (v := undef) (a' := ?_) #[y7, y7, y7, y7, y7, y7, y7, y7, y7, y7, y7, y7, y7, y7, y7, y7, y7, y7, y7, y7, y7, y7, y7, y7, y7, y7, y7, n7, n7, n7, n7, n7, n7, n7, n7, n7, n7, n7, n7, n7, n7, n7, n7, n7, n7, n7, n7, n7, n7, n7, n7] rfl rfl (any_of HT_.out (by kernel_rfl)) (fun _ _ _ h => h) (Or.inr ⟨by rfl, rfl⟩) ?_ ?_
     rotate_left
     · simp only [Act.put, List.setIfInBounds_toArray, List.set_cons_zero, List.set_cons_succ, i64_w, i32_w]
       rfl
     refine pure_ (i := 27) (N := some 38) (v := undef) (a' := ?_) #[y7, y7, y7, y7, y7, y7, y7, y7, y7, y7, y7, y7, y7, y7, y7, y7, y7, y7, y7, y7, y7, y7, y7, y7, y7, y7, y7, y7, n7, n7, n7, n7, n7, n7, n7, n7, n7, n7, n7, n7, n7, n7, n7, n7, n7, n7, n7, n7, n7, n7, n7] rfl rfl (any_of HT_.out (by kernel_rfl)) (fun _ _ _ h => h) (Or.inr ⟨by rfl, rfl⟩) ?_ ?_
     rotate_left
     · simp only [Act.put, List.setIfInBounds_toArray, List.set_cons_zero, List.set_cons_succ, i64_w, i32_w]
       rfl
     refine pure_ (i := 28) (N := some 39) (v := undef) (a' := ?_) #[y7, y7, y7, y7, y7, y7, y7, y7, y7, y7, y7, y7, y7, y7, y7, y7, y7, y7, y7, y7, y7, y7, y7, y7, y7, y7, y7, y7, y7, n7, n7, n7, n7, n7, n7, n7, n7, n7, n7, n7, n7, n7, n7, n7, n7, n7, n7, n7, n7, n7, n7] rfl rfl (any_of HT_.out (by kernel_rfl)) (fun _ _ _ h => h) (Or.inr ⟨by rfl, rfl⟩) ?_ ?_
     rotate_left
     · simp only [Act.put, List.setIfInBounds_toArray, List.set_cons_zero, List.set_cons_succ, i64_w, i32_w]
       rfl
     refine pure_ (i := 29) (N := some 40) (v := undef) (a' := ?_) #[y7, y7, y7, y7, y7, y7, y7, y7, y7, y7, y7, y7, y7, y7, y7, y7, y7, y7, y7, y7, y7, y7, y7, y7, y7, y7, y7, y7, y7, y7, n7, n7, n7, n7, n7, n7, n7, n7, n7, n7, n7, n7, n7, n7, n7, n7, n7, n7, n7, n7, n7] rfl rfl (any_of HT_.out (by kernel_rfl)) (fun _ _ _ h => h) (Or.inr ⟨by rfl, rfl⟩) ?_ ?_
     rotate_left
     · simp only [Act.put, List.setIfInBounds_toArray, List.set_cons_zero, List.set_cons_succ, i64_w, i32_w]
       rfl
     refine pure_ (i := 30) (N := some 41) (v := undef) (a' := ?_) #[y7, y7, y7, y7, y7, y7, y7, y7, y7, y7, y7, y7, y7, y7, y7, y7, y7, y7, y7, y7, y7, y7, y7, y7, y7, y7, y7, y7, y7, y7, y7, n7, n7, n7, n7, n7, n7, n7, n7, n7, n7, n7, n7, n7, n7, n7, n7, n7, n7, n7, n7] rfl rfl (any_of HT_.out (by kernel_rfl)) (fun _ _ _ h => h) (Or.inr ⟨by rfl, rfl⟩) ?_ ?_
     rotate_left
     · simp only [Act.put, List.setIfInBounds_toArray, List.set_cons_zero, List.set_cons_succ, i64_w, i32_w]
       rfl
     refine pure_ (i := 31) (N := some 42) (v := undef) (a' := ?_) #[y7, y7, y7, y7, y7, y7, y7, y7, y7, y7, y7, y7, y7, y7, y7, y7, y7, y7, y7, y7, y7, y7, y7, y7, y7, y7, y7, y7, y7, y7, y7, y7, n7, n7, n7, n7, n7, n7, n7, n7, n7, n7, n7, n7, n7, n7, n7, n7, n7, n7, n7] rfl rfl (any_of HT_.out (by kernel_rfl)) (fun _ _ _ h => h) (Or.inr ⟨by rfl, rfl⟩) ?_ ?_
     rotate_left
     · simp only [Act.put, List.setIfInBounds_toArray, List.set_cons_zero, List.set_cons_succ, i64_w, i32_w]
       rfl
     refine pure_ (i := 32) (N := some 43) (v := undef) (a' := ?_) #[y7, y7, y7, y7, y7, y7, y7, y7, y7, y7, y7, y7, y7, y7, y7, y7, y7, y7, y7, y7, y7, y7, y7, y7, y7, y7, y7, y7, y7, y7, y7, y7, y7, n7, n7, n7, n7, n7, n7, n7, n7, n7, n7, n7, n7, n7, n7, n7, n7, n7, n7] rfl rfl (any_of HT_.out (by kernel_rfl)) (fun _ _ _ h => h) (Or.inr ⟨by rfl, rfl⟩) ?_ ?_
     rotate_left
     · simp only [Act.put, List.setIfInBounds_toArray, List.set_cons_zero, List.set_cons_succ, i64_w, i32_w]
       rfl
     refine pure_ (i := 33) (N := some 44) (v := undef) (a' := ?_) #[y7, y7, y7, y7, y7, y7, y7, y7, y7, y7, y7, y7, y7, y7, y7, y7, y7, y7, y7, y7, y7, y7, y7, y7, y7, y7, y7, y7, y7, y7, y7, y7, y7, y7, n7, n7, n7, n7, n7, n7, n7, n7, n7, n7, n7, n7, n7, n7, n7, n7, n7] rfl rfl (any_of HT_.out (by kernel_rfl)) (fun _ _ _ h => h) (Or.inr ⟨by rfl, rfl⟩) ?_ ?_
     rotate_left
     · simp only [Act.put, List.setIfInBounds_toArray, List.set_cons_zero, List.set_cons_succ, i64_w, i32_w]
       rfl
     refine pure_ (i := 34) (N := some 45) (v := undef) (a' := ?_) #[y7, y7, y7, y7, y7, y7, y7, y7, y7, y7, y7, y7, y7, y7, y7, y7, y7, y7, y7, y7, y7, y7, y7, y7, y7, y7, y7, y7, y7, y7, y7, y7, y7, y7, y7, n7, n7, n7, n7, n7, n7, n7, n7, n7, n7, n7, n7, n7, n7, n7, n7] rfl rfl (any_of HT_.out (by kernel_rfl)) (fun _ _ _ h => h) (Or.inr ⟨by rfl, rfl⟩) ?_ ?_
     rotate_left
     · simp only [Act.put, List.setIfInBounds_toArray, List.set_cons_zero, List.set_cons_succ, i64_w, i32_w]
       rfl
     refine pure_ (i := 35) (N := some 46) (v := undef) (a' := ?_) #[y7, y7, y7, y7, y7, y7, y7, y7, y7, y7, y7, y7, y7, y7, y7, y7, y7, y7, y7, y7, y7, y7, y7, y7, y7, y7, y7, y7, y7, y7, y7, y7, y7, y7, y7, y7, n7, n7, n7, n7, n7, n7, n7, n7, n7, n7, n7, n7, n7, n7, n7] rfl rfl (any_of HT_.out (by kernel_rfl)) (fun _ _ _ h => h) (Or.inr ⟨by rfl, rfl⟩) ?_ ?_
     rotate_left
     · simp only [Act.put, List.setIfInBounds_toArray, List.set_cons_zero, List.set_cons_succ, i64_w, i32_w]
       rfl
     refine pure_ (i := 36) (N := some 47) (v := ?_) (a' := ?_) #[y7, y7, y7, y7, y7, y7, y7, y7, y7, y7, y7, y7, y7, y7, y7, y7, y7, y7, y7, y7, y7, y7, y7, y7, y7, y7, y7, y7, y7, y7, y7, y7, y7, y7, y7, y7, y7, n7, n7, n7, n7, n7, n7, n7, n7, n7, n7, n7, n7, n7, n7] rfl rfl (any_of HT_.out (by kernel_rfl)) (fun _ _ _ h => h) (Or.inl ⟨by rfl, ?_⟩) ?_ ?_
     rotate_left
     · intro w'
       go_simp
       with_reducible rfl
     rotate_left
     · simp only [Act.put, List.setIfInBounds_toArray, List.set_cons_zero, List.set_cons_succ, i64_w, i32_w]
       rfl
     refine pure_ (i := 37) (N := some 48) (v := ?_) (a' := ?_) #[y7, y7, y7, y7, y7, y7, y7, y7, y7, y7, y7, y7, y7, y7, y7, y7, y7, y7, y7, y7, y7, y7, y7, y7, y7, y7, y7, y7, y7, y7, y7, y7, y7, y7, y7, y7, y7, y7, n7, n7, n7, n7, n7, n7, n7, n7, n7, n7, n7, n7, n7] rfl rfl (any_of HT_.out (by kernel_rfl)) (fun _ _ _ h => h) (Or.inl ⟨by rfl, ?_⟩) ?_ ?_
     rotate_left
     · intro w'
       go_simp
       with_reducible rfl
     rotate_left
     · simp only [Act.put, List.setIfInBounds_toArray, List.set_cons_zero, List.set_cons_succ, i64_w, i32_w]
       rfl
     refine pure_ (i := 38) (N := some 49) (v := undef) (a' := ?_) #[y7, y7, y7, y7, y7, y7, y7, y7, y7, y7, y7, y7, y7, y7, y7, y7, y7, y7, y7, y7, y7, y7, y7, y7, y7, y7, y7, y7, y7, y7, y7, y7, y7, y7, y7, y7, y7, y7, y7, n7, n7, n7, n7, n7, n7, n7, n7, n7, n7, n7, n7] rfl rfl (any_of HT_.out (by kernel_rfl)) (fun _ _ _ h => h) (Or.inr ⟨by rfl, rfl⟩) ?_ ?_
     rotate_left
     · simp only [Act.put, List.setIfInBounds_toArray, List.set_cons_zero, List.set_cons_succ, i64_w, i32_w]
       rfl
     refine pure_ (i := 39) (N := some 50) (v := undef) (a' := ?_) #[y7, y7, y7, y7, y7, y7, y7, y7, y7, y7, y7, y7, y7, y7, y7, y7, y7, y7, y7, y7, y7, y7, y7, y7, y7, y7, y7, y7, y7, y7, y7, y7, y7, y7, y7, y7, y7, y7, y7, y7, n7, n7, n7, n7, n7, n7, n7, n7, n7, n7, n7] rfl rfl (any_of HT_.out (by kernel_rfl)) (fun _ _ _ h => h) (Or.inr ⟨by rfl, rfl⟩) ?_ ?_
     rotate_left
     · simp only [Act.put, List.setIfInBounds_toArray, List.set_cons_zero, List.set_cons_succ, i64_w, i32_w]
       rfl
     refine pure_ (i := 40) (N := some 51) (v := undef) (a' := ?_) #[y7, y7, y7, y7, y7, y7, y7, y7, y7, y7, y7, y7, y7, y7, y7, y7, y7, y7, y7, y7, y7, y7, y7, y7, y7, y7, y7, y7, y7, y7, y7, y7, y7, y7, y7, y7, y7, y7, y7, y7, y7, n7, n7, n7, n7, n7, n7, n7, n7, n7, n7] rfl rfl (any_of HT_.out (by kernel_rfl)) (fun _ _ _ h => h) (Or.inr ⟨by rfl, rfl⟩) ?_ ?_
     rotate_left
     · simp only [Act.put, List.setIfInBounds_toArray, List.set_cons_zero, List.set_cons_succ, i64_w, i32_w]
       rfl
     refine pure_ (i := 41) (N := some 52) (v := undef) (a' := ?_) #[y7, y7, y7, y7, y7, y7, y7, y7, y7, y7, y7, y7, y7, y7, y7, y7, y7, y7, y7, y7, y7, y7, y7, y7, y7, y7, y7, y7, y7, y7, y7, y7, y7, y7, y7, y7, y7, y7, y7, y7, y7, y7, n7, n7, n7, n7, n7, n7, n7, n7, n7] rfl rfl (any_of HT_.out (by kernel_rfl)) (fun _ _ _ h => h) (Or.inr ⟨by rfl, rfl⟩) ?_ ?_
     rotate_left
     · simp only [Act.put, List.setIfInBounds_toArray, List.set_cons_zero, List.set_cons_succ, i64_w, i32_w]
       rfl
     refine pure_ (i := 42) (N := some 53) (v := undef) (a' := ?_) #[y7, y7, y7, y7, y7, y7, y7, y7, y7, y7, y7, y7, y7, y7, y7, y7, y7, y7, y7, y7, y7, y7, y7, y7, y7, y7, y7, y7, y7, y7, y7, y7, y7, y7, y7, y7, y7, y7, y7, y7, y7, y7, y7, n7, n7, n7, n7, n7, n7, n7, n7] rfl rfl (any_of HT_.out (by kernel_rfl)) (fun _ _ _ h => h) (Or.inr ⟨by rfl, rfl⟩) ?_ ?_
     rotate_left
     · simp only [Act.put, List.setIfInBounds_toArray, List.set_cons_zero, List.set_cons_succ, i64_w, i32_w]
       rfl
     refine pure_ (i := 43) (N := some 54) (v := undef) (a' := ?_) #[y7, y7, y7, y7, y7, y7, y7, y7, y7, y7, y7, y7, y7, y7, y7, y7, y7, y7, y7, y7, y7, y7, y7, y7, y7, y7, y7, y7, y7, y7, y7, y7, y7, y7, y7, y7, y7, y7, y7, y7, y7, y7, y7, y7, n7, n7, n7, n7, n7, n7, n7] rfl rfl (any_of HT_.out (by kernel_rfl)) (fun _ _ _ h => h) (Or.inr ⟨by rfl, rfl⟩) ?_ ?_
     rotate_left
     · simp only [Act.put, List.setIfInBounds_toArray, List.set_cons_zero, List.set_cons_succ, i64_w, i32_w]
       rfl
     refine pure_ (i := 44) (N := some 55) (v := undef) (a' := ?_) #[y7, y7, y7, y7, y7, y7, y7, y7, y7, y7, y7, y7, y7, y7, y7, y7, y7, y7, y7, y7, y7, y7, y7, y7, y7, y7, y7, y7, y7, y7, y7, y7, y7, y7, y7, y7, y7, y7, y7, y7, y7, y7, y7, y7, y7, n7, n7, n7, n7, n7, n7] rfl rfl (any_of HT_.out (by kernel_rfl)) (fun _ _ _ h => h) (Or.inr ⟨by rfl, rfl⟩) ?_ ?_
     rotate_left
     · simp only [Act.put, List.setIfInBounds_toArray, List.set_cons_zero, List.set_cons_succ, i64_w, i32_w]
       rfl
     refine pure_ (i := 45) (N := some 56) (v := undef) (a' := ?_) #[y7, y7, y7, y7, y7, y7, y7, y7, y7, y7, y7, y7, y7, y7, y7, y7, y7, y7, y7, y7, y7, y7, y7, y7, y7, y7, y7, y7, y7, y7, y7, y7, y7, y7, y7, y7, y7, y7, y7, y7, y7, y7, y7, y7, y7, y7, n7, n7, n7, n7, n7] rfl rfl (any_of HT_.out (by kernel_rfl)) (fun _ _ _ h => h) (Or.inr ⟨by rfl, rfl⟩) ?_ ?_
     rotate_left
     · simp only [Act.put, List.setIfInBounds_toArray, List.set_cons_zero, List.set_cons_succ, i64_w, i32_w]
       rfl
     refine pure_ (i := 46) (N := some 57) (v := undef) (a' := ?_) #[y7, y7, y7, y7, y7, y7, y7, y7, y7, y7, y7, y7, y7, y7, y7, y7, y7, y7, y7, y7, y7, y7, y7, y7, y7, y7, y7, y7, y7, y7, y7, y7, y7, y7, y7, y7, y7, y7, y7, y7, y7, y7, y7, y7, y7, y7, y7, n7, n7, n7, n7] rfl rfl (any_of HT_.out (by kernel_rfl)) (fun _ _ _ h => h) (Or.inr ⟨by rfl, rfl⟩) ?_ ?_
     rotate_left
     · simp only [Act.put, List.setIfInBounds_toArray, List.set_cons_zero, List.set_cons_succ, i64_w, i32_w]
       rfl
     refine pure_ (i := 47) (N := some 58) (v := undef) (a' := ?_) #[y7, y7, y7, y7, y7, y7, y7, y7, y7, y7, y7, y7, y7, y7, y7, y7, y7, y7, y7, y7, y7, y7, y7, y7, y7, y7, y7, y7, y7, y7, y7, y7, y7, y7, y7, y7, y7, y7, y7, y7, y7, y7, y7, y7, y7, y7, y7, y7, n7, n7, n7] rfl rfl (any_of HT_.out (by kernel_rfl)) (fun _ _ _ h => h) (Or.inr ⟨by rfl, rfl⟩) ?_ ?_
     rotate_left
     · simp only [Act.put, List.setIfInBounds_toArray, List.set_cons_zero, List.set_cons_succ, i64_w, i32_w]
       rfl
     refine pure_ (i := 48) (N := some 59) (v := undef) (a' := ?_) #[y7, y7, y7, y7, y7, y7, y7, y7, y7, y7, y7, y7, y7, y7, y7, y7, y7, y7, y7, y7, y7, y7, y7, y7, y7, y7, y7, y7, y7, y7, y7, y7, y7, y7, y7, y7, y7, y7, y7, y7, y7, y7, y7, y7, y7, y7, y7, y7, y7, n7, n7] rfl rfl (any_of HT_.out (by kernel_rfl)) (fun _ _ _ h => h) (Or.inr ⟨by rfl, rfl⟩) ?_ ?_
     rotate_left
     · simp only [Act.put, List.setIfInBounds_toArray, List.set_cons_zero, List.set_cons_succ, i64_w, i32_w]
       rfl
     refine pure_ (i := 49) (N := some 60) (v := undef) (a' := ?_) #[y7, y7, y7, y7, y7, y7, y7, y7, y7, y7, y7, y7, y7, y7, y7, y7, y7, y7, y7, y7, y7, y7, y7, y7, y7, y7, y7, y7, y7, y7, y7, y7, y7, y7, y7, y7, y7, y7, y7, y7, y7, y7, y7, y7, y7, y7, y7, y7, y7, y7, n7] rfl rfl (any_of HT_.out (by kernel_rfl)) (fun _ _ _ h => h) (Or.inr ⟨by rfl, rfl⟩) ?_ ?_
     rotate_left
     · simp only [Act.put, List.setIfInBounds_toArray, List.set_cons_zero, List.set_cons_succ, i64_w, i32_w]
       rfl
     refine pure_ (i := 50) (N := some 61) (v := ?_) (a' := ?_) #[y7, y7, y7, y7, y7, y7, y7, y7, y7, y7, y7, y7, y7, y7, y7, y7, y7, y7, y7, y7, y7, y7, y7, y7, y7, y7, y7, y7, y7, y7, y7, y7, y7, y7, y7, y7, y7, y7, y7, y7, y7, y7, y7, y7, y7, y7, y7, y7, y7, y7, y7] rfl rfl (any_of HT_.out (by kernel_rfl)) (fun _ _ _ h => h) (Or.inl ⟨by rfl, ?_⟩) ?_ ?_
     rotate_left
     · intro w'
       go_simp
       with_reducible rfl
     rotate_left
     · simp only [Act.put, List.setIfInBounds_toArray, List.set_cons_zero, List.set_cons_succ, i64_w, i32_w]
       rfl
     refine done_ (done_of HT_.out (by kernel_rfl)) ?_
     try go_wp2
     go_ret
     exact ⟨by first | rfl | (simp [errW_none, errW_some] <;> rfl) | (simp [*, errW_none, errW_some] <;> rfl), by repeat (with_reducible first | exact HB.out | apply below_alloc | apply pw_below_drewN | apply below_drew1)⟩
   rw [if_pos c7] at H
   have c7b0 : (((rd_T49 l0 x8_1).f0).toList == ((rd_T49 l1 x8_1).f0).toList) = true := beq_iff_eq.mpr c7
   have c7b1 : (((rd_T49 l0 x8_1).f0).toList != ((rd_T49 l1 x8_1).f0).toList) = false := bne_eq_false_iff_eq.mpr c7
   clear c7
   by_cases c8 : ((rd_T49 l0 x8_1).f1).toList = ((rd_T49 l1 x8_1).f1).toList
   rotate_left
   · rw [if_neg c8] at H
     have c8b0 : (((rd_T49 l0 x8_1).f1).toList == ((rd_T49 l1 x8_1).f1).toList) = false := beq_eq_false_iff_ne.mpr c8
     have c8b1 : (((rd_T49 l0 x8_1).f1).toList != ((rd_T49 l1 x8_1).f1).toList) = true := bne_iff_ne.mpr c8
     obtain rfl := Option.some.inj H
     try go_wp2
     have n0_ := Aside0.mk (below_drew1 HB.out)
     clear HB
     have HB := n0_
     clear n0_
     have p201 : 0 ≤ (x8_1 : Int) := of_decide_eq_true (by first | (with_reducible assumption) | assumption)
     have q201 : x8_1 < (l0.length : Int) := of_decide_eq_true (by first | (with_reducible assumption) | assumption)
     obtain ⟨ad201, A201_2, c201_2, e201, hx201_0, hx201_1, hx201_2, hx201_3, hl201_2, hi201_2⟩ := at_T49 HR0.out x8_1 p201 q201
     have hw201_3 := hx201_3
     have hw201_2 := hx201_2
     have hw201_1 := hx201_1
     have hw201_0 := hx201_0
     cases e201
     replace hx201_0 := (HB.out.cell (World.block_lt_of_cell? w _ hx201_0)).trans hx201_0
     replace hx201_1 := (HB.out.cell (World.block_lt_of_cell? w _ hx201_1)).trans hx201_1
     replace hx201_2 := (HB.out.cell (World.block_lt_of_cell? w _ hx201_2)).trans hx201_2
     replace hx201_3 := (HB.out.cell (World.block_lt_of_cell? w _ hx201_3)).trans hx201_3
     have HR201_2 := Aside0.mk hi201_2
     have HC201_2 := Aside0.mk hl201_2
     clear hi201_2 hl201_2
     replace p201 := eq_true p201
     replace q201 := eq_true q201
     have p202 : 0 ≤ (x8_1 : Int) := of_decide_eq_true (by first | (with_reducible assumption) | assumption)
     have q202 : x8_1 < (l1.length : Int) := of_decide_eq_true (by first | (with_reducible assumption) | assumption)
     obtain ⟨ad202, A202_2, c202_2, e202, hx202_0, hx202_1, hx202_2, hx202_3, hl202_2, hi202_2⟩ := at_T49 HR1.out x8_1 p202 q202
     have hw202_3 := hx202_3
     have hw202_2 := hx202_2
     have hw202_1 := hx202_1
     have hw202_0 := hx202_0
     cases e202
     replace hx202_0 := (HB.out.cell (World.block_lt_of_cell? w _ hx202_0)).trans hx202_0
     replace hx202_1 := (HB.out.cell (World.block_lt_of_cell? w _ hx202_1)).trans hx202_1
     replace hx202_2 := (HB.out.cell (World.block_lt_of_cell? w _ hx202_2)).trans hx202_2
     replace hx202_3 := (HB.out.cell (World.block_lt_of_cell? w _ hx202_3)).trans hx202_3
     have HR202_2 := Aside0.mk hi202_2
     have HC202_2 := Aside0.mk hl202_2
     clear hi202_2 hl202_2
     replace p202 := eq_true p202
     replace q202 := eq_true q202
     have p203 : 0 ≤ (x8_1 : Int) := of_decide_eq_true (by first | (with_reducible assumption) | assumption)
     have q203 : x8_1 < (l0.length : Int) := of_decide_eq_true (by first | (with_reducible assumption) | assumption)
     obtain ⟨ad203, A203_2, c203_2, e203, hx203_0, hx203_1, hx203_2, hx203_3, hl203_2, hi203_2⟩ := at_T49 HR0.out x8_1 p203 q203
     have hw203_3 := hx203_3
     have hw203_2 := hx203_2
     have hw203_1 := hx203_1
     have hw203_0 := hx203_0
     obtain rfl : ad201 = ad203 := (by injection e203)
     replace hx203_0 := (HB.out.cell (World.block_lt_of_cell? w _ hx203_0)).trans hx203_0
     replace hx203_1 := (HB.out.cell (World.block_lt_of_cell? w _ hx203_1)).trans hx203_1
     replace hx203_2 := (HB.out.cell (World.block_lt_of_cell? w _ hx203_2)).trans hx203_2
     replace hx203_3 := (HB.out.cell (World.block_lt_of_cell? w _ hx203_3)).trans hx203_3
     have HR203_2 := Aside0.mk hi203_2
     have HC203_2 := Aside0.mk hl203_2
     clear hi203_2 hl203_2
     replace p203 := eq_true p203
     replace q203 := eq_true q203
     have ea_ := Option.some.inj (hx201_2.symm.trans hx203_2)
     injection ea_ with ea_ en_ ec_
     subst ea_
     subst ec_
     clear en_
     have p204 : 0 ≤ (x8_1 : Int) := of_decide_eq_true (by first | (with_reducible assumption) | assumption)
     have q204 : x8_1 < (l1.length : Int) := of_decide_eq_true (by first | (with_reducible assumption) | assumption)
     obtain ⟨ad204, A204_2, c204_2, e204, hx204_0, hx204_1, hx204_2, hx204_3, hl204_2, hi204_2⟩ := at_T49 HR1.out x8_1 p204 q204
     have hw204_3 := hx204_3
     have hw204_2 := hx204_2
     have hw204_1 := hx204_1
     have hw204_0 := hx204_0
     obtain rfl : ad202 = ad204 := (by injection e204)
     replace hx204_0 := (HB.out.cell (World.block_lt_of_cell? w _ hx204_0)).trans hx204_0
     replace hx204_1 := (HB.out.cell (World.block_lt_of_cell? w _ hx204_1)).trans hx204_1
     replace hx204_2 := (HB.out.cell (World.block_lt_of_cell? w _ hx204_2)).trans hx204_2
     replace hx204_3 := (HB.out.cell (World.block_lt_of_cell? w _ hx204_3)).trans hx204_3
     have HR204_2 := Aside0.mk hi204_2
     have HC204_2 := Aside0.mk hl204_2
     clear hi204_2 hl204_2
     replace p204 := eq_true p204
     replace q204 := eq_true q204
     have ea_ := Option.some.inj (hx202_2.symm.trans hx204_2)
     injection ea_ with ea_ en_ ec_
     subst ea_
     subst ec_
     clear en_
     refine start_ (n := 51) (S := fun w' => w'.cell? (ad201.add ((x8_1).toNat * 4)) = some (.string ((rd_T49 l0 x8_1).f0)) ∧ w'.cell? ⟨(ad201.add ((x8_1).toNat * 4)).block, (ad201.add ((x8_1).toNat * 4)).off + 1, none⟩ = some (.string ((rd_T49 l0 x8_1).f1)) ∧ w'.cell? ⟨(ad201.add ((x8_1).toNat * 4)).block, (ad201.add ((x8_1).toNat * 4)).off + 2, none⟩ = some (.slice A201_2 ((rd_T49 l0 x8_1).f2).length c201_2) ∧ w'.cell? ⟨(ad201.add ((x8_1).toNat * 4)).block, (ad201.add ((x8_1).toNat * 4)).off + 3, none⟩ = some (.int .i64 ((rd_T49 l0 x8_1).f3)) ∧ w'.cell? (ad202.add ((x8_1).toNat * 4)) = some (.string ((rd_T49 l1 x8_1).f0)) ∧ w'.cell? ⟨(ad202.add ((x8_1).toNat * 4)).block, (ad202.add ((x8_1).toNat * 4)).off + 1, none⟩ = some (.string ((rd_T49 l1 x8_1).f1)) ∧ w'.cell? ⟨(ad202.add ((x8_1).toNat * 4)).block, (ad202.add ((x8_1).toNat * 4)).off + 2, none⟩ = some (.slice A202_2 ((rd_T49 l1 x8_1).f2).length c202_2) ∧ w'.cell? ⟨(ad202.add ((x8_1).toNat * 4)).block, (ad202.add ((x8_1).toNat * 4)).off + 3, none⟩ = some (.int .i64 ((rd_T49 l1 x8_1).f3)) ∧ w'.cell? (ad201.add ((x8_1).toNat * 4)) = some (.string ((rd_T49 l0 x8_1).f0)) ∧ w'.cell? ⟨(ad201.add ((x8_1).toNat * 4)).block, (ad201.add ((x8_1).toNat * 4)).off + 1, none⟩ = some (.string ((rd_T49 l0 x8_1).f1)) ∧ w'.cell? ⟨(ad201.add ((x8_1).toNat * 4)).block, (ad201.add ((x8_1).toNat * 4)).off + 2, none⟩ = some (.slice A201_2 ((rd_T49 l0 x8_1).f2).length c201_2) ∧ w'.cell? ⟨(ad201.add ((x8_1).toNat * 4)).block, (ad201.add ((x8_1).toNat * 4)).off + 3, none⟩ = some (.int .i64 ((rd_T49 l0 x8_1).f3)) ∧ w'.cell? (ad202.add ((x8_1).toNat * 4)) = some (.string ((rd_T49 l1 x8_1).f0)) ∧ w'.cell? ⟨(ad202.add ((x8_1).toNat * 4)).block, (ad202.add ((x8_1).toNat * 4)).off + 1, none⟩ = some (.string ((rd_T49 l1 x8_1).f1)) ∧ w'.cell? ⟨(ad202.add ((x8_1).toNat * 4)).block, (ad202.add ((x8_1).toNat * 4)).off + 2, none⟩ = some (.slice A202_2 ((rd_T49 l1 x8_1).f2).length c202_2) ∧ w'.cell? ⟨(ad202.add ((x8_1).toNat * 4)).block, (ad202.add ((x8_1).toNat * 4)).off + 3, none⟩ = some (.int .i64 ((rd_T49 l1 x8_1).f3))) (ds := []) #[n7, n7, n7, n7, n7, n7, n7, n7, n7, n7, n7, n7, n7, n7, n7, n7, n7, n7, n7, n7, n7, n7, n7, n7, n7, n7, n7, n7, n7, n7, n7, n7, n7, n7, n7, n7, n7, n7, n7, n7, n7, n7, n7, n7, n7, n7, n7, n7, n7, n7, n7] (by kernel_rfl) rfl rfl ⟨((HB.out.cell (World.block_lt_of_cell? w _ hw201_0)).trans hw201_0), ((HB.out.cell (World.block_lt_of_cell? w _ hw201_1)).trans hw201_1), ((HB.out.cell (World.block_lt_of_cell? w _ hw201_2)).trans hw201_2), ((HB.out.cell (World.block_lt_of_cell? w _ hw201_3)).trans hw201_3), ((HB.out.cell (World.block_lt_of_cell? w _ hw202_0)).trans hw202_0), ((HB.out.cell (World.block_lt_of_cell? w _ hw202_1)).trans hw202_1), ((HB.out.cell (World.block_lt_of_cell? w _ hw202_2)).trans hw202_2), ((HB.out.cell (World.block_lt_of_cell? w _ hw202_3)).trans hw202_3), ((HB.out.cell (World.block_lt_of_cell? w _ hw203_0)).trans hw203_0), ((HB.out.cell (World.block_lt_of_cell? w _ hw203_1)).trans hw203_1), ((HB.out.cell (World.block_lt_of_cell? w _ hw203_2)).trans hw203_2), ((HB.out.cell (World.block_lt_of_cell? w _ hw203_3)).trans hw203_3), ((HB.out.cell (World.block_lt_of_cell? w _ hw204_0)).trans hw204_0), ((HB.out.cell (World.block_lt_of_cell? w _ hw204_1)).trans hw204_1), ((HB.out.cell (World.block_lt_of_cell? w _ hw204_2)).trans hw204_2), ((HB.out.cell (World.block_lt_of_cell? w _ hw204_3)).trans hw204_3)⟩ (fun hHeld => ?_); refine with_tabW contangolaw39_kept.tab4 contangolaw39_kept.bits4 (fun HT_ HW_ => ?_)
     generalize wr.drew = w15 at HB HR201_2 HR202_2 HR203_2 HR204_2 hx201_0 hx201_1 hx201_2 hx201_3 hx202_0 hx202_1 hx202_2 hx202_3 hx203_0 hx203_1 hx203_2 hx203_3 hx204_0 hx204_1 hx204_2 hx204_3 hHeld ⊢
     refine pure_ (i := 0) (N := some 11) (v := ?_) (a' := ?_) #[y7, n7, n7, n7, n7, n7, n7, n7, n7, n7, n7, n7, n7, n7, n7, n7, n7, n7, n7, n7, n7, n7, n7, n7, n7, n7, n7, n7, n7, n7, n7, n7, n7, n7, n7, n7, n7, n7, n7, n7, n7, n7, n7, n7, n7, n7, n7, n7, n7, n7, n7] rfl rfl (any_of HT_.out (by kernel_rfl)) (fun _ _ _ h => h) (Or.inl ⟨by rfl, ?_⟩) ?_ ?_
     rotate_left
     · intro w'
       go_simp
       with_reducible rfl
     rotate_left
     · simp only [Act.put, List.setIfInBounds_toArray, List.set_cons_zero, List.set_cons_succ, i64_w, i32_w]
       rfl
     refine pure_ (i := 1) (N := some 12) (v := ?_) (a' := ?_) #[y7, y7, n7, n7, n7, n7, n7, n7, n7, n7, n7, n7, n7, n7, n7, n7, n7, n7, n7, n7, n7, n7, n7, n7, n7, n7, n7, n7, n7, n7, n7, n7, n7, n7, n7, n7, n7, n7, n7, n7, n7, n7, n7, n7, n7, n7, n7, n7, n7, n7, n7] rfl rfl (any_of HT_.out (by kernel_rfl)) (fun _ _ _ h => h) (Or.inl ⟨by rfl, ?_⟩) ?_ ?_
     rotate_left
     · intro w'
       go_simp
       with_reducible rfl
     rotate_left
     · simp only [Act.put, List.setIfInBounds_toArray, List.set_cons_zero, List.set_cons_succ, i64_w, i32_w]
       rfl
     refine pure_ (i := 2) (N := some 13) (v := ?_) (a' := ?_) #[y7, y7, y7, n7, n7, n7, n7, n7, n7, n7, n7, n7, n7, n7, n7, n7, n7, n7, n7, n7, n7, n7, n7, n7, n7, n7, n7, n7, n7, n7, n7, n7, n7, n7, n7, n7, n7, n7, n7, n7, n7, n7, n7, n7, n7, n7, n7, n7, n7, n7, n7] rfl rfl (any_of HT_.out (by kernel_rfl)) (fun _ _ _ h => h) (Or.inl ⟨by rfl, ?_⟩) ?_ ?_
     rotate_left
     · intro w'
       go_simp
       with_reducible rfl
     rotate_left
     · simp only [Act.put, List.setIfInBounds_toArray, List.set_cons_zero, List.set_cons_succ, i64_w, i32_w]
       rfl
     refine pure_ (i := 3) (N := some 14) (v := ?_) (a' := ?_) #[y7, y7, y7, y7, n7, n7, n7, n7, n7, n7, n7, n7, n7, n7, n7, n7, n7, n7, n7, n7, n7, n7, n7, n7, n7, n7, n7, n7, n7, n7, n7, n7, n7, n7, n7, n7, n7, n7, n7, n7, n7, n7, n7, n7, n7, n7, n7, n7, n7, n7, n7] rfl rfl (any_of HT_.out (by kernel_rfl)) (fun _ _ _ h => h) (Or.inl ⟨by rfl, ?_⟩) ?_ ?_
     rotate_left
     · intro w'
       go_simp
       with_reducible rfl
     rotate_left
     · simp only [Act.put, List.setIfInBounds_toArray, List.set_cons_zero, List.set_cons_succ, i64_w, i32_w]
       rfl
     refine pure_ (i := 5) (N := some 16) (v := ?_) (a' := ?_) #[y7, y7, y7, y7, n7, y7, n7, n7, n7, n7, n7, n7, n7, n7, n7, n7, n7, n7, n7, n7, n7, n7, n7, n7, n7, n7, n7, n7, n7, n7, n7, n7, n7, n7, n7, n7, n7, n7, n7, n7, n7, n7, n7, n7, n7, n7, n7, n7, n7, n7, n7] rfl rfl (any_of HT_.out (by kernel_rfl)) (fun _ _ _ h => h) (Or.inl ⟨by rfl, ?_⟩) ?_ ?_
     rotate_left
     · intro w'
       go_simp
       with_reducible rfl
     rotate_left
     · simp only [Act.put, List.setIfInBounds_toArray, List.set_cons_zero, List.set_cons_succ, i64_w, i32_w]
       rfl
     refine pure_ (i := 6) (N := some 17) (v := ?_) (a' := ?_) #[y7, y7, y7, y7, n7, y7, y7, n7, n7, n7, n7, n7, n7, n7, n7, n7, n7, n7, n7, n7, n7, n7, n7, n7, n7, n7, n7, n7, n7, n7, n7, n7, n7, n7, n7, n7, n7, n7, n7, n7, n7, n7, n7, n7, n7, n7, n7, n7, n7, n7, n7] rfl rfl (any_of HT_.out (by kernel_rfl)) (fun _ _ _ h => h) (Or.inl ⟨by rfl, ?_⟩) ?_ ?_
     rotate_left
     · intro w'
       go_simp
       with_reducible rfl
     rotate_left
     · simp only [Act.put, List.setIfInBounds_toArray, List.set_cons_zero, List.set_cons_succ, i64_w, i32_w]
       rfl
     refine pure_ (i := 7) (N := some 18) (v := ?_) (a' := ?_) #[y7, y7, y7, y7, n7, y7, y7, y7, n7, n7, n7, n7, n7, n7, n7, n7, n7, n7, n7, n7, n7, n7, n7, n7, n7, n7, n7, n7, n7, n7, n7, n7, n7, n7, n7, n7, n7, n7, n7, n7, n7, n7, n7, n7, n7, n7, n7, n7, n7, n7, n7] rfl rfl (any_of HT_.out (by kernel_rfl)) (fun _ _ _ h => h) (Or.inl ⟨by rfl, ?_⟩) ?_ ?_
     rotate_left
     · intro w'
       go_simp
       with_reducible rfl
     rotate_left
     · simp only [Act.put, List.setIfInBounds_toArray, List.set_cons_zero, List.set_cons_succ, i64_w, i32_w]
       rfl
     refine pure_ (i := 8) (N := some 19) (v := ?_) (a' := ?_) #[y7, y7, y7, y7, n7, y7, y7, y7, y7, n7, n7, n7, n7, n7, n7, n7, n7, n7, n7, n7, n7, n7, n7, n7, n7, n7, n7, n7, n7, n7, n7, n7, n7, n7, n7, n7, n7, n7, n7, n7, n7, n7, n7, n7, n7, n7, n7, n7, n7, n7, n7] rfl rfl (any_of HT_.out (by kernel_rfl)) (fun _ _ _ h => h) (Or.inl ⟨by rfl, ?_⟩) ?_ ?_
     rotate_left
     · intro w'
       go_simp
       with_reducible rfl
     rotate_left
     · simp only [Act.put, List.setIfInBounds_toArray, List.set_cons_zero, List.set_cons_succ, i64_w, i32_w]
       rfl
     refine take_ (i := 4) (N := some 15) (v := ?_) (a' := ?_) #[y7, y7, y7, y7, y7, y7, y7, y7, y7, n7, n7, n7, n7, n7, n7, n7, n7, n7, n7, n7, n7, n7, n7, n7, n7, n7, n7, n7, n7, n7, n7, n7, n7, n7, n7, n7, n7, n7, n7, n7, n7, n7, n7, n7, n7, n7, n7, n7, n7, n7, n7] rfl rfl (take_ofW HT_.out HW_.out (by kernel_rfl)) (fun _ _ _ h => h) (Or.inl ⟨by rfl, ?_⟩) hHeld ?_ ?_
     rotate_left
     · rintro w' ⟨s0, s1, s2, s3, s4, s5, s6, s7, s8, s9, s10, s11, s12, s13, s14, s15⟩
       go_simp
       with_reducible rfl
     rotate_left
     · simp only [Act.put, List.setIfInBounds_toArray, List.set_cons_zero, List.set_cons_succ, i64_w, i32_w]
       rfl
     refine take_ (i := 9) (N := some 20) (v := ?_) (a' := ?_) #[y7, y7, y7, y7, y7, y7, y7, y7, y7, y7, n7, n7, n7, n7, n7, n7, n7, n7, n7, n7, n7, n7, n7, n7, n7, n7, n7, n7, n7, n7, n7, n7, n7, n7, n7, n7, n7, n7, n7, n7, n7, n7, n7, n7, n7, n7, n7, n7, n7, n7, n7] rfl rfl (take_ofW HT_.out HW_.out (by kernel_rfl)) (fun _ _ _ h => h) (Or.inl ⟨by rfl, ?_⟩) hHeld ?_ ?_
     rotate_left
     · rintro w' ⟨s0, s1, s2, s3, s4, s5, s6, s7, s8, s9, s10, s11, s12, s13, s14, s15⟩
       go_simp
       with_reducible rfl
     rotate_left
     · simp only [Act.put, List.setIfInBounds_toArray, List.set_cons_zero, List.set_cons_succ, i64_w, i32_w]
       rfl
     refine pure_ (i := 10) (N := some 21) (v := ?_) (a' := ?_) #[y7, y7, y7, y7, y7, y7, y7, y7, y7, y7, y7, n7, n7, n7, n7, n7, n7, n7, n7, n7, n7, n7, n7, n7, n7, n7, n7, n7, n7, n7, n7, n7, n7, n7, n7, n7, n7, n7, n7, n7, n7, n7, n7, n7, n7, n7, n7, n7, n7, n7, n7] rfl rfl (any_of HT_.out (by kernel_rfl)) (fun _ _ _ h => h) (Or.inl ⟨by rfl, ?_⟩) ?_ ?_
     rotate_left
     · intro w'
       go_simp
       with_reducible rfl
     rotate_left
     · simp only [Act.put, List.setIfInBounds_toArray, List.set_cons_zero, List.set_cons_succ, i64_w, i32_w]
       rfl
     refine pure_ (i := 11) (N := some 22) (v := ?_) (a' := ?_) #[y7, y7, y7, y7, y7, y7, y7, y7, y7, y7, y7, y7, n7, n7, n7, n7, n7, n7, n7, n7, n7, n7, n7, n7, n7, n7, n7, n7, n7, n7, n7, n7, n7, n7, n7, n7, n7, n7, n7, n7, n7, n7, n7, n7, n7, n7, n7, n7, n7, n7, n7] rfl rfl (any_of HT_.out (by kernel_rfl)) (fun _ _ _ h => h) (Or.inl ⟨by rfl, ?_⟩) ?_ ?_
     rotate_left
     · intro w'
       go_simp
       with_reducible rfl
     rotate_left
     · simp only [Act.put, List.setIfInBounds_toArray, List.set_cons_zero, List.set_cons_succ, i64_w, i32_w]
       rfl
     refine pure_ (i := 12) (N := some 23) (v := ?_) (a' := ?_) #[y7, y7, y7, y7, y7, y7, y7, y7, y7, y7, y7, y7, y7, n7, n7, n7, n7, n7, n7, n7, n7, n7, n7, n7, n7, n7, n7, n7, n7, n7, n7, n7, n7, n7, n7, n7, n7, n7, n7, n7, n7, n7, n7, n7, n7, n7, n7, n7, n7, n7, n7] rfl rfl (any_of HT_.out (by kernel_rfl)) (fun _ _ _ h => h) (Or.inl ⟨by rfl, ?_⟩) ?_ ?_
     rotate_left
     · intro w'
       go_simp
       with_reducible rfl
     rotate_left
     · simp only [Act.put, List.setIfInBounds_toArray, List.set_cons_zero, List.set_cons_succ, i64_w, i32_w]
       rfl
     refine pure_ (i := 13) (N := some 24) (v := ?_) (a' := ?_) #[y7, y7, y7, y7, y7, y7, y7, y7, y7, y7, y7, y7, y7, y7, n7, n7, n7, n7, n7, n7, n7, n7, n7, n7, n7, n7, n7, n7, n7, n7, n7, n7, n7, n7, n7, n7, n7, n7, n7, n7, n7, n7, n7, n7, n7, n7, n7, n7, n7, n7, n7] rfl rfl (any_of HT_.out (by kernel_rfl)) (fun _ _ _ h => h) (Or.inl ⟨by rfl, ?_⟩) ?_ ?_
     rotate_left
     · intro w'
       go_simp
       with_reducible rfl
     rotate_left
     · simp only [Act.put, List.setIfInBounds_toArray, List.set_cons_zero, List.set_cons_succ, i64_w, i32_w]
       rfl
     refine pure_ (i := 14) (N := some 25) (v := ?_) (a' := ?_) #[y7, y7, y7, y7, y7, y7, y7, y7, y7, y7, y7, y7, y7, y7, y7, n7, n7, n7, n7, n7, n7, n7, n7, n7, n7, n7, n7, n7, n7, n7, n7, n7, n7, n7, n7, n7, n7, n7, n7, n7, n7, n7, n7, n7, n7, n7, n7, n7, n7, n7, n7] rfl rfl (any_of HT_.out (by kernel_rfl)) (fun _ _ _ h => h) (Or.inl ⟨by rfl, ?_⟩) ?_ ?_
     rotate_left
     · intro w'
       go_simp
       with_reducible rfl
     rotate_left
     · simp only [Act.put, List.setIfInBounds_toArray, List.set_cons_zero, List.set_cons_succ, i64_w, i32_w]
       rfl
     refine pure_ (i := 15) (N := some 26) (v := ?_) (a' := ?_) #[y7, y7, y7, y7, y7, y7, y7, y7, y7, y7, y7, y7, y7, y7, y7, y7, n7, n7, n7, n7, n7, n7, n7, n7, n7, n7, n7, n7, n7, n7, n7, n7, n7, n7, n7, n7, n7, n7, n7, n7, n7, n7, n7, n7, n7, n7, n7, n7, n7, n7, n7] rfl rfl (any_of HT_.out (by kernel_rfl)) (fun _ _ _ h => h) (Or.inl ⟨by rfl, ?_⟩) ?_ ?_
     rotate_left
     · intro w'
       go_simp
       with_reducible rfl
     rotate_left
     · simp only [Act.put, List.setIfInBounds_toArray, List.set_cons_zero, List.set_cons_succ, i64_w, i32_w]
       rfl
     refine pure_ (i := 17) (N := some 28) (v := ?_) (a' := ?_) #[y7, y7, y7, y7, y7, y7, y7, y7, y7, y7, y7, y7, y7, y7, y7, y7, n7, y7, n7, n7, n7, n7, n7, n7, n7, n7, n7, n7, n7, n7, n7, n7, n7, n7, n7, n7, n7, n7, n7, n7, n7, n7, n7, n7, n7, n7, n7, n7, n7, n7, n7] rfl rfl (any_of HT_.out (by kernel_rfl)) (fun _ _ _ h => h) (Or.inl ⟨by rfl, ?_⟩) ?_ ?_
     rotate_left
     · intro w'
       go_simp
       with_reducible rfl
     rotate_left
     · simp only [Act.put, List.setIfInBounds_toArray, List.set_cons_zero, List.set_cons_succ, i64_w, i32_w]
       rfl
     refine pure_ (i := 18) (N := some 29) (v := ?_) (a' := ?_) #[y7, y7, y7, y7, y7, y7, y7, y7, y7, y7, y7, y7, y7, y7, y7, y7, n7, y7, y7, n7, n7, n7, n7, n7, n7, n7, n7, n7, n7, n7, n7, n7, n7, n7, n7, n7, n7, n7, n7, n7, n7, n7, n7, n7, n7, n7, n7, n7, n7, n7, n7] rfl rfl (any_of HT_.out (by kernel_rfl)) (fun _ _ _ h => h) (Or.inl ⟨by rfl, ?_⟩) ?_ ?_
     rotate_left
     · intro w'
       go_simp
       with_reducible rfl
     rotate_left
     · simp only [Act.put, List.setIfInBounds_toArray, List.set_cons_zero, List.set_cons_succ, i64_w, i32_w]
       rfl
     refine pure_ (i := 19) (N := some 30) (v := ?_) (a' := ?_) #[y7, y7, y7, y7, y7, y7, y7, y7, y7, y7, y7, y7, y7, y7, y7, y7, n7, y7, y7, y7, n7, n7, n7, n7, n7, n7, n7, n7, n7, n7, n7, n7, n7, n7, n7, n7, n7, n7, n7, n7, n7, n7, n7, n7, n7, n7, n7, n7, n7, n7, n7] rfl rfl (any_of HT_.out (by kernel_rfl)) (fun _ _ _ h => h) (Or.inl ⟨by rfl, ?_⟩) ?_ ?_
     rotate_left
     · intro w'
       go_simp
       with_reducible rfl
     rotate_left
     · simp only [Act.put, List.setIfInBounds_toArray, List.set_cons_zero, List.set_cons_succ, i64_w, i32_w]
       rfl
     refine pure_ (i := 20) (N := some 31) (v := ?_) (a' := ?_) #[y7, y7, y7, y7, y7, y7, y7, y7, y7, y7, y7, y7, y7, y7, y7, y7, n7, y7, y7, y7, y7, n7, n7, n7, n7, n7, n7, n7, n7, n7, n7, n7, n7, n7, n7, n7, n7, n7, n7, n7, n7, n7, n7, n7, n7, n7, n7, n7, n7, n7, n7] rfl rfl (any_of HT_.out (by kernel_rfl)) (fun _ _ _ h => h) (Or.inl ⟨by rfl, ?_⟩) ?_ ?_
     rotate_left
     · intro w'
       go_simp
       with_reducible rfl
     rotate_left
     · simp only [Act.put, List.setIfInBounds_toArray, List.set_cons_zero, List.set_cons_succ, i64_w, i32_w]
       rfl
     refine take_ (i := 16) (N := some 27) (v := ?_) (a' := ?_) #[y7, y7, y7, y7, y7, y7, y7, y7, y7, y7, y7, y7, y7, y7, y7, y7, y7, y7, y7, y7, y7, n7, n7, n7, n7, n7, n7, n7, n7, n7, n7, n7, n7, n7, n7, n7, n7, n7, n7, n7, n7, n7, n7, n7, n7, n7, n7, n7, n7, n7, n7] rfl rfl (take_ofW HT_.out HW_.out (by kernel_rfl)) (fun _ _ _ h => h) (Or.inl ⟨by rfl, ?_⟩) hHeld ?_ ?_
     rotate_left
     · rintro w' ⟨s0, s1, s2, s3, s4, s5, s6, s7, s8, s9, s10, s11, s12, s13, s14, s15⟩
       go_simp
       with_reducible rfl
     rotate_left
     · simp only [Act.put, List.setIfInBounds_toArray, List.set_cons_zero, List.set_cons_succ, i64_w, i32_w]
       rfl
     refine take_ (i := 21) (N := some 32) (v := ?_) (a' := ?_) #[y7, y7, y7, y7, y7, y7, y7, y7, y7, y7, y7, y7, y7, y7, y7, y7, y7, y7, y7, y7, y7, y7, n7, n7, n7, n7, n7, n7, n7, n7, n7, n7, n7, n7, n7, n7, n7, n7, n7, n7, n7, n7, n7, n7, n7, n7, n7, n7, n7, n7, n7] rfl rfl (take_ofW HT_.out HW_.out (by kernel_rfl)) (fun _ _ _ h => h) (Or.inl ⟨by rfl, ?_⟩) hHeld ?_ ?_
     rotate_left
     · rintro w' ⟨s0, s1, s2, s3, s4, s5, s6, s7, s8, s9, s10, s11, s12, s13, s14, s15⟩
       go_simp
       with_reducible rfl
     rotate_left
     · simp only [Act.put, List.setIfInBounds_toArray, List.set_cons_zero, List.set_cons_succ, i64_w, i32_w]
       rfl
     refine pure_ (i := 22) (N := some 33) (v := ?_) (a' := ?_) #[y7, y7, y7, y7, y7, y7, y7, y7, y7, y7, y7, y7, y7, y7, y7, y7, y7, y7, y7, y7, y7, y7, y7, n7, n7, n7, n7, n7, n7, n7, n7, n7, n7, n7, n7, n7, n7, n7, n7, n7, n7, n7, n7, n7, n7, n7, n7, n7, n7, n7, n7] rfl rfl (any_of HT_.out (by kernel_rfl)) (fun _ _ _ h => h) (Or.inl ⟨by rfl, ?_⟩) ?_ ?_
     rotate_left
     · intro w'
       go_simp
       with_reducible rfl
     rotate_left
     · simp only [Act.put, List.setIfInBounds_toArray, List.set_cons_zero, List.set_cons_succ, i64_w, i32_w]
       rfl
     refine pure_ (i := 23) (N := some 34) (v := ?_) (a' := ?_) #[y7, y7, y7, y7, y7, y7, y7, y7, y7, y7, y7, y7, y7, y7, y7, y7, y7, y7, y7, y7, y7, y7, y7, y7, n7, n7, n7, n7, n7, n7, n7, n7, n7, n7, n7, n7, n7, n7, n7, n7, n7, n7, n7, n7, n7, n7, n7, n7, n7, n7, n7] rfl rfl (any_of HT_.out (by kernel_rfl)) (fun _ _ _ h => h) (Or.inl ⟨by rfl, ?_⟩) ?_ ?_
     rotate_left
     · intro w'
       go_simp
       with_reducible rfl
     rotate_left
     · simp only [Act.put, List.setIfInBounds_toArray, List.set_cons_zero, List.set_cons_succ, i64_w, i32_w]
       rfl
     refine pure_ (i := 24) (N := some 35) (v := ?_) (a' := ?_) #[y7, y7, y7, y7, y7, y7, y7, y7, y7, y7, y7, y7, y7, y7, y7, y7, y7, y7, y7, y7, y7, y7, y7, y7, y7, n7, n7, n7, n7, n7, n7, n7, n7, n7, n7, n7, n7, n7, n7, n7, n7, n7, n7, n7, n7, n7, n7, n7, n7, n7, n7] rfl rfl (any_of HT_.out (by kernel_rfl)) (fun _ _ _ h => h) (Or.inl ⟨by rfl, ?_⟩) ?_ ?_
     rotate_left
     · intro w'
       go_simp
       with_reducible rfl
     rotate_left
     · simp only [Act.put, List.setIfInBounds_toArray, List.set_cons_zero, List.set_cons_succ, i64_w, i32_w]
       rfl
     refine pure_ (i := 25) (N := some 36) (v := undef) (a' := ?_) #[y7, y7, y7, y7, y7, y7, y7, y7, y7, y7, y7, y7, y7, y7, y7, y7, y7, y7, y7, y7, y7, y7, y7, y7, y7, y7, n7, n7, n7, n7, n7, n7, n7, n7, n7, n7, n7, n7, n7, n7, n7, n7, n7, n7, n7, n7, n7, n7, n7, n7, n7] rfl rfl (any_of HT_.out (by kernel_rfl)) (fun _ _ _ h => h) (Or.inr ⟨by rfl, rfl⟩) ?_ ?_
     rotate_left
     · simp only [Act.put, List.setIfInBounds_toArray, List.set_cons_zero, List.set_cons_succ, i64_w, i32_w]
       rfl
     refine pure_ (i := 26) (N := some 37) (v := undef) (a' := ?_) #[y7, y7, y7, y7, y7, y7, y7, y7, y7, y7, y7, y7, y7, y7, y7, y7, y7, y7, y7, y7, y7, y7, y7, y7, y7, y7, y7, n7, n7, n7, n7, n7, n7, n7, n7, n7, n7, n7, n7, n7, n7, n7, n7, n7, n7, n7, n7, n7, n7, n7, n7] rfl rfl (any_of HT_.out (by kernel_rfl)) (fun _ _ _ h => h) (Or.inr ⟨by rfl, rfl⟩) ?_ ?_
     rotate_left
     · simp only [Act.put, List.setIfInBounds_toArray, List.set_cons_zero, List.set_cons_succ, i64_w, i32_w]
       rfl
     refine pure_ (i := 27) (N := some 38) (v := undef) (a' := ?_) #[y7, y7, y7, y7, y7, y7, y7, y7, y7, y7, y7, y7, y7, y7, y7, y7, y7, y7, y7, y7, y7, y7, y7, y7, y7, y7, y7, y7, n7, n7, n7, n7, n7, n7, n7, n7, n7, n7, n7, n7, n7, n7, n7, n7, n7, n7, n7, n7, n7, n7, n7] rfl rfl (any_of HT_.out (by kernel_rfl)) (fun _ _ _ h => h) (Or.inr ⟨by rfl, rfl⟩) ?_ ?_
     rotate_left
     · simp only [Act.put, List.setIfInBounds_toArray, List.set_cons_zero, List.set_cons_succ, i64_w, i32_w]
       rfl
     refine pure_ (i := 28) (N := some 39) (v := undef) (a' := ?_) #[y7, y7, y7, y7, y7, y7, y7, y7, y7, y7, y7, y7, y7, y7, y7, y7, y7, y7, y7, y7, y7, y7, y7, y7, y7, y7, y7, y7, y7, n7, n7, n7, n7, n7, n7, n7, n7, n7, n7, n7, n7, n7, n7, n7, n7, n7, n7, n7, n7, n7, n7] rfl rfl (any_of HT_.out (by kernel_rfl)) (fun _ _ _ h => h) (Or.inr ⟨by rfl, rfl⟩) ?_ ?_
     rotate_left
     · simp only [Act.put, List.setIfInBounds_toArray, List.set_cons_zero, List.set_cons_succ, i64_w, i32_w]
       rfl
     refine pure_ (i := 29) (N := some 40) (v := undef) (a' := ?_) #[y7, y7, y7, y7, y7, y7, y7, y7, y7, y7, y7, y7, y7, y7, y7, y7, y7, y7, y7, y7, y7, y7, y7, y7, y7, y7, y7, y7, y7, y7, n7, n7, n7, n7, n7, n7, n7, n7, n7, n7, n7, n7, n7, n7, n7, n7, n7, n7, n7, n7, n7] rfl rfl (any_of HT_.out (by kernel_rfl)) (fun _ _ _ h => h) (Or.inr ⟨by rfl, rfl⟩) ?_ ?_
     rotate_left
     · simp only [Act.put, List.setIfInBounds_toArray, List.set_cons_zero, List.set_cons_succ, i64_w, i32_w]
       rfl
     refine pure_ (i := 30) (N := some 41) (v := undef) (a' := ?_) #[y7, y7, y7, y7, y7, y7, y7, y7, y7, y7, y7, y7, y7, y7, y7, y7, y7, y7, y7, y7, y7, y7, y7, y7, y7, y7, y7, y7, y7, y7, y7, n7, n7, n7, n7, n7, n7, n7, n7, n7, n7, n7, n7, n7, n7, n7, n7, n7, n7, n7, n7] rfl rfl (any_of HT_.out (by kernel_rfl)) (fun _ _ _ h => h) (Or.inr ⟨by rfl, rfl⟩) ?_ ?_
     rotate_left
     · simp only [Act.put, List.setIfInBounds_toArray, List.set_cons_zero, List.set_cons_succ, i64_w, i32_w]
       rfl
     refine pure_ (i := 31) (N := some 42) (v := undef) (a' := ?_) #[y7, y7, y7, y7, y7, y7, y7, y7, y7, y7, y7, y7, y7, y7, y7, y7, y7, y7, y7, y7, y7, y7, y7, y7, y7, y7, y7, y7, y7, y7, y7, y7, n7, n7, n7, n7, n7, n7, n7, n7, n7, n7, n7, n7, n7, n7, n7, n7, n7, n7, n7] rfl rfl (any_of HT_.out (by kernel_rfl)) (fun _ _ _ h => h) (Or.inr ⟨by rfl, rfl⟩) ?_ ?_
     rotate_left
     · simp only [Act.put, List.setIfInBounds_toArray, List.set_cons_zero, List.set_cons_succ, i64_w, i32_w]
       rfl
     refine pure_ (i := 32) (N := some 43) (v := undef) (a' := ?_) #[y7, y7, y7, y7, y7, y7, y7, y7, y7, y7, y7, y7, y7, y7, y7, y7, y7, y7, y7, y7, y7, y7, y7, y7, y7, y7, y7, y7, y7, y7, y7, y7, y7, n7, n7, n7, n7, n7, n7, n7, n7, n7, n7, n7, n7, n7, n7, n7, n7, n7, n7] rfl rfl (any_of HT_.out (by kernel_rfl)) (fun _ _ _ h => h) (Or.inr ⟨by rfl, rfl⟩) ?_ ?_
     rotate_left
     · simp only [Act.put, List.setIfInBounds_toArray, List.set_cons_zero, List.set_cons_succ, i64_w, i32_w]
       rfl
     refine pure_ (i := 33) (N := some 44) (v := undef) (a' := ?_) #[y7, y7, y7, y7, y7, y7, y7, y7, y7, y7, y7, y7, y7, y7, y7, y7, y7, y7, y7, y7, y7, y7, y7, y7, y7, y7, y7, y7, y7, y7, y7, y7, y7, y7, n7, n7, n7, n7, n7, n7, n7, n7, n7, n7, n7, n7, n7, n7, n7, n7, n7] rfl rfl (any_of HT_.out (by kernel_rfl)) (fun _ _ _ h => h) (Or.inr ⟨by rfl, rfl⟩) ?_ ?_
     rotate_left
     · simp only [Act.put, List.setIfInBounds_toArray, List.set_cons_zero, List.set_cons_succ, i64_w, i32_w]
       rfl
     refine pure_ (i := 34) (N := some 45) (v := undef) (a' := ?_) #[y7, y7, y7, y7, y7, y7, y7, y7, y7, y7, y7, y7, y7, y7, y7, y7, y7, y7, y7, y7, y7, y7, y7, y7, y7, y7, y7, y7, y7, y7, y7, y7, y7, y7, y7, n7, n7, n7, n7, n7, n7, n7, n7, n7, n7, n7, n7, n7, n7, n7, n7] rfl rfl (any_of HT_.out (by kernel_rfl)) (fun _ _ _ h => h) (Or.inr ⟨by rfl, rfl⟩) ?_ ?_
     rotate_left
     · simp only [Act.put, List.setIfInBounds_toArray, List.set_cons_zero, List.set_cons_succ, i64_w, i32_w]
       rfl
     refine pure_ (i := 35) (N := some 46) (v := undef) (a' := ?_) #[y7, y7, y7, y7, y7, y7, y7, y7, y7, y7, y7, y7, y7, y7, y7, y7, y7, y7, y7, y7, y7, y7, y7, y7, y7, y7, y7, y7, y7, y7, y7, y7, y7, y7, y7, y7, n7, n7, n7, n7, n7, n7, n7, n7, n7, n7, n7, n7, n7, n7, n7] rfl rfl (any_of HT_.out (by kernel_rfl)) (fun _ _ _ h => h) (Or.inr ⟨by rfl, rfl⟩) ?_ ?_
     rotate_left
     · simp only [Act.put, List.setIfInBounds_toArray, List.set_cons_zero, List.set_cons_succ, i64_w, i32_w]
       rfl
     refine pure_ (i := 36) (N := some 47) (v := ?_) (a' := ?_) #[y7, y7, y7, y7, y7, y7, y7, y7, y7, y7, y7, y7, y7, y7, y7, y7, y7, y7, y7, y7, y7, y7, y7, y7, y7, y7, y7, y7, y7, y7, y7, y7, y7, y7, y7, y7, y7, n7, n7, n7, n7, n7, n7, n7, n7, n7, n7, n7, n7, n7, n7] rfl rfl (any_of HT_.out (by kernel_rfl)) (fun _ _ _ h => h) (Or.inl ⟨by rfl, ?_⟩) ?_ ?_
     rotate_left
     · intro w'
       go_simp
       with_reducible rfl
     rotate_left
     · simp only [Act.put, List.setIfInBounds_toArray, List.set_cons_zero, List.set_cons_succ, i64_w, i32_w]
       rfl
     refine pure_ (i := 37) (N := some 48) (v := ?_) (a' := ?_) #[y7, y7, y7, y7, y7, y7, y7, y7, y7, y7, y7, y7, y7, y7, y7, y7, y7, y7, y7, y7, y7, y7, y7, y7, y7, y7, y7, y7, y7, y7, y7, y7, y7, y7, y7, y7, y7, y7, n7, n7, n7, n7, n7, n7, n7, n7, n7, n7, n7, n7, n7] rfl rfl (any_of HT_.out (by kernel_rfl)) (fun _ _ _ h => h) (Or.inl ⟨by rfl, ?_⟩) ?_ ?_
     rotate_left
     · intro w'
       go_simp
       with_reducible rfl
     rotate_left
     · simp only [Act.put, List.setIfInBounds_toArray, List.set_cons_zero, List.set_cons_succ, i64_w, i32_w]
       rfl
     refine pure_ (i := 38) (N := some 49) (v := undef) (a' := ?_) #[y7, y7, y7, y7, y7, y7, y7, y7, y7, y7, y7, y7, y7, y7, y7, y7, y7, y7, y7, y7, y7, y7, y7, y7, y7, y7, y7, y7, y7, y7, y7, y7, y7, y7, y7, y7, y7, y7, y7, n7, n7, n7, n7, n7, n7, n7, n7, n7, n7, n7, n7] rfl rfl (any_of HT_.out (by kernel_rfl)) (fun _ _ _ h => h) (Or.inr ⟨by rfl, rfl⟩) ?_ ?_
     rotate_left
     · simp only [Act.put, List.setIfInBounds_toArray, List.set_cons_zero, List.set_cons_succ, i64_w, i32_w]
       rfl
     refine pure_ (i := 39) (N := some 50) (v := undef) (a' := ?_) #[y7, y7, y7, y7, y7, y7, y7, y7, y7, y7, y7, y7, y7, y7, y7, y7, y7, y7, y7, y7, y7, y7, y7, y7, y7, y7, y7, y7, y7, y7, y7, y7, y7, y7, y7, y7, y7, y7, y7, y7, n7, n7, n7, n7, n7, n7, n7, n7, n7, n7, n7] rfl rfl (any_of HT_.out (by kernel_rfl)) (fun _ _ _ h => h) (Or.inr ⟨by rfl, rfl⟩) ?_ ?_
     rotate_left
     · simp only [Act.put, List.setIfInBounds_toArray, List.set_cons_zero, List.set_cons_succ, i64_w, i32_w]
       rfl
     refine pure_ (i := 40) (N := some 51) (v := undef) (a' := ?_) #[y7, y7, y7, y7, y7, y7, y7, y7, y7, y7, y7, y7, y7, y7, y7, y7, y7, y7, y7, y7, y7, y7, y7, y7, y7, y7, y7, y7, y7, y7, y7, y7, y7, y7, y7, y7, y7, y7, y7, y7, y7, n7, n7, n7, n7, n7, n7, n7, n7, n7, n7] rfl rfl (any_of HT_.out (by kernel_rfl)) (fun _ _ _ h => h) (Or.inr ⟨by rfl, rfl⟩) ?_ ?_
     rotate_left
     · simp only [Act.put, List.setIfInBounds_toArray, List.set_cons_zero, List.set_cons_succ, i64_w, i32_w]
       rfl
     refine pure_ (i := 41) (N := some 52) (v := undef) (a' := ?_) #[y7, y7, y7, y7, y7, y7, y7, y7, y7, y7, y7, y7, y7, y7, y7, y7, y7, y7, y7, y7, y7, y7, y7, y7, y7, y7, y7, y7, y7, y7, y7, y7, y7, y7, y7, y7, y7, y7, y7, y7, y7, y7, n7, n7, n7, n7, n7, n7, n7, n7, n7] rfl rfl (any_of HT_.out (by kernel_rfl)) (fun _ _ _ h => h) (Or.inr ⟨by rfl, rfl⟩) ?_ ?_
     rotate_left
     · simp only [Act.put, List.setIfInBounds_toArray, List.set_cons_zero, List.set_cons_succ, i64_w, i32_w]
       rfl
     refine pure_ (i := 42) (N := some 53) (v := undef) (a' := ?_) #[y7, y7, y7, y7, y7, y7, y7, y7, y7, y7, y7, y7, y7, y7, y7, y7, y7, y7, y7, y7, y7, y7, y7, y7, y7, y7, y7, y7, y7, y7, y7, y7, y7, y7, y7, y7, y7, y7, y7, y7, y7, y7, y7, n7, n7, n7, n7, n7, n7, n7, n7] rfl rfl (any_of HT_.out (by kernel_rfl)) (fun _ _ _ h => h) (Or.inr ⟨by rfl, rfl⟩) ?_ ?_
     rotate_left
     · simp only [Act.put, List.setIfInBounds_toArray, List.set_cons_zero, List.set_cons_succ, i64_w, i32_w]
       rfl
     refine pure_ (i := 43) (N := some 54) (v := undef) (a' := ?_) #[y7, y7, y7, y7, y7, y7, y7, y7, y7, y7, y7, y7, y7, y7, y7, y7, y7, y7, y7, y7, y7, y7, y7, y7, y7, y7, y7, y7, y7, y7, y7, y7, y7, y7, y7, y7, y7, y7, y7, y7, y7, y7, y7, y7, n7, n7, n7, n7, n7, n7, n7] rfl rfl (any_of HT_.out (by kernel_rfl)) (fun _ _ _ h => h) (Or.inr ⟨by rfl, rfl⟩) ?_ ?_
     rotate_left
     · simp only [Act.put, List.setIfInBounds_toArray, List.set_cons_zero, List.set_cons_succ, i64_w, i32_w]
       rfl
     refine pure_ (i := 44) (N := some 55) (v := undef) (a' := ?_) #[y7, y7, y7, y7, y7, y7, y7, y7, y7, y7, y7, y7, y7, y7, y7, y7, y7, y7, y7, y7, y7, y7, y7, y7, y7, y7, y7, y7, y7, y7, y7, y7, y7, y7, y7, y7, y7, y7, y7, y7, y7, y7, y7, y7, y7, n7, n7, n7, n7, n7, n7] rfl rfl (any_of HT_.out (by kernel_rfl)) (fun _ _ _ h => h) (Or.inr ⟨by rfl, rfl⟩) ?_ ?_
     rotate_left
     · simp only [Act.put, List.setIfInBounds_toArray, List.set_cons_zero, List.set_cons_succ, i64_w, i32_w]
       rfl
     refine pure_ (i := 45) (N := some 56) (v := undef) (a' := ?_) #[y7, y7, y7, y7, y7, y7, y7, y7, y7, y7, y7, y7, y7, y7, y7, y7, y7, y7, y7, y7, y7, y7, y7, y7, y7, y7, y7, y7, y7, y7, y7, y7, y7, y7, y7, y7, y7, y7, y7, y7, y7, y7, y7, y7, y7, y7, n7, n7, n7, n7, n7] rfl rfl (any_of HT_.out (by kernel_rfl)) (fun _ _ _ h => h) (Or.inr ⟨by rfl, rfl⟩) ?_ ?_
     rotate_left
     · simp only [Act.put, List.setIfInBounds_toArray, List.set_cons_zero, List.set_cons_succ, i64_w, i32_w]
       rfl
     refine pure_ (i := 46) (N := some 57) (v := undef) (a' := ?_) #[y7, y7, y7, y7, y7, y7, y7, y7, y7, y7, y7, y7, y7, y7, y7, y7, y7, y7, y7, y7, y7, y7, y7, y7, y7, y7, y7, y7, y7, y7, y7, y7, y7, y7, y7, y7, y7, y7, y7, y7, y7, y7, y7, y7, y7, y7, y7, n7, n7, n7, n7] rfl rfl (any_of HT_.out (by kernel_rfl)) (fun _ _ _ h => h) (Or.inr ⟨by rfl, rfl⟩) ?_ ?_
     rotate_left
     · simp only [Act.put, List.setIfInBounds_toArray, List.set_cons_zero, List.set_cons_succ, i64_w, i32_w]
       rfl
     refine pure_ (i := 47) (N := some 58) (v := undef) (a' := ?_) #[y7, y7, y7, y7, y7, y7, y7, y7, y7, y7, y7, y7, y7, y7, y7, y7, y7, y7, y7, y7, y7, y7, y7, y7, y7, y7, y7, y7, y7, y7, y7, y7, y7, y7, y7, y7, y7, y7, y7, y7, y7, y7, y7, y7, y7, y7, y7, y7, n7, n7, n7] rfl rfl (any_of HT_.out (by kernel_rfl)) (fun _ _ _ h => h) (Or.inr ⟨by rfl, rfl⟩) ?_ ?_
     rotate_left
     · simp only [Act.put, List.setIfInBounds_toArray, List.set_cons_zero, List.set_cons_succ, i64_w, i32_w]
       rfl
     refine pure_ (i := 48) (N := some 59) (v := undef) (a' := ?_) #[y7, y7, y7, y7, y7, y7, y7, y7, y7, y7, y7, y7, y7, y7, y7, y7, y7, y7, y7, y7, y7, y7, y7, y7, y7, y7, y7, y7, y7, y7, y7, y7, y7, y7, y7, y7, y7, y7, y7, y7, y7, y7, y7, y7, y7, y7, y7, y7, y7, n7, n7] rfl rfl (any_of HT_.out (by kernel_rfl)) (fun _ _ _ h => h) (Or.inr ⟨by rfl, rfl⟩) ?_ ?_
     rotate_left
     · simp only [Act.put, List.setIfInBounds_toArray, List.set_cons_zero, List.set_cons_succ, i64_w, i32_w]
       rfl
     refine pure_ (i := 49) (N := some 60) (v := undef) (a' := ?_) #[y7, y7, y7, y7, y7, y7, y7, y7, y7, y7, y7, y7, y7, y7, y7, y7, y7, y7, y7, y7, y7, y7, y7, y7, y7, y7, y7, y7, y7, y7, y7, y7, y7, y7, y7, y7, y7, y7, y7, y7, y7, y7, y7, y7, y7, y7, y7, y7, y7, y7, n7] rfl rfl (any_of HT_.out (by kernel_rfl)) (fun _ _ _ h => h) (Or.inr ⟨by rfl, rfl⟩) ?_ ?_
     rotate_left
     · simp only [Act.put, List.setIfInBounds_toArray, List.set_cons_zero, List.set_cons_succ, i64_w, i32_w]
       rfl
     refine pure_ (i := 50) (N := some 61) (v := ?_) (a' := ?_) #[y7, y7, y7, y7, y7, y7, y7, y7, y7, y7, y7, y7, y7, y7, y7, y7, y7, y7, y7, y7, y7, y7, y7, y7, y7, y7, y7, y7, y7, y7, y7, y7, y7, y7, y7, y7, y7, y7, y7, y7, y7, y7, y7, y7, y7, y7, y7, y7, y7, y7, y7] rfl rfl (any_of HT_.out (by kernel_rfl)) (fun _ _ _ h => h) (Or.inl ⟨by rfl, ?_⟩) ?_ ?_
     rotate_left
     · intro w'
       go_simp
       with_reducible rfl
     rotate_left
     · simp only [Act.put, List.setIfInBounds_toArray, List.set_cons_zero, List.set_cons_succ, i64_w, i32_w]
       rfl
     refine done_ (done_of HT_.out (by kernel_rfl)) ?_
     try go_wp2
     go_ret
     exact ⟨by first | rfl | (simp [errW_none, errW_some] <;> rfl) | (simp [*, errW_none, errW_some] <;> rfl), by repeat (with_reducible first | exact HB.out | apply below_alloc | apply pw_below_drewN | apply below_drew1)⟩
   rw [if_pos c8] at H
   have c8b0 : (((rd_T49 l0 x8_1).f1).toList == ((rd_T49 l1 x8_1).f1).toList) = true := beq_iff_eq.mpr c8
   have c8b1 : (((rd_T49 l0 x8_1).f1).toList != ((rd_T49 l1 x8_1).f1).toList) = false := bne_eq_false_iff_eq.mpr c8
   clear c8
   by_cases c9 : ((rd_T49 l0 x8_1).f3) = ((rd_T49 l1 x8_1).f3)
   rotate_left
   · rw [if_neg c9] at H
     have c9b0 : (((rd_T49 l0 x8_1).f3) == ((rd_T49 l1 x8_1).f3)) = false := beq_eq_false_iff_ne.mpr c9
     have c9b1 : (((rd_T49 l0 x8_1).f3) != ((rd_T49 l1 x8_1).f3)) = true := bne_iff_ne.mpr c9
     obtain rfl := Option.some.inj H
     try go_wp2
     have n0_ := Aside0.mk (below_drew1 HB.out)
     clear HB
     have HB := n0_
     clear n0_
     have p201 : 0 ≤ (x8_1 : Int) := of_decide_eq_true (by first | (with_reducible assumption) | assumption)
     have q201 : x8_1 < (l0.length : Int) := of_decide_eq_true (by first | (with_reducible assumption) | assumption)
     obtain ⟨ad201, A201_2, c201_2, e201, hx201_0, hx201_1, hx201_2, hx201_3, hl201_2, hi201_2⟩ := at_T49 HR0.out x8_1 p201 q201
     have hw201_3 := hx201_3
     have hw201_2 := hx201_2
     have hw201_1 := hx201_1
     have hw201_0 := hx201_0
     cases e201
     replace hx201_0 := (HB.out.cell (World.block_lt_of_cell? w _ hx201_0)).trans hx201_0
     replace hx201_1 := (HB.out.cell (World.block_lt_of_cell? w _ hx201_1)).trans hx201_1
     replace hx201_2 := (HB.out.cell (World.block_lt_of_cell? w _ hx201_2)).trans hx201_2
     replace hx201_3 := (HB.out.cell (World.block_lt_of_cell? w _ hx201_3)).trans hx201_3
     have HR201_2 := Aside0.mk hi201_2
     have HC201_2 := Aside0.mk hl201_2
     clear hi201_2 hl201_2
     replace p201 := eq_true p201
     replace q201 := eq_true q201
     have p202 : 0 ≤ (x8_1 : Int) := of_decide_eq_true (by first | (with_reducible assumption) | assumption)
     have q202 : x8_1 < (l1.length : Int) := of_decide_eq_true (by first | (with_reducible assumption) | assumption)
     obtain ⟨ad202, A202_2, c202_2, e202, hx202_0, hx202_1, hx202_2, hx202_3, hl202_2, hi202_2⟩ := at_T49 HR1.out x8_1 p202 q202
     have hw202_3 := hx202_3
     have hw202_2 := hx202_2
     have hw202_1 := hx202_1
     have hw202_0 := hx202_0
     cases e202
     replace hx202_0 := (HB.out.cell (World.block_lt_of_cell? w _ hx202_0)).trans hx202_0
     replace hx202_1 := (HB.out.cell (World.block_lt_of_cell? w _ hx202_1)).trans hx202_1
     replace hx202_2 := (HB.out.cell (World.block_lt_of_cell? w _ hx202_2)).trans hx202_2
     replace hx202_3 := (HB.out.cell (World.block_lt_of_cell? w _ hx202_3)).trans hx202_3
     have HR202_2 := Aside0.mk hi202_2
     have HC202_2 := Aside0.mk hl202_2
     clear hi202_2 hl202_2
     replace p202 := eq_true p202
     replace q202 := eq_true q202
     have p203 : 0 ≤ (x8_1 : Int) := of_decide_eq_true (by first | (with_reducible assumption) | assumption)
     have q203 : x8_1 < (l0.length : Int) := of_decide_eq_true (by first | (with_reducible assumption) | assumption)
     obtain ⟨ad203, A203_2, c203_2, e203, hx203_0, hx203_1, hx203_2, hx203_3, hl203_2, hi203_2⟩ := at_T49 HR0.out x8_1 p203 q203
     have hw203_3 := hx203_3
     have hw203_2 := hx203_2
     have hw203_1 := hx203_1
     have hw203_0 := hx203_0
     obtain rfl : ad201 = ad203 := (by injection e203)
     replace hx203_0 := (HB.out.cell (World.block_lt_of_cell? w _ hx203_0)).trans hx203_0
     replace hx203_1 := (HB.out.cell (World.block_lt_of_cell? w _ hx203_1)).trans hx203_1
     replace hx203_2 := (HB.out.cell (World.block_lt_of_cell? w _ hx203_2)).trans hx203_2
     replace hx203_3 := (HB.out.cell (World.block_lt_of_cell? w _ hx203_3)).trans hx203_3
     have HR203_2 := Aside0.mk hi203_2
     have HC203_2 := Aside0.mk hl203_2
     clear hi203_2 hl203_2
     replace p203 := eq_true p203
     replace q203 := eq_true q203
     have ea_ := Option.some.inj (hx201_2.symm.trans hx203_2)
     injection ea_ with ea_ en_ ec_
     subst ea_
     subst ec_
     clear en_
     have p204 : 0 ≤ (x8_1 : Int) := of_decide_eq_true (by first | (with_reducible assumption) | assumption)
     have q204 : x8_1 < (l1.length : Int) := of_decide_eq_true (by first | (with_reducible assumption) | assumption)
     obtain ⟨ad204, A204_2, c204_2, e204, hx204_0, hx204_1, hx204_2, hx204_3, hl204_2, hi204_2⟩ := at_T49 HR1.out x8_1 p204 q204
     have hw204_3 := hx204_3
     have hw204_2 := hx204_2
     have hw204_1 := hx204_1
     have hw204_0 := hx204_0
     obtain rfl : ad202 = ad204 := (by injection e204)
     replace hx204_0 := (HB.out.cell (World.block_lt_of_cell? w _ hx204_0)).trans hx204_0
     replace hx204_1 := (HB.out.cell (World.block_lt_of_cell? w _ hx204_1)).trans hx204_1
     replace hx204_2 := (HB.out.cell (World.block_lt_of_cell? w _ hx204_2)).trans hx204_2
     replace hx204_3 := (HB.out.cell (World.block_lt_of_cell? w _ hx204_3)).trans hx204_3
     have HR204_2 := Aside0.mk hi204_2
     have HC204_2 := Aside0.mk hl204_2
     clear hi204_2 hl204_2
     replace p204 := eq_true p204
     replace q204 := eq_true q204
     have ea_ := Option.some.inj (hx202_2.symm.trans hx204_2)
     injection ea_ with ea_ en_ ec_
     subst ea_
     subst ec_
     clear en_
     have p205 : 0 ≤ (x8_1 : Int) := of_decide_eq_true (by first | (with_reducible assumption) | assumption)
     have q205 : x8_1 < (l0.length : Int) := of_decide_eq_true (by first | (with_reducible assumption) | assumption)
     obtain ⟨ad205, A205_2, c205_2, e205, hx205_0, hx205_1, hx205_2, hx205_3, hl205_2, hi205_2⟩ := at_T49 HR0.out x8_1 p205 q205
     have hw205_3 := hx205_3
     have hw205_2 := hx205_2
     have hw205_1 := hx205_1
     have hw205_0 := hx205_0
     obtain rfl : ad201 = ad205 := (by injection e205)
     replace hx205_0 := (HB.out.cell (World.block_lt_of_cell? w _ hx205_0)).trans hx205_0
     replace hx205_1 := (HB.out.cell (World.block_lt_of_cell? w _ hx205_1)).trans hx205_1
     replace hx205_2 := (HB.out.cell (World.block_lt_of_cell? w _ hx205_2)).trans hx205_2
     replace hx205_3 := (HB.out.cell (World.block_lt_of_cell? w _ hx205_3)).trans hx205_3
     have HR205_2 := Aside0.mk hi205_2
     have HC205_2 := Aside0.mk hl205_2
     clear hi205_2 hl205_2
     replace p205 := eq_true p205
     replace q205 := eq_true q205
     have ea_ := Option.some.inj (hx201_2.symm.trans hx205_2)
     injection ea_ with ea_ en_ ec_
     subst ea_
     subst ec_
     clear en_
     have p206 : 0 ≤ (x8_1 : Int) := of_decide_eq_true (by first | (with_reducible assumption) | assumption)
     have q206 : x8_1 < (l1.length : Int) := of_decide_eq_true (by first | (with_reducible assumption) | assumption)
     obtain ⟨ad206, A206_2, c206_2, e206, hx206_0, hx206_1, hx206_2, hx206_3, hl206_2, hi206_2⟩ := at_T49 HR1.out x8_1 p206 q206
     have hw206_3 := hx206_3
     have hw206_2 := hx206_2
     have hw206_1 := hx206_1
     have hw206_0 := hx206_0
     obtain rfl : ad202 = ad206 := (by injection e206)
     replace hx206_0 := (HB.out.cell (World.block_lt_of_cell? w _ hx206_0)).trans hx206_0
     replace hx206_1 := (HB.out.cell (World.block_lt_of_cell? w _ hx206_1)).trans hx206_1
     replace hx206_2 := (HB.out.cell (World.block_lt_of_cell? w _ hx206_2)).trans hx206_2
     replace hx206_3 := (HB.out.cell (World.block_lt_of_cell? w _ hx206_3)).trans hx206_3
     have HR206_2 := Aside0.mk hi206_2
     have HC206_2 := Aside0.mk hl206_2
     clear hi206_2 hl206_2
     replace p206 := eq_true p206
     replace q206 := eq_true q206
     have ea_ := Option.some.inj (hx202_2.symm.trans hx206_2)
     injection ea_ with ea_ en_ ec_
     subst ea_
     subst ec_
     clear en_
     refine start_ (n := 51) (S := fun w' => w'.cell? (ad201.add ((x8_1).toNat * 4)) = some (.string ((rd_T49 l0 x8_1).f0)) ∧ w'.cell? ⟨(ad201.add ((x8_1).toNat * 4)).block, (ad201.add ((x8_1).toNat * 4)).off + 1, none⟩ = some (.string ((rd_T49 l0 x8_1).f1)) ∧ w'.cell? ⟨(ad201.add ((x8_1).toNat * 4)).block, (ad201.add ((x8_1).toNat * 4)).off + 2, none⟩ = some (.slice A201_2 ((rd_T49 l0 x8_1).f2).length c201_2) ∧ w'.cell? ⟨(ad201.add ((x8_1).toNat * 4)).block, (ad201.add ((x8_1).toNat * 4)).off + 3, none⟩ = some (.int .i64 ((rd_T49 l0 x8_1).f3)) ∧ w'.cell? (ad202.add ((x8_1).toNat * 4)) = some (.string ((rd_T49 l1 x8_1).f0)) ∧ w'.cell? ⟨(ad202.add ((x8_1).toNat * 4)).block, (ad202.add ((x8_1).toNat * 4)).off + 1, none⟩ = some (.string ((rd_T49 l1 x8_1).f1)) ∧ w'.cell? ⟨(ad202.add ((x8_1).toNat * 4)).block, (ad202.add ((x8_1).toNat * 4)).off + 2, none⟩ = some (.slice A202_2 ((rd_T49 l1 x8_1).f2).length c202_2) ∧ w'.cell? ⟨(ad202.add ((x8_1).toNat * 4)).block, (ad202.add ((x8_1).toNat * 4)).off + 3, none⟩ = some (.int .i64 ((rd_T49 l1 x8_1).f3)) ∧ w'.cell? (ad201.add ((x8_1).toNat * 4)) = some (.string ((rd_T49 l0 x8_1).f0)) ∧ w'.cell? ⟨(ad201.add ((x8_1).toNat * 4)).block, (ad201.add ((x8_1).toNat * 4)).off + 1, none⟩ = some (.string ((rd_T49 l0 x8_1).f1)) ∧ w'.cell? ⟨(ad201.add ((x8_1).toNat * 4)).block, (ad201.add ((x8_1).toNat * 4)).off + 2, none⟩ = some (.slice A201_2 ((rd_T49 l0 x8_1).f2).length c201_2) ∧ w'.cell? ⟨(ad201.add ((x8_1).toNat * 4)).block, (ad201.add ((x8_1).toNat * 4)).off + 3, none⟩ = some (.int .i64 ((rd_T49 l0 x8_1).f3)) ∧ w'.cell? (ad202.add ((x8_1).toNat * 4)) = some (.string ((rd_T49 l1 x8_1).f0)) ∧ w'.cell? ⟨(ad202.add ((x8_1).toNat * 4)).block, (ad202.add ((x8_1).toNat * 4)).off + 1, none⟩ = some (.string ((rd_T49 l1 x8_1).f1)) ∧ w'.cell? ⟨(ad202.add ((x8_1).toNat * 4)).block, (ad202.add ((x8_1).toNat * 4)).off + 2, none⟩ = some (.slice A202_2 ((rd_T49 l1 x8_1).f2).length c202_2) ∧ w'.cell? ⟨(ad202.add ((x8_1).toNat * 4)).block, (ad202.add ((x8_1).toNat * 4)).off + 3, none⟩ = some (.int .i64 ((rd_T49 l1 x8_1).f3)) ∧ w'.cell? (ad201.add ((x8_1).toNat * 4)) = some (.string ((rd_T49 l0 x8_1).f0)) ∧ w'.cell? ⟨(ad201.add ((x8_1).toNat * 4)).block, (ad201.add ((x8_1).toNat * 4)).off + 1, none⟩ = some (.string ((rd_T49 l0 x8_1).f1)) ∧ w'.cell? ⟨(ad201.add ((x8_1).toNat * 4)).block, (ad201.add ((x8_1).toNat * 4)).off + 2, none⟩ = some (.slice A201_2 ((rd_T49 l0 x8_1).f2).length c201_2) ∧ w'.cell? ⟨(ad201.add ((x8_1).toNat * 4)).block, (ad201.add ((x8_1).toNat * 4)).off + 3, none⟩ = some (.int .i64 ((rd_T49 l0 x8_1).f3)) ∧ w'.cell? (ad202.add ((x8_1).toNat * 4)) = some (.string ((rd_T49 l1 x8_1).f0)) ∧ w'.cell? ⟨(ad202.add ((x8_1).toNat * 4)).block, (ad202.add ((x8_1).toNat * 4)).off + 1, none⟩ = some (.string ((rd_T49 l1 x8_1).f1)) ∧ w'.cell? ⟨(ad202.add ((x8_1).toNat * 4)).block, (ad202.add ((x8_1).toNat * 4)).off + 2, none⟩ = some (.slice A202_2 ((rd_T49 l1 x8_1).f2).length c202_2) ∧ w'.cell? ⟨(ad202.add ((x8_1).toNat * 4)).block, (ad202.add ((x8_1).toNat * 4)).off + 3, none⟩ = some (.int .i64 ((rd_T49 l1 x8_1).f3))) (ds := []) #[n7, n7, n7, n7, n7, n7, n7, n7, n7, n7, n7, n7, n7, n7, n7, n7, n7, n7, n7, n7, n7, n7, n7, n7, n7, n7, n7, n7, n7, n7, n7, n7, n7, n7, n7, n7, n7, n7, n7, n7, n7, n7, n7, n7, n7, n7, n7, n7, n7, n7, n7] (by kernel_rfl) rfl rfl ⟨((HB.out.cell (World.block_lt_of_cell? w _ hw201_0)).trans hw201_0), ((HB.out.cell (World.block_lt_of_cell? w _ hw201_1)).trans hw201_1), ((HB.out.cell (World.block_lt_of_cell? w _ hw201_2)).trans hw201_2), ((HB.out.cell (World.block_lt_of_cell? w _ hw201_3)).trans hw201_3), ((HB.out.cell (World.block_lt_of_cell? w _ hw202_0)).trans hw202_0), ((HB.out.cell (World.block_lt_of_cell? w _ hw202_1)).trans hw202_1), ((HB.out.cell (World.block_lt_of_cell? w _ hw202_2)).trans hw202_2), ((HB.out.cell (World.block_lt_of_cell? w _ hw202_3)).trans hw202_3), ((HB.out.cell (World.block_lt_of_cell? w _ hw203_0)).trans hw203_0), ((HB.out.cell (World.block_lt_of_cell? w _ hw203_1)).trans hw203_1), ((HB.out.cell (World.block_lt_of_cell? w _ hw203_2)).trans hw203_2), ((HB.out.cell (World.block_lt_of_cell? w _ hw203_3)).trans hw203_3), ((HB.out.cell (World.block_lt_of_cell? w _ hw204_0)).trans hw204_0), ((HB.out.cell (World.block_lt_of_cell? w _ hw204_1)).trans hw204_1), ((HB.out.cell (World.block_lt_of_cell? w _ hw204_2)).trans hw204_2), ((HB.out.cell (World.block_lt_of_cell? w _ hw204_3)).trans hw204_3), ((HB.out.cell (World.block_lt_of_cell? w _ hw205_0)).trans hw205_0), ((HB.out.cell (World.block_lt_of_cell? w _ hw205_1)).trans hw205_1), ((HB.out.cell (World.block_lt_of_cell? w _ hw205_2)).trans hw205_2), ((HB.out.cell (World.block_lt_of_cell? w _ hw205_3)).trans hw205_3), ((HB.out.cell (World.block_lt_of_cell? w _ hw206_0)).trans hw206_0), ((HB.out.cell (World.block_lt_of_cell? w _ hw206_1)).trans hw206_1), ((HB.out.cell (World.block_lt_of_cell? w _ hw206_2)).trans hw206_2), ((HB.out.cell (World.block_lt_of_cell? w _ hw206_3)).trans hw206_3)⟩ (fun hHeld => ?_); refine with_tabW contangolaw39_kept.tab4 contangolaw39_kept.bits4 (fun HT_ HW_ => ?_)
     generalize wr.drew = w14 at HB HR201_2 HR202_2 HR203_2 HR204_2 HR205_2 HR206_2 hx201_0 hx201_1 hx201_2 hx201_3 hx202_0 hx202_1 hx202_2 hx202_3 hx203_0 hx203_1 hx203_2 hx203_3 hx204_0 hx204_1 hx204_2 hx204_3 hx205_0 hx205_1 hx205_2 hx205_3 hx206_0 hx206_1 hx206_2 hx206_3 hHeld ⊢
     refine pure_ (i := 0) (N := some 11) (v := ?_) (a' := ?_) #[y7, n7, n7, n7, n7, n7, n7, n7, n7, n7, n7, n7, n7, n7, n7, n7, n7, n7, n7, n7, n7, n7, n7, n7, n7, n7, n7, n7, n7, n7, n7, n7, n7, n7, n7, n7, n7, n7, n7, n7, n7, n7, n7, n7, n7, n7, n7, n7, n7, n7, n7] rfl rfl (any_of HT_.out (by kernel_rfl)) (fun _ _ _ h => h) (Or.inl ⟨by rfl, ?_⟩) ?_ ?_
     rotate_left
     · intro w'
       go_simp
       with_reducible rfl
     rotate_left
     · simp only [Act.put, List.setIfInBounds_toArray, List.set_cons_zero, List.set_cons_succ, i64_w, i32_w]
       rfl
     refine pure_ (i := 1) (N := some 12) (v := ?_) (a' := ?_) #[y7, y7, n7, n7, n7, n7, n7, n7, n7, n7, n7, n7, n7, n7, n7, n7, n7, n7, n7, n7, n7, n7, n7, n7, n7, n7, n7, n7, n7, n7, n7, n7, n7, n7, n7, n7, n7, n7, n7, n7, n7, n7, n7, n7, n7, n7, n7, n7, n7, n7, n7] rfl rfl (any_of HT_.out (by kernel_rfl)) (fun _ _ _ h => h) (Or.inl ⟨by rfl, ?_⟩) ?_ ?_
     rotate_left
     · intro w'
       go_simp
       with_reducible rfl
     rotate_left
     · simp only [Act.put, List.setIfInBounds_toArray, List.set_cons_zero, List.set_cons_succ, i64_w, i32_w]
       rfl
     refine pure_ (i := 2) (N := some 13) (v := ?_) (a' := ?_) #[y7, y7, y7, n7, n7, n7, n7, n7, n7, n7, n7, n7, n7, n7, n7, n7, n7, n7, n7, n7, n7, n7, n7, n7, n7, n7, n7, n7, n7, n7, n7, n7, n7, n7, n7, n7, n7, n7, n7, n7, n7, n7, n7, n7, n7, n7, n7, n7, n7, n7, n7] rfl rfl (any_of HT_.out (by kernel_rfl)) (fun _ _ _ h => h) (Or.inl ⟨by rfl, ?_⟩) ?_ ?_
     rotate_left
     · intro w'
       go_simp
       with_reducible rfl
     rotate_left
     · simp only [Act.put, List.setIfInBounds_toArray, List.set_cons_zero, List.set_cons_succ, i64_w, i32_w]
       rfl
     refine pure_ (i := 3) (N := some 14) (v := ?_) (a' := ?_) #[y7, y7, y7, y7, n7, n7, n7, n7, n7, n7, n7, n7, n7, n7, n7, n7, n7, n7, n7, n7, n7, n7, n7, n7, n7, n7, n7, n7, n7, n7, n7, n7, n7, n7, n7, n7, n7, n7, n7, n7, n7, n7, n7, n7, n7, n7, n7, n7, n7, n7, n7] rfl rfl (any_of HT_.out (by kernel_rfl)) (fun _ _ _ h => h) (Or.inl ⟨by rfl, ?_⟩) ?_ ?_
     rotate_left
     · intro w'
       go_simp
       with_reducible rfl
     rotate_left
     · simp only [Act.put, List.setIfInBounds_toArray, List.set_cons_zero, List.set_cons_succ, i64_w, i32_w]
       rfl
     refine pure_ (i := 5) (N := some 16) (v := ?_) (a' := ?_) #[y7, y7, y7, y7, n7, y7, n7, n7, n7, n7, n7, n7, n7, n7, n7, n7, n7, n7, n7, n7, n7, n7, n7, n7, n7, n7, n7, n7, n7, n7, n7, n7, n7, n7, n7, n7, n7, n7, n7, n7, n7, n7, n7, n7, n7, n7, n7, n7, n7, n7, n7] rfl rfl (any_of HT_.out (by kernel_rfl)) (fun _ _ _ h => h) (Or.inl ⟨by rfl, ?_⟩) ?_ ?_
     rotate_left
     · intro w'
       go_simp
       with_reducible rfl
     rotate_left
     · simp only [Act.put, List.setIfInBounds_toArray, List.set_cons_zero, List.set_cons_succ, i64_w, i32_w]
       rfl
     refine pure_ (i := 6) (N := some 17) (v := ?_) (a' := ?_) #[y7, y7, y7, y7, n7, y7, y7, n7, n7, n7, n7, n7, n7, n7, n7, n7, n7, n7, n7, n7, n7, n7, n7, n7, n7, n7, n7, n7, n7, n7, n7, n7, n7, n7, n7, n7, n7, n7, n7, n7, n7, n7, n7, n7, n7, n7, n7, n7, n7, n7, n7] rfl rfl (any_of HT_.out (by kernel_rfl)) (fun _ _ _ h => h) (Or.inl ⟨by rfl, ?_⟩) ?_ ?_
     rotate_left
     · intro w'
       go_simp
       with_reducible rfl
     rotate_left
     · simp only [Act.put, List.setIfInBounds_toArray, List.set_cons_zero, List.set_cons_succ, i64_w, i32_w]
       rfl
     refine pure_ (i := 7) (N := some 18) (v := ?_) (a' := ?_) #[y7, y7, y7, y7, n7, y7, y7, y7, n7, n7, n7, n7, n7, n7, n7, n7, n7, n7, n7, n7, n7, n7, n7, n7, n7, n7, n7, n7, n7, n7, n7, n7, n7, n7, n7, n7, n7, n7, n7, n7, n7, n7, n7, n7, n7, n7, n7, n7, n7, n7, n7] rfl rfl (any_of HT_.out (by kernel_rfl)) (fun _ _ _ h => h) (Or.inl ⟨by rfl, ?_⟩) ?_ ?_
     rotate_left
     · intro w'
       go_simp
       with_reducible rfl
     rotate_left
     · simp only [Act.put, List.setIfInBounds_toArray, List.set_cons_zero, List.set_cons_succ, i64_w, i32_w]
       rfl
     refine pure_ (i := 8) (N := some 19) (v := ?_) (a' := ?_) #[y7, y7, y7, y7, n7, y7, y7, y7, y7, n7, n7, n7, n7, n7, n7, n7, n7, n7, n7, n7, n7, n7, n7, n7, n7, n7, n7, n7, n7, n7, n7, n7, n7, n7, n7, n7, n7, n7, n7, n7, n7, n7, n7, n7, n7, n7, n7, n7, n7, n7, n7] rfl rfl (any_of HT_.out (by kernel_rfl)) (fun _ _ _ h => h) (Or.inl ⟨by rfl, ?_⟩) ?_ ?_
     rotate_left
     · intro w'
       go_simp
       with_reducible rfl
     rotate_left
     · simp only [Act.put, List.setIfInBounds_toArray, List.set_cons_zero, List.set_cons_succ, i64_w, i32_w]
       rfl
     refine take_ (i := 4) (N := some 15) (v := ?_) (a' := ?_) #[y7, y7, y7, y7, y7, y7, y7, y7, y7, n7, n7, n7, n7, n7, n7, n7, n7, n7, n7, n7, n7, n7, n7, n7, n7, n7, n7, n7, n7, n7, n7, n7, n7, n7, n7, n7, n7, n7, n7, n7, n7, n7, n7, n7, n7, n7, n7, n7, n7, n7, n7] rfl rfl (take_ofW HT_.out HW_.out (by kernel_rfl)) (fun _ _ _ h => h) (Or.inl ⟨by rfl, ?_⟩) hHeld ?_ ?_
     rotate_left
     · rintro w' ⟨s0, s1, s2, s3, s4, s5, s6, s7, s8, s9, s10, s11, s12, s13, s14, s15, s16, s17, s18, s19, s20, s21, s22, s23⟩
       go_simp
       with_reducible rfl
     rotate_left
     · simp only [Act.put, List.setIfInBounds_toArray, List.set_cons_zero, List.set_cons_succ, i64_w, i32_w]
       rfl
     refine take_ (i := 9) (N := some 20) (v := ?_) (a' := ?_) #[y7, y7, y7, y7, y7, y7, y7, y7, y7, y7, n7, n7, n7, n7, n7, n7, n7, n7, n7, n7, n7, n7, n7, n7, n7, n7, n7, n7, n7, n7, n7, n7, n7, n7, n7, n7, n7, n7, n7, n7, n7, n7, n7, n7, n7, n7, n7, n7, n7, n7, n7] rfl rfl (take_ofW HT_.out HW_.out (by kernel_rfl)) (fun _ _ _ h => h) (Or.inl ⟨by rfl, ?_⟩) hHeld ?_ ?_
     rotate_left
     · rintro w' ⟨s0, s1, s2, s3, s4, s5, s6, s7, s8, s9, s10, s11, s12, s13, s14, s15, s16, s17, s18, s19, s20, s21, s22, s23⟩
       go_simp
       with_reducible rfl
     rotate_left
     · simp only [Act.put, List.setIfInBounds_toArray, List.set_cons_zero, List.set_cons_succ, i64_w, i32_w]
       rfl
     refine pure_ (i := 10) (N := some 21) (v := ?_) (a' := ?_) #[y7, y7, y7, y7, y7, y7, y7, y7, y7, y7, y7, n7, n7, n7, n7, n7, n7, n7, n7, n7, n7, n7, n7, n7, n7, n7, n7, n7, n7, n7, n7, n7, n7, n7, n7, n7, n7, n7, n7, n7, n7, n7, n7, n7, n7, n7, n7, n7, n7, n7, n7] rfl rfl (any_of HT_.out (by kernel_rfl)) (fun _ _ _ h => h) (Or.inl ⟨by rfl, ?_⟩) ?_ ?_
     rotate_left
     · intro w'
       go_simp
       with_reducible rfl
     rotate_left
     · simp only [Act.put, List.setIfInBounds_toArray, List.set_cons_zero, List.set_cons_succ, i64_w, i32_w]
       rfl
     refine pure_ (i := 11) (N := some 22) (v := ?_) (a' := ?_) #[y7, y7, y7, y7, y7, y7, y7, y7, y7, y7, y7, y7, n7, n7, n7, n7, n7, n7, n7, n7, n7, n7, n7, n7, n7, n7, n7, n7, n7, n7, n7, n7, n7, n7, n7, n7, n7, n7, n7, n7, n7, n7, n7, n7, n7, n7, n7, n7, n7, n7, n7] rfl rfl (any_of HT_.out (by kernel_rfl)) (fun _ _ _ h => h) (Or.inl ⟨by rfl, ?_⟩) ?_ ?_
     rotate_left
     · intro w'
       go_simp
       with_reducible rfl
     rotate_left
     · simp only [Act.put, List.setIfInBounds_toArray, List.set_cons_zero, List.set_cons_succ, i64_w, i32_w]
       rfl
     refine pure_ (i := 12) (N := some 23) (v := ?_) (a' := ?_) #[y7, y7, y7, y7, y7, y7, y7, y7, y7, y7, y7, y7, y7, n7, n7, n7, n7, n7, n7, n7, n7, n7, n7, n7, n7, n7, n7, n7, n7, n7, n7, n7, n7, n7, n7, n7, n7, n7, n7, n7, n7, n7, n7, n7, n7, n7, n7, n7, n7, n7, n7] rfl rfl (any_of HT_.out (by kernel_rfl)) (fun _ _ _ h => h) (Or.inl ⟨by rfl, ?_⟩) ?_ ?_
     rotate_left
     · intro w'
       go_simp
       with_reducible rfl
     rotate_left
     · simp only [Act.put, List.setIfInBounds_toArray, List.set_cons_zero, List.set_cons_succ, i64_w, i32_w]
       rfl
     refine pure_ (i := 13) (N := some 24) (v := ?_) (a' := ?_) #[y7, y7, y7, y7, y7, y7, y7, y7, y7, y7, y7, y7, y7, y7, n7, n7, n7, n7, n7, n7, n7, n7, n7, n7, n7, n7, n7, n7, n7, n7, n7, n7, n7, n7, n7, n7, n7, n7, n7, n7, n7, n7, n7, n7, n7, n7, n7, n7, n7, n7, n7] rfl rfl (any_of HT_.out (by kernel_rfl)) (fun _ _ _ h => h) (Or.inl ⟨by rfl, ?_⟩) ?_ ?_
     rotate_left
     · intro w'
       go_simp
       with_reducible rfl
     rotate_left
     · simp only [Act.put, List.setIfInBounds_toArray, List.set_cons_zero, List.set_cons_succ, i64_w, i32_w]
       rfl
     refine pure_ (i := 14) (N := some 25) (v := ?_) (a' := ?_) #[y7, y7, y7, y7, y7, y7, y7, y7, y7, y7, y7, y7, y7, y7, y7, n7, n7, n7, n7, n7, n7, n7, n7, n7, n7, n7, n7, n7, n7, n7, n7, n7, n7, n7, n7, n7, n7, n7, n7, n7, n7, n7, n7, n7, n7, n7, n7, n7, n7, n7, n7] rfl rfl (any_of HT_.out (by kernel_rfl)) (fun _ _ _ h => h) (Or.inl ⟨by rfl, ?_⟩) ?_ ?_
     rotate_left
     · intro w'
       go_simp
       with_reducible rfl
     rotate_left
     · simp only [Act.put, List.setIfInBounds_toArray, List.set_cons_zero, List.set_cons_succ, i64_w, i32_w]
       rfl
     refine pure_ (i := 15) (N := some 26) (v := ?_) (a' := ?_) #[y7, y7, y7, y7, y7, y7, y7, y7, y7, y7, y7, y7, y7, y7, y7, y7, n7, n7, n7, n7, n7, n7, n7, n7, n7, n7, n7, n7, n7, n7, n7, n7, n7, n7, n7, n7, n7, n7, n7, n7, n7, n7, n7, n7, n7, n7, n7, n7, n7, n7, n7] rfl rfl (any_of HT_.out (by kernel_rfl)) (fun _ _ _ h => h) (Or.inl ⟨by rfl, ?_⟩) ?_ ?_
     rotate_left
     · intro w'
       go_simp
       with_reducible rfl
     rotate_left
     · simp only [Act.put, List.setIfInBounds_toArray, List.set_cons_zero, List.set_cons_succ, i64_w, i32_w]
       rfl
     refine pure_ (i := 17) (N := some 28) (v := ?_) (a' := ?_) #[y7, y7, y7, y7, y7, y7, y7, y7, y7, y7, y7, y7, y7, y7, y7, y7, n7, y7, n7, n7, n7, n7, n7, n7, n7, n7, n7, n7, n7, n7, n7, n7, n7, n7, n7, n7, n7, n7, n7, n7, n7, n7, n7, n7, n7, n7, n7, n7, n7, n7, n7] rfl rfl (any_of HT_.out (by kernel_rfl)) (fun _ _ _ h => h) (Or.inl ⟨by rfl, ?_⟩) ?_ ?_
     rotate_left
     · intro w'
       go_simp
       with_reducible rfl
     rotate_left
     · simp only [Act.put, List.setIfInBounds_toArray, List.set_cons_zero, List.set_cons_succ, i64_w, i32_w]
       rfl
     refine pure_ (i := 18) (N := some 29) (v := ?_) (a' := ?_) #[y7, y7, y7, y7, y7, y7, y7, y7, y7, y7, y7, y7, y7, y7, y7, y7, n7, y7, y7, n7, n7, n7, n7, n7, n7, n7, n7, n7, n7, n7, n7, n7, n7, n7, n7, n7, n7, n7, n7, n7, n7, n7, n7, n7, n7, n7, n7, n7, n7, n7, n7] rfl rfl (any_of HT_.out (by kernel_rfl)) (fun _ _ _ h => h) (Or.inl ⟨by rfl, ?_⟩) ?_ ?_
     rotate_left
     · intro w'
       go_simp
       with_reducible rfl
     rotate_left
     · simp only [Act.put, List.setIfInBounds_toArray, List.set_cons_zero, List.set_cons_succ, i64_w, i32_w]
       rfl
     refine pure_ (i := 19) (N := some 30) (v := ?_) (a' := ?_) #[y7, y7, y7, y7, y7, y7, y7, y7, y7, y7, y7, y7, y7, y7, y7, y7, n7, y7, y7, y7, n7, n7, n7, n7, n7, n7, n7, n7, n7, n7, n7, n7, n7, n7, n7, n7, n7, n7, n7, n7, n7, n7, n7, n7, n7, n7, n7, n7, n7, n7, n7] rfl rfl (any_of HT_.out (by kernel_rfl)) (fun _ _ _ h => h) (Or.inl ⟨by rfl, ?_⟩) ?_ ?_
     rotate_left
     · intro w'
       go_simp
       with_reducible rfl
     rotate_left
     · simp only [Act.put, List.setIfInBounds_toArray, List.set_cons_zero, List.set_cons_succ, i64_w, i32_w]
       rfl
     refine pure_ (i := 20) (N := some 31) (v := ?_) (a' := ?_) #[y7, y7, y7, y7, y7, y7, y7, y7, y7, y7, y7, y7, y7, y7, y7, y7, n7, y7, y7, y7, y7, n7, n7, n7, n7, n7, n7, n7, n7, n7, n7, n7, n7, n7, n7, n7, n7, n7, n7, n7, n7, n7, n7, n7, n7, n7, n7, n7, n7, n7, n7] rfl rfl (any_of HT_.out (by kernel_rfl)) (fun _ _ _ h => h) (Or.inl ⟨by rfl, ?_⟩) ?_ ?_
     rotate_left
     · intro w'
       go_simp
       with_reducible rfl
     rotate_left
     · simp only [Act.put, List.setIfInBounds_toArray, List.set_cons_zero, List.set_cons_succ, i64_w, i32_w]
       rfl
     refine take_ (i := 16) (N := some 27) (v := ?_) (a' := ?_) #[y7, y7, y7, y7, y7, y7, y7, y7, y7, y7, y7, y7, y7, y7, y7, y7, y7, y7, y7, y7, y7, n7, n7, n7, n7, n7, n7, n7, n7, n7, n7, n7, n7, n7, n7, n7, n7, n7, n7, n7, n7, n7, n7, n7, n7, n7, n7, n7, n7, n7, n7] rfl rfl (take_ofW HT_.out HW_.out (by kernel_rfl)) (fun _ _ _ h => h) (Or.inl ⟨by rfl, ?_⟩) hHeld ?_ ?_
     rotate_left
     · rintro w' ⟨s0, s1, s2, s3, s4, s5, s6, s7, s8, s9, s10, s11, s12, s13, s14, s15, s16, s17, s18, s19, s20, s21, s22, s23⟩
       go_simp
       with_reducible rfl
     rotate_left
     · simp only [Act.put, List.setIfInBounds_toArray, List.set_cons_zero, List.set_cons_succ, i64_w, i32_w]
       rfl
     refine take_ (i := 21) (N := some 32) (v := ?_) (a' := ?_) #[y7, y7, y7, y7, y7, y7, y7, y7, y7, y7, y7, y7, y7, y7, y7, y7, y7, y7, y7, y7, y7, y7, n7, n7, n7, n7, n7, n7, n7, n7, n7, n7, n7, n7, n7, n7, n7, n7, n7, n7, n7, n7, n7, n7, n7, n7, n7, n7, n7, n7, n7] rfl rfl (take_ofW HT_.out HW_.out (by kernel_rfl)) (fun _ _ _ h => h) (Or.inl ⟨by rfl, ?_⟩) hHeld ?_ ?_
     rotate_left
     · rintro w' ⟨s0, s1, s2, s3, s4, s5, s6, s7, s8, s9, s10, s11, s12, s13, s14, s15, s16, s17, s18, s19, s20, s21, s22, s23⟩
       go_simp
       with_reducible rfl
     rotate_left
     · simp only [Act.put, List.setIfInBounds_toArray, List.set_cons_zero, List.set_cons_succ, i64_w, i32_w]
       rfl
     refine pure_ (i := 22) (N := some 33) (v := ?_) (a' := ?_) #[y7, y7, y7, y7, y7, y7, y7, y7, y7, y7, y7, y7, y7, y7, y7, y7, y7, y7, y7, y7, y7, y7, y7, n7, n7, n7, n7, n7, n7, n7, n7, n7, n7, n7, n7, n7, n7, n7, n7, n7, n7, n7, n7, n7, n7, n7, n7, n7, n7, n7, n7] rfl rfl (any_of HT_.out (by kernel_rfl)) (fun _ _ _ h => h) (Or.inl ⟨by rfl, ?_⟩) ?_ ?_
     rotate_left
     · intro w'
       go_simp
       with_reducible rfl
     rotate_left
     · simp only [Act.put, List.setIfInBounds_toArray, List.set_cons_zero, List.set_cons_succ, i64_w, i32_w]
       rfl
     refine pure_ (i := 23) (N := some 34) (v := ?_) (a' := ?_) #[y7, y7, y7, y7, y7, y7, y7, y7, y7, y7, y7, y7, y7, y7, y7, y7, y7, y7, y7, y7, y7, y7, y7, y7, n7, n7, n7, n7, n7, n7, n7, n7, n7, n7, n7, n7, n7, n7, n7, n7, n7, n7, n7, n7, n7, n7, n7, n7, n7, n7, n7] rfl rfl (any_of HT_.out (by kernel_rfl)) (fun _ _ _ h => h) (Or.inl ⟨by rfl, ?_⟩) ?_ ?_
     rotate_left
     · intro w'
       go_simp
       with_reducible rfl
     rotate_left
     · simp only [Act.put, List.setIfInBounds_toArray, List.set_cons_zero, List.set_cons_succ, i64_w, i32_w]
       rfl
     refine pure_ (i := 24) (N := some 35) (v := ?_) (a' := ?_) #[y7, y7, y7, y7, y7, y7, y7, y7, y7, y7, y7, y7, y7, y7, y7, y7, y7, y7, y7, y7, y7, y7, y7, y7, y7, n7, n7, n7, n7, n7, n7, n7, n7, n7, n7, n7, n7, n7, n7, n7, n7, n7, n7, n7, n7, n7, n7, n7, n7, n7, n7] rfl rfl (any_of HT_.out (by kernel_rfl)) (fun _ _ _ h => h) (Or.inl ⟨by rfl, ?_⟩) ?_ ?_
     rotate_left
     · intro w'
       go_simp
       with_reducible rfl
     rotate_left
     · simp only [Act.put, List.setIfInBounds_toArray, List.set_cons_zero, List.set_cons_succ, i64_w, i32_w]
       rfl
     refine pure_ (i := 25) (N := some 36) (v := ?_) (a' := ?_) #[y7, y7, y7, y7, y7, y7, y7, y7, y7, y7, y7, y7, y7, y7, y7, y7, y7, y7, y7, y7, y7, y7, y7, y7, y7, y7, n7, n7, n7, n7, n7, n7, n7, n7, n7, n7, n7, n7, n7, n7, n7, n7, n7, n7, n7, n7, n7, n7, n7, n7, n7] rfl rfl (any_of HT_.out (by kernel_rfl)) (fun _ _ _ h => h) (Or.inl ⟨by rfl, ?_⟩) ?_ ?_
     rotate_left
     · intro w'
       go_simp
       with_reducible rfl
     rotate_left
     · simp only [Act.put, List.setIfInBounds_toArray, List.set_cons_zero, List.set_cons_succ, i64_w, i32_w]
       rfl
     refine pure_ (i := 26) (N := some 37) (v := ?_) (a' := ?_) #[y7, y7, y7, y7, y7, y7, y7, y7, y7, y7, y7, y7, y7, y7, y7, y7, y7, y7, y7, y7, y7, y7, y7, y7, y7, y7, y7, n7, n7, n7, n7, n7, n7, n7, n7, n7, n7, n7, n7, n7, n7, n7, n7, n7, n7, n7, n7, n7, n7, n7, n7] rfl rfl (any_of HT_.out (by kernel_rfl)) (fun _ _ _ h => h) (Or.inl ⟨by rfl, ?_⟩) ?_ ?_
     rotate_left
     · intro w'
       go_simp
       with_reducible rfl
     rotate_left
     · simp only [Act.put, List.setIfInBounds_toArray, List.set_cons_zero, List.set_cons_succ, i64_w, i32_w]
       rfl
     refine pure_ (i := 27) (N := some 38) (v := ?_) (a' := ?_) #[y7, y7, y7, y7, y7, y7, y7, y7, y7, y7, y7, y7, y7, y7, y7, y7, y7, y7, y7, y7, y7, y7, y7, y7, y7, y7, y7, y7, n7, n7, n7, n7, n7, n7, n7, n7, n7, n7, n7, n7, n7, n7, n7, n7, n7, n7, n7, n7, n7, n7, n7] rfl rfl (any_of HT_.out (by kernel_rfl)) (fun _ _ _ h => h) (Or.inl ⟨by rfl, ?_⟩) ?_ ?_
     rotate_left
     · intro w'
       go_simp
       with_reducible rfl
     rotate_left
     · simp only [Act.put, List.setIfInBounds_toArray, List.set_cons_zero, List.set_cons_succ, i64_w, i32_w]
       rfl
     refine pure_ (i := 28) (N := some 39) (v := ?_) (a' := ?_) #[y7, y7, y7, y7, y7, y7, y7, y7, y7, y7, y7, y7, y7, y7, y7, y7, y7, y7, y7, y7, y7, y7, y7, y7, y7, y7, y7, y7, y7, n7, n7, n7, n7, n7, n7, n7, n7, n7, n7, n7, n7, n7, n7, n7, n7, n7, n7, n7, n7, n7, n7] rfl rfl (any_of HT_.out (by kernel_rfl)) (fun _ _ _ h => h) (Or.inl ⟨by rfl, ?_⟩) ?_ ?_
     rotate_left
     · intro w'
       go_simp
       with_reducible rfl
     rotate_left
     · simp only [Act.put, List.setIfInBounds_toArray, List.set_cons_zero, List.set_cons_succ, i64_w, i32_w]
       rfl
     refine pure_ (i := 30) (N := some 41) (v := ?_) (a' := ?_) #[y7, y7, y7, y7, y7, y7, y7, y7, y7, y7, y7, y7, y7, y7, y7, y7, y7, y7, y7, y7, y7, y7, y7, y7, y7, y7, y7, y7, y7, n7, y7, n7, n7, n7, n7, n7, n7, n7, n7, n7, n7, n7, n7, n7, n7, n7, n7, n7, n7, n7, n7] rfl rfl (any_of HT_.out (by kernel_rfl)) (fun _ _ _ h => h) (Or.inl ⟨by rfl, ?_⟩) ?_ ?_
     rotate_left
     · intro w'
       go_simp
       with_reducible rfl
     rotate_left
     · simp only [Act.put, List.setIfInBounds_toArray, List.set_cons_zero, List.set_cons_succ, i64_w, i32_w]
       rfl
     refine pure_ (i := 31) (N := some 42) (v := ?_) (a' := ?_) #[y7, y7, y7, y7, y7, y7, y7, y7, y7, y7, y7, y7, y7, y7, y7, y7, y7, y7, y7, y7, y7, y7, y7, y7, y7, y7, y7, y7, y7, n7, y7, y7, n7, n7, n7, n7, n7, n7, n7, n7, n7, n7, n7, n7, n7, n7, n7, n7, n7, n7, n7] rfl rfl (any_of HT_.out (by kernel_rfl)) (fun _ _ _ h => h) (Or.inl ⟨by rfl, ?_⟩) ?_ ?_
     rotate_left
     · intro w'
       go_simp
       with_reducible rfl
     rotate_left
     · simp only [Act.put, List.setIfInBounds_toArray, List.set_cons_zero, List.set_cons_succ, i64_w, i32_w]
       rfl
     refine pure_ (i := 32) (N := some 43) (v := ?_) (a' := ?_) #[y7, y7, y7, y7, y7, y7, y7, y7, y7, y7, y7, y7, y7, y7, y7, y7, y7, y7, y7, y7, y7, y7, y7, y7, y7, y7, y7, y7, y7, n7, y7, y7, y7, n7, n7, n7, n7, n7, n7, n7, n7, n7, n7, n7, n7, n7, n7, n7, n7, n7, n7] rfl rfl (any_of HT_.out (by kernel_rfl)) (fun _ _ _ h => h) (Or.inl ⟨by rfl, ?_⟩) ?_ ?_
     rotate_left
     · intro w'
       go_simp
       with_reducible rfl
     rotate_left
     · simp only [Act.put, List.setIfInBounds_toArray, List.set_cons_zero, List.set_cons_succ, i64_w, i32_w]
       rfl
     refine pure_ (i := 33) (N := some 44) (v := ?_) (a' := ?_) #[y7, y7, y7, y7, y7, y7, y7, y7, y7, y7, y7, y7, y7, y7, y7, y7, y7, y7, y7, y7, y7, y7, y7, y7, y7, y7, y7, y7, y7, n7, y7, y7, y7, y7, n7, n7, n7, n7, n7, n7, n7, n7, n7, n7, n7, n7, n7, n7, n7, n7, n7] rfl rfl (any_of HT_.out (by kernel_rfl)) (fun _ _ _ h => h) (Or.inl ⟨by rfl, ?_⟩) ?_ ?_
     rotate_left
     · intro w'
       go_simp
       with_reducible rfl
     rotate_left
     · simp only [Act.put, List.setIfInBounds_toArray, List.set_cons_zero, List.set_cons_succ, i64_w, i32_w]
       rfl
     refine take_ (i := 29) (N := some 40) (v := ?_) (a' := ?_) #[y7, y7, y7, y7, y7, y7, y7, y7, y7, y7, y7, y7, y7, y7, y7, y7, y7, y7, y7, y7, y7, y7, y7, y7, y7, y7, y7, y7, y7, y7, y7, y7, y7, y7, n7, n7, n7, n7, n7, n7, n7, n7, n7, n7, n7, n7, n7, n7, n7, n7, n7] rfl rfl (take_ofW HT_.out HW_.out (by kernel_rfl)) (fun _ _ _ h => h) (Or.inl ⟨by rfl, ?_⟩) hHeld ?_ ?_
     rotate_left
     · rintro w' ⟨s0, s1, s2, s3, s4, s5, s6, s7, s8, s9, s10, s11, s12, s13, s14, s15, s16, s17, s18, s19, s20, s21, s22, s23⟩
       go_simp
       with_reducible rfl
     rotate_left
     · simp only [Act.put, List.setIfInBounds_toArray, List.set_cons_zero, List.set_cons_succ, i64_w, i32_w]
       rfl
     refine take_ (i := 34) (N := some 45) (v := ?_) (a' := ?_) #[y7, y7, y7, y7, y7, y7, y7, y7, y7, y7, y7, y7, y7, y7, y7, y7, y7, y7, y7, y7, y7, y7, y7, y7, y7, y7, y7, y7, y7, y7, y7, y7, y7, y7, y7, n7, n7, n7, n7, n7, n7, n7, n7, n7, n7, n7, n7, n7, n7, n7, n7] rfl rfl (take_ofW HT_.out HW_.out (by kernel_rfl)) (fun _ _ _ h => h) (Or.inl ⟨by rfl, ?_⟩) hHeld ?_ ?_
     rotate_left
     · rintro w' ⟨s0, s1, s2, s3, s4, s5, s6, s7, s8, s9, s10, s11, s12, s13, s14, s15, s16, s17, s18, s19, s20, s21, s22, s23⟩
       go_simp
       with_reducible rfl
     rotate_left
     · simp only [Act.put, List.setIfInBounds_toArray, List.set_cons_zero, List.set_cons_succ, i64_w, i32_w]
       rfl
     refine pure_ (i := 35) (N := some 46) (v := ?_) (a' := ?_) #[y7, y7, y7, y7, y7, y7, y7, y7, y7, y7, y7, y7, y7, y7, y7, y7, y7, y7, y7, y7, y7, y7, y7, y7, y7, y7, y7, y7, y7, y7, y7, y7, y7, y7, y7, y7, n7, n7, n7, n7, n7, n7, n7, n7, n7, n7, n7, n7, n7, n7, n7] rfl rfl (any_of HT_.out (by kernel_rfl)) (fun _ _ _ h => h) (Or.inl ⟨by rfl, ?_⟩) ?_ ?_
     rotate_left
     · intro w'
       go_simp
       with_reducible rfl
     rotate_left
     · simp only [Act.put, List.setIfInBounds_toArray, List.set_cons_zero, List.set_cons_succ, i64_w, i32_w]
       rfl
     refine pure_ (i := 36) (N := some 47) (v := ?_) (a' := ?_) #[y7, y7, y7, y7, y7, y7, y7, y7, y7, y7, y7, y7, y7, y7, y7, y7, y7, y7, y7, y7, y7, y7, y7, y7, y7, y7, y7, y7, y7, y7, y7, y7, y7, y7, y7, y7, y7, n7, n7, n7, n7, n7, n7, n7, n7, n7, n7, n7, n7, n7, n7] rfl rfl (any_of HT_.out (by kernel_rfl)) (fun _ _ _ h => h) (Or.inl ⟨by rfl, ?_⟩) ?_ ?_
     rotate_left
     · intro w'
       go_simp
       with_reducible rfl
     rotate_left
     · simp only [Act.put, List.setIfInBounds_toArray, List.set_cons_zero, List.set_cons_succ, i64_w, i32_w]
       rfl
     refine pure_ (i := 37) (N := some 48) (v := ?_) (a' := ?_) #[y7, y7, y7, y7, y7, y7, y7, y7, y7, y7, y7, y7, y7, y7, y7, y7, y7, y7, y7, y7, y7, y7, y7, y7, y7, y7, y7, y7, y7, y7, y7, y7, y7, y7, y7, y7, y7, y7, n7, n7, n7, n7, n7, n7, n7, n7, n7, n7, n7, n7, n7] rfl rfl (any_of HT_.out (by kernel_rfl)) (fun _ _ _ h => h) (Or.inl ⟨by rfl, ?_⟩) ?_ ?_
     rotate_left
     · intro w'
       go_simp
       with_reducible rfl
     rotate_left
     · simp only [Act.put, List.setIfInBounds_toArray, List.set_cons_zero, List.set_cons_succ, i64_w, i32_w]
       rfl
     refine pure_ (i := 38) (N := some 49) (v := undef) (a' := ?_) #[y7, y7, y7, y7, y7, y7, y7, y7, y7, y7, y7, y7, y7, y7, y7, y7, y7, y7, y7, y7, y7, y7, y7, y7, y7, y7, y7, y7, y7, y7, y7, y7, y7, y7, y7, y7, y7, y7, y7, n7, n7, n7, n7, n7, n7, n7, n7, n7, n7, n7, n7] rfl rfl (any_of HT_.out (by kernel_rfl)) (fun _ _ _ h => h) (Or.inr ⟨by rfl, rfl⟩) ?_ ?_
     rotate_left
     · simp only [Act.put, List.setIfInBounds_toArray, List.set_cons_zero, List.set_cons_succ, i64_w, i32_w]
       rfl
     refine pure_ (i := 39) (N := some 50) (v := undef) (a' := ?_) #[y7, y7, y7, y7, y7, y7, y7, y7, y7, y7, y7, y7, y7, y7, y7, y7, y7, y7, y7, y7, y7, y7, y7, y7, y7, y7, y7, y7, y7, y7, y7, y7, y7, y7, y7, y7, y7, y7, y7, y7, n7, n7, n7, n7, n7, n7, n7, n7, n7, n7, n7] rfl rfl (any_of HT_.out (by kernel_rfl)) (fun _ _ _ h => h) (Or.inr ⟨by rfl, rfl⟩) ?_ ?_
     rotate_left
     · simp only [Act.put, List.setIfInBounds_toArray, List.set_cons_zero, List.set_cons_succ, i64_w, i32_w]
       rfl
     refine pure_ (i := 40) (N := some 51) (v := undef) (a' := ?_) #[y7, y7, y7, y7, y7, y7, y7, y7, y7, y7, y7, y7, y7, y7, y7, y7, y7, y7, y7, y7, y7, y7, y7, y7, y7, y7, y7, y7, y7, y7, y7, y7, y7, y7, y7, y7, y7, y7, y7, y7, y7, n7, n7, n7, n7, n7, n7, n7, n7, n7, n7] rfl rfl (any_of HT_.out (by kernel_rfl)) (fun _ _ _ h => h) (Or.inr ⟨by rfl, rfl⟩) ?_ ?_
     rotate_left
     · simp only [Act.put, List.setIfInBounds_toArray, List.set_cons_zero, List.set_cons_succ, i64_w, i32_w]
       rfl
     refine pure_ (i := 41) (N := some 52) (v := undef) (a' := ?_) #[y7, y7, y7, y7, y7, y7, y7, y7, y7, y7, y7, y7, y7, y7, y7, y7, y7, y7, y7, y7, y7, y7, y7, y7, y7, y7, y7, y7, y7, y7, y7, y7, y7, y7, y7, y7, y7, y7, y7, y7, y7, y7, n7, n7, n7, n7, n7, n7, n7, n7, n7] rfl rfl (any_of HT_.out (by kernel_rfl)) (fun _ _ _ h => h) (Or.inr ⟨by rfl, rfl⟩) ?_ ?_
     rotate_left
     · simp only [Act.put, List.setIfInBounds_toArray, List.set_cons_zero, List.set_cons_succ, i64_w, i32_w]
       rfl
     refine pure_ (i := 42) (N := some 53) (v := undef) (a' := ?_) #[y7, y7, y7, y7, y7, y7, y7, y7, y7, y7, y7, y7, y7, y7, y7, y7, y7, y7, y7, y7, y7, y7, y7, y7, y7, y7, y7, y7, y7, y7, y7, y7, y7, y7, y7, y7, y7, y7, y7, y7, y7, y7, y7, n7, n7, n7, n7, n7, n7, n7, n7] rfl rfl (any_of HT_.out (by kernel_rfl)) (fun _ _ _ h => h) (Or.inr ⟨by rfl, rfl⟩) ?_ ?_
     rotate_left
     · simp only [Act.put, List.setIfInBounds_toArray, List.set_cons_zero, List.set_cons_succ, i64_w, i32_w]
       rfl
     refine pure_ (i := 43) (N := some 54) (v := undef) (a' := ?_) #[y7, y7, y7, y7, y7, y7, y7, y7, y7, y7, y7, y7, y7, y7, y7, y7, y7, y7, y7, y7, y7, y7, y7, y7, y7, y7, y7, y7, y7, y7, y7, y7, y7, y7, y7, y7, y7, y7, y7, y7, y7, y7, y7, y7, n7, n7, n7, n7, n7, n7, n7] rfl rfl (any_of HT_.out (by kernel_rfl)) (fun _ _ _ h => h) (Or.inr ⟨by rfl, rfl⟩) ?_ ?_
     rotate_left
     · simp only [Act.put, List.setIfInBounds_toArray, List.set_cons_zero, List.set_cons_succ, i64_w, i32_w]
       rfl
     refine pure_ (i := 44) (N := some 55) (v := undef) (a' := ?_) #[y7, y7, y7, y7, y7, y7, y7, y7, y7, y7, y7, y7, y7, y7, y7, y7, y7, y7, y7, y7, y7, y7, y7, y7, y7, y7, y7, y7, y7, y7, y7, y7, y7, y7, y7, y7, y7, y7, y7, y7, y7, y7, y7, y7, y7, n7, n7, n7, n7, n7, n7] rfl rfl (any_of HT_.out (by kernel_rfl)) (fun _ _ _ h => h) (Or.inr ⟨by rfl, rfl⟩) ?_ ?_
     rotate_left
     · simp only [Act.put, List.setIfInBounds_toArray, List.set_cons_zero, List.set_cons_succ, i64_w, i32_w]
       rfl
     refine pure_ (i := 45) (N := some 56) (v := undef) (a' := ?_) #[y7, y7, y7, y7, y7, y7, y7, y7, y7, y7, y7, y7, y7, y7, y7, y7, y7, y7, y7, y7, y7, y7, y7, y7, y7, y7, y7, y7, y7, y7, y7, y7, y7, y7, y7, y7, y7, y7, y7, y7, y7, y7, y7, y7, y7, y7, n7, n7, n7, n7, n7] rfl rfl (any_of HT_.out (by kernel_rfl)) (fun _ _ _ h => h) (Or.inr ⟨by rfl, rfl⟩) ?_ ?_
     rotate_left
     · simp only [Act.put, List.setIfInBounds_toArray, List.set_cons_zero, List.set_cons_succ, i64_w, i32_w]
       rfl
     refine pure_ (i := 46) (N := some 57) (v := undef) (a' := ?_) #[y7, y7, y7, y7, y7, y7, y7, y7, y7, y7, y7, y7, y7, y7, y7, y7, y7, y7, y7, y7, y7, y7, y7, y7, y7, y7, y7, y7, y7, y7, y7, y7, y7, y7, y7, y7, y7, y7, y7, y7, y7, y7, y7, y7, y7, y7, y7, n7, n7, n7, n7] rfl rfl (any_of HT_.out (by kernel_rfl)) (fun _ _ _ h => h) (Or.inr ⟨by rfl, rfl⟩) ?_ ?_
     rotate_left
     · simp only [Act.put, List.setIfInBounds_toArray, List.set_cons_zero, List.set_cons_succ, i64_w, i32_w]
       rfl
     refine pure_ (i := 47) (N := some 58) (v := undef) (a' := ?_) #[y7, y7, y7, y7, y7, y7, y7, y7, y7, y7, y7, y7, y7, y7, y7, y7, y7, y7, y7, y7, y7, y7, y7, y7, y7, y7, y7, y7, y7, y7, y7, y7, y7, y7, y7, y7, y7, y7, y7, y7, y7, y7, y7, y7, y7, y7, y7, y7, n7, n7, n7] rfl rfl (any_of HT_.out (by kernel_rfl)) (fun _ _ _ h => h) (Or.inr ⟨by rfl, rfl⟩) ?_ ?_
     rotate_left
     · simp only [Act.put, List.setIfInBounds_toArray, List.set_cons_zero, List.set_cons_succ, i64_w, i32_w]
       rfl
     refine pure_ (i := 48) (N := some 59) (v := undef) (a' := ?_) #[y7, y7, y7, y7, y7, y7, y7, y7, y7, y7, y7, y7, y7, y7, y7, y7, y7, y7, y7, y7, y7, y7, y7, y7, y7, y7, y7, y7, y7, y7, y7, y7, y7, y7, y7, y7, y7, y7, y7, y7, y7, y7, y7, y7, y7, y7, y7, y7, y7, n7, n7] rfl rfl (any_of HT_.out (by kernel_rfl)) (fun _ _ _ h => h) (Or.inr ⟨by rfl, rfl⟩) ?_ ?_
     rotate_left
     · simp only [Act.put, List.setIfInBounds_toArray, List.set_cons_zero, List.set_cons_succ, i64_w, i32_w]
       rfl
     refine pure_ (i := 49) (N := some 60) (v := undef) (a' := ?_) #[y7, y7, y7, y7, y7, y7, y7, y7, y7, y7, y7, y7, y7, y7, y7, y7, y7, y7, y7, y7, y7, y7, y7, y7, y7, y7, y7, y7, y7, y7, y7, y7, y7, y7, y7, y7, y7, y7, y7, y7, y7, y7, y7, y7, y7, y7, y7, y7, y7, y7, n7] rfl rfl (any_of HT_.out (by kernel_rfl)) (fun _ _ _ h => h) (Or.inr ⟨by rfl, rfl⟩) ?_ ?_
     rotate_left
     · simp only [Act.put, List.setIfInBounds_toArray, List.set_cons_zero, List.set_cons_succ, i64_w, i32_w]
       rfl
     refine pure_ (i := 50) (N := some 61) (v := ?_) (a' := ?_) #[y7, y7, y7, y7, y7, y7, y7, y7, y7, y7, y7, y7, y7, y7, y7, y7, y7, y7, y7, y7, y7, y7, y7, y7, y7, y7, y7, y7, y7, y7, y7, y7, y7, y7, y7, y7, y7, y7, y7, y7, y7, y7, y7, y7, y7, y7, y7, y7, y7, y7, y7] rfl rfl (any_of HT_.out (by kernel_rfl)) (fun _ _ _ h => h) (Or.inl ⟨by rfl, ?_⟩) ?_ ?_
     rotate_left
     · intro w'
       go_simp
       with_reducible rfl
     rotate_left
     · simp only [Act.put, List.setIfInBounds_toArray, List.set_cons_zero, List.set_cons_succ, i64_w, i32_w]
       rfl
     refine done_ (done_of HT_.out (by kernel_rfl)) ?_
     try go_wp2
     go_ret
     exact ⟨by first | rfl | (simp [errW_none, errW_some] <;> rfl) | (simp [*, errW_none, errW_some] <;> rfl), by repeat (with_reducible first | exact HB.out | apply below_alloc | apply pw_below_drewN | apply below_drew1)⟩
   rw [if_pos c9] at H
   have c9b0 : (((rd_T49 l0 x8_1).f3) == ((rd_T49 l1 x8_1).f3)) = true := beq_iff_eq.mpr c9
   have c9b1 : (((rd_T49 l0 x8_1).f3) != ((rd_T49 l1 x8_1).f3)) = false := bne_eq_false_iff_eq.mpr c9
   clear c9
   replace H := Option.bind_eq_some_iff.mp H
   obtain ⟨t209, A100, H⟩ := H
   replace H : (if t209 = true then (contangolaw39_kept.l0 k1 l0 l1 (l0.length : Int) (wrap64 (x8_1 + 1))) else (some false)) = some r := H
   have A10 := Aside0.mk A100
   clear A100
   by_cases c11 : t209 = true
   rotate_left
   · replace c11 := Bool.eq_false_iff.mpr c11
     subst c11
     have H1 : (some false) = some r := by rw [if_neg (show ¬ (false = true) by decide)] at H; exact H
     clear H
     have H := H1
     clear H1
     obtain rfl := Option.some.inj H
     try go_wp2
     have n0_ := Aside0.mk (below_drew1 HB.out)
     clear HB
     have HB := n0_
     clear n0_
     have p201 : 0 ≤ (x8_1 : Int) := of_decide_eq_true (by first | (with_reducible assumption) | assumption)
     have q201 : x8_1 < (l0.length : Int) := of_decide_eq_true (by first | (with_reducible assumption) | assumption)
     obtain ⟨ad201, A201_2, c201_2, e201, hx201_0, hx201_1, hx201_2, hx201_3, hl201_2, hi201_2⟩ := at_T49 HR0.out x8_1 p201 q201
     have hw201_3 := hx201_3
     have hw201_2 := hx201_2
     have hw201_1 := hx201_1
     have hw201_0 := hx201_0
     cases e201
     replace hx201_0 := (HB.out.cell (World.block_lt_of_cell? w _ hx201_0)).trans hx201_0
     replace hx201_1 := (HB.out.cell (World.block_lt_of_cell? w _ hx201_1)).trans hx201_1
     replace hx201_2 := (HB.out.cell (World.block_lt_of_cell? w _ hx201_2)).trans hx201_2
     replace hx201_3 := (HB.out.cell (World.block_lt_of_cell? w _ hx201_3)).trans hx201_3
     have HR201_2 := Aside0.mk hi201_2
     have HC201_2 := Aside0.mk hl201_2
     clear hi201_2 hl201_2
     replace p201 := eq_true p201
     replace q201 := eq_true q201
     have p202 : 0 ≤ (x8_1 : Int) := of_decide_eq_true (by first | (with_reducible assumption) | assumption)
     have q202 : x8_1 < (l1.length : Int) := of_decide_eq_true (by first | (with_reducible assumption) | assumption)
     obtain ⟨ad202, A202_2, c202_2, e202, hx202_0, hx202_1, hx202_2, hx202_3, hl202_2, hi202_2⟩ := at_T49 HR1.out x8_1 p202 q202
     have hw202_3 := hx202_3
     have hw202_2 := hx202_2
     have hw202_1 := hx202_1
     have hw202_0 := hx202_0
     cases e202
     replace hx202_0 := (HB.out.cell (World.block_lt_of_cell? w _ hx202_0)).trans hx202_0
     replace hx202_1 := (HB.out.cell (World.block_lt_of_cell? w _ hx202_1)).trans hx202_1
     replace hx202_2 := (HB.out.cell (World.block_lt_of_cell? w _ hx202_2)).trans hx202_2
     replace hx202_3 := (HB.out.cell (World.block_lt_of_cell? w _ hx202_3)).trans hx202_3
     have HR202_2 := Aside0.mk hi202_2
     have HC202_2 := Aside0.mk hl202_2
     clear hi202_2 hl202_2
     replace p202 := eq_true p202
     replace q202 := eq_true q202
     have p203 : 0 ≤ (x8_1 : Int) := of_decide_eq_true (by first | (with_reducible assumption) | assumption)
     have q203 : x8_1 < (l0.length : Int) := of_decide_eq_true (by first | (with_reducible assumption) | assumption)
     obtain ⟨ad203, A203_2, c203_2, e203, hx203_0, hx203_1, hx203_2, hx203_3, hl203_2, hi203_2⟩ := at_T49 HR0.out x8_1 p203 q203
     have hw203_3 := hx203_3
     have hw203_2 := hx203_2
     have hw203_1 := hx203_1
     have hw203_0 := hx203_0
     obtain rfl : ad201 = ad203 := (by injection e203)
     replace hx203_0 := (HB.out.cell (World.block_lt_of_cell? w _ hx203_0)).trans hx203_0
     replace hx203_1 := (HB.out.cell (World.block_lt_of_cell? w _ hx203_1)).trans hx203_1
     replace hx203_2 := (HB.out.cell (World.block_lt_of_cell? w _ hx203_2)).trans hx203_2
     replace hx203_3 := (HB.out.cell (World.block_lt_of_cell? w _ hx203_3)).trans hx203_3
     have HR203_2 := Aside0.mk hi203_2
     have HC203_2 := Aside0.mk hl203_2
     clear hi203_2 hl203_2
     replace p203 := eq_true p203
     replace q203 := eq_true q203
     have ea_ := Option.some.inj (hx201_2.symm.trans hx203_2)
     injection ea_ with ea_ en_ ec_
     subst ea_
     subst ec_
     clear en_
     have p204 : 0 ≤ (x8_1 : Int) := of_decide_eq_true (by first | (with_reducible assumption) | assumption)
     have q204 : x8_1 < (l1.length : Int) := of_decide_eq_true (by first | (with_reducible assumption) | assumption)
     obtain ⟨ad204, A204_2, c204_2, e204, hx204_0, hx204_1, hx204_2, hx204_3, hl204_2, hi204_2⟩ := at_T49 HR1.out x8_1 p204 q204
     have hw204_3 := hx204_3
     have hw204_2 := hx204_2
     have hw204_1 := hx204_1
     have hw204_0 := hx204_0
     obtain rfl : ad202 = ad204 := (by injection e204)
     replace hx204_0 := (HB.out.cell (World.block_lt_of_cell? w _ hx204_0)).trans hx204_0
     replace hx204_1 := (HB.out.cell (World.block_lt_of_cell? w _ hx204_1)).trans hx204_1
     replace hx204_2 := (HB.out.cell (World.block_lt_of_cell? w _ hx204_2)).trans hx204_2
     replace hx204_3 := (HB.out.cell (World.block_lt_of_cell? w _ hx204_3)).trans hx204_3
     have HR204_2 := Aside0.mk hi204_2
     have HC204_2 := Aside0.mk hl204_2
     clear hi204_2 hl204_2
     replace p204 := eq_true p204
     replace q204 := eq_true q204
     have ea_ := Option.some.inj (hx202_2.symm.trans hx204_2)
     injection ea_ with ea_ en_ ec_
     subst ea_
     subst ec_
     clear en_
     have p205 : 0 ≤ (x8_1 : Int) := of_decide_eq_true (by first | (with_reducible assumption) | assumption)
     have q205 : x8_1 < (l0.length : Int) := of_decide_eq_true (by first | (with_reducible assumption) | assumption)
     obtain ⟨ad205, A205_2, c205_2, e205, hx205_0, hx205_1, hx205_2, hx205_3, hl205_2, hi205_2⟩ := at_T49 HR0.out x8_1 p205 q205
     have hw205_3 := hx205_3
     have hw205_2 := hx205_2
     have hw205_1 := hx205_1
     have hw205_0 := hx205_0
     obtain rfl : ad201 = ad205 := (by injection e205)
     replace hx205_0 := (HB.out.cell (World.block_lt_of_cell? w _ hx205_0)).trans hx205_0
     replace hx205_1 := (HB.out.cell (World.block_lt_of_cell? w _ hx205_1)).trans hx205_1
     replace hx205_2 := (HB.out.cell (World.block_lt_of_cell? w _ hx205_2)).trans hx205_2
     replace hx205_3 := (HB.out.cell (World.block_lt_of_cell? w _ hx205_3)).trans hx205_3
     have HR205_2 := Aside0.mk hi205_2
     have HC205_2 := Aside0.mk hl205_2
     clear hi205_2 hl205_2
     replace p205 := eq_true p205
     replace q205 := eq_true q205
     have ea_ := Option.some.inj (hx201_2.symm.trans hx205_2)
     injection ea_ with ea_ en_ ec_
     subst ea_
     subst ec_
     clear en_
     have p206 : 0 ≤ (x8_1 : Int) := of_decide_eq_true (by first | (with_reducible assumption) | assumption)
     have q206 : x8_1 < (l1.length : Int) := of_decide_eq_true (by first | (with_reducible assumption) | assumption)
     obtain ⟨ad206, A206_2, c206_2, e206, hx206_0, hx206_1, hx206_2, hx206_3, hl206_2, hi206_2⟩ := at_T49 HR1.out x8_1 p206 q206
     have hw206_3 := hx206_3
     have hw206_2 := hx206_2
     have hw206_1 := hx206_1
     have hw206_0 := hx206_0
     obtain rfl : ad202 = ad206 := (by injection e206)
     replace hx206_0 := (HB.out.cell (World.block_lt_of_cell? w _ hx206_0)).trans hx206_0
     replace hx206_1 := (HB.out.cell (World.block_lt_of_cell? w _ hx206_1)).trans hx206_1
     replace hx206_2 := (HB.out.cell (World.block_lt_of_cell? w _ hx206_2)).trans hx206_2
     replace hx206_3 := (HB.out.cell (World.block_lt_of_cell? w _ hx206_3)).trans hx206_3
     have HR206_2 := Aside0.mk hi206_2
     have HC206_2 := Aside0.mk hl206_2
     clear hi206_2 hl206_2
     replace p206 := eq_true p206
     replace q206 := eq_true q206
     have ea_ := Option.some.inj (hx202_2.symm.trans hx206_2)
     injection ea_ with ea_ en_ ec_
     subst ea_
     subst ec_
     clear en_
     have p207 : 0 ≤ (x8_1 : Int) := of_decide_eq_true (by first | (with_reducible assumption) | assumption)
     have q207 : x8_1 < (l0.length : Int) := of_decide_eq_true (by first | (with_reducible assumption) | assumption)
     obtain ⟨ad207, A207_2, c207_2, e207, hx207_0, hx207_1, hx207_2, hx207_3, hl207_2, hi207_2⟩ := at_T49 HR0.out x8_1 p207 q207
     have hw207_3 := hx207_3
     have hw207_2 := hx207_2
     have hw207_1 := hx207_1
     have hw207_0 := hx207_0
     obtain rfl : ad201 = ad207 := (by injection e207)
     replace hx207_0 := (HB.out.cell (World.block_lt_of_cell? w _ hx207_0)).trans hx207_0
     replace hx207_1 := (HB.out.cell (World.block_lt_of_cell? w _ hx207_1)).trans hx207_1
     replace hx207_2 := (HB.out.cell (World.block_lt_of_cell? w _ hx207_2)).trans hx207_2
     replace hx207_3 := (HB.out.cell (World.block_lt_of_cell? w _ hx207_3)).trans hx207_3
     have HR207_2 := Aside0.mk hi207_2
     have HC207_2 := Aside0.mk hl207_2
     clear hi207_2 hl207_2
     replace p207 := eq_true p207
     replace q207 := eq_true q207
     have ea_ := Option.some.inj (hx201_2.symm.trans hx207_2)
     injection ea_ with ea_ en_ ec_
     subst ea_
     subst ec_
     clear en_
     have p208 : 0 ≤ (x8_1 : Int) := of_decide_eq_true (by first | (with_reducible assumption) | assumption)
     have q208 : x8_1 < (l1.length : Int) := of_decide_eq_true (by first | (with_reducible assumption) | assumption)
     obtain ⟨ad208, A208_2, c208_2, e208, hx208_0, hx208_1, hx208_2, hx208_3, hl208_2, hi208_2⟩ := at_T49 HR1.out x8_1 p208 q208
     have hw208_3 := hx208_3
     have hw208_2 := hx208_2
     have hw208_1 := hx208_1
     have hw208_0 := hx208_0
     obtain rfl : ad202 = ad208 := (by injection e208)
     replace hx208_0 := (HB.out.cell (World.block_lt_of_cell? w _ hx208_0)).trans hx208_0
     replace hx208_1 := (HB.out.cell (World.block_lt_of_cell? w _ hx208_1)).trans hx208_1
     replace hx208_2 := (HB.out.cell (World.block_lt_of_cell? w _ hx208_2)).trans hx208_2
     replace hx208_3 := (HB.out.cell (World.block_lt_of_cell? w _ hx208_3)).trans hx208_3
     have HR208_2 := Aside0.mk hi208_2
     have HC208_2 := Aside0.mk hl208_2
     clear hi208_2 hl208_2
     replace p208 := eq_true p208
     replace q208 := eq_true q208
     have ea_ := Option.some.inj (hx202_2.symm.trans hx208_2)
     injection ea_ with ea_ en_ ec_
     subst ea_
     subst ec_
     clear en_
     refine start_ (n := 51) (S := fun w' => w'.cell? (ad201.add ((x8_1).toNat * 4)) = some (.string ((rd_T49 l0 x8_1).f0)) ∧ w'.cell? ⟨(ad201.add ((x8_1).toNat * 4)).block, (ad201.add ((x8_1).toNat * 4)).off + 1, none⟩ = some (.string ((rd_T49 l0 x8_1).f1)) ∧ w'.cell? ⟨(ad201.add ((x8_1).toNat * 4)).block, (ad201.add ((x8_1).toNat * 4)).off + 2, none⟩ = some (.slice A201_2 ((rd_T49 l0 x8_1).f2).length c201_2) ∧ w'.cell? ⟨(ad201.add ((x8_1).toNat * 4)).block, (ad201.add ((x8_1).toNat * 4)).off + 3, none⟩ = some (.int .i64 ((rd_T49 l0 x8_1).f3)) ∧ w'.cell? (ad202.add ((x8_1).toNat * 4)) = some (.string ((rd_T49 l1 x8_1).f0)) ∧ w'.cell? ⟨(ad202.add ((x8_1).toNat * 4)).block, (ad202.add ((x8_1).toNat * 4)).off + 1, none⟩ = some (.string ((rd_T49 l1 x8_1).f1)) ∧ w'.cell? ⟨(ad202.add ((x8_1).toNat * 4)).block, (ad202.add ((x8_1).toNat * 4)).off + 2, none⟩ = some (.slice A202_2 ((rd_T49 l1 x8_1).f2).length c202_2) ∧ w'.cell? ⟨(ad202.add ((x8_1).toNat * 4)).block, (ad202.add ((x8_1).toNat * 4)).off + 3, none⟩ = some (.int .i64 ((rd_T49 l1 x8_1).f3)) ∧ w'.cell? (ad201.add ((x8_1).toNat * 4)) = some (.string ((rd_T49 l0 x8_1).f0)) ∧ w'.cell? ⟨(ad201.add ((x8_1).toNat * 4)).block, (ad201.add ((x8_1).toNat * 4)).off + 1, none⟩ = some (.string ((rd_T49 l0 x8_1).f1)) ∧ w'.cell? ⟨(ad201.add ((x8_1).toNat * 4)).block, (ad201.add ((x8_1).toNat * 4)).off + 2, none⟩ = some (.slice A201_2 ((rd_T49 l0 x8_1).f2).length c201_2) ∧ w'.cell? ⟨(ad201.add ((x8_1).toNat * 4)).block, (ad201.add ((x8_1).toNat * 4)).off + 3, none⟩ = some (.int .i64 ((rd_T49 l0 x8_1).f3)) ∧ w'.cell? (ad202.add ((x8_1).toNat * 4)) = some (.string ((rd_T49 l1 x8_1).f0)) ∧ w'.cell? ⟨(ad202.add ((x8_1).toNat * 4)).block, (ad202.add ((x8_1).toNat * 4)).off + 1, none⟩ = some (.string ((rd_T49 l1 x8_1).f1)) ∧ w'.cell? ⟨(ad202.add ((x8_1).toNat * 4)).block, (ad202.add ((x8_1).toNat * 4)).off + 2, none⟩ = some (.slice A202_2 ((rd_T49 l1 x8_1).f2).length c202_2) ∧ w'.cell? ⟨(ad202.add ((x8_1).toNat * 4)).block, (ad202.add ((x8_1).toNat * 4)).off + 3, none⟩ = some (.int .i64 ((rd_T49 l1 x8_1).f3)) ∧ w'.cell? (ad201.add ((x8_1).toNat * 4)) = some (.string ((rd_T49 l0 x8_1).f0)) ∧ w'.cell? ⟨(ad201.add ((x8_1).toNat * 4)).block, (ad201.add ((x8_1).toNat * 4)).off + 1, none⟩ = some (.string ((rd_T49 l0 x8_1).f1)) ∧ w'.cell? ⟨(ad201.add ((x8_1).toNat * 4)).block, (ad201.add ((x8_1).toNat * 4)).off + 2, none⟩ = some (.slice A201_2 ((rd_T49 l0 x8_1).f2).length c201_2) ∧ w'.cell? ⟨(ad201.add ((x8_1).toNat * 4)).block, (ad201.add ((x8_1).toNat * 4)).off + 3, none⟩ = some (.int .i64 ((rd_T49 l0 x8_1).f3)) ∧ w'.cell? (ad202.add ((x8_1).toNat * 4)) = some (.string ((rd_T49 l1 x8_1).f0)) ∧ w'.cell? ⟨(ad202.add ((x8_1).toNat * 4)).block, (ad202.add ((x8_1).toNat * 4)).off + 1, none⟩ = some (.string ((rd_T49 l1 x8_1).f1)) ∧ w'.cell? ⟨(ad202.add ((x8_1).toNat * 4)).block, (ad202.add ((x8_1).toNat * 4)).off + 2, none⟩ = some (.slice A202_2 ((rd_T49 l1 x8_1).f2).length c202_2) ∧ w'.cell? ⟨(ad202.add ((x8_1).toNat * 4)).block, (ad202.add ((x8_1).toNat * 4)).off + 3, none⟩ = some (.int .i64 ((rd_T49 l1 x8_1).f3)) ∧ w'.cell? (ad201.add ((x8_1).toNat * 4)) = some (.string ((rd_T49 l0 x8_1).f0)) ∧ w'.cell? ⟨(ad201.add ((x8_1).toNat * 4)).block, (ad201.add ((x8_1).toNat * 4)).off + 1, none⟩ = some (.string ((rd_T49 l0 x8_1).f1)) ∧ w'.cell? ⟨(ad201.add ((x8_1).toNat * 4)).block, (ad201.add ((x8_1).toNat * 4)).off + 2, none⟩ = some (.slice A201_2 ((rd_T49 l0 x8_1).f2).length c201_2) ∧ w'.cell? ⟨(ad201.add ((x8_1).toNat * 4)).block, (ad201.add ((x8_1).toNat * 4)).off + 3, none⟩ = some (.int .i64 ((rd_T49 l0 x8_1).f3)) ∧ w'.cell? (ad202.add ((x8_1).toNat * 4)) = some (.string ((rd_T49 l1 x8_1).f0)) ∧ w'.cell? ⟨(ad202.add ((x8_1).toNat * 4)).block, (ad202.add ((x8_1).toNat * 4)).off + 1, none⟩ = some (.string ((rd_T49 l1 x8_1).f1)) ∧ w'.cell? ⟨(ad202.add ((x8_1).toNat * 4)).block, (ad202.add ((x8_1).toNat * 4)).off + 2, none⟩ = some (.slice A202_2 ((rd_T49 l1 x8_1).f2).length c202_2) ∧ w'.cell? ⟨(ad202.add ((x8_1).toNat * 4)).block, (ad202.add ((x8_1).toNat * 4)).off + 3, none⟩ = some (.int .i64 ((rd_T49 l1 x8_1).f3))) (ds := []) #[n7, n7, n7, n7, n7, n7, n7, n7, n7, n7, n7, n7, n7, n7, n7, n7, n7, n7, n7, n7, n7, n7, n7, n7, n7, n7, n7, n7, n7, n7, n7, n7, n7, n7, n7, n7, n7, n7, n7, n7, n7, n7, n7, n7, n7, n7, n7, n7, n7, n7, n7] (by kernel_rfl) rfl rfl ⟨((HB.out.cell (World.block_lt_of_cell? w _ hw201_0)).trans hw201_0), ((HB.out.cell (World.block_lt_of_cell? w _ hw201_1)).trans hw201_1), ((HB.out.cell (World.block_lt_of_cell? w _ hw201_2)).trans hw201_2), ((HB.out.cell (World.block_lt_of_cell? w _ hw201_3)).trans hw201_3), ((HB.out.cell (World.block_lt_of_cell? w _ hw202_0)).trans hw202_0), ((HB.out.cell (World.block_lt_of_cell? w _ hw202_1)).trans hw202_1), ((HB.out.cell (World.block_lt_of_cell? w _ hw202_2)).trans hw202_2), ((HB.out.cell (World.block_lt_of_cell? w _ hw202_3)).trans hw202_3), ((HB.out.cell (World.block_lt_of_cell? w _ hw203_0)).trans hw203_0), ((HB.out.cell (World.block_lt_of_cell? w _ hw203_1)).trans hw203_1), ((HB.out.cell (World.block_lt_of_cell? w _ hw203_2)).trans hw203_2), ((HB.out.cell (World.block_lt_of_cell? w _ hw203_3)).trans hw203_3), ((HB.out.cell (World.block_lt_of_cell? w _ hw204_0)).trans hw204_0), ((HB.out.cell (World.block_lt_of_cell? w _ hw204_1)).trans hw204_1), ((HB.out.cell (World.block_lt_of_cell? w _ hw204_2)).trans hw204_2), ((HB.out.cell (World.block_lt_of_cell? w _ hw204_3)).trans hw204_3), ((HB.out.cell (World.block_lt_of_cell? w _ hw205_0)).trans hw205_0), ((HB.out.cell (World.block_lt_of_cell? w _ hw205_1)).trans hw205_1), ((HB.out.cell (World.block_lt_of_cell? w _ hw205_2)).trans hw205_2), ((HB.out.cell (World.block_lt_of_cell? w _ hw205_3)).trans hw205_3), ((HB.out.cell (World.block_lt_of_cell? w _ hw206_0)).trans hw206_0), ((HB.out.cell (World.block_lt_of_cell? w _ hw206_1)).trans hw206_1), ((HB.out.cell (World.block_lt_of_cell? w _ hw206_2)).trans hw206_2), ((HB.out.cell (World.block_lt_of_cell? w _ hw206_3)).trans hw206_3), ((HB.out.cell (World.block_lt_of_cell? w _ hw207_0)).trans hw207_0), ((HB.out.cell (World.block_lt_of_cell? w _ hw207_1)).trans hw207_1), ((HB.out.cell (World.block_lt_of_cell? w _ hw207_2)).trans hw207_2), ((HB.out.cell (World.block_lt_of_cell? w _ hw207_3)).trans hw207_3), ((HB.out.cell (World.block_lt_of_cell? w _ hw208_0)).trans hw208_0), ((HB.out.cell (World.block_lt_of_cell? w _ hw208_1)).trans hw208_1), ((HB.out.cell (World.block_lt_of_cell? w _ hw208_2)).trans hw208_2), ((HB.out.cell (World.block_lt_of_cell? w _ hw208_3)).trans hw208_3)⟩ (fun hHeld => ?_); refine with_tabW contangolaw39_kept.tab4 contangolaw39_kept.bits4 (fun HT_ HW_ => ?_)
     generalize wr.drew = w13 at HB HR201_2 HR202_2 HR203_2 HR204_2 HR205_2 HR206_2 HR207_2 HR208_2 hx201_0 hx201_1 hx201_2 hx201_3 hx202_0 hx202_1 hx202_2 hx202_3 hx203_0 hx203_1 hx203_2 hx203_3 hx204_0 hx204_1 hx204_2 hx204_3 hx205_0 hx205_1 hx205_2 hx205_3 hx206_0 hx206_1 hx206_2 hx206_3 hx207_0 hx207_1 hx207_2 hx207_3 hx208_0 hx208_1 hx208_2 hx208_3 hHeld ⊢
     refine pure_ (i := 0) (N := some 11) (v := ?_) (a' := ?_) #[y7, n7, n7, n7, n7, n7, n7, n7, n7, n7, n7, n7, n7, n7, n7, n7, n7, n7, n7, n7, n7, n7, n7, n7, n7, n7, n7, n7, n7, n7, n7, n7, n7, n7, n7, n7, n7, n7, n7, n7, n7, n7, n7, n7, n7, n7, n7, n7, n7, n7, n7] rfl rfl (any_of HT_.out (by kernel_rfl)) (fun _ _ _ h => h) (Or.inl ⟨by rfl, ?_⟩) ?_ ?_
     rotate_left
     · intro w'
       go_simp
       with_reducible rfl
     rotate_left
     · simp only [Act.put, List.setIfInBounds_toArray, List.set_cons_zero, List.set_cons_succ, i64_w, i32_w]
       rfl
     refine pure_ (i := 1) (N := some 12) (v := ?_) (a' := ?_) #[y7, y7, n7, n7, n7, n7, n7, n7, n7, n7, n7, n7, n7, n7, n7, n7, n7, n7, n7, n7, n7, n7, n7, n7, n7, n7, n7, n7, n7, n7, n7, n7, n7, n7, n7, n7, n7, n7, n7, n7, n7, n7, n7, n7, n7, n7, n7, n7, n7, n7, n7] rfl rfl (any_of HT_.out (by kernel_rfl)) (fun _ _ _ h => h) (Or.inl ⟨by rfl, ?_⟩) ?_ ?_
     rotate_left
     · intro w'
       go_simp
       with_reducible rfl
     rotate_left
     · simp only [Act.put, List.setIfInBounds_toArray, List.set_cons_zero, List.set_cons_succ, i64_w, i32_w]
       rfl
     refine pure_ (i := 2) (N := some 13) (v := ?_) (a' := ?_) #[y7, y7, y7, n7, n7, n7, n7, n7, n7, n7, n7, n7, n7, n7, n7, n7, n7, n7, n7, n7, n7, n7, n7, n7, n7, n7, n7, n7, n7, n7, n7, n7, n7, n7, n7, n7, n7, n7, n7, n7, n7, n7, n7, n7, n7, n7, n7, n7, n7, n7, n7] rfl rfl (any_of HT_.out (by kernel_rfl)) (fun _ _ _ h => h) (Or.inl ⟨by rfl, ?_⟩) ?_ ?_
     rotate_left
     · intro w'
       go_simp
       with_reducible rfl
     rotate_left
     · simp only [Act.put, List.setIfInBounds_toArray, List.set_cons_zero, List.set_cons_succ, i64_w, i32_w]
       rfl
     refine pure_ (i := 3) (N := some 14) (v := ?_) (a' := ?_) #[y7, y7, y7, y7, n7, n7, n7, n7, n7, n7, n7, n7, n7, n7, n7, n7, n7, n7, n7, n7, n7, n7, n7, n7, n7, n7, n7, n7, n7, n7, n7, n7, n7, n7, n7, n7, n7, n7, n7, n7, n7, n7, n7, n7, n7, n7, n7, n7, n7, n7, n7] rfl rfl (any_of HT_.out (by kernel_rfl)) (fun _ _ _ h => h) (Or.inl ⟨by rfl, ?_⟩) ?_ ?_
     rotate_left
     · intro w'
       go_simp
       with_reducible rfl
     rotate_left
     · simp only [Act.put, List.setIfInBounds_toArray, List.set_cons_zero, List.set_cons_succ, i64_w, i32_w]
       rfl
     refine pure_ (i := 5) (N := some 16) (v := ?_) (a' := ?_) #[y7, y7, y7, y7, n7, y7, n7, n7, n7, n7, n7, n7, n7, n7, n7, n7, n7, n7, n7, n7, n7, n7, n7, n7, n7, n7, n7, n7, n7, n7, n7, n7, n7, n7, n7, n7, n7, n7, n7, n7, n7, n7, n7, n7, n7, n7, n7, n7, n7, n7, n7] rfl rfl (any_of HT_.out (by kernel_rfl)) (fun _ _ _ h => h) (Or.inl ⟨by rfl, ?_⟩) ?_ ?_
     rotate_left
     · intro w'
       go_simp
       with_reducible rfl
     rotate_left
     · simp only [Act.put, List.setIfInBounds_toArray, List.set_cons_zero, List.set_cons_succ, i64_w, i32_w]
       rfl
     refine pure_ (i := 6) (N := some 17) (v := ?_) (a' := ?_) #[y7, y7, y7, y7, n7, y7, y7, n7, n7, n7, n7, n7, n7, n7, n7, n7, n7, n7, n7, n7, n7, n7, n7, n7, n7, n7, n7, n7, n7, n7, n7, n7, n7, n7, n7, n7, n7, n7, n7, n7, n7, n7, n7, n7, n7, n7, n7, n7, n7, n7, n7] rfl rfl (any_of HT_.out (by kernel_rfl)) (fun _ _ _ h => h) (Or.inl ⟨by rfl, ?_⟩) ?_ ?_
     rotate_left
     · intro w'
       go_simp
       with_reducible rfl
     rotate_left
     · simp only [Act.put, List.setIfInBounds_toArray, List.set_cons_zero, List.set_cons_succ, i64_w, i32_w]
       rfl
     refine pure_ (i := 7) (N := some 18) (v := ?_) (a' := ?_) #[y7, y7, y7, y7, n7, y7, y7, y7, n7, n7, n7, n7, n7, n7, n7, n7, n7, n7, n7, n7, n7, n7, n7, n7, n7, n7, n7, n7, n7, n7, n7, n7, n7, n7, n7, n7, n7, n7, n7, n7, n7, n7, n7, n7, n7, n7, n7, n7, n7, n7, n7] rfl rfl (any_of HT_.out (by kernel_rfl)) (fun _ _ _ h => h) (Or.inl ⟨by rfl, ?_⟩) ?_ ?_
     rotate_left
     · intro w'
       go_simp
       with_reducible rfl
     rotate_left
     · simp only [Act.put, List.setIfInBounds_toArray, List.set_cons_zero, List.set_cons_succ, i64_w, i32_w]
       rfl
     refine pure_ (i := 8) (N := some 19) (v := ?_) (a' := ?_) #[y7, y7, y7, y7, n7, y7, y7, y7, y7, n7, n7, n7, n7, n7, n7, n7, n7, n7, n7, n7, n7, n7, n7, n7, n7, n7, n7, n7, n7, n7, n7, n7, n7, n7, n7, n7, n7, n7, n7, n7, n7, n7, n7, n7, n7, n7, n7, n7, n7, n7, n7] rfl rfl (any_of HT_.out (by kernel_rfl)) (fun _ _ _ h => h) (Or.inl ⟨by rfl, ?_⟩) ?_ ?_
     rotate_left
     · intro w'
       go_simp
       with_reducible rfl
     rotate_left
     · simp only [Act.put, List.setIfInBounds_toArray, List.set_cons_zero, List.set_cons_succ, i64_w, i32_w]
       rfl
     refine take_ (i := 4) (N := some 15) (v := ?_) (a' := ?_) #[y7, y7, y7, y7, y7, y7, y7, y7, y7, n7, n7, n7, n7, n7, n7, n7, n7, n7, n7, n7, n7, n7, n7, n7, n7, n7, n7, n7, n7, n7, n7, n7, n7, n7, n7, n7, n7, n7, n7, n7, n7, n7, n7, n7, n7, n7, n7, n7, n7, n7, n7] rfl rfl (take_ofW HT_.out HW_.out (by kernel_rfl)) (fun _ _ _ h => h) (Or.inl ⟨by rfl, ?_⟩) hHeld ?_ ?_
     rotate_left
     · rintro w' ⟨s0, s1, s2, s3, s4, s5, s6, s7, s8, s9, s10, s11, s12, s13, s14, s15, s16, s17, s18, s19, s20, s21, s22, s23, s24, s25, s26, s27, s28, s29, s30, s31⟩
       go_simp
       with_reducible rfl
     rotate_left
     · simp only [Act.put, List.setIfInBounds_toArray, List.set_cons_zero, List.set_cons_succ, i64_w, i32_w]
       rfl
     refine take_ (i := 9) (N := some 20) (v := ?_) (a' := ?_) #[y7, y7, y7, y7, y7, y7, y7, y7, y7, y7, n7, n7, n7, n7, n7, n7, n7, n7, n7, n7, n7, n7, n7, n7, n7, n7, n7, n7, n7, n7, n7, n7, n7, n7, n7, n7, n7, n7, n7, n7, n7, n7, n7, n7, n7, n7, n7, n7, n7, n7, n7] rfl rfl (take_ofW HT_.out HW_.out (by kernel_rfl)) (fun _ _ _ h => h) (Or.inl ⟨by rfl, ?_⟩) hHeld ?_ ?_
     rotate_left
     · rintro w' ⟨s0, s1, s2, s3, s4, s5, s6, s7, s8, s9, s10, s11, s12, s13, s14, s15, s16, s17, s18, s19, s20, s21, s22, s23, s24, s25, s26, s27, s28, s29, s30, s31⟩
       go_simp
       with_reducible rfl
     rotate_left
     · simp only [Act.put, List.setIfInBounds_toArray, List.set_cons_zero, List.set_cons_succ, i64_w, i32_w]
       rfl
     refine pure_ (i := 10) (N := some 21) (v := ?_) (a' := ?_) #[y7, y7, y7, y7, y7, y7, y7, y7, y7, y7, y7, n7, n7, n7, n7, n7, n7, n7, n7, n7, n7, n7, n7, n7, n7, n7, n7, n7, n7, n7, n7, n7, n7, n7, n7, n7, n7, n7, n7, n7, n7, n7, n7, n7, n7, n7, n7, n7, n7, n7, n7] rfl rfl (any_of HT_.out (by kernel_rfl)) (fun _ _ _ h => h) (Or.inl ⟨by rfl, ?_⟩) ?_ ?_
     rotate_left
     · intro w'
       go_simp
       with_reducible rfl
     rotate_left
     · simp only [Act.put, List.setIfInBounds_toArray, List.set_cons_zero, List.set_cons_succ, i64_w, i32_w]
       rfl
     refine pure_ (i := 11) (N := some 22) (v := ?_) (a' := ?_) #[y7, y7, y7, y7, y7, y7, y7, y7, y7, y7, y7, y7, n7, n7, n7, n7, n7, n7, n7, n7, n7, n7, n7, n7, n7, n7, n7, n7, n7, n7, n7, n7, n7, n7, n7, n7, n7, n7, n7, n7, n7, n7, n7, n7, n7, n7, n7, n7, n7, n7, n7] rfl rfl (any_of HT_.out (by kernel_rfl)) (fun _ _ _ h => h) (Or.inl ⟨by rfl, ?_⟩) ?_ ?_
     rotate_left
     · intro w'
       go_simp
       with_reducible rfl
     rotate_left
     · simp only [Act.put, List.setIfInBounds_toArray, List.set_cons_zero, List.set_cons_succ, i64_w, i32_w]
       rfl
     refine pure_ (i := 12) (N := some 23) (v := ?_) (a' := ?_) #[y7, y7, y7, y7, y7, y7, y7, y7, y7, y7, y7, y7, y7, n7, n7, n7, n7, n7, n7, n7, n7, n7, n7, n7, n7, n7, n7, n7, n7, n7, n7, n7, n7, n7, n7, n7, n7, n7, n7, n7, n7, n7, n7, n7, n7, n7, n7, n7, n7, n7, n7] rfl rfl (any_of HT_.out (by kernel_rfl)) (fun _ _ _ h => h) (Or.inl ⟨by rfl, ?_⟩) ?_ ?_
     rotate_left
     · intro w'
       go_simp
       with_reducible rfl
     rotate_left
     · simp only [Act.put, List.setIfInBounds_toArray, List.set_cons_zero, List.set_cons_succ, i64_w, i32_w]
       rfl
     refine pure_ (i := 13) (N := some 24) (v := ?_) (a' := ?_) #[y7, y7, y7, y7, y7, y7, y7, y7, y7, y7, y7, y7, y7, y7, n7, n7, n7, n7, n7, n7, n7, n7, n7, n7, n7, n7, n7, n7, n7, n7, n7, n7, n7, n7, n7, n7, n7, n7, n7, n7, n7, n7, n7, n7, n7, n7, n7, n7, n7, n7, n7] rfl rfl (any_of HT_.out (by kernel_rfl)) (fun _ _ _ h => h) (Or.inl ⟨by rfl, ?_⟩) ?_ ?_
     rotate_left
     · intro w'
       go_simp
       with_reducible rfl
     rotate_left
     · simp only [Act.put, List.setIfInBounds_toArray, List.set_cons_zero, List.set_cons_succ, i64_w, i32_w]
       rfl
     refine pure_ (i := 14) (N := some 25) (v := ?_) (a' := ?_) #[y7, y7, y7, y7, y7, y7, y7, y7, y7, y7, y7, y7, y7, y7, y7, n7, n7, n7, n7, n7, n7, n7, n7, n7, n7, n7, n7, n7, n7, n7, n7, n7, n7, n7, n7, n7, n7, n7, n7, n7, n7, n7, n7, n7, n7, n7, n7, n7, n7, n7, n7] rfl rfl (any_of HT_.out (by kernel_rfl)) (fun _ _ _ h => h) (Or.inl ⟨by rfl, ?_⟩) ?_ ?_
     rotate_left
     · intro w'
       go_simp
       with_reducible rfl
     rotate_left
     · simp only [Act.put, List.setIfInBounds_toArray, List.set_cons_zero, List.set_cons_succ, i64_w, i32_w]
       rfl
     refine pure_ (i := 15) (N := some 26) (v := ?_) (a' := ?_) #[y7, y7, y7, y7, y7, y7, y7, y7, y7, y7, y7, y7, y7, y7, y7, y7, n7, n7, n7, n7, n7, n7, n7, n7, n7, n7, n7, n7, n7, n7, n7, n7, n7, n7, n7, n7, n7, n7, n7, n7, n7, n7, n7, n7, n7, n7, n7, n7, n7, n7, n7] rfl rfl (any_of HT_.out (by kernel_rfl)) (fun _ _ _ h => h) (Or.inl ⟨by rfl, ?_⟩) ?_ ?_
     rotate_left
     · intro w'
       go_simp
       with_reducible rfl
     rotate_left
     · simp only [Act.put, List.setIfInBounds_toArray, List.set_cons_zero, List.set_cons_succ, i64_w, i32_w]
       rfl
     refine pure_ (i := 17) (N := some 28) (v := ?_) (a' := ?_) #[y7, y7, y7, y7, y7, y7, y7, y7, y7, y7, y7, y7, y7, y7, y7, y7, n7, y7, n7, n7, n7, n7, n7, n7, n7, n7, n7, n7, n7, n7, n7, n7, n7, n7, n7, n7, n7, n7, n7, n7, n7, n7, n7, n7, n7, n7, n7, n7, n7, n7, n7] rfl rfl (any_of HT_.out (by kernel_rfl)) (fun _ _ _ h => h) (Or.inl ⟨by rfl, ?_⟩) ?_ ?_
     rotate_left
     · intro w'
       go_simp
       with_reducible rfl
     rotate_left
     · simp only [Act.put, List.setIfInBounds_toArray, List.set_cons_zero, List.set_cons_succ, i64_w, i32_w]
       rfl
     refine pure_ (i := 18) (N := some 29) (v := ?_) (a' := ?_) #[y7, y7, y7, y7, y7, y7, y7, y7, y7, y7, y7, y7, y7, y7, y7, y7, n7, y7, y7, n7, n7, n7, n7, n7, n7, n7, n7, n7, n7, n7, n7, n7, n7, n7, n7, n7, n7, n7, n7, n7, n7, n7, n7, n7, n7, n7, n7, n7, n7, n7, n7] rfl rfl (any_of HT_.out (by kernel_rfl)) (fun _ _ _ h => h) (Or.inl ⟨by rfl, ?_⟩) ?_ ?_
     rotate_left
     · intro w'
       go_simp
       with_reducible rfl
     rotate_left
     · simp only [Act.put, List.setIfInBounds_toArray, List.set_cons_zero, List.set_cons_succ, i64_w, i32_w]
       rfl
     refine pure_ (i := 19) (N := some 30) (v := ?_) (a' := ?_) #[y7, y7, y7, y7, y7, y7, y7, y7, y7, y7, y7, y7, y7, y7, y7, y7, n7, y7, y7, y7, n7, n7, n7, n7, n7, n7, n7, n7, n7, n7, n7, n7, n7, n7, n7, n7, n7, n7, n7, n7, n7, n7, n7, n7, n7, n7, n7, n7, n7, n7, n7] rfl rfl (any_of HT_.out (by kernel_rfl)) (fun _ _ _ h => h) (Or.inl ⟨by rfl, ?_⟩) ?_ ?_
     rotate_left
     · intro w'
       go_simp
       with_reducible rfl
     rotate_left
     · simp only [Act.put, List.setIfInBounds_toArray, List.set_cons_zero, List.set_cons_succ, i64_w, i32_w]
       rfl
     refine pure_ (i := 20) (N := some 31) (v := ?_) (a' := ?_) #[y7, y7, y7, y7, y7, y7, y7, y7, y7, y7, y7, y7, y7, y7, y7, y7, n7, y7, y7, y7, y7, n7, n7, n7, n7, n7, n7, n7, n7, n7, n7, n7, n7, n7, n7, n7, n7, n7, n7, n7, n7, n7, n7, n7, n7, n7, n7, n7, n7, n7, n7] rfl rfl (any_of HT_.out (by kernel_rfl)) (fun _ _ _ h => h) (Or.inl ⟨by rfl, ?_⟩) ?_ ?_
     rotate_left
     · intro w'
       go_simp
       with_reducible rfl
     rotate_left
     · simp only [Act.put, List.setIfInBounds_toArray, List.set_cons_zero, List.set_cons_succ, i64_w, i32_w]
       rfl
     refine take_ (i := 16) (N := some 27) (v := ?_) (a' := ?_) #[y7, y7, y7, y7, y7, y7, y7, y7, y7, y7, y7, y7, y7, y7, y7, y7, y7, y7, y7, y7, y7, n7, n7, n7, n7, n7, n7, n7, n7, n7, n7, n7, n7, n7, n7, n7, n7, n7, n7, n7, n7, n7, n7, n7, n7, n7, n7, n7, n7, n7, n7] rfl rfl (take_ofW HT_.out HW_.out (by kernel_rfl)) (fun _ _ _ h => h) (Or.inl ⟨by rfl, ?_⟩) hHeld ?_ ?_
     rotate_left
     · rintro w' ⟨s0, s1, s2, s3, s4, s5, s6, s7, s8, s9, s10, s11, s12, s13, s14, s15, s16, s17, s18, s19, s20, s21, s22, s23, s24, s25, s26, s27, s28, s29, s30, s31⟩
       go_simp
       with_reducible rfl
     rotate_left
     · simp only [Act.put, List.setIfInBounds_toArray, List.set_cons_zero, List.set_cons_succ, i64_w, i32_w]
       rfl
     refine take_ (i := 21) (N := some 32) (v := ?_) (a' := ?_) #[y7, y7, y7, y7, y7, y7, y7, y7, y7, y7, y7, y7, y7, y7, y7, y7, y7, y7, y7, y7, y7, y7, n7, n7, n7, n7, n7, n7, n7, n7, n7, n7, n7, n7, n7, n7, n7, n7, n7, n7, n7, n7, n7, n7, n7, n7, n7, n7, n7, n7, n7] rfl rfl (take_ofW HT_.out HW_.out (by kernel_rfl)) (fun _ _ _ h => h) (Or.inl ⟨by rfl, ?_⟩) hHeld ?_ ?_
     rotate_left
     · rintro w' ⟨s0, s1, s2, s3, s4, s5, s6, s7, s8, s9, s10, s11, s12, s13, s14, s15, s16, s17, s18, s19, s20, s21, s22, s23, s24, s25, s26, s27, s28, s29, s30, s31⟩
       go_simp
       with_reducible rfl
     rotate_left
     · simp only [Act.put, List.setIfInBounds_toArray, List.set_cons_zero, List.set_cons_succ, i64_w, i32_w]
       rfl
     refine pure_ (i := 22) (N := some 33) (v := ?_) (a' := ?_) #[y7, y7, y7, y7, y7, y7, y7, y7, y7, y7, y7, y7, y7, y7, y7, y7, y7, y7, y7, y7, y7, y7, y7, n7, n7, n7, n7, n7, n7, n7, n7, n7, n7, n7, n7, n7, n7, n7, n7, n7, n7, n7, n7, n7, n7, n7, n7, n7, n7, n7, n7] rfl rfl (any_of HT_.out (by kernel_rfl)) (fun _ _ _ h => h) (Or.inl ⟨by rfl, ?_⟩) ?_ ?_
     rotate_left
     · intro w'
       go_simp
       with_reducible rfl
     rotate_left
     · simp only [Act.put, List.setIfInBounds_toArray, List.set_cons_zero, List.set_cons_succ, i64_w, i32_w]
       rfl
     refine pure_ (i := 23) (N := some 34) (v := ?_) (a' := ?_) #[y7, y7, y7, y7, y7, y7, y7, y7, y7, y7, y7, y7, y7, y7, y7, y7, y7, y7, y7, y7, y7, y7, y7, y7, n7, n7, n7, n7, n7, n7, n7, n7, n7, n7, n7, n7, n7, n7, n7, n7, n7, n7, n7, n7, n7, n7, n7, n7, n7, n7, n7] rfl rfl (any_of HT_.out (by kernel_rfl)) (fun _ _ _ h => h) (Or.inl ⟨by rfl, ?_⟩) ?_ ?_
     rotate_left
     · intro w'
       go_simp
       with_reducible rfl
     rotate_left
     · simp only [Act.put, List.setIfInBounds_toArray, List.set_cons_zero, List.set_cons_succ, i64_w, i32_w]
       rfl
     refine pure_ (i := 24) (N := some 35) (v := ?_) (a' := ?_) #[y7, y7, y7, y7, y7, y7, y7, y7, y7, y7, y7, y7, y7, y7, y7, y7, y7, y7, y7, y7, y7, y7, y7, y7, y7, n7, n7, n7, n7, n7, n7, n7, n7, n7, n7, n7, n7, n7, n7, n7, n7, n7, n7, n7, n7, n7, n7, n7, n7, n7, n7] rfl rfl (any_of HT_.out (by kernel_rfl)) (fun _ _ _ h => h) (Or.inl ⟨by rfl, ?_⟩) ?_ ?_
     rotate_left
     · intro w'
       go_simp
       with_reducible rfl
     rotate_left
     · simp only [Act.put, List.setIfInBounds_toArray, List.set_cons_zero, List.set_cons_succ, i64_w, i32_w]
       rfl
     refine pure_ (i := 25) (N := some 36) (v := ?_) (a' := ?_) #[y7, y7, y7, y7, y7, y7, y7, y7, y7, y7, y7, y7, y7, y7, y7, y7, y7, y7, y7, y7, y7, y7, y7, y7, y7, y7, n7, n7, n7, n7, n7, n7, n7, n7, n7, n7, n7, n7, n7, n7, n7, n7, n7, n7, n7, n7, n7, n7, n7, n7, n7] rfl rfl (any_of HT_.out (by kernel_rfl)) (fun _ _ _ h => h) (Or.inl ⟨by rfl, ?_⟩) ?_ ?_
     rotate_left
     · intro w'
       go_simp
       with_reducible rfl
     rotate_left
     · simp only [Act.put, List.setIfInBounds_toArray, List.set_cons_zero, List.set_cons_succ, i64_w, i32_w]
       rfl
     refine pure_ (i := 26) (N := some 37) (v := ?_) (a' := ?_) #[y7, y7, y7, y7, y7, y7, y7, y7, y7, y7, y7, y7, y7, y7, y7, y7, y7, y7, y7, y7, y7, y7, y7, y7, y7, y7, y7, n7, n7, n7, n7, n7, n7, n7, n7, n7, n7, n7, n7, n7, n7, n7, n7, n7, n7, n7, n7, n7, n7, n7, n7] rfl rfl (any_of HT_.out (by kernel_rfl)) (fun _ _ _ h => h) (Or.inl ⟨by rfl, ?_⟩) ?_ ?_
     rotate_left
     · intro w'
       go_simp
       with_reducible rfl
     rotate_left
     · simp only [Act.put, List.setIfInBounds_toArray, List.set_cons_zero, List.set_cons_succ, i64_w, i32_w]
       rfl
     refine pure_ (i := 27) (N := some 38) (v := ?_) (a' := ?_) #[y7, y7, y7, y7, y7, y7, y7, y7, y7, y7, y7, y7, y7, y7, y7, y7, y7, y7, y7, y7, y7, y7, y7, y7, y7, y7, y7, y7, n7, n7, n7, n7, n7, n7, n7, n7, n7, n7, n7, n7, n7, n7, n7, n7, n7, n7, n7, n7, n7, n7, n7] rfl rfl (any_of HT_.out (by kernel_rfl)) (fun _ _ _ h => h) (Or.inl ⟨by rfl, ?_⟩) ?_ ?_
     rotate_left
     · intro w'
       go_simp
       with_reducible rfl
     rotate_left
     · simp only [Act.put, List.setIfInBounds_toArray, List.set_cons_zero, List.set_cons_succ, i64_w, i32_w]
       rfl
     refine pure_ (i := 28) (N := some 39) (v := ?_) (a' := ?_) #[y7, y7, y7, y7, y7, y7, y7, y7, y7, y7, y7, y7, y7, y7, y7, y7, y7, y7, y7, y7, y7, y7, y7, y7, y7, y7, y7, y7, y7, n7, n7, n7, n7, n7, n7, n7, n7, n7, n7, n7, n7, n7, n7, n7, n7, n7, n7, n7, n7, n7, n7] rfl rfl (any_of HT_.out (by kernel_rfl)) (fun _ _ _ h => h) (Or.inl ⟨by rfl, ?_⟩) ?_ ?_
     rotate_left
     · intro w'
       go_simp
       with_reducible rfl
     rotate_left
     · simp only [Act.put, List.setIfInBounds_toArray, List.set_cons_zero, List.set_cons_succ, i64_w, i32_w]
       rfl
     refine pure_ (i := 30) (N := some 41) (v := ?_) (a' := ?_) #[y7, y7, y7, y7, y7, y7, y7, y7, y7, y7, y7, y7, y7, y7, y7, y7, y7, y7, y7, y7, y7, y7, y7, y7, y7, y7, y7, y7, y7, n7, y7, n7, n7, n7, n7, n7, n7, n7, n7, n7, n7, n7, n7, n7, n7, n7, n7, n7, n7, n7, n7] rfl rfl (any_of HT_.out (by kernel_rfl)) (fun _ _ _ h => h) (Or.inl ⟨by rfl, ?_⟩) ?_ ?_
     rotate_left
     · intro w'
       go_simp
       with_reducible rfl
     rotate_left
     · simp only [Act.put, List.setIfInBounds_toArray, List.set_cons_zero, List.set_cons_succ, i64_w, i32_w]
       rfl
     refine pure_ (i := 31) (N := some 42) (v := ?_) (a' := ?_) #[y7, y7, y7, y7, y7, y7, y7, y7, y7, y7, y7, y7, y7, y7, y7, y7, y7, y7, y7, y7, y7, y7, y7, y7, y7, y7, y7, y7, y7, n7, y7, y7, n7, n7, n7, n7, n7, n7, n7, n7, n7, n7, n7, n7, n7, n7, n7, n7, n7, n7, n7] rfl rfl (any_of HT_.out (by kernel_rfl)) (fun _ _ _ h => h) (Or.inl ⟨by rfl, ?_⟩) ?_ ?_
     rotate_left
     · intro w'
       go_simp
       with_reducible rfl
     rotate_left
     · simp only [Act.put, List.setIfInBounds_toArray, List.set_cons_zero, List.set_cons_succ, i64_w, i32_w]
       rfl
     refine pure_ (i := 32) (N := some 43) (v := ?_) (a' := ?_) #[y7, y7, y7, y7, y7, y7, y7, y7, y7, y7, y7, y7, y7, y7, y7, y7, y7, y7, y7, y7, y7, y7, y7, y7, y7, y7, y7, y7, y7, n7, y7, y7, y7, n7, n7, n7, n7, n7, n7, n7, n7, n7, n7, n7, n7, n7, n7, n7, n7, n7, n7] rfl rfl (any_of HT_.out (by kernel_rfl)) (fun _ _ _ h => h) (Or.inl ⟨by rfl, ?_⟩) ?_ ?_
     rotate_left
     · intro w'
       go_simp
       with_reducible rfl
     rotate_left
     · simp only [Act.put, List.setIfInBounds_toArray, List.set_cons_zero, List.set_cons_succ, i64_w, i32_w]
       rfl
     refine pure_ (i := 33) (N := some 44) (v := ?_) (a' := ?_) #[y7, y7, y7, y7, y7, y7, y7, y7, y7, y7, y7, y7, y7, y7, y7, y7, y7, y7, y7, y7, y7, y7, y7, y7, y7, y7, y7, y7, y7, n7, y7, y7, y7, y7, n7, n7, n7, n7, n7, n7, n7, n7, n7, n7, n7, n7, n7, n7, n7, n7, n7] rfl rfl (any_of HT_.out (by kernel_rfl)) (fun _ _ _ h => h) (Or.inl ⟨by rfl, ?_⟩) ?_ ?_
     rotate_left
     · intro w'
       go_simp
       with_reducible rfl
     rotate_left
     · simp only [Act.put, List.setIfInBounds_toArray, List.set_cons_zero, List.set_cons_succ, i64_w, i32_w]
       rfl
     refine take_ (i := 29) (N := some 40) (v := ?_) (a' := ?_) #[y7, y7, y7, y7, y7, y7, y7, y7, y7, y7, y7, y7, y7, y7, y7, y7, y7, y7, y7, y7, y7, y7, y7, y7, y7, y7, y7, y7, y7, y7, y7, y7, y7, y7, n7, n7, n7, n7, n7, n7, n7, n7, n7, n7, n7, n7, n7, n7, n7, n7, n7] rfl rfl (take_ofW HT_.out HW_.out (by kernel_rfl)) (fun _ _ _ h => h) (Or.inl ⟨by rfl, ?_⟩) hHeld ?_ ?_
     rotate_left
     · rintro w' ⟨s0, s1, s2, s3, s4, s5, s6, s7, s8, s9, s10, s11, s12, s13, s14, s15, s16, s17, s18, s19, s20, s21, s22, s23, s24, s25, s26, s27, s28, s29, s30, s31⟩
       go_simp
       with_reducible rfl
     rotate_left
     · simp only [Act.put, List.setIfInBounds_toArray, List.set_cons_zero, List.set_cons_succ, i64_w, i32_w]
       rfl
     refine take_ (i := 34) (N := some 45) (v := ?_) (a' := ?_) #[y7, y7, y7, y7, y7, y7, y7, y7, y7, y7, y7, y7, y7, y7, y7, y7, y7, y7, y7, y7, y7, y7, y7, y7, y7, y7, y7, y7, y7, y7, y7, y7, y7, y7, y7, n7, n7, n7, n7, n7, n7, n7, n7, n7, n7, n7, n7, n7, n7, n7, n7] rfl rfl (take_ofW HT_.out HW_.out (by kernel_rfl)) (fun _ _ _ h => h) (Or.inl ⟨by rfl, ?_⟩) hHeld ?_ ?_
     rotate_left
     · rintro w' ⟨s0, s1, s2, s3, s4, s5, s6, s7, s8, s9, s10, s11, s12, s13, s14, s15, s16, s17, s18, s19, s20, s21, s22, s23, s24, s25, s26, s27, s28, s29, s30, s31⟩
       go_simp
       with_reducible rfl
     rotate_left
     · simp only [Act.put, List.setIfInBounds_toArray, List.set_cons_zero, List.set_cons_succ, i64_w, i32_w]
       rfl
     refine pure_ (i := 35) (N := some 46) (v := ?_) (a' := ?_) #[y7, y7, y7, y7, y7, y7, y7, y7, y7, y7, y7, y7, y7, y7, y7, y7, y7, y7, y7, y7, y7, y7, y7, y7, y7, y7, y7, y7, y7, y7, y7, y7, y7, y7, y7, y7, n7, n7, n7, n7, n7, n7, n7, n7, n7, n7, n7, n7, n7, n7, n7] rfl rfl (any_of HT_.out (by kernel_rfl)) (fun _ _ _ h => h) (Or.inl ⟨by rfl, ?_⟩) ?_ ?_
     rotate_left
     · intro w'
       go_simp
       with_reducible rfl
     rotate_left
     · simp only [Act.put, List.setIfInBounds_toArray, List.set_cons_zero, List.set_cons_succ, i64_w, i32_w]
       rfl
     refine pure_ (i := 36) (N := some 47) (v := ?_) (a' := ?_) #[y7, y7, y7, y7, y7, y7, y7, y7, y7, y7, y7, y7, y7, y7, y7, y7, y7, y7, y7, y7, y7, y7, y7, y7, y7, y7, y7, y7, y7, y7, y7, y7, y7, y7, y7, y7, y7, n7, n7, n7, n7, n7, n7, n7, n7, n7, n7, n7, n7, n7, n7] rfl rfl (any_of HT_.out (by kernel_rfl)) (fun _ _ _ h => h) (Or.inl ⟨by rfl, ?_⟩) ?_ ?_
     rotate_left
     · intro w'
       go_simp
       with_reducible rfl
     rotate_left
     · simp only [Act.put, List.setIfInBounds_toArray, List.set_cons_zero, List.set_cons_succ, i64_w, i32_w]
       rfl
     refine pure_ (i := 37) (N := some 48) (v := ?_) (a' := ?_) #[y7, y7, y7, y7, y7, y7, y7, y7, y7, y7, y7, y7, y7, y7, y7, y7, y7, y7, y7, y7, y7, y7, y7, y7, y7, y7, y7, y7, y7, y7, y7, y7, y7, y7, y7, y7, y7, y7, n7, n7, n7, n7, n7, n7, n7, n7, n7, n7, n7, n7, n7] rfl rfl (any_of HT_.out (by kernel_rfl)) (fun _ _ _ h => h) (Or.inl ⟨by rfl, ?_⟩) ?_ ?_
     rotate_left
     · intro w'
       go_simp
       with_reducible rfl
     rotate_left
     · simp only [Act.put, List.setIfInBounds_toArray, List.set_cons_zero, List.set_cons_succ, i64_w, i32_w]
       rfl
     refine pure_ (i := 38) (N := some 49) (v := ?_) (a' := ?_) #[y7, y7, y7, y7, y7, y7, y7, y7, y7, y7, y7, y7, y7, y7, y7, y7, y7, y7, y7, y7, y7, y7, y7, y7, y7, y7, y7, y7, y7, y7, y7, y7, y7, y7, y7, y7, y7, y7, y7, n7, n7, n7, n7, n7, n7, n7, n7, n7, n7, n7, n7] rfl rfl (any_of HT_.out (by kernel_rfl)) (fun _ _ _ h => h) (Or.inl ⟨by rfl, ?_⟩) ?_ ?_
     rotate_left
     · intro w'
       go_simp
       with_reducible rfl
     rotate_left
     · simp only [Act.put, List.setIfInBounds_toArray, List.set_cons_zero, List.set_cons_succ, i64_w, i32_w]
       rfl
     refine pure_ (i := 39) (N := some 50) (v := ?_) (a' := ?_) #[y7, y7, y7, y7, y7, y7, y7, y7, y7, y7, y7, y7, y7, y7, y7, y7, y7, y7, y7, y7, y7, y7, y7, y7, y7, y7, y7, y7, y7, y7, y7, y7, y7, y7, y7, y7, y7, y7, y7, y7, n7, n7, n7, n7, n7, n7, n7, n7, n7, n7, n7] rfl rfl (any_of HT_.out (by kernel_rfl)) (fun _ _ _ h => h) (Or.inl ⟨by rfl, ?_⟩) ?_ ?_
     rotate_left
     · intro w'
       go_simp
       with_reducible rfl
     rotate_left
     · simp only [Act.put, List.setIfInBounds_toArray, List.set_cons_zero, List.set_cons_succ, i64_w, i32_w]
       rfl
     refine pure_ (i := 40) (N := some 51) (v := ?_) (a' := ?_) #[y7, y7, y7, y7, y7, y7, y7, y7, y7, y7, y7, y7, y7, y7, y7, y7, y7, y7, y7, y7, y7, y7, y7, y7, y7, y7, y7, y7, y7, y7, y7, y7, y7, y7, y7, y7, y7, y7, y7, y7, y7, n7, n7, n7, n7, n7, n7, n7, n7, n7, n7] rfl rfl (any_of HT_.out (by kernel_rfl)) (fun _ _ _ h => h) (Or.inl ⟨by rfl, ?_⟩) ?_ ?_
     rotate_left
     · intro w'
       go_simp
       with_reducible rfl
     rotate_left
     · simp only [Act.put, List.setIfInBounds_toArray, List.set_cons_zero, List.set_cons_succ, i64_w, i32_w]
       rfl
     refine pure_ (i := 41) (N := some 52) (v := ?_) (a' := ?_) #[y7, y7, y7, y7, y7, y7, y7, y7, y7, y7, y7, y7, y7, y7, y7, y7, y7, y7, y7, y7, y7, y7, y7, y7, y7, y7, y7, y7, y7, y7, y7, y7, y7, y7, y7, y7, y7, y7, y7, y7, y7, y7, n7, n7, n7, n7, n7, n7, n7, n7, n7] rfl rfl (any_of HT_.out (by kernel_rfl)) (fun _ _ _ h => h) (Or.inl ⟨by rfl, ?_⟩) ?_ ?_
     rotate_left
     · intro w'
       go_simp
       with_reducible rfl
     rotate_left
     · simp only [Act.put, List.setIfInBounds_toArray, List.set_cons_zero, List.set_cons_succ, i64_w, i32_w]
       rfl
     refine pure_ (i := 43) (N := some 54) (v := ?_) (a' := ?_) #[y7, y7, y7, y7, y7, y7, y7, y7, y7, y7, y7, y7, y7, y7, y7, y7, y7, y7, y7, y7, y7, y7, y7, y7, y7, y7, y7, y7, y7, y7, y7, y7, y7, y7, y7, y7, y7, y7, y7, y7, y7, y7, n7, y7, n7, n7, n7, n7, n7, n7, n7] rfl rfl (any_of HT_.out (by kernel_rfl)) (fun _ _ _ h => h) (Or.inl ⟨by rfl, ?_⟩) ?_ ?_
     rotate_left
     · intro w'
       go_simp
       with_reducible rfl
     rotate_left
     · simp only [Act.put, List.setIfInBounds_toArray, List.set_cons_zero, List.set_cons_succ, i64_w, i32_w]
       rfl
     refine pure_ (i := 44) (N := some 55) (v := ?_) (a' := ?_) #[y7, y7, y7, y7, y7, y7, y7, y7, y7, y7, y7, y7, y7, y7, y7, y7, y7, y7, y7, y7, y7, y7, y7, y7, y7, y7, y7, y7, y7, y7, y7, y7, y7, y7, y7, y7, y7, y7, y7, y7, y7, y7, n7, y7, y7, n7, n7, n7, n7, n7, n7] rfl rfl (any_of HT_.out (by kernel_rfl)) (fun _ _ _ h => h) (Or.inl ⟨by rfl, ?_⟩) ?_ ?_
     rotate_left
     · intro w'
       go_simp
       with_reducible rfl
     rotate_left
     · simp only [Act.put, List.setIfInBounds_toArray, List.set_cons_zero, List.set_cons_succ, i64_w, i32_w]
       rfl
     refine pure_ (i := 45) (N := some 56) (v := ?_) (a' := ?_) #[y7, y7, y7, y7, y7, y7, y7, y7, y7, y7, y7, y7, y7, y7, y7, y7, y7, y7, y7, y7, y7, y7, y7, y7, y7, y7, y7, y7, y7, y7, y7, y7, y7, y7, y7, y7, y7, y7, y7, y7, y7, y7, n7, y7, y7, y7, n7, n7, n7, n7, n7] rfl rfl (any_of HT_.out (by kernel_rfl)) (fun _ _ _ h => h) (Or.inl ⟨by rfl, ?_⟩) ?_ ?_
     rotate_left
     · intro w'
       go_simp
       with_reducible rfl
     rotate_left
     · simp only [Act.put, List.setIfInBounds_toArray, List.set_cons_zero, List.set_cons_succ, i64_w, i32_w]
       rfl
     refine pure_ (i := 46) (N := some 57) (v := ?_) (a' := ?_) #[y7, y7, y7, y7, y7, y7, y7, y7, y7, y7, y7, y7, y7, y7, y7, y7, y7, y7, y7, y7, y7, y7, y7, y7, y7, y7, y7, y7, y7, y7, y7, y7, y7, y7, y7, y7, y7, y7, y7, y7, y7, y7, n7, y7, y7, y7, y7, n7, n7, n7, n7] rfl rfl (any_of HT_.out (by kernel_rfl)) (fun _ _ _ h => h) (Or.inl ⟨by rfl, ?_⟩) ?_ ?_
     rotate_left
     · intro w'
       go_simp
       with_reducible rfl
     rotate_left
     · simp only [Act.put, List.setIfInBounds_toArray, List.set_cons_zero, List.set_cons_succ, i64_w, i32_w]
       rfl
     refine take_ (i := 42) (N := some 53) (v := ?_) (a' := ?_) #[y7, y7, y7, y7, y7, y7, y7, y7, y7, y7, y7, y7, y7, y7, y7, y7, y7, y7, y7, y7, y7, y7, y7, y7, y7, y7, y7, y7, y7, y7, y7, y7, y7, y7, y7, y7, y7, y7, y7, y7, y7, y7, y7, y7, y7, y7, y7, n7, n7, n7, n7] rfl rfl (take_ofW HT_.out HW_.out (by kernel_rfl)) (fun _ _ _ h => h) (Or.inl ⟨by rfl, ?_⟩) hHeld ?_ ?_
     rotate_left
     · rintro w' ⟨s0, s1, s2, s3, s4, s5, s6, s7, s8, s9, s10, s11, s12, s13, s14, s15, s16, s17, s18, s19, s20, s21, s22, s23, s24, s25, s26, s27, s28, s29, s30, s31⟩
       go_simp
       with_reducible rfl
     rotate_left
     · simp only [Act.put, List.setIfInBounds_toArray, List.set_cons_zero, List.set_cons_succ, i64_w, i32_w]
       rfl
     refine take_ (i := 47) (N := some 58) (v := ?_) (a' := ?_) #[y7, y7, y7, y7, y7, y7, y7, y7, y7, y7, y7, y7, y7, y7, y7, y7, y7, y7, y7, y7, y7, y7, y7, y7, y7, y7, y7, y7, y7, y7, y7, y7, y7, y7, y7, y7, y7, y7, y7, y7, y7, y7, y7, y7, y7, y7, y7, y7, n7, n7, n7] rfl rfl (take_ofW HT_.out HW_.out (by kernel_rfl)) (fun _ _ _ h => h) (Or.inl ⟨by rfl, ?_⟩) hHeld ?_ ?_
     rotate_left
     · rintro w' ⟨s0, s1, s2, s3, s4, s5, s6, s7, s8, s9, s10, s11, s12, s13, s14, s15, s16, s17, s18, s19, s20, s21, s22, s23, s24, s25, s26, s27, s28, s29, s30, s31⟩
       go_simp
       with_reducible rfl
     rotate_left
     · simp only [Act.put, List.setIfInBounds_toArray, List.set_cons_zero, List.set_cons_succ, i64_w, i32_w]
       rfl
     refine one_ (i := 48) (N := some 59) #[y7, y7, y7, y7, y7, y7, y7, y7, y7, y7, y7, y7, y7, y7, y7, y7, y7, y7, y7, y7, y7, y7, y7, y7, y7, y7, y7, y7, y7, y7, y7, y7, y7, y7, y7, y7, y7, y7, y7, y7, y7, y7, y7, y7, y7, y7, y7, y7, y7, n7, n7] rfl rfl (one_of HT_.out (by kernel_rfl)) (by decide) (fun K hK => ?_)
     refine goes_ Try.func16 (by kernel_rfl) rfl #[.slice A201_2 ((rd_T49 l0 x8_1).f2).length c201_2, .slice A202_2 ((rd_T49 l1 x8_1).f2).length c202_2] (by rfl) rfl rfl (by (try simp only [List.map_toArray, List.map_cons, List.map_nil]); first | done | rfl | (simp only [List.length_drop, List.length_take]; rfl)) ?_
     with_reducible refine (contangoref39_Ints.calls k1 _ _ ((rd_T49 l0 x8_1).f2) _ _ ((rd_T49 l1 x8_1).f2) false _ ?side1 ?side2 ?side3 ?side4 A10.out).mono ?_
     (case side1 => repeat (first | exact (Kd.C_below HR207_2.out HB.out) | (with_reducible refine Kd.C_alloc ?_ _) | (with_reducible refine Kd.C_drewN ?_ _) | (with_reducible refine Kd.C_drew ?_)))
     (case side2 => exact HC207_2.out)
     (case side3 => repeat (first | exact (Kd.C_below HR208_2.out HB.out) | (with_reducible refine Kd.C_alloc ?_ _) | (with_reducible refine Kd.C_drewN ?_ _) | (with_reducible refine Kd.C_drew ?_)))
     (case side4 => exact HC208_2.out)
     rintro e w' ⟨rfl, ⟨nd, rfl⟩⟩
     refine ⟨_, rfl, ?_⟩
     refine hK.out _ _ ⟨((HB.out.cell (World.block_lt_of_cell? w _ hw201_0)).trans hw201_0), ((HB.out.cell (World.block_lt_of_cell? w _ hw201_1)).trans hw201_1), ((HB.out.cell (World.block_lt_of_cell? w _ hw201_2)).trans hw201_2), ((HB.out.cell (World.block_lt_of_cell? w _ hw201_3)).trans hw201_3), ((HB.out.cell (World.block_lt_of_cell? w _ hw202_0)).trans hw202_0), ((HB.out.cell (World.block_lt_of_cell? w _ hw202_1)).trans hw202_1), ((HB.out.cell (World.block_lt_of_cell? w _ hw202_2)).trans hw202_2), ((HB.out.cell (World.block_lt_of_cell? w _ hw202_3)).trans hw202_3), ((HB.out.cell (World.block_lt_of_cell? w _ hw203_0)).trans hw203_0), ((HB.out.cell (World.block_lt_of_cell? w _ hw203_1)).trans hw203_1), ((HB.out.cell (World.block_lt_of_cell? w _ hw203_2)).trans hw203_2), ((HB.out.cell (World.block_lt_of_cell? w _ hw203_3)).trans hw203_3), ((HB.out.cell (World.block_lt_of_cell? w _ hw204_0)).trans hw204_0), ((HB.out.cell (World.block_lt_of_cell? w _ hw204_1)).trans hw204_1), ((HB.out.cell (World.block_lt_of_cell? w _ hw204_2)).trans hw204_2), ((HB.out.cell (World.block_lt_of_cell? w _ hw204_3)).trans hw204_3), ((HB.out.cell (World.block_lt_of_cell? w _ hw205_0)).trans hw205_0), ((HB.out.cell (World.block_lt_of_cell? w _ hw205_1)).trans hw205_1), ((HB.out.cell (World.block_lt_of_cell? w _ hw205_2)).trans hw205_2), ((HB.out.cell (World.block_lt_of_cell? w _ hw205_3)).trans hw205_3), ((HB.out.cell (World.block_lt_of_cell? w _ hw206_0)).trans hw206_0), ((HB.out.cell (World.block_lt_of_cell? w _ hw206_1)).trans hw206_1), ((HB.out.cell (World.block_lt_of_cell? w _ hw206_2)).trans hw206_2), ((HB.out.cell (World.block_lt_of_cell? w _ hw206_3)).trans hw206_3), ((HB.out.cell (World.block_lt_of_cell? w _ hw207_0)).trans hw207_0), ((HB.out.cell (World.block_lt_of_cell? w _ hw207_1)).trans hw207_1), ((HB.out.cell (World.block_lt_of_cell? w _ hw207_2)).trans hw207_2), ((HB.out.cell (World.block_lt_of_cell? w _ hw207_3)).trans hw207_3), ((HB.out.cell (World.block_lt_of_cell? w _ hw208_0)).trans hw208_0), ((HB.out.cell (World.block_lt_of_cell? w _ hw208_1)).trans hw208_1), ((HB.out.cell (World.block_lt_of_cell? w _ hw208_2)).trans hw208_2), ((HB.out.cell (World.block_lt_of_cell? w _ hw208_3)).trans hw208_3)⟩ (fun hHeld => ?_)
     clear hK K
     refine norm_ (a' := ?_) ?_ ?_
     rotate_left
     · show Act.put _ (some 59) _ = _
       simp only [Act.put, List.setIfInBounds_toArray, List.set_cons_zero, List.set_cons_succ, i64_w, i32_w]
       rfl
     refine pure_ (i := 49) (N := some 60) (v := ?_) (a' := ?_) #[y7, y7, y7, y7, y7, y7, y7, y7, y7, y7, y7, y7, y7, y7, y7, y7, y7, y7, y7, y7, y7, y7, y7, y7, y7, y7, y7, y7, y7, y7, y7, y7, y7, y7, y7, y7, y7, y7, y7, y7, y7, y7, y7, y7, y7, y7, y7, y7, y7, y7, n7] rfl rfl (any_of HT_.out (by kernel_rfl)) (fun _ _ _ h => h) (Or.inl ⟨by rfl, ?_⟩) ?_ ?_
     rotate_left
     · intro w'
       go_simp
       with_reducible rfl
     rotate_left
     · simp only [Act.put, List.setIfInBounds_toArray, List.set_cons_zero, List.set_cons_succ, i64_w, i32_w]
       rfl
     refine pure_ (i := 50) (N := some 61) (v := ?_) (a' := ?_) #[y7, y7, y7, y7, y7, y7, y7, y7, y7, y7, y7, y7, y7, y7, y7, y7, y7, y7, y7, y7, y7, y7, y7, y7, y7, y7, y7, y7, y7, y7, y7, y7, y7, y7, y7, y7, y7, y7, y7, y7, y7, y7, y7, y7, y7, y7, y7, y7, y7, y7, y7] rfl rfl (any_of HT_.out (by kernel_rfl)) (fun _ _ _ h => h) (Or.inl ⟨by rfl, ?_⟩) ?_ ?_
     rotate_left
     · intro w'
       go_simp
       with_reducible rfl
     rotate_left
     · simp only [Act.put, List.setIfInBounds_toArray, List.set_cons_zero, List.set_cons_succ, i64_w, i32_w]
       rfl
     refine done_ (done_of HT_.out (by kernel_rfl)) ?_
     try go_wp2
     go_ret
     exact ⟨by first | rfl | (simp [errW_none, errW_some] <;> rfl) | (simp [*, errW_none, errW_some] <;> rfl), by repeat (with_reducible first | exact HB.out | apply below_alloc | apply pw_below_drewN | apply below_drew1)⟩
   subst c11
   have H1 : (contangolaw39_kept.l0 k1 l0 l1 (l0.length : Int) (wrap64 (x8_1 + 1))) = some r := by rw [if_pos rfl] at H; exact H
   clear H
   have H := H1
   clear H1
   have H' := Aside0.mk H
   clear H
   try go_wp2
   have n0_ := Aside0.mk (below_drew1 HB.out)
   clear HB
   have HB := n0_
   clear n0_
   have p201 : 0 ≤ (x8_1 : Int) := of_decide_eq_true (by first | (with_reducible assumption) | assumption)
   have q201 : x8_1 < (l0.length : Int) := of_decide_eq_true (by first | (with_reducible assumption) | assumption)
   obtain ⟨ad201, A201_2, c201_2, e201, hx201_0, hx201_1, hx201_2, hx201_3, hl201_2, hi201_2⟩ := at_T49 HR0.out x8_1 p201 q201
   have hw201_3 := hx201_3
   have hw201_2 := hx201_2
   have hw201_1 := hx201_1
   have hw201_0 := hx201_0
   cases e201
   replace hx201_0 := (HB.out.cell (World.block_lt_of_cell? w _ hx201_0)).trans hx201_0
   replace hx201_1 := (HB.out.cell (World.block_lt_of_cell? w _ hx201_1)).trans hx201_1
   replace hx201_2 := (HB.out.cell (World.block_lt_of_cell? w _ hx201_2)).trans hx201_2
   replace hx201_3 := (HB.out.cell (World.block_lt_of_cell? w _ hx201_3)).trans hx201_3
   have HR201_2 := Aside0.mk hi201_2
   have HC201_2 := Aside0.mk hl201_2
   clear hi201_2 hl201_2
   replace p201 := eq_true p201
   replace q201 := eq_true q201
   have p202 : 0 ≤ (x8_1 : Int) := of_decide_eq_true (by first | (with_reducible assumption) | assumption)
   have q202 : x8_1 < (l1.length : Int) := of_decide_eq_true (by first | (with_reducible assumption) | assumption)
   obtain ⟨ad202, A202_2, c202_2, e202, hx202_0, hx202_1, hx202_2, hx202_3, hl202_2, hi202_2⟩ := at_T49 HR1.out x8_1 p202 q202
   have hw202_3 := hx202_3
   have hw202_2 := hx202_2
   have hw202_1 := hx202_1
   have hw202_0 := hx202_0
   cases e202
   replace hx202_0 := (HB.out.cell (World.block_lt_of_cell? w _ hx202_0)).trans hx202_0
   replace hx202_1 := (HB.out.cell (World.block_lt_of_cell? w _ hx202_1)).trans hx202_1
   replace hx202_2 := (HB.out.cell (World.block_lt_of_cell? w _ hx202_2)).trans hx202_2
   replace hx202_3 := (HB.out.cell (World.block_lt_of_cell? w _ hx202_3)).trans hx202_3
   have HR202_2 := Aside0.mk hi202_2
   have HC202_2 := Aside0.mk hl202_2
   clear hi202_2 hl202_2
   replace p202 := eq_true p202
   replace q202 := eq_true q202
   have p203 : 0 ≤ (x8_1 : Int) := of_decide_eq_true (by first | (with_reducible assumption) | assumption)
   have q203 : x8_1 < (l0.length : Int) := of_decide_eq_true (by first | (with_reducible assumption) | assumption)
   obtain ⟨ad203, A203_2, c203_2, e203, hx203_0, hx203_1, hx203_2, hx203_3, hl203_2, hi203_2⟩ := at_T49 HR0.out x8_1 p203 q203
   have hw203_3 := hx203_3
   have hw203_2 := hx203_2
   have hw203_1 := hx203_1
   have hw203_0 := hx203_0
   obtain rfl : ad201 = ad203 := (by injection e203)
   replace hx203_0 := (HB.out.cell (World.block_lt_of_cell? w _ hx203_0)).trans hx203_0
   replace hx203_1 := (HB.out.cell (World.block_lt_of_cell? w _ hx203_1)).trans hx203_1
   replace hx203_2 := (HB.out.cell (World.block_lt_of_cell? w _ hx203_2)).trans hx203_2
   replace hx203_3 := (HB.out.cell (World.block_lt_of_cell? w _ hx203_3)).trans hx203_3
   have HR203_2 := Aside0.mk hi203_2
   have HC203_2 := Aside0.mk hl203_2
   clear hi203_2 hl203_2
   replace p203 := eq_true p203
   replace q203 := eq_true q203
   have ea_ := Option.some.inj (hx201_2.symm.trans hx203_2)
   injection ea_ with ea_ en_ ec_
   subst ea_
   subst ec_
   clear en_
   have p204 : 0 ≤ (x8_1 : Int) := of_decide_eq_true (by first | (with_reducible assumption) | assumption)
   have q204 : x8_1 < (l1.length : Int) := of_decide_eq_true (by first | (with_reducible assumption) | assumption)
   obtain ⟨ad204, A204_2, c204_2, e204, hx204_0, hx204_1, hx204_2, hx204_3, hl204_2, hi204_2⟩ := at_T49 HR1.out x8_1 p204 q204
   have hw204_3 := hx204_3
   have hw204_2 := hx204_2
   have hw204_1 := hx204_1
   have hw204_0 := hx204_0
   obtain rfl : ad202 = ad204 := (by injection e204)
   replace hx204_0 := (HB.out.cell (World.block_lt_of_cell? w _ hx204_0)).trans hx204_0
   replace hx204_1 := (HB.out.cell (World.block_lt_of_cell? w _ hx204_1)).trans hx204_1
   replace hx204_2 := (HB.out.cell (World.block_lt_of_cell? w _ hx204_2)).trans hx204_2
   replace hx204_3 := (HB.out.cell (World.block_lt_of_cell? w _ hx204_3)).trans hx204_3
   have HR204_2 := Aside0.mk hi204_2
   have HC204_2 := Aside0.mk hl204_2
   clear hi204_2 hl204_2
   replace p204 := eq_true p204
   replace q204 := eq_true q204
   have ea_ := Option.some.inj (hx202_2.symm.trans hx204_2)
   injection ea_ with ea_ en_ ec_
   subst ea_
   subst ec_
   clear en_
   have p205 : 0 ≤ (x8_1 : Int) := of_decide_eq_true (by first | (with_reducible assumption) | assumption)
   have q205 : x8_1 < (l0.length : Int) := of_decide_eq_true (by first | (with_reducible assumption) | assumption)
   obtain ⟨ad205, A205_2, c205_2, e205, hx205_0, hx205_1, hx205_2, hx205_3, hl205_2, hi205_2⟩ := at_T49 HR0.out x8_1 p205 q205
   have hw205_3 := hx205_3
   have hw205_2 := hx205_2
   have hw205_1 := hx205_1
   have hw205_0 := hx205_0
   obtain rfl : ad201 = ad205 := (by injection e205)
   replace hx205_0 := (HB.out.cell (World.block_lt_of_cell? w _ hx205_0)).trans hx205_0
   replace hx205_1 := (HB.out.cell (World.block_lt_of_cell? w _ hx205_1)).trans hx205_1
   replace hx205_2 := (HB.out.cell (World.block_lt_of_cell? w _ hx205_2)).trans hx205_2
   replace hx205_3 := (HB.out.cell (World.block_lt_of_cell? w _ hx205_3)).trans hx205_3
   have HR205_2 := Aside0.mk hi205_2
   have HC205_2 := Aside0.mk hl205_2
   clear hi205_2 hl205_2
   replace p205 := eq_true p205
   replace q205 := eq_true q205
   have ea_ := Option.some.inj (hx201_2.symm.trans hx205_2)
   injection ea_ with ea_ en_ ec_
   subst ea_
   subst ec_
   clear en_
   have p206 : 0 ≤ (x8_1 : Int) := of_decide_eq_true (by first | (with_reducible assumption) | assumption)
   have q206 : x8_1 < (l1.length : Int) := of_decide_eq_true (by first | (with_reducible assumption) | assumption)
   obtain ⟨ad206, A206_2, c206_2, e206, hx206_0, hx206_1, hx206_2, hx206_3, hl206_2, hi206_2⟩ := at_T49 HR1.out x8_1 p206 q206
   have hw206_3 := hx206_3
   have hw206_2 := hx206_2
   have hw206_1 := hx206_1
   have hw206_0 := hx206_0
   obtain rfl : ad202 = ad206 := (by injection e206)
   replace hx206_0 := (HB.out.cell (World.block_lt_of_cell? w _ hx206_0)).trans hx206_0
   replace hx206_1 := (HB.out.cell (World.block_lt_of_cell? w _ hx206_1)).trans hx206_1
   replace hx206_2 := (HB.out.cell (World.block_lt_of_cell? w _ hx206_2)).trans hx206_2
   replace hx206_3 := (HB.out.cell (World.block_lt_of_cell? w _ hx206_3)).trans hx206_3
   have HR206_2 := Aside0.mk hi206_2
   have HC206_2 := Aside0.mk hl206_2
   clear hi206_2 hl206_2
   replace p206 := eq_true p206
   replace q206 := eq_true q206
   have ea_ := Option.some.inj (hx202_2.symm.trans hx206_2)
   injection ea_ with ea_ en_ ec_
   subst ea_
   subst ec_
   clear en_
   have p207 : 0 ≤ (x8_1 : Int) := of_decide_eq_true (by first | (with_reducible assumption) | assumption)
   have q207 : x8_1 < (l0.length : Int) := of_decide_eq_true (by first | (with_reducible assumption) | assumption)
   obtain ⟨ad207, A207_2, c207_2, e207, hx207_0, hx207_1, hx207_2, hx207_3, hl207_2, hi207_2⟩ := at_T49 HR0.out x8_1 p207 q207
   have hw207_3 := hx207_3
   have hw207_2 := hx207_2
   have hw207_1 := hx207_1
   have hw207_0 := hx207_0
   obtain rfl : ad201 = ad207 := (by injection e207)
   replace hx207_0 := (HB.out.cell (World.block_lt_of_cell? w _ hx207_0)).trans hx207_0
   replace hx207_1 := (HB.out.cell (World.block_lt_of_cell? w _ hx207_1)).trans hx207_1
   replace hx207_2 := (HB.out.cell (World.block_lt_of_cell? w _ hx207_2)).trans hx207_2
   replace hx207_3 := (HB.out.cell (World.block_lt_of_cell? w _ hx207_3)).trans hx207_3
   have HR207_2 := Aside0.mk hi207_2
   have HC207_2 := Aside0.mk hl207_2
   clear hi207_2 hl207_2
   replace p207 := eq_true p207
   replace q207 := eq_true q207
   have ea_ := Option.some.inj (hx201_2.symm.trans hx207_2)
   injection ea_ with ea_ en_ ec_
   subst ea_
   subst ec_
   clear en_
   have p208 : 0 ≤ (x8_1 : Int) := of_decide_eq_true (by first | (with_reducible assumption) | assumption)
   have q208 : x8_1 < (l1.length : Int) := of_decide_eq_true (by first | (with_reducible assumption) | assumption)
   obtain ⟨ad208, A208_2, c208_2, e208, hx208_0, hx208_1, hx208_2, hx208_3, hl208_2, hi208_2⟩ := at_T49 HR1.out x8_1 p208 q208
   have hw208_3 := hx208_3
   have hw208_2 := hx208_2
   have hw208_1 := hx208_1
   have hw208_0 := hx208_0
   obtain rfl : ad202 = ad208 := (by injection e208)
   replace hx208_0 := (HB.out.cell (World.block_lt_of_cell? w _ hx208_0)).trans hx208_0
   replace hx208_1 := (HB.out.cell (World.block_lt_of_cell? w _ hx208_1)).trans hx208_1
   replace hx208_2 := (HB.out.cell (World.block_lt_of_cell? w _ hx208_2)).trans hx208_2
   replace hx208_3 := (HB.out.cell (World.block_lt_of_cell? w _ hx208_3)).trans hx208_3
   have HR208_2 := Aside0.mk hi208_2
   have HC208_2 := Aside0.mk hl208_2
   clear hi208_2 hl208_2
   replace p208 := eq_true p208
   replace q208 := eq_true q208
   have ea_ := Option.some.inj (hx202_2.symm.trans hx208_2)
   injection ea_ with ea_ en_ ec_
   subst ea_
   subst ec_
   clear en_
   refine start_ (n := 51) (S := fun w' => w'.cell? (ad201.add ((x8_1).toNat * 4)) = some (.string ((rd_T49 l0 x8_1).f0)) ∧ w'.cell? ⟨(ad201.add ((x8_1).toNat * 4)).block, (ad201.add ((x8_1).toNat * 4)).off + 1, none⟩ = some (.string ((rd_T49 l0 x8_1).f1)) ∧ w'.cell? ⟨(ad201.add ((x8_1).toNat * 4)).block, (ad201.add ((x8_1).toNat * 4)).off + 2, none⟩ = some (.slice A201_2 ((rd_T49 l0 x8_1).f2).length c201_2) ∧ w'.cell? ⟨(ad201.add ((x8_1).toNat * 4)).block, (ad201.add ((x8_1).toNat * 4)).off + 3, none⟩ = some (.int .i64 ((rd_T49 l0 x8_1).f3)) ∧ w'.cell? (ad202.add ((x8_1).toNat * 4)) = some (.string ((rd_T49 l1 x8_1).f0)) ∧ w'.cell? ⟨(ad202.add ((x8_1).toNat * 4)).block, (ad202.add ((x8_1).toNat * 4)).off + 1, none⟩ = some (.string ((rd_T49 l1 x8_1).f1)) ∧ w'.cell? ⟨(ad202.add ((x8_1).toNat * 4)).block, (ad202.add ((x8_1).toNat * 4)).off + 2, none⟩ = some (.slice A202_2 ((rd_T49 l1 x8_1).f2).length c202_2) ∧ w'.cell? ⟨(ad202.add ((x8_1).toNat * 4)).block, (ad202.add ((x8_1).toNat * 4)).off + 3, none⟩ = some (.int .i64 ((rd_T49 l1 x8_1).f3)) ∧ w'.cell? (ad201.add ((x8_1).toNat * 4)) = some (.string ((rd_T49 l0 x8_1).f0)) ∧ w'.cell? ⟨(ad201.add ((x8_1).toNat * 4)).block, (ad201.add ((x8_1).toNat * 4)).off + 1, none⟩ = some (.string ((rd_T49 l0 x8_1).f1)) ∧ w'.cell? ⟨(ad201.add ((x8_1).toNat * 4)).block, (ad201.add ((x8_1).toNat * 4)).off + 2, none⟩ = some (.slice A201_2 ((rd_T49 l0 x8_1).f2).length c201_2) ∧ w'.cell? ⟨(ad201.add ((x8_1).toNat * 4)).block, (ad201.add ((x8_1).toNat * 4)).off + 3, none⟩ = some (.int .i64 ((rd_T49 l0 x8_1).f3)) ∧ w'.cell? (ad202.add ((x8_1).toNat * 4)) = some (.string ((rd_T49 l1 x8_1).f0)) ∧ w'.cell? ⟨(ad202.add ((x8_1).toNat * 4)).block, (ad202.add ((x8_1).toNat * 4)).off + 1, none⟩ = some (.string ((rd_T49 l1 x8_1).f1)) ∧ w'.cell? ⟨(ad202.add ((x8_1).toNat * 4)).block, (ad202.add ((x8_1).toNat * 4)).off + 2, none⟩ = some (.slice A202_2 ((rd_T49 l1 x8_1).f2).length c202_2) ∧ w'.cell? ⟨(ad202.add ((x8_1).toNat * 4)).block, (ad202.add ((x8_1).toNat * 4)).off + 3, none⟩ = some (.int .i64 ((rd_T49 l1 x8_1).f3)) ∧ w'.cell? (ad201.add ((x8_1).toNat * 4)) = some (.string ((rd_T49 l0 x8_1).f0)) ∧ w'.cell? ⟨(ad201.add ((x8_1).toNat * 4)).block, (ad201.add ((x8_1).toNat * 4)).off + 1, none⟩ = some (.string ((rd_T49 l0 x8_1).f1)) ∧ w'.cell? ⟨(ad201.add ((x8_1).toNat * 4)).block, (ad201.add ((x8_1).toNat * 4)).off + 2, none⟩ = some (.slice A201_2 ((rd_T49 l0 x8_1).f2).length c201_2) ∧ w'.cell? ⟨(ad201.add ((x8_1).toNat * 4)).block, (ad201.add ((x8_1).toNat * 4)).off + 3, none⟩ = some (.int .i64 ((rd_T49 l0 x8_1).f3)) ∧ w'.cell? (ad202.add ((x8_1).toNat * 4)) = some (.string ((rd_T49 l1 x8_1).f0)) ∧ w'.cell? ⟨(ad202.add ((x8_1).toNat * 4)).block, (ad202.add ((x8_1).toNat * 4)).off + 1, none⟩ = some (.string ((rd_T49 l1 x8_1).f1)) ∧ w'.cell? ⟨(ad202.add ((x8_1).toNat * 4)).block, (ad202.add ((x8_1).toNat * 4)).off + 2, none⟩ = some (.slice A202_2 ((rd_T49 l1 x8_1).f2).length c202_2) ∧ w'.cell? ⟨(ad202.add ((x8_1).toNat * 4)).block, (ad202.add ((x8_1).toNat * 4)).off + 3, none⟩ = some (.int .i64 ((rd_T49 l1 x8_1).f3)) ∧ w'.cell? (ad201.add ((x8_1).toNat * 4)) = some (.string ((rd_T49 l0 x8_1).f0)) ∧ w'.cell? ⟨(ad201.add ((x8_1).toNat * 4)).block, (ad201.add ((x8_1).toNat * 4)).off + 1, none⟩ = some (.string ((rd_T49 l0 x8_1).f1)) ∧ w'.cell? ⟨(ad201.add ((x8_1).toNat * 4)).block, (ad201.add ((x8_1).toNat * 4)).off + 2, none⟩ = some (.slice A201_2 ((rd_T49 l0 x8_1).f2).length c201_2) ∧ w'.cell? ⟨(ad201.add ((x8_1).toNat * 4)).block, (ad201.add ((x8_1).toNat * 4)).off + 3, none⟩ = some (.int .i64 ((rd_T49 l0 x8_1).f3)) ∧ w'.cell? (ad202.add ((x8_1).toNat * 4)) = some (.string ((rd_T49 l1 x8_1).f0)) ∧ w'.cell? ⟨(ad202.add ((x8_1).toNat * 4)).block, (ad202.add ((x8_1).toNat * 4)).off + 1, none⟩ = some (.string ((rd_T49 l1 x8_1).f1)) ∧ w'.cell? ⟨(ad202.add ((x8_1).toNat * 4)).block, (ad202.add ((x8_1).toNat * 4)).off + 2, none⟩ = some (.slice A202_2 ((rd_T49 l1 x8_1).f2).length c202_2) ∧ w'.cell? ⟨(ad202.add ((x8_1).toNat * 4)).block, (ad202.add ((x8_1).toNat * 4)).off + 3, none⟩ = some (.int .i64 ((rd_T49 l1 x8_1).f3))) (ds := []) #[n7, n7, n7, n7, n7, n7, n7, n7, n7, n7, n7, n7, n7, n7, n7, n7, n7, n7, n7, n7, n7, n7, n7, n7, n7, n7, n7, n7, n7, n7, n7, n7, n7, n7, n7, n7, n7, n7, n7, n7, n7, n7, n7, n7, n7, n7, n7, n7, n7, n7, n7] (by kernel_rfl) rfl rfl ⟨((HB.out.cell (World.block_lt_of_cell? w _ hw201_0)).trans hw201_0), ((HB.out.cell (World.block_lt_of_cell? w _ hw201_1)).trans hw201_1), ((HB.out.cell (World.block_lt_of_cell? w _ hw201_2)).trans hw201_2), ((HB.out.cell (World.block_lt_of_cell? w _ hw201_3)).trans hw201_3), ((HB.out.cell (World.block_lt_of_cell? w _ hw202_0)).trans hw202_0), ((HB.out.cell (World.block_lt_of_cell? w _ hw202_1)).trans hw202_1), ((HB.out.cell (World.block_lt_of_cell? w _ hw202_2)).trans hw202_2), ((HB.out.cell (World.block_lt_of_cell? w _ hw202_3)).trans hw202_3), ((HB.out.cell (World.block_lt_of_cell? w _ hw203_0)).trans hw203_0), ((HB.out.cell (World.block_lt_of_cell? w _ hw203_1)).trans hw203_1), ((HB.out.cell (World.block_lt_of_cell? w _ hw203_2)).trans hw203_2), ((HB.out.cell (World.block_lt_of_cell? w _ hw203_3)).trans hw203_3), ((HB.out.cell (World.block_lt_of_cell? w _ hw204_0)).trans hw204_0), ((HB.out.cell (World.block_lt_of_cell? w _ hw204_1)).trans hw204_1), ((HB.out.cell (World.block_lt_of_cell? w _ hw204_2)).trans hw204_2), ((HB.out.cell (World.block_lt_of_cell? w _ hw204_3)).trans hw204_3), ((HB.out.cell (World.block_lt_of_cell? w _ hw205_0)).trans hw205_0), ((HB.out.cell (World.block_lt_of_cell? w _ hw205_1)).trans hw205_1), ((HB.out.cell (World.block_lt_of_cell? w _ hw205_2)).trans hw205_2), ((HB.out.cell (World.block_lt_of_cell? w _ hw205_3)).trans hw205_3), ((HB.out.cell (World.block_lt_of_cell? w _ hw206_0)).trans hw206_0), ((HB.out.cell (World.block_lt_of_cell? w _ hw206_1)).trans hw206_1), ((HB.out.cell (World.block_lt_of_cell? w _ hw206_2)).trans hw206_2), ((HB.out.cell (World.block_lt_of_cell? w _ hw206_3)).trans hw206_3), ((HB.out.cell (World.block_lt_of_cell? w _ hw207_0)).trans hw207_0), ((HB.out.cell (World.block_lt_of_cell? w _ hw207_1)).trans hw207_1), ((HB.out.cell (World.block_lt_of_cell? w _ hw207_2)).trans hw207_2), ((HB.out.cell (World.block_lt_of_cell? w _ hw207_3)).trans hw207_3), ((HB.out.cell (World.block_lt_of_cell? w _ hw208_0)).trans hw208_0), ((HB.out.cell (World.block_lt_of_cell? w _ hw208_1)).trans hw208_1), ((HB.out.cell (World.block_lt_of_cell? w _ hw208_2)).trans hw208_2), ((HB.out.cell (World.block_lt_of_cell? w _ hw208_3)).trans hw208_3)⟩ (fun hHeld => ?_); refine with_tabW contangolaw39_kept.tab4 contangolaw39_kept.bits4 (fun HT_ HW_ => ?_)
   generalize wr.drew = w12 at HB HR201_2 HR202_2 HR203_2 HR204_2 HR205_2 HR206_2 HR207_2 HR208_2 hx201_0 hx201_1 hx201_2 hx201_3 hx202_0 hx202_1 hx202_2 hx202_3 hx203_0 hx203_1 hx203_2 hx203_3 hx204_0 hx204_1 hx204_2 hx204_3 hx205_0 hx205_1 hx205_2 hx205_3 hx206_0 hx206_1 hx206_2 hx206_3 hx207_0 hx207_1 hx207_2 hx207_3 hx208_0 hx208_1 hx208_2 hx208_3 hHeld ⊢
   refine pure_ (i := 0) (N := some 11) (v := ?_) (a' := ?_) #[y7, n7, n7, n7, n7, n7, n7, n7, n7, n7, n7, n7, n7, n7, n7, n7, n7, n7, n7, n7, n7, n7, n7, n7, n7, n7, n7, n7, n7, n7, n7, n7, n7, n7, n7, n7, n7, n7, n7, n7, n7, n7, n7, n7, n7, n7, n7, n7, n7, n7, n7] rfl rfl (any_of HT_.out (by kernel_rfl)) (fun _ _ _ h => h) (Or.inl ⟨by rfl, ?_⟩) ?_ ?_
   rotate_left
   · intro w'
     go_simp
     with_reducible rfl
   rotate_left
   · simp only [Act.put, List.setIfInBounds_toArray, List.set_cons_zero, List.set_cons_succ, i64_w, i32_w]
     rfl
   refine pure_ (i := 1) (N := some 12) (v := ?_) (a' := ?_) #[y7, y7, n7, n7, n7, n7, n7, n7, n7, n7, n7, n7, n7, n7, n7, n7, n7, n7, n7, n7, n7, n7, n7, n7, n7, n7, n7, n7, n7, n7, n7, n7, n7, n7, n7, n7, n7, n7, n7, n7, n7, n7, n7, n7, n7, n7, n7, n7, n7, n7, n7] rfl rfl (any_of HT_.out (by kernel_rfl)) (fun _ _ _ h => h) (Or.inl ⟨by rfl, ?_⟩) ?_ ?_
   rotate_left
   · intro w'
     go_simp
     with_reducible rfl
   rotate_left
   · simp only [Act.put, List.setIfInBounds_toArray, List.set_cons_zero, List.set_cons_succ, i64_w, i32_w]
     rfl
   refine pure_ (i := 2) (N := some 13) (v := ?_) (a' := ?_) #[y7, y7, y7, n7, n7, n7, n7, n7, n7, n7, n7, n7, n7, n7, n7, n7, n7, n7, n7, n7, n7, n7, n7, n7, n7, n7, n7, n7, n7, n7, n7, n7, n7, n7, n7, n7, n7, n7, n7, n7, n7, n7, n7, n7, n7, n7, n7, n7, n7, n7, n7] rfl rfl (any_of HT_.out (by kernel_rfl)) (fun _ _ _ h => h) (Or.inl ⟨by rfl, ?_⟩) ?_ ?_
   rotate_left
   · intro w'
     go_simp
     with_reducible rfl
   rotate_left
   · simp only [Act.put, List.setIfInBounds_toArray, List.set_cons_zero, List.set_cons_succ, i64_w, i32_w]
     rfl
   refine pure_ (i := 3) (N := some 14) (v := ?_) (a' := ?_) #[y7, y7, y7, y7, n7, n7, n7, n7, n7, n7, n7, n7, n7, n7, n7, n7, n7, n7, n7, n7, n7, n7, n7, n7, n7, n7, n7, n7, n7, n7, n7, n7, n7, n7, n7, n7, n7, n7, n7, n7, n7, n7, n7, n7, n7, n7, n7, n7, n7, n7, n7] rfl rfl (any_of HT_.out (by kernel_rfl)) (fun _ _ _ h => h) (Or.inl ⟨by rfl, ?_⟩) ?_ ?_
   rotate_left
   · intro w'
     go_simp
     with_reducible rfl
   rotate_left
   · simp only [Act.put, List.setIfInBounds_toArray, List.set_cons_zero, List.set_cons_succ, i64_w, i32_w]
     rfl
   refine pure_ (i := 5) (N := some 16) (v := ?_) (a' := ?_) #[y7, y7, y7, y7, n7, y7, n7, n7, n7, n7, n7, n7, n7, n7, n7, n7, n7, n7, n7, n7, n7, n7, n7, n7, n7, n7, n7, n7, n7, n7, n7, n7, n7, n7, n7, n7, n7, n7, n7, n7, n7, n7, n7, n7, n7, n7, n7, n7, n7, n7, n7] rfl rfl (any_of HT_.out (by kernel_rfl)) (fun _ _ _ h => h) (Or.inl ⟨by rfl, ?_⟩) ?_ ?_
   rotate_left
   · intro w'
     go_simp
     with_reducible rfl
   rotate_left
   · simp only [Act.put, List.setIfInBounds_toArray, List.set_cons_zero, List.set_cons_succ, i64_w, i32_w]
     rfl
   refine pure_ (i := 6) (N := some 17) (v := ?_) (a' := ?_) #[y7, y7, y7, y7, n7, y7, y7, n7, n7, n7, n7, n7, n7, n7, n7, n7, n7, n7, n7, n7, n7, n7, n7, n7, n7, n7, n7, n7, n7, n7, n7, n7, n7, n7, n7, n7, n7, n7, n7, n7, n7, n7, n7, n7, n7, n7, n7, n7, n7, n7, n7] rfl rfl (any_of HT_.out (by kernel_rfl)) (fun _ _ _ h => h) (Or.inl ⟨by rfl, ?_⟩) ?_ ?_
   rotate_left
   · intro w'
     go_simp
     with_reducible rfl
   rotate_left
   · simp only [Act.put, List.setIfInBounds_toArray, List.set_cons_zero, List.set_cons_succ, i64_w, i32_w]
     rfl
   refine pure_ (i := 7) (N := some 18) (v := ?_) (a' := ?_) #[y7, y7, y7, y7, n7, y7, y7, y7, n7, n7, n7, n7, n7, n7, n7, n7, n7, n7, n7, n7, n7, n7, n7, n7, n7, n7, n7, n7, n7, n7, n7, n7, n7, n7, n7, n7, n7, n7, n7, n7, n7, n7, n7, n7, n7, n7, n7, n7, n7, n7, n7] rfl rfl (any_of HT_.out (by kernel_rfl)) (fun _ _ _ h => h) (Or.inl ⟨by rfl, ?_⟩) ?_ ?_
   rotate_left
   · intro w'
     go_simp
     with_reducible rfl
   rotate_left
   · simp only [Act.put, List.setIfInBounds_toArray, List.set_cons_zero, List.set_cons_succ, i64_w, i32_w]
     rfl
   refine pure_ (i := 8) (N := some 19) (v := ?_) (a' := ?_) #[y7, y7, y7, y7, n7, y7, y7, y7, y7, n7, n7, n7, n7, n7, n7, n7, n7, n7, n7, n7, n7, n7, n7, n7, n7, n7, n7, n7, n7, n7, n7, n7, n7, n7, n7, n7, n7, n7, n7, n7, n7, n7, n7, n7, n7, n7, n7, n7, n7, n7, n7] rfl rfl (any_of HT_.out (by kernel_rfl)) (fun _ _ _ h => h) (Or.inl ⟨by rfl, ?_⟩) ?_ ?_
   rotate_left
   · intro w'
     go_simp
     with_reducible rfl
   rotate_left
   · simp only [Act.put, List.setIfInBounds_toArray, List.set_cons_zero, List.set_cons_succ, i64_w, i32_w]
     rfl
   refine take_ (i := 4) (N := some 15) (v := ?_) (a' := ?_) #[y7, y7, y7, y7, y7, y7, y7, y7, y7, n7, n7, n7, n7, n7, n7, n7, n7, n7, n7, n7, n7, n7, n7, n7, n7, n7, n7, n7, n7, n7, n7, n7, n7, n7, n7, n7, n7, n7, n7, n7, n7, n7, n7, n7, n7, n7, n7, n7, n7, n7, n7] rfl rfl (take_ofW HT_.out HW_.out (by kernel_rfl)) (fun _ _ _ h => h) (Or.inl ⟨by rfl, ?_⟩) hHeld ?_ ?_
   rotate_left
   · rintro w' ⟨s0, s1, s2, s3, s4, s5, s6, s7, s8, s9, s10, s11, s12, s13, s14, s15, s16, s17, s18, s19, s20, s21, s22, s23, s24, s25, s26, s27, s28, s29, s30, s31⟩
     go_simp
     with_reducible rfl
   rotate_left
   · simp only [Act.put, List.setIfInBounds_toArray, List.set_cons_zero, List.set_cons_succ, i64_w, i32_w]
     rfl
   refine take_ (i := 9) (N := some 20) (v := ?_) (a' := ?_) #[y7, y7, y7, y7, y7, y7, y7, y7, y7, y7, n7, n7, n7, n7, n7, n7, n7, n7, n7, n7, n7, n7, n7, n7, n7, n7, n7, n7, n7, n7, n7, n7, n7, n7, n7, n7, n7, n7, n7, n7, n7, n7, n7, n7, n7, n7, n7, n7, n7, n7, n7] rfl rfl (take_ofW HT_.out HW_.out (by kernel_rfl)) (fun _ _ _ h => h) (Or.inl ⟨by rfl, ?_⟩) hHeld ?_ ?_
   rotate_left
   · rintro w' ⟨s0, s1, s2, s3, s4, s5, s6, s7, s8, s9, s10, s11, s12, s13, s14, s15, s16, s17, s18, s19, s20, s21, s22, s23, s24, s25, s26, s27, s28, s29, s30, s31⟩
     go_simp
     with_reducible rfl
   rotate_left
   · simp only [Act.put, List.setIfInBounds_toArray, List.set_cons_zero, List.set_cons_succ, i64_w, i32_w]
     rfl
   refine pure_ (i := 10) (N := some 21) (v := ?_) (a' := ?_) #[y7, y7, y7, y7, y7, y7, y7, y7, y7, y7, y7, n7, n7, n7, n7, n7, n7, n7, n7, n7, n7, n7, n7, n7, n7, n7, n7, n7, n7, n7, n7, n7, n7, n7, n7, n7, n7, n7, n7, n7, n7, n7, n7, n7, n7, n7, n7, n7, n7, n7, n7] rfl rfl (any_of HT_.out (by kernel_rfl)) (fun _ _ _ h => h) (Or.inl ⟨by rfl, ?_⟩) ?_ ?_
   rotate_left
   · intro w'
     go_simp
     with_reducible rfl
   rotate_left
   · simp only [Act.put, List.setIfInBounds_toArray, List.set_cons_zero, List.set_cons_succ, i64_w, i32_w]
     rfl
   refine pure_ (i := 11) (N := some 22) (v := ?_) (a' := ?_) #[y7, y7, y7, y7, y7, y7, y7, y7, y7, y7, y7, y7, n7, n7, n7, n7, n7, n7, n7, n7, n7, n7, n7, n7, n7, n7, n7, n7, n7, n7, n7, n7, n7, n7, n7, n7, n7, n7, n7, n7, n7, n7, n7, n7, n7, n7, n7, n7, n7, n7, n7] rfl rfl (any_of HT_.out (by kernel_rfl)) (fun _ _ _ h => h) (Or.inl ⟨by rfl, ?_⟩) ?_ ?_
   rotate_left
   · intro w'
     go_simp
     with_reducible rfl
   rotate_left
   · simp only [Act.put, List.setIfInBounds_toArray, List.set_cons_zero, List.set_cons_succ, i64_w, i32_w]
     rfl
   refine pure_ (i := 12) (N := some 23) (v := ?_) (a' := ?_) #[y7, y7, y7, y7, y7, y7, y7, y7, y7, y7, y7, y7, y7, n7, n7, n7, n7, n7, n7, n7, n7, n7, n7, n7, n7, n7, n7, n7, n7, n7, n7, n7, n7, n7, n7, n7, n7, n7, n7, n7, n7, n7, n7, n7, n7, n7, n7, n7, n7, n7, n7] rfl rfl (any_of HT_.out (by kernel_rfl)) (fun _ _ _ h => h) (Or.inl ⟨by rfl, ?_⟩) ?_ ?_
   rotate_left
   · intro w'
     go_simp
     with_reducible rfl
   rotate_left
   · simp only [Act.put, List.setIfInBounds_toArray, List.set_cons_zero, List.set_cons_succ, i64_w, i32_w]
     rfl
   refine pure_ (i := 13) (N := some 24) (v := ?_) (a' := ?_) #[y7, y7, y7, y7, y7, y7, y7, y7, y7, y7, y7, y7, y7, y7, n7, n7, n7, n7, n7, n7, n7, n7, n7, n7, n7, n7, n7, n7, n7, n7, n7, n7, n7, n7, n7, n7, n7, n7, n7, n7, n7, n7, n7, n7, n7, n7, n7, n7, n7, n7, n7] rfl rfl (any_of HT_.out (by kernel_rfl)) (fun _ _ _ h => h) (Or.inl ⟨by rfl, ?_⟩) ?_ ?_
   rotate_left
   · intro w'
     go_simp
     with_reducible rfl
   rotate_left
   · simp only [Act.put, List.setIfInBounds_toArray, List.set_cons_zero, List.set_cons_succ, i64_w, i32_w]
     rfl
   refine pure_ (i := 14) (N := some 25) (v := ?_) (a' := ?_) #[y7, y7, y7, y7, y7, y7, y7, y7, y7, y7, y7, y7, y7, y7, y7, n7, n7, n7, n7, n7, n7, n7, n7, n7, n7, n7, n7, n7, n7, n7, n7, n7, n7, n7, n7, n7, n7, n7, n7, n7, n7, n7, n7, n7, n7, n7, n7, n7, n7, n7, n7] rfl rfl (any_of HT_.out (by kernel_rfl)) (fun _ _ _ h => h) (Or.inl ⟨by rfl, ?_⟩) ?_ ?_
   rotate_left
   · intro w'
     go_simp
     with_reducible rfl
   rotate_left
   · simp only [Act.put, List.setIfInBounds_toArray, List.set_cons_zero, List.set_cons_succ, i64_w, i32_w]
     rfl
   refine pure_ (i := 15) (N := some 26) (v := ?_) (a' := ?_) #[y7, y7, y7, y7, y7, y7, y7, y7, y7, y7, y7, y7, y7, y7, y7, y7, n7, n7, n7, n7, n7, n7, n7, n7, n7, n7, n7, n7, n7, n7, n7, n7, n7, n7, n7, n7, n7, n7, n7, n7, n7, n7, n7, n7, n7, n7, n7, n7, n7, n7, n7] rfl rfl (any_of HT_.out (by kernel_rfl)) (fun _ _ _ h => h) (Or.inl ⟨by rfl, ?_⟩) ?_ ?_
   rotate_left
   · intro w'
     go_simp
     with_reducible rfl
   rotate_left
   · simp only [Act.put, List.setIfInBounds_toArray, List.set_cons_zero, List.set_cons_succ, i64_w, i32_w]
     rfl
   refine pure_ (i := 17) (N := some 28) (v := ?_) (a' := ?_) #[y7, y7, y7, y7, y7, y7, y7, y7, y7, y7, y7, y7, y7, y7, y7, y7, n7, y7, n7, n7, n7, n7, n7, n7, n7, n7, n7, n7, n7, n7, n7, n7, n7, n7, n7, n7, n7, n7, n7, n7, n7, n7, n7, n7, n7, n7, n7, n7, n7, n7, n7] rfl rfl (any_of HT_.out (by kernel_rfl)) (fun _ _ _ h => h) (Or.inl ⟨by rfl, ?_⟩) ?_ ?_
   rotate_left
   · intro w'
     go_simp
     with_reducible rfl
   rotate_left
   · simp only [Act.put, List.setIfInBounds_toArray, List.set_cons_zero, List.set_cons_succ, i64_w, i32_w]
     rfl
   refine pure_ (i := 18) (N := some 29) (v := ?_) (a' := ?_) #[y7, y7, y7, y7, y7, y7, y7, y7, y7, y7, y7, y7, y7, y7, y7, y7, n7, y7, y7, n7, n7, n7, n7, n7, n7, n7, n7, n7, n7, n7, n7, n7, n7, n7, n7, n7, n7, n7, n7, n7, n7, n7, n7, n7, n7, n7, n7, n7, n7, n7, n7] rfl rfl (any_of HT_.out (by kernel_rfl)) (fun _ _ _ h => h) (Or.inl ⟨by rfl, ?_⟩) ?_ ?_
   rotate_left
   · intro w'
     go_simp
     with_reducible rfl
   rotate_left
   · simp only [Act.put, List.setIfInBounds_toArray, List.set_cons_zero, List.set_cons_succ, i64_w, i32_w]
     rfl
   refine pure_ (i := 19) (N := some 30) (v := ?_) (a' := ?_) #[y7, y7, y7, y7, y7, y7, y7, y7, y7, y7, y7, y7, y7, y7, y7, y7, n7, y7, y7, y7, n7, n7, n7, n7, n7, n7, n7, n7, n7, n7, n7, n7, n7, n7, n7, n7, n7, n7, n7, n7, n7, n7, n7, n7, n7, n7, n7, n7, n7, n7, n7] rfl rfl (any_of HT_.out (by kernel_rfl)) (fun _ _ _ h => h) (Or.inl ⟨by rfl, ?_⟩) ?_ ?_
   rotate_left
   · intro w'
     go_simp
     with_reducible rfl
   rotate_left
   · simp only [Act.put, List.setIfInBounds_toArray, List.set_cons_zero, List.set_cons_succ, i64_w, i32_w]
     rfl
   refine pure_ (i := 20) (N := some 31) (v := ?_) (a' := ?_) #[y7, y7, y7, y7, y7, y7, y7, y7, y7, y7, y7, y7, y7, y7, y7, y7, n7, y7, y7, y7, y7, n7, n7, n7, n7, n7, n7, n7, n7, n7, n7, n7, n7, n7, n7, n7, n7, n7, n7, n7, n7, n7, n7, n7, n7, n7, n7, n7, n7, n7, n7] rfl rfl (any_of HT_.out (by kernel_rfl)) (fun _ _ _ h => h) (Or.inl ⟨by rfl, ?_⟩) ?_ ?_
   rotate_left
   · intro w'
     go_simp
     with_reducible rfl
   rotate_left
   · simp only [Act.put, List.setIfInBounds_toArray, List.set_cons_zero, List.set_cons_succ, i64_w, i32_w]
     rfl
   refine take_ (i := 16) (N := some 27) (v := ?_) (a' := ?_) #[y7, y7, y7, y7, y7, y7, y7, y7, y7, y7, y7, y7, y7, y7, y7, y7, y7, y7, y7, y7, y7, n7, n7, n7, n7, n7, n7, n7, n7, n7, n7, n7, n7, n7, n7, n7, n7, n7, n7, n7, n7, n7, n7, n7, n7, n7, n7, n7, n7, n7, n7] rfl rfl (take_ofW HT_.out HW_.out (by kernel_rfl)) (fun _ _ _ h => h) (Or.inl ⟨by rfl, ?_⟩) hHeld ?_ ?_
   rotate_left
   · rintro w' ⟨s0, s1, s2, s3, s4, s5, s6, s7, s8, s9, s10, s11, s12, s13, s14, s15, s16, s17, s18, s19, s20, s21, s22, s23, s24, s25, s26, s27, s28, s29, s30, s31⟩
     go_simp
     with_reducible rfl
   rotate_left
   · simp only [Act.put, List.setIfInBounds_toArray, List.set_cons_zero, List.set_cons_succ, i64_w, i32_w]
     rfl
   refine take_ (i := 21) (N := some 32) (v := ?_) (a' := ?_) #[y7, y7, y7, y7, y7, y7, y7, y7, y7, y7, y7, y7, y7, y7, y7, y7, y7, y7, y7, y7, y7, y7, n7, n7, n7, n7, n7, n7, n7, n7, n7, n7, n7, n7, n7, n7, n7, n7, n7, n7, n7, n7, n7, n7, n7, n7, n7, n7, n7, n7, n7] rfl rfl (take_ofW HT_.out HW_.out (by kernel_rfl)) (fun _ _ _ h => h) (Or.inl ⟨by rfl, ?_⟩) hHeld ?_ ?_
   rotate_left
   · rintro w' ⟨s0, s1, s2, s3, s4, s5, s6, s7, s8, s9, s10, s11, s12, s13, s14, s15, s16, s17, s18, s19, s20, s21, s22, s23, s24, s25, s26, s27, s28, s29, s30, s31⟩
     go_simp
     with_reducible rfl
   rotate_left
   · simp only [Act.put, List.setIfInBounds_toArray, List.set_cons_zero, List.set_cons_succ, i64_w, i32_w]
     rfl
   refine pure_ (i := 22) (N := some 33) (v := ?_) (a' := ?_) #[y7, y7, y7, y7, y7, y7, y7, y7, y7, y7, y7, y7, y7, y7, y7, y7, y7, y7, y7, y7, y7, y7, y7, n7, n7, n7, n7, n7, n7, n7, n7, n7, n7, n7, n7, n7, n7, n7, n7, n7, n7, n7, n7, n7, n7, n7, n7, n7, n7, n7, n7] rfl rfl (any_of HT_.out (by kernel_rfl)) (fun _ _ _ h => h) (Or.inl ⟨by rfl, ?_⟩) ?_ ?_
   rotate_left
   · intro w'
     go_simp
     with_reducible rfl
   rotate_left
   · simp only [Act.put, List.setIfInBounds_toArray, List.set_cons_zero, List.set_cons_succ, i64_w, i32_w]
     rfl
   refine pure_ (i := 23) (N := some 34) (v := ?_) (a' := ?_) #[y7, y7, y7, y7, y7, y7, y7, y7, y7, y7, y7, y7, y7, y7, y7, y7, y7, y7, y7, y7, y7, y7, y7, y7, n7, n7, n7, n7, n7, n7, n7, n7, n7, n7, n7, n7, n7, n7, n7, n7, n7, n7, n7, n7, n7, n7, n7, n7, n7, n7, n7] rfl rfl (any_of HT_.out (by kernel_rfl)) (fun _ _ _ h => h) (Or.inl ⟨by rfl, ?_⟩) ?_ ?_
   rotate_left
   · intro w'
     go_simp
     with_reducible rfl
   rotate_left
   · simp only [Act.put, List.setIfInBounds_toArray, List.set_cons_zero, List.set_cons_succ, i64_w, i32_w]
     rfl
   refine pure_ (i := 24) (N := some 35) (v := ?_) (a' := ?_) #[y7, y7, y7, y7, y7, y7, y7, y7, y7, y7, y7, y7, y7, y7, y7, y7, y7, y7, y7, y7, y7, y7, y7, y7, y7, n7, n7, n7, n7, n7, n7, n7, n7, n7, n7, n7, n7, n7, n7, n7, n7, n7, n7, n7, n7, n7, n7, n7, n7, n7, n7] rfl rfl (any_of HT_.out (by kernel_rfl)) (fun _ _ _ h => h) (Or.inl ⟨by rfl, ?_⟩) ?_ ?_
   rotate_left
   · intro w'
     go_simp
     with_reducible rfl
   rotate_left
   · simp only [Act.put, List.setIfInBounds_toArray, List.set_cons_zero, List.set_cons_succ, i64_w, i32_w]
     rfl
   refine pure_ (i := 25) (N := some 36) (v := ?_) (a' := ?_) #[y7, y7, y7, y7, y7, y7, y7, y7, y7, y7, y7, y7, y7, y7, y7, y7, y7, y7, y7, y7, y7, y7, y7, y7, y7, y7, n7, n7, n7, n7, n7, n7, n7, n7, n7, n7, n7, n7, n7, n7, n7, n7, n7, n7, n7, n7, n7, n7, n7, n7, n7] rfl rfl (any_of HT_.out (by kernel_rfl)) (fun _ _ _ h => h) (Or.inl ⟨by rfl, ?_⟩) ?_ ?_
   rotate_left
   · intro w'
     go_simp
     with_reducible rfl
   rotate_left
   · simp only [Act.put, List.setIfInBounds_toArray, List.set_cons_zero, List.set_cons_succ, i64_w, i32_w]
     rfl
   refine pure_ (i := 26) (N := some 37) (v := ?_) (a' := ?_) #[y7, y7, y7, y7, y7, y7, y7, y7, y7, y7, y7, y7, y7, y7, y7, y7, y7, y7, y7, y7, y7, y7, y7, y7, y7, y7, y7, n7, n7, n7, n7, n7, n7, n7, n7, n7, n7, n7, n7, n7, n7, n7, n7, n7, n7, n7, n7, n7, n7, n7, n7] rfl rfl (any_of HT_.out (by kernel_rfl)) (fun _ _ _ h => h) (Or.inl ⟨by rfl, ?_⟩) ?_ ?_
   rotate_left
   · intro w'
     go_simp
     with_reducible rfl
   rotate_left
   · simp only [Act.put, List.setIfInBounds_toArray, List.set_cons_zero, List.set_cons_succ, i64_w, i32_w]
     rfl
   refine pure_ (i := 27) (N := some 38) (v := ?_) (a' := ?_) #[y7, y7, y7, y7, y7, y7, y7, y7, y7, y7, y7, y7, y7, y7, y7, y7, y7, y7, y7, y7, y7, y7, y7, y7, y7, y7, y7, y7, n7, n7, n7, n7, n7, n7, n7, n7, n7, n7, n7, n7, n7, n7, n7, n7, n7, n7, n7, n7, n7, n7, n7] rfl rfl (any_of HT_.out (by kernel_rfl)) (fun _ _ _ h => h) (Or.inl ⟨by rfl, ?_⟩) ?_ ?_
   rotate_left
   · intro w'
     go_simp
     with_reducible rfl
   rotate_left
   · simp only [Act.put, List.setIfInBounds_toArray, List.set_cons_zero, List.set_cons_succ, i64_w, i32_w]
     rfl
   refine pure_ (i := 28) (N := some 39) (v := ?_) (a' := ?_) #[y7, y7, y7, y7, y7, y7, y7, y7, y7, y7, y7, y7, y7, y7, y7, y7, y7, y7, y7, y7, y7, y7, y7, y7, y7, y7, y7, y7, y7, n7, n7, n7, n7, n7, n7, n7, n7, n7, n7, n7, n7, n7, n7, n7, n7, n7, n7, n7, n7, n7, n7] rfl rfl (any_of HT_.out (by kernel_rfl)) (fun _ _ _ h => h) (Or.inl ⟨by rfl, ?_⟩) ?_ ?_
   rotate_left
   · intro w'
     go_simp
     with_reducible rfl
   rotate_left
   · simp only [Act.put, List.setIfInBounds_toArray, List.set_cons_zero, List.set_cons_succ, i64_w, i32_w]
     rfl
   refine pure_ (i := 30) (N := some 41) (v := ?_) (a' := ?_) #[y7, y7, y7, y7, y7, y7, y7, y7, y7, y7, y7, y7, y7, y7, y7, y7, y7, y7, y7, y7, y7, y7, y7, y7, y7, y7, y7, y7, y7, n7, y7, n7, n7, n7, n7, n7, n7, n7, n7, n7, n7, n7, n7, n7, n7, n7, n7, n7, n7, n7, n7] rfl rfl (any_of HT_.out (by kernel_rfl)) (fun _ _ _ h => h) (Or.inl ⟨by rfl, ?_⟩) ?_ ?_
   rotate_left
   · intro w'
     go_simp
     with_reducible rfl
   rotate_left
   · simp only [Act.put, List.setIfInBounds_toArray, List.set_cons_zero, List.set_cons_succ, i64_w, i32_w]
     rfl
   refine pure_ (i := 31) (N := some 42) (v := ?_) (a' := ?_) #[y7, y7, y7, y7, y7, y7, y7, y7, y7, y7, y7, y7, y7, y7, y7, y7, y7, y7, y7, y7, y7, y7, y7, y7, y7, y7, y7, y7, y7, n7, y7, y7, n7, n7, n7, n7, n7, n7, n7, n7, n7, n7, n7, n7, n7, n7, n7, n7, n7, n7, n7] rfl rfl (any_of HT_.out (by kernel_rfl)) (fun _ _ _ h => h) (Or.inl ⟨by rfl, ?_⟩) ?_ ?_
   rotate_left
   · intro w'
     go_simp
     with_reducible rfl
   rotate_left
   · simp only [Act.put, List.setIfInBounds_toArray, List.set_cons_zero, List.set_cons_succ, i64_w, i32_w]
     rfl
   refine pure_ (i := 32) (N := some 43) (v := ?_) (a' := ?_) #[y7, y7, y7, y7, y7, y7, y7, y7, y7, y7, y7, y7, y7, y7, y7, y7, y7, y7, y7, y7, y7, y7, y7, y7, y7, y7, y7, y7, y7, n7, y7, y7, y7, n7, n7, n7, n7, n7, n7, n7, n7, n7, n7, n7, n7, n7, n7, n7, n7, n7, n7] rfl rfl (any_of HT_.out (by kernel_rfl)) (fun _ _ _ h => h) (Or.inl ⟨by rfl, ?_⟩) ?_ ?_
   rotate_left
   · intro w'
     go_simp
     with_reducible rfl
   rotate_left
   · simp only [Act.put, List.setIfInBounds_toArray, List.set_cons_zero, List.set_cons_succ, i64_w, i32_w]
     rfl
   refine pure_ (i := 33) (N := some 44) (v := ?_) (a' := ?_) #[y7, y7, y7, y7, y7, y7, y7, y7, y7, y7, y7, y7, y7, y7, y7, y7, y7, y7, y7, y7, y7, y7, y7, y7, y7, y7, y7, y7, y7, n7, y7, y7, y7, y7, n7, n7, n7, n7, n7, n7, n7, n7, n7, n7, n7, n7, n7, n7, n7, n7, n7] rfl rfl (any_of HT_.out (by kernel_rfl)) (fun _ _ _ h => h) (Or.inl ⟨by rfl, ?_⟩) ?_ ?_
   rotate_left
   · intro w'
     go_simp
     with_reducible rfl
   rotate_left
   · simp only [Act.put, List.setIfInBounds_toArray, List.set_cons_zero, List.set_cons_succ, i64_w, i32_w]
     rfl
   refine take_ (i := 29) (N := some 40) (v := ?_) (a' := ?_) #[y7, y7, y7, y7, y7, y7, y7, y7, y7, y7, y7, y7, y7, y7, y7, y7, y7, y7, y7, y7, y7, y7, y7, y7, y7, y7, y7, y7, y7, y7, y7, y7, y7, y7, n7, n7, n7, n7, n7, n7, n7, n7, n7, n7, n7, n7, n7, n7, n7, n7, n7] rfl rfl (take_ofW HT_.out HW_.out (by kernel_rfl)) (fun _ _ _ h => h) (Or.inl ⟨by rfl, ?_⟩) hHeld ?_ ?_
   rotate_left
   · rintro w' ⟨s0, s1, s2, s3, s4, s5, s6, s7, s8, s9, s10, s11, s12, s13, s14, s15, s16, s17, s18, s19, s20, s21, s22, s23, s24, s25, s26, s27, s28, s29, s30, s31⟩
     go_simp
     with_reducible rfl
   rotate_left
   · simp only [Act.put, List.setIfInBounds_toArray, List.set_cons_zero, List.set_cons_succ, i64_w, i32_w]
     rfl
   refine take_ (i := 34) (N := some 45) (v := ?_) (a' := ?_) #[y7, y7, y7, y7, y7, y7, y7, y7, y7, y7, y7, y7, y7, y7, y7, y7, y7, y7, y7, y7, y7, y7, y7, y7, y7, y7, y7, y7, y7, y7, y7, y7, y7, y7, y7, n7, n7, n7, n7, n7, n7, n7, n7, n7, n7, n7, n7, n7, n7, n7, n7] rfl rfl (take_ofW HT_.out HW_.out (by kernel_rfl)) (fun _ _ _ h => h) (Or.inl ⟨by rfl, ?_⟩) hHeld ?_ ?_
   rotate_left
   · rintro w' ⟨s0, s1, s2, s3, s4, s5, s6, s7, s8, s9, s10, s11, s12, s13, s14, s15, s16, s17, s18, s19, s20, s21, s22, s23, s24, s25, s26, s27, s28, s29, s30, s31⟩
     go_simp
     with_reducible rfl
   rotate_left
   · simp only [Act.put, List.setIfInBounds_toArray, List.set_cons_zero, List.set_cons_succ, i64_w, i32_w]
     rfl
   refine pure_ (i := 35) (N := some 46) (v := ?_) (a' := ?_) #[y7, y7, y7, y7, y7, y7, y7, y7, y7, y7, y7, y7, y7, y7, y7, y7, y7, y7, y7, y7, y7, y7, y7, y7, y7, y7, y7, y7, y7, y7, y7, y7, y7, y7, y7, y7, n7, n7, n7, n7, n7, n7, n7, n7, n7, n7, n7, n7, n7, n7, n7] rfl rfl (any_of HT_.out (by kernel_rfl)) (fun _ _ _ h => h) (Or.inl ⟨by rfl, ?_⟩) ?_ ?_
   rotate_left
   · intro w'
     go_simp
     with_reducible rfl
   rotate_left
   · simp only [Act.put, List.setIfInBounds_toArray, List.set_cons_zero, List.set_cons_succ, i64_w, i32_w]
     rfl
   refine pure_ (i := 36) (N := some 47) (v := ?_) (a' := ?_) #[y7, y7, y7, y7, y7, y7, y7, y7, y7, y7, y7, y7, y7, y7, y7, y7, y7, y7, y7, y7, y7, y7, y7, y7, y7, y7, y7, y7, y7, y7, y7, y7, y7, y7, y7, y7, y7, n7, n7, n7, n7, n7, n7, n7, n7, n7, n7, n7, n7, n7, n7] rfl rfl (any_of HT_.out (by kernel_rfl)) (fun _ _ _ h => h) (Or.inl ⟨by rfl, ?_⟩) ?_ ?_
   rotate_left
   · intro w'
     go_simp
     with_reducible rfl
   rotate_left
   · simp only [Act.put, List.setIfInBounds_toArray, List.set_cons_zero, List.set_cons_succ, i64_w, i32_w]
     rfl
   refine pure_ (i := 37) (N := some 48) (v := ?_) (a' := ?_) #[y7, y7, y7, y7, y7, y7, y7, y7, y7, y7, y7, y7, y7, y7, y7, y7, y7, y7, y7, y7, y7, y7, y7, y7, y7, y7, y7, y7, y7, y7, y7, y7, y7, y7, y7, y7, y7, y7, n7, n7, n7, n7, n7, n7, n7, n7, n7, n7, n7, n7, n7] rfl rfl (any_of HT_.out (by kernel_rfl)) (fun _ _ _ h => h) (Or.inl ⟨by rfl, ?_⟩) ?_ ?_
   rotate_left
   · intro w'
     go_simp
     with_reducible rfl
   rotate_left
   · simp only [Act.put, List.setIfInBounds_toArray, List.set_cons_zero, List.set_cons_succ, i64_w, i32_w]
     rfl
   refine pure_ (i := 38) (N := some 49) (v := ?_) (a' := ?_) #[y7, y7, y7, y7, y7, y7, y7, y7, y7, y7, y7, y7, y7, y7, y7, y7, y7, y7, y7, y7, y7, y7, y7, y7, y7, y7, y7, y7, y7, y7, y7, y7, y7, y7, y7, y7, y7, y7, y7, n7, n7, n7, n7, n7, n7, n7, n7, n7, n7, n7, n7] rfl rfl (any_of HT_.out (by kernel_rfl)) (fun _ _ _ h => h) (Or.inl ⟨by rfl, ?_⟩) ?_ ?_
   rotate_left
   · intro w'
     go_simp
     with_reducible rfl
   rotate_left
   · simp only [Act.put, List.setIfInBounds_toArray, List.set_cons_zero, List.set_cons_succ, i64_w, i32_w]
     rfl
   refine pure_ (i := 39) (N := some 50) (v := ?_) (a' := ?_) #[y7, y7, y7, y7, y7, y7, y7, y7, y7, y7, y7, y7, y7, y7, y7, y7, y7, y7, y7, y7, y7, y7, y7, y7, y7, y7, y7, y7, y7, y7, y7, y7, y7, y7, y7, y7, y7, y7, y7, y7, n7, n7, n7, n7, n7, n7, n7, n7, n7, n7, n7] rfl rfl (any_of HT_.out (by kernel_rfl)) (fun _ _ _ h => h) (Or.inl ⟨by rfl, ?_⟩) ?_ ?_
   rotate_left
   · intro w'
     go_simp
     with_reducible rfl
   rotate_left
   · simp only [Act.put, List.setIfInBounds_toArray, List.set_cons_zero, List.set_cons_succ, i64_w, i32_w]
     rfl
   refine pure_ (i := 40) (N := some 51) (v := ?_) (a' := ?_) #[y7, y7, y7, y7, y7, y7, y7, y7, y7, y7, y7, y7, y7, y7, y7, y7, y7, y7, y7, y7, y7, y7, y7, y7, y7, y7, y7, y7, y7, y7, y7, y7, y7, y7, y7, y7, y7, y7, y7, y7, y7, n7, n7, n7, n7, n7, n7, n7, n7, n7, n7] rfl rfl (any_of HT_.out (by kernel_rfl)) (fun _ _ _ h => h) (Or.inl ⟨by rfl, ?_⟩) ?_ ?_
   rotate_left
   · intro w'
     go_simp
     with_reducible rfl
   rotate_left
   · simp only [Act.put, List.setIfInBounds_toArray, List.set_cons_zero, List.set_cons_succ, i64_w, i32_w]
     rfl
   refine pure_ (i := 41) (N := some 52) (v := ?_) (a' := ?_) #[y7, y7, y7, y7, y7, y7, y7, y7, y7, y7, y7, y7, y7, y7, y7, y7, y7, y7, y7, y7, y7, y7, y7, y7, y7, y7, y7, y7, y7, y7, y7, y7, y7, y7, y7, y7, y7, y7, y7, y7, y7, y7, n7, n7, n7, n7, n7, n7, n7, n7, n7] rfl rfl (any_of HT_.out (by kernel_rfl)) (fun _ _ _ h => h) (Or.inl ⟨by rfl, ?_⟩) ?_ ?_
   rotate_left
   · intro w'
     go_simp
     with_reducible rfl
   rotate_left
   · simp only [Act.put, List.setIfInBounds_toArray, List.set_cons_zero, List.set_cons_succ, i64_w, i32_w]
     rfl
   refine pure_ (i := 43) (N := some 54) (v := ?_) (a' := ?_) #[y7, y7, y7, y7, y7, y7, y7, y7, y7, y7, y7, y7, y7, y7, y7, y7, y7, y7, y7, y7, y7, y7, y7, y7, y7, y7, y7, y7, y7, y7, y7, y7, y7, y7, y7, y7, y7, y7, y7, y7, y7, y7, n7, y7, n7, n7, n7, n7, n7, n7, n7] rfl rfl (any_of HT_.out (by kernel_rfl)) (fun _ _ _ h => h) (Or.inl ⟨by rfl, ?_⟩) ?_ ?_
   rotate_left
   · intro w'
     go_simp
     with_reducible rfl
   rotate_left
   · simp only [Act.put, List.setIfInBounds_toArray, List.set_cons_zero, List.set_cons_succ, i64_w, i32_w]
     rfl
   refine pure_ (i := 44) (N := some 55) (v := ?_) (a' := ?_) #[y7, y7, y7, y7, y7, y7, y7, y7, y7, y7, y7, y7, y7, y7, y7, y7, y7, y7, y7, y7, y7, y7, y7, y7, y7, y7, y7, y7, y7, y7, y7, y7, y7, y7, y7, y7, y7, y7, y7, y7, y7, y7, n7, y7, y7, n7, n7, n7, n7, n7, n7] rfl rfl (any_of HT_.out (by kernel_rfl)) (fun _ _ _ h => h) (Or.inl ⟨by rfl, ?_⟩) ?_ ?_
   rotate_left
   · intro w'
     go_simp
     with_reducible rfl
   rotate_left
   · simp only [Act.put, List.setIfInBounds_toArray, List.set_cons_zero, List.set_cons_succ, i64_w, i32_w]
     rfl
   refine pure_ (i := 45) (N := some 56) (v := ?_) (a' := ?_) #[y7, y7, y7, y7, y7, y7, y7, y7, y7, y7, y7, y7, y7, y7, y7, y7, y7, y7, y7, y7, y7, y7, y7, y7, y7, y7, y7, y7, y7, y7, y7, y7, y7, y7, y7, y7, y7, y7, y7, y7, y7, y7, n7, y7, y7, y7, n7, n7, n7, n7, n7] rfl rfl (any_of HT_.out (by kernel_rfl)) (fun _ _ _ h => h) (Or.inl ⟨by rfl, ?_⟩) ?_ ?_
   rotate_left
   · intro w'
     go_simp
     with_reducible rfl
   rotate_left
   · simp only [Act.put, List.setIfInBounds_toArray, List.set_cons_zero, List.set_cons_succ, i64_w, i32_w]
     rfl
   refine pure_ (i := 46) (N := some 57) (v := ?_) (a' := ?_) #[y7, y7, y7, y7, y7, y7, y7, y7, y7, y7, y7, y7, y7, y7, y7, y7, y7, y7, y7, y7, y7, y7, y7, y7, y7, y7, y7, y7, y7, y7, y7, y7, y7, y7, y7, y7, y7, y7, y7, y7, y7, y7, n7, y7, y7, y7, y7, n7, n7, n7, n7] rfl rfl (any_of HT_.out (by kernel_rfl)) (fun _ _ _ h => h) (Or.inl ⟨by rfl, ?_⟩) ?_ ?_
   rotate_left
   · intro w'
     go_simp
     with_reducible rfl
   rotate_left
   · simp only [Act.put, List.setIfInBounds_toArray, List.set_cons_zero, List.set_cons_succ, i64_w, i32_w]
     rfl
   refine take_ (i := 42) (N := some 53) (v := ?_) (a' := ?_) #[y7, y7, y7, y7, y7, y7, y7, y7, y7, y7, y7, y7, y7, y7, y7, y7, y7, y7, y7, y7, y7, y7, y7, y7, y7, y7, y7, y7, y7, y7, y7, y7, y7, y7, y7, y7, y7, y7, y7, y7, y7, y7, y7, y7, y7, y7, y7, n7, n7, n7, n7] rfl rfl (take_ofW HT_.out HW_.out (by kernel_rfl)) (fun _ _ _ h => h) (Or.inl ⟨by rfl, ?_⟩) hHeld ?_ ?_
   rotate_left
   · rintro w' ⟨s0, s1, s2, s3, s4, s5, s6, s7, s8, s9, s10, s11, s12, s13, s14, s15, s16, s17, s18, s19, s20, s21, s22, s23, s24, s25, s26, s27, s28, s29, s30, s31⟩
     go_simp
     with_reducible rfl
   rotate_left
   · simp only [Act.put, List.setIfInBounds_toArray, List.set_cons_zero, List.set_cons_succ, i64_w, i32_w]
     rfl
   refine take_ (i := 47) (N := some 58) (v := ?_) (a' := ?_) #[y7, y7, y7, y7, y7, y7, y7, y7, y7, y7, y7, y7, y7, y7, y7, y7, y7, y7, y7, y7, y7, y7, y7, y7, y7, y7, y7, y7, y7, y7, y7, y7, y7, y7, y7, y7, y7, y7, y7, y7, y7, y7, y7, y7, y7, y7, y7, y7, n7, n7, n7] rfl rfl (take_ofW HT_.out HW_.out (by kernel_rfl)) (fun _ _ _ h => h) (Or.inl ⟨by rfl, ?_⟩) hHeld ?_ ?_
   rotate_left
   · rintro w' ⟨s0, s1, s2, s3, s4, s5, s6, s7, s8, s9, s10, s11, s12, s13, s14, s15, s16, s17, s18, s19, s20, s21, s22, s23, s24, s25, s26, s27, s28, s29, s30, s31⟩
     go_simp
     with_reducible rfl
   rotate_left
   · simp only [Act.put, List.setIfInBounds_toArray, List.set_cons_zero, List.set_cons_succ, i64_w, i32_w]
     rfl
   refine one_ (i := 48) (N := some 59) #[y7, y7, y7, y7, y7, y7, y7, y7, y7, y7, y7, y7, y7, y7, y7, y7, y7, y7, y7, y7, y7, y7, y7, y7, y7, y7, y7, y7, y7, y7, y7, y7, y7, y7, y7, y7, y7, y7, y7, y7, y7, y7, y7, y7, y7, y7, y7, y7, y7, n7, n7] rfl rfl (one_of HT_.out (by kernel_rfl)) (by decide) (fun K hK => ?_)
   refine goes_ Try.func16 (by kernel_rfl) rfl #[.slice A201_2 ((rd_T49 l0 x8_1).f2).length c201_2, .slice A202_2 ((rd_T49 l1 x8_1).f2).length c202_2] (by rfl) rfl rfl (by (try simp only [List.map_toArray, List.map_cons, List.map_nil]); first | done | rfl | (simp only [List.length_drop, List.length_take]; rfl)) ?_
   with_reducible refine (contangoref39_Ints.calls k1 _ _ ((rd_T49 l0 x8_1).f2) _ _ ((rd_T49 l1 x8_1).f2) true _ ?side1 ?side2 ?side3 ?side4 A10.out).mono ?_
   (case side1 => repeat (first | exact (Kd.C_below HR207_2.out HB.out) | (with_reducible refine Kd.C_alloc ?_ _) | (with_reducible refine Kd.C_drewN ?_ _) | (with_reducible refine Kd.C_drew ?_)))
   (case side2 => exact HC207_2.out)
   (case side3 => repeat (first | exact (Kd.C_below HR208_2.out HB.out) | (with_reducible refine Kd.C_alloc ?_ _) | (with_reducible refine Kd.C_drewN ?_ _) | (with_reducible refine Kd.C_drew ?_)))
   (case side4 => exact HC208_2.out)
   rintro e w' ⟨rfl, ⟨nd, rfl⟩⟩
   refine ⟨_, rfl, ?_⟩
   refine hK.out _ _ ⟨((HB.out.cell (World.block_lt_of_cell? w _ hw201_0)).trans hw201_0), ((HB.out.cell (World.block_lt_of_cell? w _ hw201_1)).trans hw201_1), ((HB.out.cell (World.block_lt_of_cell? w _ hw201_2)).trans hw201_2), ((HB.out.cell (World.block_lt_of_cell? w _ hw201_3)).trans hw201_3), ((HB.out.cell (World.block_lt_of_cell? w _ hw202_0)).trans hw202_0), ((HB.out.cell (World.block_lt_of_cell? w _ hw202_1)).trans hw202_1), ((HB.out.cell (World.block_lt_of_cell? w _ hw202_2)).trans hw202_2), ((HB.out.cell (World.block_lt_of_cell? w _ hw202_3)).trans hw202_3), ((HB.out.cell (World.block_lt_of_cell? w _ hw203_0)).trans hw203_0), ((HB.out.cell (World.block_lt_of_cell? w _ hw203_1)).trans hw203_1), ((HB.out.cell (World.block_lt_of_cell? w _ hw203_2)).trans hw203_2), ((HB.out.cell (World.block_lt_of_cell? w _ hw203_3)).trans hw203_3), ((HB.out.cell (World.block_lt_of_cell? w _ hw204_0)).trans hw204_0), ((HB.out.cell (World.block_lt_of_cell? w _ hw204_1)).trans hw204_1), ((HB.out.cell (World.block_lt_of_cell? w _ hw204_2)).trans hw204_2), ((HB.out.cell (World.block_lt_of_cell? w _ hw204_3)).trans hw204_3), ((HB.out.cell (World.block_lt_of_cell? w _ hw205_0)).trans hw205_0), ((HB.out.cell (World.block_lt_of_cell? w _ hw205_1)).trans hw205_1), ((HB.out.cell (World.block_lt_of_cell? w _ hw205_2)).trans hw205_2), ((HB.out.cell (World.block_lt_of_cell? w _ hw205_3)).trans hw205_3), ((HB.out.cell (World.block_lt_of_cell? w _ hw206_0)).trans hw206_0), ((HB.out.cell (World.block_lt_of_cell? w _ hw206_1)).trans hw206_1), ((HB.out.cell (World.block_lt_of_cell? w _ hw206_2)).trans hw206_2), ((HB.out.cell (World.block_lt_of_cell? w _ hw206_3)).trans hw206_3), ((HB.out.cell (World.block_lt_of_cell? w _ hw207_0)).trans hw207_0), ((HB.out.cell (World.block_lt_of_cell? w _ hw207_1)).trans hw207_1), ((HB.out.cell (World.block_lt_of_cell? w _ hw207_2)).trans hw207_2), ((HB.out.cell (World.block_lt_of_cell? w _ hw207_3)).trans hw207_3), ((HB.out.cell (World.block_lt_of_cell? w _ hw208_0)).trans hw208_0), ((HB.out.cell (World.block_lt_of_cell? w _ hw208_1)).trans hw208_1), ((HB.out.cell (World.block_lt_of_cell? w _ hw208_2)).trans hw208_2), ((HB.out.cell (World.block_lt_of_cell? w _ hw208_3)).trans hw208_3)⟩ (fun hHeld => ?_)
   clear hK K
   refine norm_ (a' := ?_) ?_ ?_
   rotate_left
   · show Act.put _ (some 59) _ = _
     simp only [Act.put, List.setIfInBounds_toArray, List.set_cons_zero, List.set_cons_succ, i64_w, i32_w]
     rfl
   refine pure_ (i := 49) (N := some 60) (v := ?_) (a' := ?_) #[y7, y7, y7, y7, y7, y7, y7, y7, y7, y7, y7, y7, y7, y7, y7, y7, y7, y7, y7, y7, y7, y7, y7, y7, y7, y7, y7, y7, y7, y7, y7, y7, y7, y7, y7, y7, y7, y7, y7, y7, y7, y7, y7, y7, y7, y7, y7, y7, y7, y7, n7] rfl rfl (any_of HT_.out (by kernel_rfl)) (fun _ _ _ h => h) (Or.inl ⟨by rfl, ?_⟩) ?_ ?_
   rotate_left
   · intro w'
     go_simp
     with_reducible rfl
   rotate_left
   · simp only [Act.put, List.setIfInBounds_toArray, List.set_cons_zero, List.set_cons_succ, i64_w, i32_w]
     rfl
   refine pure_ (i := 50) (N := some 61) (v := ?_) (a' := ?_) #[y7, y7, y7, y7, y7, y7, y7, y7, y7, y7, y7, y7, y7, y7, y7, y7, y7, y7, y7, y7, y7, y7, y7, y7, y7, y7, y7, y7, y7, y7, y7, y7, y7, y7, y7, y7, y7, y7, y7, y7, y7, y7, y7, y7, y7, y7, y7, y7, y7, y7, y7] rfl rfl (any_of HT_.out (by kernel_rfl)) (fun _ _ _ h => h) (Or.inl ⟨by rfl, ?_⟩) ?_ ?_
   rotate_left
   · intro w'
     go_simp
     with_reducible rfl
   rotate_left
   · simp only [Act.put, List.setIfInBounds_toArray, List.set_cons_zero, List.set_cons_succ, i64_w, i32_w]
     rfl
   refine done_ (done_of HT_.out (by kernel_rfl)) ?_
   try go_wp2
   go_roundg k1
   case measure => have := HK1.out; omega
   case rel => exact ⟨(wrap64 (x8_1 + 1)), (by first | rfl | (simp; done) | (simp [*]; done)), H', ⟨by have := HK1.out; omega⟩, ⟨by repeat (with_reducible first | exact HB.out | apply below_alloc | apply pw_below_drewN | apply below_drew1)⟩⟩

end Go.Proofs.Ytaookghbppimnaa.PStressTwos
