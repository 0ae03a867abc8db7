-- Written by a program of this session's (a turned copy of the kit's print, with functions proved by hand).
import Derived.Test.YtjaokhpbdhefhaaPOptionNetsx0
import Derived.Test.YtjaokhpbdhefhaaPOptionNetsx13
namespace Go.Proofs.Ytjaokhpbdhefhaa.POptionNets
open Go.RowKit Go.Proofs.YtjaokhpbdhefhaaW.PrintWords Go.Proofs.YtjaokhpbdhefhaaW.PrintLast Go.Proofs.YtjaokhpbdhefhaaW.PrintMore
attribute [local go_sem] max2_int min2_int max_two min_two max_three min_three max_four min_four Go.Proofs.YtjaokhpbdhefhaaHand.run_leq_str Go.Proofs.YtjaokhpbdhefhaaHand.run_gtr_str Go.Proofs.YtjaokhpbdhefhaaHand.run_geq_str   -- for this text's walks alone
set_option linter.unusedVariables false
set_option linter.unusedSimpArgs false

/-! ### contangoref15_Check: function 39 -/
abbrev y14 : Bool := true
abbrev n14 : Bool := false
mutual
def contangoref15_Check.l0 : Nat → List (S57) → Int → Option (Int)
  | 0, _, _ => none
  | k + 1, x0, x3 => if x3 < (x0.length : Int) then (if x3 > 0 then (if 0 ≤ (wrap64 (x3 - 1)) then (if (wrap64 (x3 - 1)) < (x0.length : Int) then (if 0 ≤ x3 then ((contangoref10_Compare.f ((rd_T57 x0 (wrap64 (x3 - 1))).f0.f0) ((rd_T57 x0 (wrap64 (x3 - 1))).f0.f1) ((rd_T57 x0 (wrap64 (x3 - 1))).f0.f2) ((rd_T57 x0 (wrap64 (x3 - 1))).f0.f3) ((rd_T57 x0 x3).f0.f0) ((rd_T57 x0 x3).f0.f1) ((rd_T57 x0 x3).f0.f2) ((rd_T57 x0 x3).f0.f3)).bind fun t240 => (contangoref15_Check.j1 k x0 x3 (decide (t240 ≥ 0)))) else (none)) else (none)) else (none)) else (contangoref15_Check.j1 k x0 x3 false)) else (some 0)
def contangoref15_Check.j1 : Nat → List (S57) → Int → Bool → Option (Int)
  | 0, _, _, _ => none
  | k + 1, x0, x3, x29 => if x29 = true then (some 19) else (if 0 ≤ x3 then (if x3 < (x0.length : Int) then ((contangoref15_lots.f ((rd_T57 x0 x3).f1)).bind fun t242 => (if t242 = true then ((contangoref15_lots.f ((rd_T57 x0 x3).f2)).bind fun t244 => (if t244 = true then (if (wrap64 (((rd_T57 x0 x3).f1) + ((rd_T57 x0 x3).f2))) = 0 then (some 18) else (contangoref15_Check.l0 k x0 (wrap64 (x3 + 1)))) else (some 18))) else (some 18))) else (none)) else (none))
end
def contangoref15_Check.f (k : Nat) (l0 : List (S57)) : Option (Int) := if (l0.length : Int) > 128 then (some 8) else (contangoref15_Check.l0 k l0 0)
theorem contangoref15_Check.mono_l : ∀ k, (∀ y0 y1, LeO (contangoref15_Check.l0 k y0 y1) (contangoref15_Check.l0 (k + 1) y0 y1)) ∧ (∀ y0 y1 y2, LeO (contangoref15_Check.j1 k y0 y1 y2) (contangoref15_Check.j1 (k + 1) y0 y1 y2))
  | 0 => ⟨fun _ _ r h => by simp [contangoref15_Check.l0] at h, fun _ _ _ r h => by simp [contangoref15_Check.j1] at h⟩
  | k + 1 => by
    obtain ⟨ih0, ih1⟩ := contangoref15_Check.mono_l k
    refine ⟨?_, ?_⟩
    · intro y0 y1
      unfold contangoref15_Check.l0
      repeat' first
      | (with_reducible exact ih0 _ _)
      | (with_reducible exact ih1 _ _ _)
      | (with_reducible exact LeO.refl _)
      | (with_reducible exact LeO.none _)
      | (with_reducible refine LeO.ite ?_ ?_)
      | (with_reducible refine LeO.bind ?_ (fun _ => ?_))
      | exact ih0 _ _
      | exact ih1 _ _ _
      | exact LeO.none _
      | refine LeO.ite ?_ ?_
      | refine LeO.bind ?_ (fun _ => ?_)
    · intro y0 y1 y2
      unfold contangoref15_Check.j1
      repeat' first
      | (with_reducible exact ih0 _ _)
      | (with_reducible exact ih1 _ _ _)
      | (with_reducible exact LeO.refl _)
      | (with_reducible exact LeO.none _)
      | (with_reducible refine LeO.ite ?_ ?_)
      | (with_reducible refine LeO.bind ?_ (fun _ => ?_))
      | exact ih0 _ _
      | exact ih1 _ _ _
      | exact LeO.none _
      | refine LeO.ite ?_ ?_
      | refine LeO.bind ?_ (fun _ => ?_)
theorem contangoref15_Check.mono : ∀ a0 k, LeO (contangoref15_Check.f k a0) (contangoref15_Check.f (k + 1) a0) := by
  intro a0 k
  obtain ⟨ih0, ih1⟩ := contangoref15_Check.mono_l k
  unfold contangoref15_Check.f
  repeat' first
      | (with_reducible exact ih0 _ _)
      | (with_reducible exact ih1 _ _ _)
      | (with_reducible exact LeO.refl _)
      | (with_reducible exact LeO.none _)
      | (with_reducible refine LeO.ite ?_ ?_)
      | (with_reducible refine LeO.bind ?_ (fun _ => ?_))
      | exact ih0 _ _
      | exact ih1 _ _ _
      | exact LeO.none _
      | refine LeO.ite ?_ ?_
      | refine LeO.bind ?_ (fun _ => ?_)
def contangoref15_Check.T6 : Bool × List (List Nat × List Nat) := (true, [([], []), ([0], [0]), ([1], [1]), ([2], [2]), ([2], [2]), ([4, 2], [2, 4]), ([3, 5, 2], [2, 3, 5]), ([6, 2], [2, 6]), ([7, 2], [2, 7]), ([2], [2]), ([2], [2]), ([9, 10, 2], [2, 9, 10]), ([11, 2], [2, 11]), ([12, 2], [2, 12]), ([8, 13, 2, 2], [2, 8, 13]), ([14, 2], [2, 14]), ([2, 15], [2, 15])])
def contangoref15_Check.B6 : List Nat := [0, 1, 3, 7, 7, 23, 63, 127, 255, 7, 7, 1543, 3591, 7687, 16383, 32767, 65535]
theorem contangoref15_Check.tab6 : rtab .any (opsOf Try.f39 6) = contangoref15_Check.T6 := by kernel_rfl
theorem contangoref15_Check.bits6 : waitsOk contangoref15_Check.T6.2 contangoref15_Check.B6 = true := by kernel_rfl
def contangoref15_Check.T8 : Bool × List (List Nat × List Nat) := (true, [([], []), ([], []), ([0, 1], [0, 1]), ([2], [2]), ([3], [3]), ([4], [4]), ([5], [5]), ([6, 5], [6]), ([7], [7]), ([7], [7]), ([8, 9, 7], [7, 8, 9]), ([10, 7], [7, 10]), ([11, 7], [7, 11]), ([12, 7, 7], [7, 12]), ([13, 7], [7, 13]), ([7, 14], [7, 14]), ([15, 13], [15]), ([16], [16]), ([16], [16]), ([17, 18, 16], [16, 17, 18]), ([19, 16], [16, 19]), ([20, 16], [16, 20]), ([16], [16]), ([16], [16]), ([22, 23, 16], [16, 22, 23]), ([24, 16], [16, 24]), ([25, 16], [16, 25]), ([21, 26, 16], [16, 21, 26]), ([27, 16], [16, 27]), ([16, 28], [16, 28])])
def contangoref15_Check.B8 : List Nat := [0, 0, 3, 7, 15, 31, 63, 127, 255, 255, 1023, 2047, 4095, 8191, 16383, 32767, 65535, 131071, 131071, 524287, 1048575, 2097151, 131071, 131071, 12713983, 29491199, 63045631, 134217727, 268435455, 536870911]
theorem contangoref15_Check.tab8 : rtab .any (opsOf Try.f39 8) = contangoref15_Check.T8 := by kernel_rfl
theorem contangoref15_Check.bits8 : waitsOk contangoref15_Check.T8.2 contangoref15_Check.B8 = true := by kernel_rfl
set_option maxHeartbeats 8000000 in
set_option maxRecDepth 100000 in
theorem contangoref15_Check.calls (k : Nat) (A0 : Option Addr) (c0 : Nat) (l0 : List (S57)) (r : Int) (w : World) (hr0 : Kd.C k57 w A0 l0.length l0) (hc0 : l0.length ≤ c0) (h : contangoref15_Check.f k l0 = some r) :
    Calls Try.prog 39 #[.slice A0 l0.length c0] w fun e w' => e = .returned (.int .i64 r) ∧ Below w.heap.size w w' := by
 have hu23 := Try.underlying23
 have HR0 := Aside0.mk hr0
 have HC0 := Aside0.mk hc0
 clear hr0 hc0
 have HB := Aside0.mk (Below.refl w.heap.size w)
 have H : (if (l0.length : Int) > 128 then (some 8) else (contangoref15_Check.l0 k l0 0)) = some r := h
 clear h
 by_cases c2 : (l0.length : Int) > 128
 · rw [if_pos c2] at H
   have c2b0 : decide (128 < (l0.length : Int)) = true := decide_eq_true c2
   have c2b1 : decide (128 < l0.length) = true := decide_eq_true (by omega)
   clear c2
   obtain rfl := Option.some.inj H
   go_enter Try.func39, Try.ntmps39
   go_wp2
   go_ret
   exact ⟨by first | rfl | (simp [errW_none, errW_some] <;> rfl) | (simp [*, errW_none, errW_some] <;> rfl), by repeat (with_reducible first | exact HB.out | apply below_alloc | apply pw_below_drewN | apply below_drew1)⟩
 rw [if_neg c2] at H
 have c2b0 : decide (128 < (l0.length : Int)) = false := decide_eq_false c2
 have c2b1 : decide (128 < l0.length) = false := decide_eq_false (by omega)
 clear c2
 have H' := Aside0.mk H
 clear H
 go_enter Try.func39, Try.ntmps39
 go_wp2
 go_loopg [3] k (fun kq v3 w' => ∃ (x3_1 : Int), v3 = .int .i64 x3_1 ∧ Aside0 (contangoref15_Check.l0 kq l0 x3_1 = some r) ∧ Aside0 (kq ≤ k) ∧ Aside0 (Below w.heap.size w w'))
 case atStart => exact ⟨(0), (by first | rfl | (simp; done) | (simp [*]; done)), H', ⟨Nat.le_refl _⟩, ⟨by repeat (with_reducible first | exact HB.out | apply below_alloc | apply pw_below_drewN | apply below_drew1)⟩⟩
 case round =>
  clear H'
  try clear c2
  try clear c2b0
  try clear c2b1
  try clear p2
  obtain ⟨x3_1, rfl, HA, HK1, HB⟩ := hrel
  cases gk with
  | zero => exact absurd HA.out (by simp [contangoref15_Check.l0])
  | succ k1 =>
   have H := HA.out
   clear HA
   simp only [contangoref15_Check.l0] at H
   by_cases c3 : x3_1 < (l0.length : Int)
   rotate_left
   · rw [if_neg c3] at H
     have c3b0 : decide (x3_1 < (l0.length : Int)) = false := decide_eq_false c3
     clear c3
     obtain rfl := Option.some.inj H
     go_wp2
     go_ret
     exact ⟨by first | rfl | (simp [errW_none, errW_some] <;> rfl) | (simp [*, errW_none, errW_some] <;> rfl), by repeat (with_reducible first | exact HB.out | apply below_alloc | apply pw_below_drewN | apply below_drew1)⟩
   rw [if_pos c3] at H
   have c3b0 : decide (x3_1 < (l0.length : Int)) = true := decide_eq_true c3
   clear c3
   have HC4 := Aside0.mk H
   clear H
   go_upto_region 6 with (fail)
   go_cut [29] (fun v29 wc => ∃ (kq : Nat) (x29_3 : Bool), v29 = .bool x29_3 ∧ Aside0 (contangoref15_Check.j1 kq l0 x3_1 x29_3 = some r) ∧ Aside0 (kq ≤ k1) ∧ Aside0 (Below w.heap.size w wc))
   case first =>
    have H := HC4.out
    clear HC4
    by_cases c5 : x3_1 > 0
    rotate_left
    · rw [if_neg c5] at H
      have c5b0 : decide (0 < x3_1) = false := decide_eq_false c5
      clear c5
      (first | rw [c5b0] | (simp only [i64_w, i32_w]; rw [c5b0]) | skip)
      have H' := Aside0.mk H
      clear H
      try go_wp2
      have n0_ := Aside0.mk (below_drew1 HB.out)
      clear HB
      have HB := n0_
      clear n0_
      refine start_ (n := 17) (S := fun w' => True) (ds := []) #[n14, n14, n14, n14, n14, n14, n14, n14, n14, n14, n14, n14, n14, n14, n14, n14, n14] (by kernel_rfl) rfl rfl trivial (fun hHeld => ?_); refine with_tabW contangoref15_Check.tab6 contangoref15_Check.bits6 (fun HT_ HW_ => ?_)
      generalize wr.drew = w13 at HB hHeld ⊢
      refine pure_ (i := 0) (N := some 13) (v := ?_) (a' := ?_) #[y14, n14, n14, n14, n14, n14, n14, n14, n14, n14, n14, n14, n14, n14, n14, n14, n14] rfl rfl (any_of HT_.out (by kernel_rfl)) (fun _ _ _ h => h) (Or.inl ⟨by rfl, ?_⟩) ?_ ?_
      rotate_left
      · intro w'
        go_simp
        with_reducible rfl
      rotate_left
      · simp only [Act.put, List.setIfInBounds_toArray, List.set_cons_zero, List.set_cons_succ, i64_w, i32_w]
        rfl
      refine pure_ (i := 1) (N := some 14) (v := ?_) (a' := ?_) #[y14, y14, n14, n14, n14, n14, n14, n14, n14, n14, n14, n14, n14, n14, n14, n14, n14] rfl rfl (any_of HT_.out (by kernel_rfl)) (fun _ _ _ h => h) (Or.inl ⟨by rfl, ?_⟩) ?_ ?_
      rotate_left
      · intro w'
        go_simp
        with_reducible rfl
      rotate_left
      · simp only [Act.put, List.setIfInBounds_toArray, List.set_cons_zero, List.set_cons_succ, i64_w, i32_w]
        rfl
      refine pure_ (i := 2) (N := some 15) (v := ?_) (a' := ?_) #[y14, y14, y14, n14, n14, n14, n14, n14, n14, n14, n14, n14, n14, n14, n14, n14, n14] rfl rfl (any_of HT_.out (by kernel_rfl)) (fun _ _ _ h => h) (Or.inl ⟨by rfl, ?_⟩) ?_ ?_
      rotate_left
      · intro w'
        go_simp
        with_reducible rfl
      rotate_left
      · simp only [Act.put, List.setIfInBounds_toArray, List.set_cons_zero, List.set_cons_succ, i64_w, i32_w]
        rfl
      refine pure_ (i := 3) (N := some 16) (v := undef) (a' := ?_) #[y14, y14, y14, y14, n14, n14, n14, n14, n14, n14, n14, n14, n14, n14, n14, n14, n14] rfl rfl (any_of HT_.out (by kernel_rfl)) (fun _ _ _ h => h) (Or.inr ⟨by rfl, rfl⟩) ?_ ?_
      rotate_left
      · simp only [Act.put, List.setIfInBounds_toArray, List.set_cons_zero, List.set_cons_succ, i64_w, i32_w]
        rfl
      refine pure_ (i := 4) (N := some 17) (v := undef) (a' := ?_) #[y14, y14, y14, y14, y14, n14, n14, n14, n14, n14, n14, n14, n14, n14, n14, n14, n14] rfl rfl (any_of HT_.out (by kernel_rfl)) (fun _ _ _ h => h) (Or.inr ⟨by rfl, rfl⟩) ?_ ?_
      rotate_left
      · simp only [Act.put, List.setIfInBounds_toArray, List.set_cons_zero, List.set_cons_succ, i64_w, i32_w]
        rfl
      refine pure_ (i := 5) (N := some 18) (v := undef) (a' := ?_) #[y14, y14, y14, y14, y14, y14, n14, n14, n14, n14, n14, n14, n14, n14, n14, n14, n14] rfl rfl (any_of HT_.out (by kernel_rfl)) (fun _ _ _ h => h) (Or.inr ⟨by rfl, rfl⟩) ?_ ?_
      rotate_left
      · simp only [Act.put, List.setIfInBounds_toArray, List.set_cons_zero, List.set_cons_succ, i64_w, i32_w]
        rfl
      refine pure_ (i := 6) (N := some 19) (v := undef) (a' := ?_) #[y14, y14, y14, y14, y14, y14, y14, n14, n14, n14, n14, n14, n14, n14, n14, n14, n14] rfl rfl (any_of HT_.out (by kernel_rfl)) (fun _ _ _ h => h) (Or.inr ⟨by rfl, rfl⟩) ?_ ?_
      rotate_left
      · simp only [Act.put, List.setIfInBounds_toArray, List.set_cons_zero, List.set_cons_succ, i64_w, i32_w]
        rfl
      refine pure_ (i := 7) (N := some 20) (v := undef) (a' := ?_) #[y14, y14, y14, y14, y14, y14, y14, y14, n14, n14, n14, n14, n14, n14, n14, n14, n14] rfl rfl (any_of HT_.out (by kernel_rfl)) (fun _ _ _ h => h) (Or.inr ⟨by rfl, rfl⟩) ?_ ?_
      rotate_left
      · simp only [Act.put, List.setIfInBounds_toArray, List.set_cons_zero, List.set_cons_succ, i64_w, i32_w]
        rfl
      refine pure_ (i := 8) (N := some 21) (v := undef) (a' := ?_) #[y14, y14, y14, y14, y14, y14, y14, y14, y14, n14, n14, n14, n14, n14, n14, n14, n14] rfl rfl (any_of HT_.out (by kernel_rfl)) (fun _ _ _ h => h) (Or.inr ⟨by rfl, rfl⟩) ?_ ?_
      rotate_left
      · simp only [Act.put, List.setIfInBounds_toArray, List.set_cons_zero, List.set_cons_succ, i64_w, i32_w]
        rfl
      refine pure_ (i := 9) (N := some 22) (v := undef) (a' := ?_) #[y14, y14, y14, y14, y14, y14, y14, y14, y14, y14, n14, n14, n14, n14, n14, n14, n14] rfl rfl (any_of HT_.out (by kernel_rfl)) (fun _ _ _ h => h) (Or.inr ⟨by rfl, rfl⟩) ?_ ?_
      rotate_left
      · simp only [Act.put, List.setIfInBounds_toArray, List.set_cons_zero, List.set_cons_succ, i64_w, i32_w]
        rfl
      refine pure_ (i := 10) (N := some 23) (v := undef) (a' := ?_) #[y14, y14, y14, y14, y14, y14, y14, y14, y14, y14, y14, n14, n14, n14, n14, n14, n14] rfl rfl (any_of HT_.out (by kernel_rfl)) (fun _ _ _ h => h) (Or.inr ⟨by rfl, rfl⟩) ?_ ?_
      rotate_left
      · simp only [Act.put, List.setIfInBounds_toArray, List.set_cons_zero, List.set_cons_succ, i64_w, i32_w]
        rfl
      refine pure_ (i := 11) (N := some 24) (v := undef) (a' := ?_) #[y14, y14, y14, y14, y14, y14, y14, y14, y14, y14, y14, y14, n14, n14, n14, n14, n14] rfl rfl (any_of HT_.out (by kernel_rfl)) (fun _ _ _ h => h) (Or.inr ⟨by rfl, rfl⟩) ?_ ?_
      rotate_left
      · simp only [Act.put, List.setIfInBounds_toArray, List.set_cons_zero, List.set_cons_succ, i64_w, i32_w]
        rfl
      refine pure_ (i := 12) (N := some 25) (v := undef) (a' := ?_) #[y14, y14, y14, y14, y14, y14, y14, y14, y14, y14, y14, y14, y14, n14, n14, n14, n14] rfl rfl (any_of HT_.out (by kernel_rfl)) (fun _ _ _ h => h) (Or.inr ⟨by rfl, rfl⟩) ?_ ?_
      rotate_left
      · simp only [Act.put, List.setIfInBounds_toArray, List.set_cons_zero, List.set_cons_succ, i64_w, i32_w]
        rfl
      refine pure_ (i := 13) (N := some 26) (v := undef) (a' := ?_) #[y14, y14, y14, y14, y14, y14, y14, y14, y14, y14, y14, y14, y14, y14, n14, n14, n14] rfl rfl (any_of HT_.out (by kernel_rfl)) (fun _ _ _ h => h) (Or.inr ⟨by rfl, rfl⟩) ?_ ?_
      rotate_left
      · simp only [Act.put, List.setIfInBounds_toArray, List.set_cons_zero, List.set_cons_succ, i64_w, i32_w]
        rfl
      refine pure_ (i := 14) (N := some 27) (v := undef) (a' := ?_) #[y14, y14, y14, y14, y14, y14, y14, y14, y14, y14, y14, y14, y14, y14, y14, n14, n14] rfl rfl (any_of HT_.out (by kernel_rfl)) (fun _ _ _ h => h) (Or.inr ⟨by rfl, rfl⟩) ?_ ?_
      rotate_left
      · simp only [Act.put, List.setIfInBounds_toArray, List.set_cons_zero, List.set_cons_succ, i64_w, i32_w]
        rfl
      refine pure_ (i := 15) (N := some 28) (v := undef) (a' := ?_) #[y14, y14, y14, y14, y14, y14, y14, y14, y14, y14, y14, y14, y14, y14, y14, y14, n14] rfl rfl (any_of HT_.out (by kernel_rfl)) (fun _ _ _ h => h) (Or.inr ⟨by rfl, rfl⟩) ?_ ?_
      rotate_left
      · simp only [Act.put, List.setIfInBounds_toArray, List.set_cons_zero, List.set_cons_succ, i64_w, i32_w]
        rfl
      refine pure_ (i := 16) (N := some 29) (v := ?_) (a' := ?_) #[y14, y14, y14, y14, y14, y14, y14, y14, y14, y14, y14, y14, y14, y14, y14, y14, y14] rfl rfl (any_of HT_.out (by kernel_rfl)) (fun _ _ _ h => h) (Or.inl ⟨by rfl, ?_⟩) ?_ ?_
      rotate_left
      · intro w'
        go_simp
        with_reducible rfl
      rotate_left
      · simp only [Act.put, List.setIfInBounds_toArray, List.set_cons_zero, List.set_cons_succ, i64_w, i32_w]
        rfl
      refine done_ (done_of HT_.out (by kernel_rfl)) ?_
      try go_wp2
      go_meet
      case rel => exact ⟨_, (false), (by first | rfl | (simp; done) | (simp [*]; done)), H', ⟨by have := HK1.out; first | omega | exact Nat.le_refl _⟩, ⟨by repeat (with_reducible first | exact HB.out | apply below_alloc | apply pw_below_drewN | apply below_drew1)⟩⟩
    rw [if_pos c5] at H
    have c5b0 : decide (0 < x3_1) = true := decide_eq_true c5
    clear c5
    (first | rw [c5b0] | (simp only [i64_w, i32_w]; rw [c5b0]) | skip)
    obtain ⟨ji6, hji6⟩ : ∃ j_ : Int, (wrap64 (x3_1 - 1)) = j_ := ⟨_, rfl⟩
    replace H : (if 0 ≤ (ji6) then (if (ji6) < (l0.length : Int) then (if 0 ≤ x3_1 then ((contangoref10_Compare.f ((rd_T57 l0 (ji6)).f0.f0) ((rd_T57 l0 (ji6)).f0.f1) ((rd_T57 l0 (ji6)).f0.f2) ((rd_T57 l0 (ji6)).f0.f3) ((rd_T57 l0 x3_1).f0.f0) ((rd_T57 l0 x3_1).f0.f1) ((rd_T57 l0 x3_1).f0.f2) ((rd_T57 l0 x3_1).f0.f3)).bind fun t240 => (contangoref15_Check.j1 k1 l0 x3_1 (decide (t240 ≥ 0)))) else (none)) else (none)) else (none)) = some r := by first | (rw [hji6] at H; exact H) | (simp only [hji6] at H ⊢; exact H)
    have hji6w : (IntKind.i64.wrap (x3_1 - 1)) = ji6 := (i64_w _).trans hji6
    by_cases c7 : 0 ≤ (ji6)
    rotate_left
    · rw [if_neg c7] at H
      exact absurd H (by simp)
    rw [if_pos c7] at H
    have c7b0 : decide (0 ≤ (ji6)) = true := decide_eq_true c7
    clear c7
    by_cases c8 : (ji6) < (l0.length : Int)
    rotate_left
    · rw [if_neg c8] at H
      exact absurd H (by simp)
    rw [if_pos c8] at H
    have c8b0 : decide ((ji6) < (l0.length : Int)) = true := decide_eq_true c8
    clear c8
    by_cases c9 : 0 ≤ x3_1
    rotate_left
    · rw [if_neg c9] at H
      exact absurd H (by simp)
    rw [if_pos c9] at H
    have c9b0 : decide (0 ≤ x3_1) = true := decide_eq_true c9
    clear c9
    replace H := Option.bind_eq_some_iff.mp H
    obtain ⟨t240, A100, H⟩ := H
    replace H : (contangoref15_Check.j1 k1 l0 x3_1 (decide (t240 ≥ 0))) = some r := H
    have A10 := Aside0.mk A100
    clear A100
    have H' := Aside0.mk H
    clear H
    try go_wp2
    have n0_ := Aside0.mk (below_drew1 HB.out)
    clear HB
    have HB := n0_
    clear n0_
    have p238 : 0 ≤ ((ji6) : Int) := of_decide_eq_true (by first | (with_reducible assumption) | assumption)
    have q238 : (ji6) < (l0.length : Int) := of_decide_eq_true (by first | (with_reducible assumption) | assumption)
    obtain ⟨ad238, e238, hx238_0, hx238_1, hx238_2, hx238_3, hx238_4, hx238_5⟩ := at_T57 HR0.out (ji6) p238 q238
    have hw238_5 := hx238_5
    have hw238_4 := hx238_4
    have hw238_3 := hx238_3
    have hw238_2 := hx238_2
    have hw238_1 := hx238_1
    have hw238_0 := hx238_0
    cases e238
    replace hx238_0 := (HB.out.cell (World.block_lt_of_cell? w _ hx238_0)).trans hx238_0
    replace hx238_1 := (HB.out.cell (World.block_lt_of_cell? w _ hx238_1)).trans hx238_1
    replace hx238_2 := (HB.out.cell (World.block_lt_of_cell? w _ hx238_2)).trans hx238_2
    replace hx238_3 := (HB.out.cell (World.block_lt_of_cell? w _ hx238_3)).trans hx238_3
    replace hx238_4 := (HB.out.cell (World.block_lt_of_cell? w _ hx238_4)).trans hx238_4
    replace hx238_5 := (HB.out.cell (World.block_lt_of_cell? w _ hx238_5)).trans hx238_5
    replace p238 := eq_true p238
    replace q238 := eq_true q238
    have p239 : 0 ≤ (x3_1 : Int) := of_decide_eq_true (by first | (with_reducible assumption) | assumption)
    have q239 : x3_1 < (l0.length : Int) := of_decide_eq_true (by first | (with_reducible assumption) | assumption)
    obtain ⟨ad239, e239, hx239_0, hx239_1, hx239_2, hx239_3, hx239_4, hx239_5⟩ := at_T57 HR0.out x3_1 p239 q239
    have hw239_5 := hx239_5
    have hw239_4 := hx239_4
    have hw239_3 := hx239_3
    have hw239_2 := hx239_2
    have hw239_1 := hx239_1
    have hw239_0 := hx239_0
    obtain rfl : ad238 = ad239 := (by injection e239)
    replace hx239_0 := (HB.out.cell (World.block_lt_of_cell? w _ hx239_0)).trans hx239_0
    replace hx239_1 := (HB.out.cell (World.block_lt_of_cell? w _ hx239_1)).trans hx239_1
    replace hx239_2 := (HB.out.cell (World.block_lt_of_cell? w _ hx239_2)).trans hx239_2
    replace hx239_3 := (HB.out.cell (World.block_lt_of_cell? w _ hx239_3)).trans hx239_3
    replace hx239_4 := (HB.out.cell (World.block_lt_of_cell? w _ hx239_4)).trans hx239_4
    replace hx239_5 := (HB.out.cell (World.block_lt_of_cell? w _ hx239_5)).trans hx239_5
    replace p239 := eq_true p239
    replace q239 := eq_true q239
    refine start_ (n := 17) (S := fun w' => w'.cell? (ad238.add (((ji6)).toNat * 6)) = some (.string ((rd_T57 l0 (ji6)).f0.f0)) ∧ w'.cell? ⟨(ad238.add (((ji6)).toNat * 6)).block, (ad238.add (((ji6)).toNat * 6)).off + 1, none⟩ = some (.int .i64 ((rd_T57 l0 (ji6)).f0.f1)) ∧ w'.cell? ⟨(ad238.add (((ji6)).toNat * 6)).block, (ad238.add (((ji6)).toNat * 6)).off + 2, none⟩ = some (.int .i64 ((rd_T57 l0 (ji6)).f0.f2)) ∧ w'.cell? ⟨(ad238.add (((ji6)).toNat * 6)).block, (ad238.add (((ji6)).toNat * 6)).off + 3, none⟩ = some (.int .i64 ((rd_T57 l0 (ji6)).f0.f3)) ∧ w'.cell? ⟨(ad238.add (((ji6)).toNat * 6)).block, (ad238.add (((ji6)).toNat * 6)).off + 4, none⟩ = some (.int .i64 ((rd_T57 l0 (ji6)).f1)) ∧ w'.cell? ⟨(ad238.add (((ji6)).toNat * 6)).block, (ad238.add (((ji6)).toNat * 6)).off + 5, none⟩ = some (.int .i64 ((rd_T57 l0 (ji6)).f2)) ∧ w'.cell? (ad238.add ((x3_1).toNat * 6)) = some (.string ((rd_T57 l0 x3_1).f0.f0)) ∧ w'.cell? ⟨(ad238.add ((x3_1).toNat * 6)).block, (ad238.add ((x3_1).toNat * 6)).off + 1, none⟩ = some (.int .i64 ((rd_T57 l0 x3_1).f0.f1)) ∧ w'.cell? ⟨(ad238.add ((x3_1).toNat * 6)).block, (ad238.add ((x3_1).toNat * 6)).off + 2, none⟩ = some (.int .i64 ((rd_T57 l0 x3_1).f0.f2)) ∧ w'.cell? ⟨(ad238.add ((x3_1).toNat * 6)).block, (ad238.add ((x3_1).toNat * 6)).off + 3, none⟩ = some (.int .i64 ((rd_T57 l0 x3_1).f0.f3)) ∧ w'.cell? ⟨(ad238.add ((x3_1).toNat * 6)).block, (ad238.add ((x3_1).toNat * 6)).off + 4, none⟩ = some (.int .i64 ((rd_T57 l0 x3_1).f1)) ∧ w'.cell? ⟨(ad238.add ((x3_1).toNat * 6)).block, (ad238.add ((x3_1).toNat * 6)).off + 5, none⟩ = some (.int .i64 ((rd_T57 l0 x3_1).f2))) (ds := []) #[n14, n14, n14, n14, n14, n14, n14, n14, n14, n14, n14, n14, n14, n14, n14, n14, n14] (by kernel_rfl) rfl rfl ⟨((HB.out.cell (World.block_lt_of_cell? w _ hw238_0)).trans hw238_0), ((HB.out.cell (World.block_lt_of_cell? w _ hw238_1)).trans hw238_1), ((HB.out.cell (World.block_lt_of_cell? w _ hw238_2)).trans hw238_2), ((HB.out.cell (World.block_lt_of_cell? w _ hw238_3)).trans hw238_3), ((HB.out.cell (World.block_lt_of_cell? w _ hw238_4)).trans hw238_4), ((HB.out.cell (World.block_lt_of_cell? w _ hw238_5)).trans hw238_5), ((HB.out.cell (World.block_lt_of_cell? w _ hw239_0)).trans hw239_0), ((HB.out.cell (World.block_lt_of_cell? w _ hw239_1)).trans hw239_1), ((HB.out.cell (World.block_lt_of_cell? w _ hw239_2)).trans hw239_2), ((HB.out.cell (World.block_lt_of_cell? w _ hw239_3)).trans hw239_3), ((HB.out.cell (World.block_lt_of_cell? w _ hw239_4)).trans hw239_4), ((HB.out.cell (World.block_lt_of_cell? w _ hw239_5)).trans hw239_5)⟩ (fun hHeld => ?_); refine with_tabW contangoref15_Check.tab6 contangoref15_Check.bits6 (fun HT_ HW_ => ?_)
    generalize wr.drew = w11 at HB hx238_0 hx238_1 hx238_2 hx238_3 hx238_4 hx238_5 hx239_0 hx239_1 hx239_2 hx239_3 hx239_4 hx239_5 hHeld ⊢
    refine pure_ (i := 0) (N := some 13) (v := ?_) (a' := ?_) #[y14, n14, n14, n14, n14, n14, n14, n14, n14, n14, n14, n14, n14, n14, n14, n14, n14] rfl rfl (any_of HT_.out (by kernel_rfl)) (fun _ _ _ h => h) (Or.inl ⟨by rfl, ?_⟩) ?_ ?_
    rotate_left
    · intro w'
      go_simp
      with_reducible rfl
    rotate_left
    · simp only [Act.put, List.setIfInBounds_toArray, List.set_cons_zero, List.set_cons_succ, i64_w, i32_w]
      rfl
    refine pure_ (i := 1) (N := some 14) (v := ?_) (a' := ?_) #[y14, y14, n14, n14, n14, n14, n14, n14, n14, n14, n14, n14, n14, n14, n14, n14, n14] rfl rfl (any_of HT_.out (by kernel_rfl)) (fun _ _ _ h => h) (Or.inl ⟨by rfl, ?_⟩) ?_ ?_
    rotate_left
    · intro w'
      go_simp
      with_reducible rfl
    rotate_left
    · simp only [Act.put, List.setIfInBounds_toArray, List.set_cons_zero, List.set_cons_succ, i64_w, i32_w]
      rfl
    refine pure_ (i := 2) (N := some 15) (v := ?_) (a' := ?_) #[y14, y14, y14, n14, n14, n14, n14, n14, n14, n14, n14, n14, n14, n14, n14, n14, n14] rfl rfl (any_of HT_.out (by kernel_rfl)) (fun _ _ _ h => h) (Or.inl ⟨by rfl, ?_⟩) ?_ ?_
    rotate_left
    · intro w'
      go_simp
      with_reducible rfl
    rotate_left
    · simp only [Act.put, List.setIfInBounds_toArray, List.set_cons_zero, List.set_cons_succ, i64_w, i32_w]
      rfl
    refine pure_ (i := 3) (N := some 16) (v := ?_) (a' := ?_) #[y14, y14, y14, y14, n14, n14, n14, n14, n14, n14, n14, n14, n14, n14, n14, n14, n14] rfl rfl (any_of HT_.out (by kernel_rfl)) (fun _ _ _ h => h) (Or.inl ⟨by rfl, ?_⟩) ?_ ?_
    rotate_left
    · intro w'
      go_simp
      with_reducible rfl
    rotate_left
    · simp only [Act.put, List.setIfInBounds_toArray, List.set_cons_zero, List.set_cons_succ, i64_w, i32_w]
      rfl
    refine pure_ (i := 4) (N := some 17) (v := ?_) (a' := ?_) #[y14, y14, y14, y14, y14, n14, n14, n14, n14, n14, n14, n14, n14, n14, n14, n14, n14] rfl rfl (any_of HT_.out (by kernel_rfl)) (fun _ _ _ h => h) (Or.inl ⟨by rfl, ?_⟩) ?_ ?_
    rotate_left
    · intro w'
      go_simp
      with_reducible rfl
    rotate_left
    · simp only [Act.put, List.setIfInBounds_toArray, List.set_cons_zero, List.set_cons_succ, i64_w, i32_w]
      rfl
    refine pure_ (i := 5) (N := some 18) (v := ?_) (a' := ?_) #[y14, y14, y14, y14, y14, y14, n14, n14, n14, n14, n14, n14, n14, n14, n14, n14, n14] rfl rfl (any_of HT_.out (by kernel_rfl)) (fun _ _ _ h => h) (Or.inl ⟨by rfl, ?_⟩) ?_ ?_
    rotate_left
    · intro w'
      go_simp
      with_reducible rfl
    rotate_left
    · simp only [Act.put, List.setIfInBounds_toArray, List.set_cons_zero, List.set_cons_succ, i64_w, i32_w]
      rfl
    refine pure_ (i := 6) (N := some 19) (v := ?_) (a' := ?_) #[y14, y14, y14, y14, y14, y14, y14, n14, n14, n14, n14, n14, n14, n14, n14, n14, n14] rfl rfl (any_of HT_.out (by kernel_rfl)) (fun _ _ _ h => h) (Or.inl ⟨by rfl, ?_⟩) ?_ ?_
    rotate_left
    · intro w'
      go_simp
      with_reducible rfl
    rotate_left
    · simp only [Act.put, List.setIfInBounds_toArray, List.set_cons_zero, List.set_cons_succ, i64_w, i32_w]
      rfl
    refine pure_ (i := 7) (N := some 20) (v := ?_) (a' := ?_) #[y14, y14, y14, y14, y14, y14, y14, y14, n14, n14, n14, n14, n14, n14, n14, n14, n14] rfl rfl (any_of HT_.out (by kernel_rfl)) (fun _ _ _ h => h) (Or.inl ⟨by rfl, ?_⟩) ?_ ?_
    rotate_left
    · intro w'
      go_simp
      with_reducible rfl
    rotate_left
    · simp only [Act.put, List.setIfInBounds_toArray, List.set_cons_zero, List.set_cons_succ, i64_w, i32_w]
      rfl
    refine pure_ (i := 9) (N := some 22) (v := ?_) (a' := ?_) #[y14, y14, y14, y14, y14, y14, y14, y14, n14, y14, n14, n14, n14, n14, n14, n14, n14] rfl rfl (any_of HT_.out (by kernel_rfl)) (fun _ _ _ h => h) (Or.inl ⟨by rfl, ?_⟩) ?_ ?_
    rotate_left
    · intro w'
      go_simp
      with_reducible rfl
    rotate_left
    · simp only [Act.put, List.setIfInBounds_toArray, List.set_cons_zero, List.set_cons_succ, i64_w, i32_w]
      rfl
    refine pure_ (i := 10) (N := some 23) (v := ?_) (a' := ?_) #[y14, y14, y14, y14, y14, y14, y14, y14, n14, y14, y14, n14, n14, n14, n14, n14, n14] rfl rfl (any_of HT_.out (by kernel_rfl)) (fun _ _ _ h => h) (Or.inl ⟨by rfl, ?_⟩) ?_ ?_
    rotate_left
    · intro w'
      go_simp
      with_reducible rfl
    rotate_left
    · simp only [Act.put, List.setIfInBounds_toArray, List.set_cons_zero, List.set_cons_succ, i64_w, i32_w]
      rfl
    refine pure_ (i := 11) (N := some 24) (v := ?_) (a' := ?_) #[y14, y14, y14, y14, y14, y14, y14, y14, n14, y14, y14, y14, n14, n14, n14, n14, n14] rfl rfl (any_of HT_.out (by kernel_rfl)) (fun _ _ _ h => h) (Or.inl ⟨by rfl, ?_⟩) ?_ ?_
    rotate_left
    · intro w'
      go_simp
      with_reducible rfl
    rotate_left
    · simp only [Act.put, List.setIfInBounds_toArray, List.set_cons_zero, List.set_cons_succ, i64_w, i32_w]
      rfl
    refine pure_ (i := 12) (N := some 25) (v := ?_) (a' := ?_) #[y14, y14, y14, y14, y14, y14, y14, y14, n14, y14, y14, y14, y14, n14, n14, n14, n14] rfl rfl (any_of HT_.out (by kernel_rfl)) (fun _ _ _ h => h) (Or.inl ⟨by rfl, ?_⟩) ?_ ?_
    rotate_left
    · intro w'
      go_simp
      with_reducible rfl
    rotate_left
    · simp only [Act.put, List.setIfInBounds_toArray, List.set_cons_zero, List.set_cons_succ, i64_w, i32_w]
      rfl
    refine take_ (i := 8) (N := some 21) (v := ?_) (a' := ?_) #[y14, y14, y14, y14, y14, y14, y14, y14, y14, y14, y14, y14, y14, n14, n14, n14, n14] rfl rfl (take_ofW HT_.out HW_.out (by kernel_rfl)) (fun _ _ _ h => h) (Or.inl ⟨by rfl, ?_⟩) hHeld ?_ ?_
    rotate_left
    · rintro w' ⟨s0, s1, s2, s3, s4, s5, s6, s7, s8, s9, s10, s11⟩
      go_simp
      with_reducible rfl
    rotate_left
    · simp only [Act.put, List.setIfInBounds_toArray, List.set_cons_zero, List.set_cons_succ, i64_w, i32_w]
      rfl
    refine take_ (i := 13) (N := some 26) (v := ?_) (a' := ?_) #[y14, y14, y14, y14, y14, y14, y14, y14, y14, y14, y14, y14, y14, y14, n14, n14, n14] rfl rfl (take_ofW HT_.out HW_.out (by kernel_rfl)) (fun _ _ _ h => h) (Or.inl ⟨by rfl, ?_⟩) hHeld ?_ ?_
    rotate_left
    · rintro w' ⟨s0, s1, s2, s3, s4, s5, s6, s7, s8, s9, s10, s11⟩
      go_simp
      with_reducible rfl
    rotate_left
    · simp only [Act.put, List.setIfInBounds_toArray, List.set_cons_zero, List.set_cons_succ, i64_w, i32_w]
      rfl
    refine one_ (i := 14) (N := some 27) #[y14, y14, y14, y14, y14, y14, y14, y14, y14, y14, y14, y14, y14, y14, y14, n14, n14] rfl rfl (one_of HT_.out (by kernel_rfl)) (by decide) (fun K hK => ?_)
    refine goes_ Try.func58 (by kernel_rfl) rfl #[.agg #[.string ((rd_T57 l0 (ji6)).f0.f0), .int .i64 ((rd_T57 l0 (ji6)).f0.f1), .int .i64 ((rd_T57 l0 (ji6)).f0.f2), .int .i64 ((rd_T57 l0 (ji6)).f0.f3)], .agg #[.string ((rd_T57 l0 x3_1).f0.f0), .int .i64 ((rd_T57 l0 x3_1).f0.f1), .int .i64 ((rd_T57 l0 x3_1).f0.f2), .int .i64 ((rd_T57 l0 x3_1).f0.f3)]] (by rfl) rfl rfl (by (try simp only [List.map_toArray, List.map_cons, List.map_nil]); first | done | (simp only [hji6]; rfl) | rfl | (simp only [List.length_drop, List.length_take]; rfl)) ?_
    with_reducible refine (contangoref10_Compare.calls ((rd_T57 l0 (ji6)).f0.f0) ((rd_T57 l0 (ji6)).f0.f1) ((rd_T57 l0 (ji6)).f0.f2) ((rd_T57 l0 (ji6)).f0.f3) ((rd_T57 l0 x3_1).f0.f0) ((rd_T57 l0 x3_1).f0.f1) ((rd_T57 l0 x3_1).f0.f2) ((rd_T57 l0 x3_1).f0.f3) t240 _ A10.out).mono ?_
    rintro e w12 ⟨rfl, hb⟩
    refine ⟨_, rfl, ?_⟩
    have n0_ := Aside0.mk (below_step (by repeat (with_reducible first | exact HB.out | apply below_alloc | apply pw_below_drewN | apply below_drew1)) hb)
    clear HB
    have HB := n0_
    clear n0_
    (try clear hb)
    (try clear hb2)
    (try clear hk)
    (try clear hi)
    refine hK.out _ _ ⟨((HB.out.cell (World.block_lt_of_cell? w _ hw238_0)).trans hw238_0), ((HB.out.cell (World.block_lt_of_cell? w _ hw238_1)).trans hw238_1), ((HB.out.cell (World.block_lt_of_cell? w _ hw238_2)).trans hw238_2), ((HB.out.cell (World.block_lt_of_cell? w _ hw238_3)).trans hw238_3), ((HB.out.cell (World.block_lt_of_cell? w _ hw238_4)).trans hw238_4), ((HB.out.cell (World.block_lt_of_cell? w _ hw238_5)).trans hw238_5), ((HB.out.cell (World.block_lt_of_cell? w _ hw239_0)).trans hw239_0), ((HB.out.cell (World.block_lt_of_cell? w _ hw239_1)).trans hw239_1), ((HB.out.cell (World.block_lt_of_cell? w _ hw239_2)).trans hw239_2), ((HB.out.cell (World.block_lt_of_cell? w _ hw239_3)).trans hw239_3), ((HB.out.cell (World.block_lt_of_cell? w _ hw239_4)).trans hw239_4), ((HB.out.cell (World.block_lt_of_cell? w _ hw239_5)).trans hw239_5)⟩ (fun hHeld => ?_)
    clear hK K
    refine norm_ (a' := ?_) ?_ ?_
    rotate_left
    · show Act.put _ (some 27) _ = _
      simp only [Act.put, List.setIfInBounds_toArray, List.set_cons_zero, List.set_cons_succ, i64_w, i32_w]
      rfl
    refine pure_ (i := 15) (N := some 28) (v := ?_) (a' := ?_) #[y14, y14, y14, y14, y14, y14, y14, y14, y14, y14, y14, y14, y14, y14, y14, y14, n14] rfl rfl (any_of HT_.out (by kernel_rfl)) (fun _ _ _ h => h) (Or.inl ⟨by rfl, ?_⟩) ?_ ?_
    rotate_left
    · intro w'
      go_simp
      with_reducible rfl
    rotate_left
    · simp only [Act.put, List.setIfInBounds_toArray, List.set_cons_zero, List.set_cons_succ, i64_w, i32_w]
      rfl
    refine pure_ (i := 16) (N := some 29) (v := ?_) (a' := ?_) #[y14, y14, y14, y14, y14, y14, y14, y14, y14, y14, y14, y14, y14, y14, y14, y14, y14] rfl rfl (any_of HT_.out (by kernel_rfl)) (fun _ _ _ h => h) (Or.inl ⟨by rfl, ?_⟩) ?_ ?_
    rotate_left
    · intro w'
      go_simp
      with_reducible rfl
    rotate_left
    · simp only [Act.put, List.setIfInBounds_toArray, List.set_cons_zero, List.set_cons_succ, i64_w, i32_w]
      rfl
    refine done_ (done_of HT_.out (by kernel_rfl)) ?_
    try go_wp2
    go_meet
    case rel => exact ⟨_, (decide (t240 ≥ 0)), (by first | rfl | (simp; done) | (simp [*]; done)), H', ⟨by have := HK1.out; first | omega | exact Nat.le_refl _⟩, ⟨by repeat (with_reducible first | exact HB.out | apply below_alloc | apply pw_below_drewN | apply below_drew1)⟩⟩
   case rest =>
    clear HC4
    try clear c2
    try clear c2b0
    try clear c2b1
    try clear p2
    try clear q2
    try clear hx2
    try clear c3
    try clear c3b0
    try clear c5
    try clear c5b0
    try clear p6
    try clear c7
    try clear c7b0
    try clear c8
    try clear c8b0
    try clear c9
    try clear c9b0
    try clear hx238_0
    try clear hx238_1
    try clear hx238_2
    try clear hx238_3
    try clear hx238_4
    try clear hx238_5
    try clear hx239_0
    try clear hx239_1
    try clear hx239_2
    try clear hx239_3
    try clear hx239_4
    try clear hx239_5
    try clear p2
    try clear p238
    try clear p239
    try clear q238
    try clear q239
    obtain ⟨kq, x29_3, rfl, HA, HJ3, HB⟩ := hcut
    cases kq with
    | zero => exact absurd HA.out (by simp [contangoref15_Check.j1])
    | succ kj3 =>
     have H := HA.out
     clear HA
     simp only [contangoref15_Check.j1] at H
     by_cases c14 : x29_3 = true
     · subst c14
       have H1 : (some 19) = some r := by rw [if_pos rfl] at H; exact H
       clear H
       have H := H1
       clear H1
       obtain rfl := Option.some.inj H
       go_wp2
       go_ret
       exact ⟨by first | rfl | (simp [errW_none, errW_some] <;> rfl) | (simp [*, errW_none, errW_some] <;> rfl), by repeat (with_reducible first | exact HB.out | apply below_alloc | apply pw_below_drewN | apply below_drew1)⟩
     replace c14 := Bool.eq_false_iff.mpr c14
     subst c14
     have H1 : (if 0 ≤ x3_1 then (if x3_1 < (l0.length : Int) then ((contangoref15_lots.f ((rd_T57 l0 x3_1).f1)).bind fun t242 => (if t242 = true then ((contangoref15_lots.f ((rd_T57 l0 x3_1).f2)).bind fun t244 => (if t244 = true then (if (wrap64 (((rd_T57 l0 x3_1).f1) + ((rd_T57 l0 x3_1).f2))) = 0 then (some 18) else (contangoref15_Check.l0 kj3 l0 (wrap64 (x3_1 + 1)))) else (some 18))) else (some 18))) else (none)) else (none)) = some r := by rw [if_neg (show ¬ (false = true) by decide)] at H; exact H
     clear H
     have H := H1
     clear H1
     by_cases c15 : 0 ≤ x3_1
     rotate_left
     · rw [if_neg c15] at H
       exact absurd H (by simp)
     rw [if_pos c15] at H
     have c15b0 : decide (0 ≤ x3_1) = true := decide_eq_true c15
     clear c15
     by_cases c16 : x3_1 < (l0.length : Int)
     rotate_left
     · rw [if_neg c16] at H
       exact absurd H (by simp)
     rw [if_pos c16] at H
     have c16b0 : decide (x3_1 < (l0.length : Int)) = true := decide_eq_true c16
     clear c16
     replace H := Option.bind_eq_some_iff.mp H
     obtain ⟨t242, A170, H⟩ := H
     replace H : (if t242 = true then ((contangoref15_lots.f ((rd_T57 l0 x3_1).f2)).bind fun t244 => (if t244 = true then (if (wrap64 (((rd_T57 l0 x3_1).f1) + ((rd_T57 l0 x3_1).f2))) = 0 then (some 18) else (contangoref15_Check.l0 kj3 l0 (wrap64 (x3_1 + 1)))) else (some 18))) else (some 18)) = some r := H
     have A17 := Aside0.mk A170
     clear A170
     by_cases c18 : t242 = true
     rotate_left
     · replace c18 := Bool.eq_false_iff.mpr c18
       subst c18
       have H1 : (some 18) = some r := by rw [if_neg (show ¬ (false = true) by decide)] at H; exact H
       clear H
       have H := H1
       clear H1
       obtain rfl := Option.some.inj H
       try go_wp2
       have n0_ := Aside0.mk (below_drew1 HB.out)
       clear HB
       have HB := n0_
       clear n0_
       have p241 : 0 ≤ (x3_1 : Int) := of_decide_eq_true (by first | (with_reducible assumption) | assumption)
       have q241 : x3_1 < (l0.length : Int) := of_decide_eq_true (by first | (with_reducible assumption) | assumption)
       obtain ⟨ad241, e241, hx241_0, hx241_1, hx241_2, hx241_3, hx241_4, hx241_5⟩ := at_T57 HR0.out x3_1 p241 q241
       have hw241_5 := hx241_5
       have hw241_4 := hx241_4
       have hw241_3 := hx241_3
       have hw241_2 := hx241_2
       have hw241_1 := hx241_1
       have hw241_0 := hx241_0
       cases e241
       replace hx241_0 := (HB.out.cell (World.block_lt_of_cell? w _ hx241_0)).trans hx241_0
       replace hx241_1 := (HB.out.cell (World.block_lt_of_cell? w _ hx241_1)).trans hx241_1
       replace hx241_2 := (HB.out.cell (World.block_lt_of_cell? w _ hx241_2)).trans hx241_2
       replace hx241_3 := (HB.out.cell (World.block_lt_of_cell? w _ hx241_3)).trans hx241_3
       replace hx241_4 := (HB.out.cell (World.block_lt_of_cell? w _ hx241_4)).trans hx241_4
       replace hx241_5 := (HB.out.cell (World.block_lt_of_cell? w _ hx241_5)).trans hx241_5
       replace p241 := eq_true p241
       replace q241 := eq_true q241
       refine start_ (n := 30) (S := fun w' => w'.cell? (ad241.add ((x3_1).toNat * 6)) = some (.string ((rd_T57 l0 x3_1).f0.f0)) ∧ w'.cell? ⟨(ad241.add ((x3_1).toNat * 6)).block, (ad241.add ((x3_1).toNat * 6)).off + 1, none⟩ = some (.int .i64 ((rd_T57 l0 x3_1).f0.f1)) ∧ w'.cell? ⟨(ad241.add ((x3_1).toNat * 6)).block, (ad241.add ((x3_1).toNat * 6)).off + 2, none⟩ = some (.int .i64 ((rd_T57 l0 x3_1).f0.f2)) ∧ w'.cell? ⟨(ad241.add ((x3_1).toNat * 6)).block, (ad241.add ((x3_1).toNat * 6)).off + 3, none⟩ = some (.int .i64 ((rd_T57 l0 x3_1).f0.f3)) ∧ w'.cell? ⟨(ad241.add ((x3_1).toNat * 6)).block, (ad241.add ((x3_1).toNat * 6)).off + 4, none⟩ = some (.int .i64 ((rd_T57 l0 x3_1).f1)) ∧ w'.cell? ⟨(ad241.add ((x3_1).toNat * 6)).block, (ad241.add ((x3_1).toNat * 6)).off + 5, none⟩ = some (.int .i64 ((rd_T57 l0 x3_1).f2))) (ds := []) #[n14, n14, n14, n14, n14, n14, n14, n14, n14, n14, n14, n14, n14, n14, n14, n14, n14, n14, n14, n14, n14, n14, n14, n14, n14, n14, n14, n14, n14, n14] (by kernel_rfl) rfl rfl ⟨((HB.out.cell (World.block_lt_of_cell? w _ hw241_0)).trans hw241_0), ((HB.out.cell (World.block_lt_of_cell? w _ hw241_1)).trans hw241_1), ((HB.out.cell (World.block_lt_of_cell? w _ hw241_2)).trans hw241_2), ((HB.out.cell (World.block_lt_of_cell? w _ hw241_3)).trans hw241_3), ((HB.out.cell (World.block_lt_of_cell? w _ hw241_4)).trans hw241_4), ((HB.out.cell (World.block_lt_of_cell? w _ hw241_5)).trans hw241_5)⟩ (fun hHeld => ?_); refine with_tabW contangoref15_Check.tab8 contangoref15_Check.bits8 (fun HT_ HW_ => ?_)
       generalize wc.drew = w25 at HB hx241_0 hx241_1 hx241_2 hx241_3 hx241_4 hx241_5 hHeld ⊢
       refine pure_ (i := 0) (N := some 30) (v := ?_) (a' := ?_) #[y14, n14, n14, n14, n14, n14, n14, n14, n14, n14, n14, n14, n14, n14, n14, n14, n14, n14, n14, n14, n14, n14, n14, n14, n14, n14, n14, n14, n14, n14] rfl rfl (any_of HT_.out (by kernel_rfl)) (fun _ _ _ h => h) (Or.inl ⟨by rfl, ?_⟩) ?_ ?_
       rotate_left
       · intro w'
         go_simp
         with_reducible rfl
       rotate_left
       · simp only [Act.put, List.setIfInBounds_toArray, List.set_cons_zero, List.set_cons_succ, i64_w, i32_w]
         rfl
       refine pure_ (i := 1) (N := some 31) (v := ?_) (a' := ?_) #[y14, y14, n14, n14, n14, n14, n14, n14, n14, n14, n14, n14, n14, n14, n14, n14, n14, n14, n14, n14, n14, n14, n14, n14, n14, n14, n14, n14, n14, n14] rfl rfl (any_of HT_.out (by kernel_rfl)) (fun _ _ _ h => h) (Or.inl ⟨by rfl, ?_⟩) ?_ ?_
       rotate_left
       · intro w'
         go_simp
         with_reducible rfl
       rotate_left
       · simp only [Act.put, List.setIfInBounds_toArray, List.set_cons_zero, List.set_cons_succ, i64_w, i32_w]
         rfl
       refine pure_ (i := 2) (N := some 32) (v := ?_) (a' := ?_) #[y14, y14, y14, n14, n14, n14, n14, n14, n14, n14, n14, n14, n14, n14, n14, n14, n14, n14, n14, n14, n14, n14, n14, n14, n14, n14, n14, n14, n14, n14] rfl rfl (any_of HT_.out (by kernel_rfl)) (fun _ _ _ h => h) (Or.inl ⟨by rfl, ?_⟩) ?_ ?_
       rotate_left
       · intro w'
         go_simp
         with_reducible rfl
       rotate_left
       · simp only [Act.put, List.setIfInBounds_toArray, List.set_cons_zero, List.set_cons_succ, i64_w, i32_w]
         rfl
       refine pure_ (i := 3) (N := some 33) (v := ?_) (a' := ?_) #[y14, y14, y14, y14, n14, n14, n14, n14, n14, n14, n14, n14, n14, n14, n14, n14, n14, n14, n14, n14, n14, n14, n14, n14, n14, n14, n14, n14, n14, n14] rfl rfl (any_of HT_.out (by kernel_rfl)) (fun _ _ _ h => h) (Or.inl ⟨by rfl, ?_⟩) ?_ ?_
       rotate_left
       · intro w'
         go_simp
         with_reducible rfl
       rotate_left
       · simp only [Act.put, List.setIfInBounds_toArray, List.set_cons_zero, List.set_cons_succ, i64_w, i32_w]
         rfl
       refine take_ (i := 4) (N := some 34) (v := ?_) (a' := ?_) #[y14, y14, y14, y14, y14, n14, n14, n14, n14, n14, n14, n14, n14, n14, n14, n14, n14, n14, n14, n14, n14, n14, n14, n14, n14, n14, n14, n14, n14, n14] rfl rfl (take_ofW HT_.out HW_.out (by kernel_rfl)) (fun _ _ _ h => h) (Or.inl ⟨by rfl, ?_⟩) hHeld ?_ ?_
       rotate_left
       · rintro w' ⟨s0, s1, s2, s3, s4, s5⟩
         go_simp
         with_reducible rfl
       rotate_left
       · simp only [Act.put, List.setIfInBounds_toArray, List.set_cons_zero, List.set_cons_succ, i64_w, i32_w]
         rfl
       refine one_ (i := 5) (N := some 35) #[y14, y14, y14, y14, y14, y14, n14, n14, n14, n14, n14, n14, n14, n14, n14, n14, n14, n14, n14, n14, n14, n14, n14, n14, n14, n14, n14, n14, n14, n14] rfl rfl (one_of HT_.out (by kernel_rfl)) (by decide) (fun K hK => ?_)
       refine goes_ Try.func59 (by kernel_rfl) rfl #[.int .i64 ((rd_T57 l0 x3_1).f1)] (by rfl) rfl rfl (by (try simp only [List.map_toArray, List.map_cons, List.map_nil]); first | done | rfl | (simp only [List.length_drop, List.length_take]; rfl)) ?_
       with_reducible refine (contangoref15_lots.calls ((rd_T57 l0 x3_1).f1) false _ A17.out).mono ?_
       rintro e w' ⟨rfl, ⟨nd, rfl⟩⟩
       refine ⟨_, rfl, ?_⟩
       refine hK.out _ _ ⟨((HB.out.cell (World.block_lt_of_cell? w _ hw241_0)).trans hw241_0), ((HB.out.cell (World.block_lt_of_cell? w _ hw241_1)).trans hw241_1), ((HB.out.cell (World.block_lt_of_cell? w _ hw241_2)).trans hw241_2), ((HB.out.cell (World.block_lt_of_cell? w _ hw241_3)).trans hw241_3), ((HB.out.cell (World.block_lt_of_cell? w _ hw241_4)).trans hw241_4), ((HB.out.cell (World.block_lt_of_cell? w _ hw241_5)).trans hw241_5)⟩ (fun hHeld => ?_)
       clear hK K
       refine norm_ (a' := ?_) ?_ ?_
       rotate_left
       · show Act.put _ (some 35) _ = _
         simp only [Act.put, List.setIfInBounds_toArray, List.set_cons_zero, List.set_cons_succ, i64_w, i32_w]
         rfl
       refine pure_ (i := 6) (N := some 36) (v := ?_) (a' := ?_) #[y14, y14, y14, y14, y14, y14, y14, n14, n14, n14, n14, n14, n14, n14, n14, n14, n14, n14, n14, n14, n14, n14, n14, n14, n14, n14, n14, n14, n14, n14] rfl rfl (any_of HT_.out (by kernel_rfl)) (fun _ _ _ h => h) (Or.inl ⟨by rfl, ?_⟩) ?_ ?_
       rotate_left
       · intro w'
         go_simp
         with_reducible rfl
       rotate_left
       · simp only [Act.put, List.setIfInBounds_toArray, List.set_cons_zero, List.set_cons_succ, i64_w, i32_w]
         rfl
       refine pure_ (i := 7) (N := some 37) (v := ?_) (a' := ?_) #[y14, y14, y14, y14, y14, y14, y14, y14, n14, n14, n14, n14, n14, n14, n14, n14, n14, n14, n14, n14, n14, n14, n14, n14, n14, n14, n14, n14, n14, n14] rfl rfl (any_of HT_.out (by kernel_rfl)) (fun _ _ _ h => h) (Or.inl ⟨by rfl, ?_⟩) ?_ ?_
       rotate_left
       · intro w'
         go_simp
         with_reducible rfl
       rotate_left
       · simp only [Act.put, List.setIfInBounds_toArray, List.set_cons_zero, List.set_cons_succ, i64_w, i32_w]
         rfl
       refine pure_ (i := 8) (N := some 38) (v := undef) (a' := ?_) #[y14, y14, y14, y14, y14, y14, y14, y14, y14, n14, n14, n14, n14, n14, n14, n14, n14, n14, n14, n14, n14, n14, n14, n14, n14, n14, n14, n14, n14, n14] rfl rfl (any_of HT_.out (by kernel_rfl)) (fun _ _ _ h => h) (Or.inr ⟨by rfl, rfl⟩) ?_ ?_
       rotate_left
       · simp only [Act.put, List.setIfInBounds_toArray, List.set_cons_zero, List.set_cons_succ, i64_w, i32_w]
         rfl
       refine pure_ (i := 9) (N := some 39) (v := undef) (a' := ?_) #[y14, y14, y14, y14, y14, y14, y14, y14, y14, y14, n14, n14, n14, n14, n14, n14, n14, n14, n14, n14, n14, n14, n14, n14, n14, n14, n14, n14, n14, n14] rfl rfl (any_of HT_.out (by kernel_rfl)) (fun _ _ _ h => h) (Or.inr ⟨by rfl, rfl⟩) ?_ ?_
       rotate_left
       · simp only [Act.put, List.setIfInBounds_toArray, List.set_cons_zero, List.set_cons_succ, i64_w, i32_w]
         rfl
       refine pure_ (i := 10) (N := some 40) (v := undef) (a' := ?_) #[y14, y14, y14, y14, y14, y14, y14, y14, y14, y14, y14, n14, n14, n14, n14, n14, n14, n14, n14, n14, n14, n14, n14, n14, n14, n14, n14, n14, n14, n14] rfl rfl (any_of HT_.out (by kernel_rfl)) (fun _ _ _ h => h) (Or.inr ⟨by rfl, rfl⟩) ?_ ?_
       rotate_left
       · simp only [Act.put, List.setIfInBounds_toArray, List.set_cons_zero, List.set_cons_succ, i64_w, i32_w]
         rfl
       refine pure_ (i := 11) (N := some 41) (v := undef) (a' := ?_) #[y14, y14, y14, y14, y14, y14, y14, y14, y14, y14, y14, y14, n14, n14, n14, n14, n14, n14, n14, n14, n14, n14, n14, n14, n14, n14, n14, n14, n14, n14] rfl rfl (any_of HT_.out (by kernel_rfl)) (fun _ _ _ h => h) (Or.inr ⟨by rfl, rfl⟩) ?_ ?_
       rotate_left
       · simp only [Act.put, List.setIfInBounds_toArray, List.set_cons_zero, List.set_cons_succ, i64_w, i32_w]
         rfl
       refine pure_ (i := 12) (N := some 42) (v := undef) (a' := ?_) #[y14, y14, y14, y14, y14, y14, y14, y14, y14, y14, y14, y14, y14, n14, n14, n14, n14, n14, n14, n14, n14, n14, n14, n14, n14, n14, n14, n14, n14, n14] rfl rfl (any_of HT_.out (by kernel_rfl)) (fun _ _ _ h => h) (Or.inr ⟨by rfl, rfl⟩) ?_ ?_
       rotate_left
       · simp only [Act.put, List.setIfInBounds_toArray, List.set_cons_zero, List.set_cons_succ, i64_w, i32_w]
         rfl
       refine pure_ (i := 13) (N := some 43) (v := undef) (a' := ?_) #[y14, y14, y14, y14, y14, y14, y14, y14, y14, y14, y14, y14, y14, y14, n14, n14, n14, n14, n14, n14, n14, n14, n14, n14, n14, n14, n14, n14, n14, n14] rfl rfl (any_of HT_.out (by kernel_rfl)) (fun _ _ _ h => h) (Or.inr ⟨by rfl, rfl⟩) ?_ ?_
       rotate_left
       · simp only [Act.put, List.setIfInBounds_toArray, List.set_cons_zero, List.set_cons_succ, i64_w, i32_w]
         rfl
       refine pure_ (i := 14) (N := some 44) (v := undef) (a' := ?_) #[y14, y14, y14, y14, y14, y14, y14, y14, y14, y14, y14, y14, y14, y14, y14, n14, n14, n14, n14, n14, n14, n14, n14, n14, n14, n14, n14, n14, n14, n14] rfl rfl (any_of HT_.out (by kernel_rfl)) (fun _ _ _ h => h) (Or.inr ⟨by rfl, rfl⟩) ?_ ?_
       rotate_left
       · simp only [Act.put, List.setIfInBounds_toArray, List.set_cons_zero, List.set_cons_succ, i64_w, i32_w]
         rfl
       refine pure_ (i := 15) (N := some 45) (v := ?_) (a' := ?_) #[y14, y14, y14, y14, y14, y14, y14, y14, y14, y14, y14, y14, y14, y14, y14, y14, n14, n14, n14, n14, n14, n14, n14, n14, n14, n14, n14, n14, n14, n14] rfl rfl (any_of HT_.out (by kernel_rfl)) (fun _ _ _ h => h) (Or.inl ⟨by rfl, ?_⟩) ?_ ?_
       rotate_left
       · intro w'
         go_simp
         with_reducible rfl
       rotate_left
       · simp only [Act.put, List.setIfInBounds_toArray, List.set_cons_zero, List.set_cons_succ, i64_w, i32_w]
         rfl
       refine pure_ (i := 16) (N := some 46) (v := ?_) (a' := ?_) #[y14, y14, y14, y14, y14, y14, y14, y14, y14, y14, y14, y14, y14, y14, y14, y14, y14, n14, n14, n14, n14, n14, n14, n14, n14, n14, n14, n14, n14, n14] rfl rfl (any_of HT_.out (by kernel_rfl)) (fun _ _ _ h => h) (Or.inl ⟨by rfl, ?_⟩) ?_ ?_
       rotate_left
       · intro w'
         go_simp
         with_reducible rfl
       rotate_left
       · simp only [Act.put, List.setIfInBounds_toArray, List.set_cons_zero, List.set_cons_succ, i64_w, i32_w]
         rfl
       refine pure_ (i := 17) (N := some 47) (v := undef) (a' := ?_) #[y14, y14, y14, y14, y14, y14, y14, y14, y14, y14, y14, y14, y14, y14, y14, y14, y14, y14, n14, n14, n14, n14, n14, n14, n14, n14, n14, n14, n14, n14] rfl rfl (any_of HT_.out (by kernel_rfl)) (fun _ _ _ h => h) (Or.inr ⟨by rfl, rfl⟩) ?_ ?_
       rotate_left
       · simp only [Act.put, List.setIfInBounds_toArray, List.set_cons_zero, List.set_cons_succ, i64_w, i32_w]
         rfl
       refine pure_ (i := 18) (N := some 48) (v := undef) (a' := ?_) #[y14, y14, y14, y14, y14, y14, y14, y14, y14, y14, y14, y14, y14, y14, y14, y14, y14, y14, y14, n14, n14, n14, n14, n14, n14, n14, n14, n14, n14, n14] rfl rfl (any_of HT_.out (by kernel_rfl)) (fun _ _ _ h => h) (Or.inr ⟨by rfl, rfl⟩) ?_ ?_
       rotate_left
       · simp only [Act.put, List.setIfInBounds_toArray, List.set_cons_zero, List.set_cons_succ, i64_w, i32_w]
         rfl
       refine pure_ (i := 19) (N := some 49) (v := undef) (a' := ?_) #[y14, y14, y14, y14, y14, y14, y14, y14, y14, y14, y14, y14, y14, y14, y14, y14, y14, y14, y14, y14, n14, n14, n14, n14, n14, n14, n14, n14, n14, n14] rfl rfl (any_of HT_.out (by kernel_rfl)) (fun _ _ _ h => h) (Or.inr ⟨by rfl, rfl⟩) ?_ ?_
       rotate_left
       · simp only [Act.put, List.setIfInBounds_toArray, List.set_cons_zero, List.set_cons_succ, i64_w, i32_w]
         rfl
       refine pure_ (i := 20) (N := some 50) (v := undef) (a' := ?_) #[y14, y14, y14, y14, y14, y14, y14, y14, y14, y14, y14, y14, y14, y14, y14, y14, y14, y14, y14, y14, y14, n14, n14, n14, n14, n14, n14, n14, n14, n14] rfl rfl (any_of HT_.out (by kernel_rfl)) (fun _ _ _ h => h) (Or.inr ⟨by rfl, rfl⟩) ?_ ?_
       rotate_left
       · simp only [Act.put, List.setIfInBounds_toArray, List.set_cons_zero, List.set_cons_succ, i64_w, i32_w]
         rfl
       refine pure_ (i := 21) (N := some 51) (v := undef) (a' := ?_) #[y14, y14, y14, y14, y14, y14, y14, y14, y14, y14, y14, y14, y14, y14, y14, y14, y14, y14, y14, y14, y14, y14, n14, n14, n14, n14, n14, n14, n14, n14] rfl rfl (any_of HT_.out (by kernel_rfl)) (fun _ _ _ h => h) (Or.inr ⟨by rfl, rfl⟩) ?_ ?_
       rotate_left
       · simp only [Act.put, List.setIfInBounds_toArray, List.set_cons_zero, List.set_cons_succ, i64_w, i32_w]
         rfl
       refine pure_ (i := 22) (N := some 52) (v := undef) (a' := ?_) #[y14, y14, y14, y14, y14, y14, y14, y14, y14, y14, y14, y14, y14, y14, y14, y14, y14, y14, y14, y14, y14, y14, y14, n14, n14, n14, n14, n14, n14, n14] rfl rfl (any_of HT_.out (by kernel_rfl)) (fun _ _ _ h => h) (Or.inr ⟨by rfl, rfl⟩) ?_ ?_
       rotate_left
       · simp only [Act.put, List.setIfInBounds_toArray, List.set_cons_zero, List.set_cons_succ, i64_w, i32_w]
         rfl
       refine pure_ (i := 23) (N := some 53) (v := undef) (a' := ?_) #[y14, y14, y14, y14, y14, y14, y14, y14, y14, y14, y14, y14, y14, y14, y14, y14, y14, y14, y14, y14, y14, y14, y14, y14, n14, n14, n14, n14, n14, n14] rfl rfl (any_of HT_.out (by kernel_rfl)) (fun _ _ _ h => h) (Or.inr ⟨by rfl, rfl⟩) ?_ ?_
       rotate_left
       · simp only [Act.put, List.setIfInBounds_toArray, List.set_cons_zero, List.set_cons_succ, i64_w, i32_w]
         rfl
       refine pure_ (i := 24) (N := some 54) (v := undef) (a' := ?_) #[y14, y14, y14, y14, y14, y14, y14, y14, y14, y14, y14, y14, y14, y14, y14, y14, y14, y14, y14, y14, y14, y14, y14, y14, y14, n14, n14, n14, n14, n14] rfl rfl (any_of HT_.out (by kernel_rfl)) (fun _ _ _ h => h) (Or.inr ⟨by rfl, rfl⟩) ?_ ?_
       rotate_left
       · simp only [Act.put, List.setIfInBounds_toArray, List.set_cons_zero, List.set_cons_succ, i64_w, i32_w]
         rfl
       refine pure_ (i := 25) (N := some 55) (v := undef) (a' := ?_) #[y14, y14, y14, y14, y14, y14, y14, y14, y14, y14, y14, y14, y14, y14, y14, y14, y14, y14, y14, y14, y14, y14, y14, y14, y14, y14, n14, n14, n14, n14] rfl rfl (any_of HT_.out (by kernel_rfl)) (fun _ _ _ h => h) (Or.inr ⟨by rfl, rfl⟩) ?_ ?_
       rotate_left
       · simp only [Act.put, List.setIfInBounds_toArray, List.set_cons_zero, List.set_cons_succ, i64_w, i32_w]
         rfl
       refine pure_ (i := 26) (N := some 56) (v := undef) (a' := ?_) #[y14, y14, y14, y14, y14, y14, y14, y14, y14, y14, y14, y14, y14, y14, y14, y14, y14, y14, y14, y14, y14, y14, y14, y14, y14, y14, y14, n14, n14, n14] rfl rfl (any_of HT_.out (by kernel_rfl)) (fun _ _ _ h => h) (Or.inr ⟨by rfl, rfl⟩) ?_ ?_
       rotate_left
       · simp only [Act.put, List.setIfInBounds_toArray, List.set_cons_zero, List.set_cons_succ, i64_w, i32_w]
         rfl
       refine pure_ (i := 27) (N := some 57) (v := undef) (a' := ?_) #[y14, y14, y14, y14, y14, y14, y14, y14, y14, y14, y14, y14, y14, y14, y14, y14, y14, y14, y14, y14, y14, y14, y14, y14, y14, y14, y14, y14, n14, n14] rfl rfl (any_of HT_.out (by kernel_rfl)) (fun _ _ _ h => h) (Or.inr ⟨by rfl, rfl⟩) ?_ ?_
       rotate_left
       · simp only [Act.put, List.setIfInBounds_toArray, List.set_cons_zero, List.set_cons_succ, i64_w, i32_w]
         rfl
       refine pure_ (i := 28) (N := some 58) (v := undef) (a' := ?_) #[y14, y14, y14, y14, y14, y14, y14, y14, y14, y14, y14, y14, y14, y14, y14, y14, y14, y14, y14, y14, y14, y14, y14, y14, y14, y14, y14, y14, y14, n14] rfl rfl (any_of HT_.out (by kernel_rfl)) (fun _ _ _ h => h) (Or.inr ⟨by rfl, rfl⟩) ?_ ?_
       rotate_left
       · simp only [Act.put, List.setIfInBounds_toArray, List.set_cons_zero, List.set_cons_succ, i64_w, i32_w]
         rfl
       refine pure_ (i := 29) (N := some 59) (v := ?_) (a' := ?_) #[y14, y14, y14, y14, y14, y14, y14, y14, y14, y14, y14, y14, y14, y14, y14, y14, y14, y14, y14, y14, y14, y14, y14, y14, y14, y14, y14, y14, y14, y14] rfl rfl (any_of HT_.out (by kernel_rfl)) (fun _ _ _ h => h) (Or.inl ⟨by rfl, ?_⟩) ?_ ?_
       rotate_left
       · intro w'
         go_simp
         with_reducible rfl
       rotate_left
       · simp only [Act.put, List.setIfInBounds_toArray, List.set_cons_zero, List.set_cons_succ, i64_w, i32_w]
         rfl
       refine done_ (done_of HT_.out (by kernel_rfl)) ?_
       try go_wp2
       go_ret
       exact ⟨by first | rfl | (simp [errW_none, errW_some] <;> rfl) | (simp [*, errW_none, errW_some] <;> rfl), by repeat (with_reducible first | exact HB.out | apply below_alloc | apply pw_below_drewN | apply below_drew1)⟩
     subst c18
     have H1 : ((contangoref15_lots.f ((rd_T57 l0 x3_1).f2)).bind fun t244 => (if t244 = true then (if (wrap64 (((rd_T57 l0 x3_1).f1) + ((rd_T57 l0 x3_1).f2))) = 0 then (some 18) else (contangoref15_Check.l0 kj3 l0 (wrap64 (x3_1 + 1)))) else (some 18))) = some r := by rw [if_pos rfl] at H; exact H
     clear H
     have H := H1
     clear H1
     replace H := Option.bind_eq_some_iff.mp H
     obtain ⟨t244, A190, H⟩ := H
     replace H : (if t244 = true then (if (wrap64 (((rd_T57 l0 x3_1).f1) + ((rd_T57 l0 x3_1).f2))) = 0 then (some 18) else (contangoref15_Check.l0 kj3 l0 (wrap64 (x3_1 + 1)))) else (some 18)) = some r := H
     have A19 := Aside0.mk A190
     clear A190
     by_cases c20 : t244 = true
     rotate_left
     · replace c20 := Bool.eq_false_iff.mpr c20
       subst c20
       have H1 : (some 18) = some r := by rw [if_neg (show ¬ (false = true) by decide)] at H; exact H
       clear H
       have H := H1
       clear H1
       obtain rfl := Option.some.inj H
       try go_wp2
       have n0_ := Aside0.mk (below_drew1 HB.out)
       clear HB
       have HB := n0_
       clear n0_
       have p241 : 0 ≤ (x3_1 : Int) := of_decide_eq_true (by first | (with_reducible assumption) | assumption)
       have q241 : x3_1 < (l0.length : Int) := of_decide_eq_true (by first | (with_reducible assumption) | assumption)
       obtain ⟨ad241, e241, hx241_0, hx241_1, hx241_2, hx241_3, hx241_4, hx241_5⟩ := at_T57 HR0.out x3_1 p241 q241
       have hw241_5 := hx241_5
       have hw241_4 := hx241_4
       have hw241_3 := hx241_3
       have hw241_2 := hx241_2
       have hw241_1 := hx241_1
       have hw241_0 := hx241_0
       cases e241
       replace hx241_0 := (HB.out.cell (World.block_lt_of_cell? w _ hx241_0)).trans hx241_0
       replace hx241_1 := (HB.out.cell (World.block_lt_of_cell? w _ hx241_1)).trans hx241_1
       replace hx241_2 := (HB.out.cell (World.block_lt_of_cell? w _ hx241_2)).trans hx241_2
       replace hx241_3 := (HB.out.cell (World.block_lt_of_cell? w _ hx241_3)).trans hx241_3
       replace hx241_4 := (HB.out.cell (World.block_lt_of_cell? w _ hx241_4)).trans hx241_4
       replace hx241_5 := (HB.out.cell (World.block_lt_of_cell? w _ hx241_5)).trans hx241_5
       replace p241 := eq_true p241
       replace q241 := eq_true q241
       have p243 : 0 ≤ (x3_1 : Int) := of_decide_eq_true (by first | (with_reducible assumption) | assumption)
       have q243 : x3_1 < (l0.length : Int) := of_decide_eq_true (by first | (with_reducible assumption) | assumption)
       obtain ⟨ad243, e243, hx243_0, hx243_1, hx243_2, hx243_3, hx243_4, hx243_5⟩ := at_T57 HR0.out x3_1 p243 q243
       have hw243_5 := hx243_5
       have hw243_4 := hx243_4
       have hw243_3 := hx243_3
       have hw243_2 := hx243_2
       have hw243_1 := hx243_1
       have hw243_0 := hx243_0
       obtain rfl : ad241 = ad243 := (by injection e243)
       replace hx243_0 := (HB.out.cell (World.block_lt_of_cell? w _ hx243_0)).trans hx243_0
       replace hx243_1 := (HB.out.cell (World.block_lt_of_cell? w _ hx243_1)).trans hx243_1
       replace hx243_2 := (HB.out.cell (World.block_lt_of_cell? w _ hx243_2)).trans hx243_2
       replace hx243_3 := (HB.out.cell (World.block_lt_of_cell? w _ hx243_3)).trans hx243_3
       replace hx243_4 := (HB.out.cell (World.block_lt_of_cell? w _ hx243_4)).trans hx243_4
       replace hx243_5 := (HB.out.cell (World.block_lt_of_cell? w _ hx243_5)).trans hx243_5
       replace p243 := eq_true p243
       replace q243 := eq_true q243
       refine start_ (n := 30) (S := fun w' => w'.cell? (ad241.add ((x3_1).toNat * 6)) = some (.string ((rd_T57 l0 x3_1).f0.f0)) ∧ w'.cell? ⟨(ad241.add ((x3_1).toNat * 6)).block, (ad241.add ((x3_1).toNat * 6)).off + 1, none⟩ = some (.int .i64 ((rd_T57 l0 x3_1).f0.f1)) ∧ w'.cell? ⟨(ad241.add ((x3_1).toNat * 6)).block, (ad241.add ((x3_1).toNat * 6)).off + 2, none⟩ = some (.int .i64 ((rd_T57 l0 x3_1).f0.f2)) ∧ w'.cell? ⟨(ad241.add ((x3_1).toNat * 6)).block, (ad241.add ((x3_1).toNat * 6)).off + 3, none⟩ = some (.int .i64 ((rd_T57 l0 x3_1).f0.f3)) ∧ w'.cell? ⟨(ad241.add ((x3_1).toNat * 6)).block, (ad241.add ((x3_1).toNat * 6)).off + 4, none⟩ = some (.int .i64 ((rd_T57 l0 x3_1).f1)) ∧ w'.cell? ⟨(ad241.add ((x3_1).toNat * 6)).block, (ad241.add ((x3_1).toNat * 6)).off + 5, none⟩ = some (.int .i64 ((rd_T57 l0 x3_1).f2)) ∧ w'.cell? (ad241.add ((x3_1).toNat * 6)) = some (.string ((rd_T57 l0 x3_1).f0.f0)) ∧ w'.cell? ⟨(ad241.add ((x3_1).toNat * 6)).block, (ad241.add ((x3_1).toNat * 6)).off + 1, none⟩ = some (.int .i64 ((rd_T57 l0 x3_1).f0.f1)) ∧ w'.cell? ⟨(ad241.add ((x3_1).toNat * 6)).block, (ad241.add ((x3_1).toNat * 6)).off + 2, none⟩ = some (.int .i64 ((rd_T57 l0 x3_1).f0.f2)) ∧ w'.cell? ⟨(ad241.add ((x3_1).toNat * 6)).block, (ad241.add ((x3_1).toNat * 6)).off + 3, none⟩ = some (.int .i64 ((rd_T57 l0 x3_1).f0.f3)) ∧ w'.cell? ⟨(ad241.add ((x3_1).toNat * 6)).block, (ad241.add ((x3_1).toNat * 6)).off + 4, none⟩ = some (.int .i64 ((rd_T57 l0 x3_1).f1)) ∧ w'.cell? ⟨(ad241.add ((x3_1).toNat * 6)).block, (ad241.add ((x3_1).toNat * 6)).off + 5, none⟩ = some (.int .i64 ((rd_T57 l0 x3_1).f2))) (ds := []) #[n14, n14, n14, n14, n14, n14, n14, n14, n14, n14, n14, n14, n14, n14, n14, n14, n14, n14, n14, n14, n14, n14, n14, n14, n14, n14, n14, n14, n14, n14] (by kernel_rfl) rfl rfl ⟨((HB.out.cell (World.block_lt_of_cell? w _ hw241_0)).trans hw241_0), ((HB.out.cell (World.block_lt_of_cell? w _ hw241_1)).trans hw241_1), ((HB.out.cell (World.block_lt_of_cell? w _ hw241_2)).trans hw241_2), ((HB.out.cell (World.block_lt_of_cell? w _ hw241_3)).trans hw241_3), ((HB.out.cell (World.block_lt_of_cell? w _ hw241_4)).trans hw241_4), ((HB.out.cell (World.block_lt_of_cell? w _ hw241_5)).trans hw241_5), ((HB.out.cell (World.block_lt_of_cell? w _ hw243_0)).trans hw243_0), ((HB.out.cell (World.block_lt_of_cell? w _ hw243_1)).trans hw243_1), ((HB.out.cell (World.block_lt_of_cell? w _ hw243_2)).trans hw243_2), ((HB.out.cell (World.block_lt_of_cell? w _ hw243_3)).trans hw243_3), ((HB.out.cell (World.block_lt_of_cell? w _ hw243_4)).trans hw243_4), ((HB.out.cell (World.block_lt_of_cell? w _ hw243_5)).trans hw243_5)⟩ (fun hHeld => ?_); refine with_tabW contangoref15_Check.tab8 contangoref15_Check.bits8 (fun HT_ HW_ => ?_)
       generalize wc.drew = w24 at HB hx241_0 hx241_1 hx241_2 hx241_3 hx241_4 hx241_5 hx243_0 hx243_1 hx243_2 hx243_3 hx243_4 hx243_5 hHeld ⊢
       refine pure_ (i := 0) (N := some 30) (v := ?_) (a' := ?_) #[y14, n14, n14, n14, n14, n14, n14, n14, n14, n14, n14, n14, n14, n14, n14, n14, n14, n14, n14, n14, n14, n14, n14, n14, n14, n14, n14, n14, n14, n14] rfl rfl (any_of HT_.out (by kernel_rfl)) (fun _ _ _ h => h) (Or.inl ⟨by rfl, ?_⟩) ?_ ?_
       rotate_left
       · intro w'
         go_simp
         with_reducible rfl
       rotate_left
       · simp only [Act.put, List.setIfInBounds_toArray, List.set_cons_zero, List.set_cons_succ, i64_w, i32_w]
         rfl
       refine pure_ (i := 1) (N := some 31) (v := ?_) (a' := ?_) #[y14, y14, n14, n14, n14, n14, n14, n14, n14, n14, n14, n14, n14, n14, n14, n14, n14, n14, n14, n14, n14, n14, n14, n14, n14, n14, n14, n14, n14, n14] rfl rfl (any_of HT_.out (by kernel_rfl)) (fun _ _ _ h => h) (Or.inl ⟨by rfl, ?_⟩) ?_ ?_
       rotate_left
       · intro w'
         go_simp
         with_reducible rfl
       rotate_left
       · simp only [Act.put, List.setIfInBounds_toArray, List.set_cons_zero, List.set_cons_succ, i64_w, i32_w]
         rfl
       refine pure_ (i := 2) (N := some 32) (v := ?_) (a' := ?_) #[y14, y14, y14, n14, n14, n14, n14, n14, n14, n14, n14, n14, n14, n14, n14, n14, n14, n14, n14, n14, n14, n14, n14, n14, n14, n14, n14, n14, n14, n14] rfl rfl (any_of HT_.out (by kernel_rfl)) (fun _ _ _ h => h) (Or.inl ⟨by rfl, ?_⟩) ?_ ?_
       rotate_left
       · intro w'
         go_simp
         with_reducible rfl
       rotate_left
       · simp only [Act.put, List.setIfInBounds_toArray, List.set_cons_zero, List.set_cons_succ, i64_w, i32_w]
         rfl
       refine pure_ (i := 3) (N := some 33) (v := ?_) (a' := ?_) #[y14, y14, y14, y14, n14, n14, n14, n14, n14, n14, n14, n14, n14, n14, n14, n14, n14, n14, n14, n14, n14, n14, n14, n14, n14, n14, n14, n14, n14, n14] rfl rfl (any_of HT_.out (by kernel_rfl)) (fun _ _ _ h => h) (Or.inl ⟨by rfl, ?_⟩) ?_ ?_
       rotate_left
       · intro w'
         go_simp
         with_reducible rfl
       rotate_left
       · simp only [Act.put, List.setIfInBounds_toArray, List.set_cons_zero, List.set_cons_succ, i64_w, i32_w]
         rfl
       refine take_ (i := 4) (N := some 34) (v := ?_) (a' := ?_) #[y14, y14, y14, y14, y14, n14, n14, n14, n14, n14, n14, n14, n14, n14, n14, n14, n14, n14, n14, n14, n14, n14, n14, n14, n14, n14, n14, n14, n14, n14] rfl rfl (take_ofW HT_.out HW_.out (by kernel_rfl)) (fun _ _ _ h => h) (Or.inl ⟨by rfl, ?_⟩) hHeld ?_ ?_
       rotate_left
       · rintro w' ⟨s0, s1, s2, s3, s4, s5, s6, s7, s8, s9, s10, s11⟩
         go_simp
         with_reducible rfl
       rotate_left
       · simp only [Act.put, List.setIfInBounds_toArray, List.set_cons_zero, List.set_cons_succ, i64_w, i32_w]
         rfl
       refine one_ (i := 5) (N := some 35) #[y14, y14, y14, y14, y14, y14, n14, n14, n14, n14, n14, n14, n14, n14, n14, n14, n14, n14, n14, n14, n14, n14, n14, n14, n14, n14, n14, n14, n14, n14] rfl rfl (one_of HT_.out (by kernel_rfl)) (by decide) (fun K hK => ?_)
       refine goes_ Try.func59 (by kernel_rfl) rfl #[.int .i64 ((rd_T57 l0 x3_1).f1)] (by rfl) rfl rfl (by (try simp only [List.map_toArray, List.map_cons, List.map_nil]); first | done | rfl | (simp only [List.length_drop, List.length_take]; rfl)) ?_
       with_reducible refine (contangoref15_lots.calls ((rd_T57 l0 x3_1).f1) true _ A17.out).mono ?_
       rintro e w' ⟨rfl, ⟨nd, rfl⟩⟩
       refine ⟨_, rfl, ?_⟩
       refine hK.out _ _ ⟨((HB.out.cell (World.block_lt_of_cell? w _ hw241_0)).trans hw241_0), ((HB.out.cell (World.block_lt_of_cell? w _ hw241_1)).trans hw241_1), ((HB.out.cell (World.block_lt_of_cell? w _ hw241_2)).trans hw241_2), ((HB.out.cell (World.block_lt_of_cell? w _ hw241_3)).trans hw241_3), ((HB.out.cell (World.block_lt_of_cell? w _ hw241_4)).trans hw241_4), ((HB.out.cell (World.block_lt_of_cell? w _ hw241_5)).trans hw241_5), ((HB.out.cell (World.block_lt_of_cell? w _ hw243_0)).trans hw243_0), ((HB.out.cell (World.block_lt_of_cell? w _ hw243_1)).trans hw243_1), ((HB.out.cell (World.block_lt_of_cell? w _ hw243_2)).trans hw243_2), ((HB.out.cell (World.block_lt_of_cell? w _ hw243_3)).trans hw243_3), ((HB.out.cell (World.block_lt_of_cell? w _ hw243_4)).trans hw243_4), ((HB.out.cell (World.block_lt_of_cell? w _ hw243_5)).trans hw243_5)⟩ (fun hHeld => ?_)
       clear hK K
       refine norm_ (a' := ?_) ?_ ?_
       rotate_left
       · show Act.put _ (some 35) _ = _
         simp only [Act.put, List.setIfInBounds_toArray, List.set_cons_zero, List.set_cons_succ, i64_w, i32_w]
         rfl
       refine pure_ (i := 6) (N := some 36) (v := ?_) (a' := ?_) #[y14, y14, y14, y14, y14, y14, y14, n14, n14, n14, n14, n14, n14, n14, n14, n14, n14, n14, n14, n14, n14, n14, n14, n14, n14, n14, n14, n14, n14, n14] rfl rfl (any_of HT_.out (by kernel_rfl)) (fun _ _ _ h => h) (Or.inl ⟨by rfl, ?_⟩) ?_ ?_
       rotate_left
       · intro w'
         go_simp
         with_reducible rfl
       rotate_left
       · simp only [Act.put, List.setIfInBounds_toArray, List.set_cons_zero, List.set_cons_succ, i64_w, i32_w]
         rfl
       refine pure_ (i := 7) (N := some 37) (v := ?_) (a' := ?_) #[y14, y14, y14, y14, y14, y14, y14, y14, n14, n14, n14, n14, n14, n14, n14, n14, n14, n14, n14, n14, n14, n14, n14, n14, n14, n14, n14, n14, n14, n14] rfl rfl (any_of HT_.out (by kernel_rfl)) (fun _ _ _ h => h) (Or.inl ⟨by rfl, ?_⟩) ?_ ?_
       rotate_left
       · intro w'
         go_simp
         with_reducible rfl
       rotate_left
       · simp only [Act.put, List.setIfInBounds_toArray, List.set_cons_zero, List.set_cons_succ, i64_w, i32_w]
         rfl
       refine pure_ (i := 8) (N := some 38) (v := ?_) (a' := ?_) #[y14, y14, y14, y14, y14, y14, y14, y14, y14, n14, n14, n14, n14, n14, n14, n14, n14, n14, n14, n14, n14, n14, n14, n14, n14, n14, n14, n14, n14, n14] rfl rfl (any_of HT_.out (by kernel_rfl)) (fun _ _ _ h => h) (Or.inl ⟨by rfl, ?_⟩) ?_ ?_
       rotate_left
       · intro w'
         go_simp
         with_reducible rfl
       rotate_left
       · simp only [Act.put, List.setIfInBounds_toArray, List.set_cons_zero, List.set_cons_succ, i64_w, i32_w]
         rfl
       refine pure_ (i := 9) (N := some 39) (v := ?_) (a' := ?_) #[y14, y14, y14, y14, y14, y14, y14, y14, y14, y14, n14, n14, n14, n14, n14, n14, n14, n14, n14, n14, n14, n14, n14, n14, n14, n14, n14, n14, n14, n14] rfl rfl (any_of HT_.out (by kernel_rfl)) (fun _ _ _ h => h) (Or.inl ⟨by rfl, ?_⟩) ?_ ?_
       rotate_left
       · intro w'
         go_simp
         with_reducible rfl
       rotate_left
       · simp only [Act.put, List.setIfInBounds_toArray, List.set_cons_zero, List.set_cons_succ, i64_w, i32_w]
         rfl
       refine pure_ (i := 10) (N := some 40) (v := ?_) (a' := ?_) #[y14, y14, y14, y14, y14, y14, y14, y14, y14, y14, y14, n14, n14, n14, n14, n14, n14, n14, n14, n14, n14, n14, n14, n14, n14, n14, n14, n14, n14, n14] rfl rfl (any_of HT_.out (by kernel_rfl)) (fun _ _ _ h => h) (Or.inl ⟨by rfl, ?_⟩) ?_ ?_
       rotate_left
       · intro w'
         go_simp
         with_reducible rfl
       rotate_left
       · simp only [Act.put, List.setIfInBounds_toArray, List.set_cons_zero, List.set_cons_succ, i64_w, i32_w]
         rfl
       refine pure_ (i := 11) (N := some 41) (v := ?_) (a' := ?_) #[y14, y14, y14, y14, y14, y14, y14, y14, y14, y14, y14, y14, n14, n14, n14, n14, n14, n14, n14, n14, n14, n14, n14, n14, n14, n14, n14, n14, n14, n14] rfl rfl (any_of HT_.out (by kernel_rfl)) (fun _ _ _ h => h) (Or.inl ⟨by rfl, ?_⟩) ?_ ?_
       rotate_left
       · intro w'
         go_simp
         with_reducible rfl
       rotate_left
       · simp only [Act.put, List.setIfInBounds_toArray, List.set_cons_zero, List.set_cons_succ, i64_w, i32_w]
         rfl
       refine take_ (i := 12) (N := some 42) (v := ?_) (a' := ?_) #[y14, y14, y14, y14, y14, y14, y14, y14, y14, y14, y14, y14, y14, n14, n14, n14, n14, n14, n14, n14, n14, n14, n14, n14, n14, n14, n14, n14, n14, n14] rfl rfl (take_ofW HT_.out HW_.out (by kernel_rfl)) (fun _ _ _ h => h) (Or.inl ⟨by rfl, ?_⟩) hHeld ?_ ?_
       rotate_left
       · rintro w' ⟨s0, s1, s2, s3, s4, s5, s6, s7, s8, s9, s10, s11⟩
         go_simp
         with_reducible rfl
       rotate_left
       · simp only [Act.put, List.setIfInBounds_toArray, List.set_cons_zero, List.set_cons_succ, i64_w, i32_w]
         rfl
       refine one_ (i := 13) (N := some 43) #[y14, y14, y14, y14, y14, y14, y14, y14, y14, y14, y14, y14, y14, y14, n14, n14, n14, n14, n14, n14, n14, n14, n14, n14, n14, n14, n14, n14, n14, n14] rfl rfl (one_of HT_.out (by kernel_rfl)) (by decide) (fun K hK => ?_)
       refine goes_ Try.func59 (by kernel_rfl) rfl #[.int .i64 ((rd_T57 l0 x3_1).f2)] (by rfl) rfl rfl (by (try simp only [List.map_toArray, List.map_cons, List.map_nil]); first | done | rfl | (simp only [List.length_drop, List.length_take]; rfl)) ?_
       with_reducible refine (contangoref15_lots.calls ((rd_T57 l0 x3_1).f2) false _ A19.out).mono ?_
       rintro e w' ⟨rfl, ⟨nd, rfl⟩⟩
       refine ⟨_, rfl, ?_⟩
       refine hK.out _ _ ⟨((HB.out.cell (World.block_lt_of_cell? w _ hw241_0)).trans hw241_0), ((HB.out.cell (World.block_lt_of_cell? w _ hw241_1)).trans hw241_1), ((HB.out.cell (World.block_lt_of_cell? w _ hw241_2)).trans hw241_2), ((HB.out.cell (World.block_lt_of_cell? w _ hw241_3)).trans hw241_3), ((HB.out.cell (World.block_lt_of_cell? w _ hw241_4)).trans hw241_4), ((HB.out.cell (World.block_lt_of_cell? w _ hw241_5)).trans hw241_5), ((HB.out.cell (World.block_lt_of_cell? w _ hw243_0)).trans hw243_0), ((HB.out.cell (World.block_lt_of_cell? w _ hw243_1)).trans hw243_1), ((HB.out.cell (World.block_lt_of_cell? w _ hw243_2)).trans hw243_2), ((HB.out.cell (World.block_lt_of_cell? w _ hw243_3)).trans hw243_3), ((HB.out.cell (World.block_lt_of_cell? w _ hw243_4)).trans hw243_4), ((HB.out.cell (World.block_lt_of_cell? w _ hw243_5)).trans hw243_5)⟩ (fun hHeld => ?_)
       clear hK K
       refine norm_ (a' := ?_) ?_ ?_
       rotate_left
       · show Act.put _ (some 43) _ = _
         simp only [Act.put, List.setIfInBounds_toArray, List.set_cons_zero, List.set_cons_succ, i64_w, i32_w]
         rfl
       refine pure_ (i := 14) (N := some 44) (v := ?_) (a' := ?_) #[y14, y14, y14, y14, y14, y14, y14, y14, y14, y14, y14, y14, y14, y14, y14, n14, n14, n14, n14, n14, n14, n14, n14, n14, n14, n14, n14, n14, n14, n14] rfl rfl (any_of HT_.out (by kernel_rfl)) (fun _ _ _ h => h) (Or.inl ⟨by rfl, ?_⟩) ?_ ?_
       rotate_left
       · intro w'
         go_simp
         with_reducible rfl
       rotate_left
       · simp only [Act.put, List.setIfInBounds_toArray, List.set_cons_zero, List.set_cons_succ, i64_w, i32_w]
         rfl
       refine pure_ (i := 15) (N := some 45) (v := ?_) (a' := ?_) #[y14, y14, y14, y14, y14, y14, y14, y14, y14, y14, y14, y14, y14, y14, y14, y14, n14, n14, n14, n14, n14, n14, n14, n14, n14, n14, n14, n14, n14, n14] rfl rfl (any_of HT_.out (by kernel_rfl)) (fun _ _ _ h => h) (Or.inl ⟨by rfl, ?_⟩) ?_ ?_
       rotate_left
       · intro w'
         go_simp
         with_reducible rfl
       rotate_left
       · simp only [Act.put, List.setIfInBounds_toArray, List.set_cons_zero, List.set_cons_succ, i64_w, i32_w]
         rfl
       refine pure_ (i := 16) (N := some 46) (v := ?_) (a' := ?_) #[y14, y14, y14, y14, y14, y14, y14, y14, y14, y14, y14, y14, y14, y14, y14, y14, y14, n14, n14, n14, n14, n14, n14, n14, n14, n14, n14, n14, n14, n14] rfl rfl (any_of HT_.out (by kernel_rfl)) (fun _ _ _ h => h) (Or.inl ⟨by rfl, ?_⟩) ?_ ?_
       rotate_left
       · intro w'
         go_simp
         with_reducible rfl
       rotate_left
       · simp only [Act.put, List.setIfInBounds_toArray, List.set_cons_zero, List.set_cons_succ, i64_w, i32_w]
         rfl
       refine pure_ (i := 17) (N := some 47) (v := undef) (a' := ?_) #[y14, y14, y14, y14, y14, y14, y14, y14, y14, y14, y14, y14, y14, y14, y14, y14, y14, y14, n14, n14, n14, n14, n14, n14, n14, n14, n14, n14, n14, n14] rfl rfl (any_of HT_.out (by kernel_rfl)) (fun _ _ _ h => h) (Or.inr ⟨by rfl, rfl⟩) ?_ ?_
       rotate_left
       · simp only [Act.put, List.setIfInBounds_toArray, List.set_cons_zero, List.set_cons_succ, i64_w, i32_w]
         rfl
       refine pure_ (i := 18) (N := some 48) (v := undef) (a' := ?_) #[y14, y14, y14, y14, y14, y14, y14, y14, y14, y14, y14, y14, y14, y14, y14, y14, y14, y14, y14, n14, n14, n14, n14, n14, n14, n14, n14, n14, n14, n14] rfl rfl (any_of HT_.out (by kernel_rfl)) (fun _ _ _ h => h) (Or.inr ⟨by rfl, rfl⟩) ?_ ?_
       rotate_left
       · simp only [Act.put, List.setIfInBounds_toArray, List.set_cons_zero, List.set_cons_succ, i64_w, i32_w]
         rfl
       refine pure_ (i := 19) (N := some 49) (v := undef) (a' := ?_) #[y14, y14, y14, y14, y14, y14, y14, y14, y14, y14, y14, y14, y14, y14, y14, y14, y14, y14, y14, y14, n14, n14, n14, n14, n14, n14, n14, n14, n14, n14] rfl rfl (any_of HT_.out (by kernel_rfl)) (fun _ _ _ h => h) (Or.inr ⟨by rfl, rfl⟩) ?_ ?_
       rotate_left
       · simp only [Act.put, List.setIfInBounds_toArray, List.set_cons_zero, List.set_cons_succ, i64_w, i32_w]
         rfl
       refine pure_ (i := 20) (N := some 50) (v := undef) (a' := ?_) #[y14, y14, y14, y14, y14, y14, y14, y14, y14, y14, y14, y14, y14, y14, y14, y14, y14, y14, y14, y14, y14, n14, n14, n14, n14, n14, n14, n14, n14, n14] rfl rfl (any_of HT_.out (by kernel_rfl)) (fun _ _ _ h => h) (Or.inr ⟨by rfl, rfl⟩) ?_ ?_
       rotate_left
       · simp only [Act.put, List.setIfInBounds_toArray, List.set_cons_zero, List.set_cons_succ, i64_w, i32_w]
         rfl
       refine pure_ (i := 21) (N := some 51) (v := undef) (a' := ?_) #[y14, y14, y14, y14, y14, y14, y14, y14, y14, y14, y14, y14, y14, y14, y14, y14, y14, y14, y14, y14, y14, y14, n14, n14, n14, n14, n14, n14, n14, n14] rfl rfl (any_of HT_.out (by kernel_rfl)) (fun _ _ _ h => h) (Or.inr ⟨by rfl, rfl⟩) ?_ ?_
       rotate_left
       · simp only [Act.put, List.setIfInBounds_toArray, List.set_cons_zero, List.set_cons_succ, i64_w, i32_w]
         rfl
       refine pure_ (i := 22) (N := some 52) (v := undef) (a' := ?_) #[y14, y14, y14, y14, y14, y14, y14, y14, y14, y14, y14, y14, y14, y14, y14, y14, y14, y14, y14, y14, y14, y14, y14, n14, n14, n14, n14, n14, n14, n14] rfl rfl (any_of HT_.out (by kernel_rfl)) (fun _ _ _ h => h) (Or.inr ⟨by rfl, rfl⟩) ?_ ?_
       rotate_left
       · simp only [Act.put, List.setIfInBounds_toArray, List.set_cons_zero, List.set_cons_succ, i64_w, i32_w]
         rfl
       refine pure_ (i := 23) (N := some 53) (v := undef) (a' := ?_) #[y14, y14, y14, y14, y14, y14, y14, y14, y14, y14, y14, y14, y14, y14, y14, y14, y14, y14, y14, y14, y14, y14, y14, y14, n14, n14, n14, n14, n14, n14] rfl rfl (any_of HT_.out (by kernel_rfl)) (fun _ _ _ h => h) (Or.inr ⟨by rfl, rfl⟩) ?_ ?_
       rotate_left
       · simp only [Act.put, List.setIfInBounds_toArray, List.set_cons_zero, List.set_cons_succ, i64_w, i32_w]
         rfl
       refine pure_ (i := 24) (N := some 54) (v := undef) (a' := ?_) #[y14, y14, y14, y14, y14, y14, y14, y14, y14, y14, y14, y14, y14, y14, y14, y14, y14, y14, y14, y14, y14, y14, y14, y14, y14, n14, n14, n14, n14, n14] rfl rfl (any_of HT_.out (by kernel_rfl)) (fun _ _ _ h => h) (Or.inr ⟨by rfl, rfl⟩) ?_ ?_
       rotate_left
       · simp only [Act.put, List.setIfInBounds_toArray, List.set_cons_zero, List.set_cons_succ, i64_w, i32_w]
         rfl
       refine pure_ (i := 25) (N := some 55) (v := undef) (a' := ?_) #[y14, y14, y14, y14, y14, y14, y14, y14, y14, y14, y14, y14, y14, y14, y14, y14, y14, y14, y14, y14, y14, y14, y14, y14, y14, y14, n14, n14, n14, n14] rfl rfl (any_of HT_.out (by kernel_rfl)) (fun _ _ _ h => h) (Or.inr ⟨by rfl, rfl⟩) ?_ ?_
       rotate_left
       · simp only [Act.put, List.setIfInBounds_toArray, List.set_cons_zero, List.set_cons_succ, i64_w, i32_w]
         rfl
       refine pure_ (i := 26) (N := some 56) (v := undef) (a' := ?_) #[y14, y14, y14, y14, y14, y14, y14, y14, y14, y14, y14, y14, y14, y14, y14, y14, y14, y14, y14, y14, y14, y14, y14, y14, y14, y14, y14, n14, n14, n14] rfl rfl (any_of HT_.out (by kernel_rfl)) (fun _ _ _ h => h) (Or.inr ⟨by rfl, rfl⟩) ?_ ?_
       rotate_left
       · simp only [Act.put, List.setIfInBounds_toArray, List.set_cons_zero, List.set_cons_succ, i64_w, i32_w]
         rfl
       refine pure_ (i := 27) (N := some 57) (v := undef) (a' := ?_) #[y14, y14, y14, y14, y14, y14, y14, y14, y14, y14, y14, y14, y14, y14, y14, y14, y14, y14, y14, y14, y14, y14, y14, y14, y14, y14, y14, y14, n14, n14] rfl rfl (any_of HT_.out (by kernel_rfl)) (fun _ _ _ h => h) (Or.inr ⟨by rfl, rfl⟩) ?_ ?_
       rotate_left
       · simp only [Act.put, List.setIfInBounds_toArray, List.set_cons_zero, List.set_cons_succ, i64_w, i32_w]
         rfl
       refine pure_ (i := 28) (N := some 58) (v := undef) (a' := ?_) #[y14, y14, y14, y14, y14, y14, y14, y14, y14, y14, y14, y14, y14, y14, y14, y14, y14, y14, y14, y14, y14, y14, y14, y14, y14, y14, y14, y14, y14, n14] rfl rfl (any_of HT_.out (by kernel_rfl)) (fun _ _ _ h => h) (Or.inr ⟨by rfl, rfl⟩) ?_ ?_
       rotate_left
       · simp only [Act.put, List.setIfInBounds_toArray, List.set_cons_zero, List.set_cons_succ, i64_w, i32_w]
         rfl
       refine pure_ (i := 29) (N := some 59) (v := ?_) (a' := ?_) #[y14, y14, y14, y14, y14, y14, y14, y14, y14, y14, y14, y14, y14, y14, y14, y14, y14, y14, y14, y14, y14, y14, y14, y14, y14, y14, y14, y14, y14, y14] rfl rfl (any_of HT_.out (by kernel_rfl)) (fun _ _ _ h => h) (Or.inl ⟨by rfl, ?_⟩) ?_ ?_
       rotate_left
       · intro w'
         go_simp
         with_reducible rfl
       rotate_left
       · simp only [Act.put, List.setIfInBounds_toArray, List.set_cons_zero, List.set_cons_succ, i64_w, i32_w]
         rfl
       refine done_ (done_of HT_.out (by kernel_rfl)) ?_
       try go_wp2
       go_ret
       exact ⟨by first | rfl | (simp [errW_none, errW_some] <;> rfl) | (simp [*, errW_none, errW_some] <;> rfl), by repeat (with_reducible first | exact HB.out | apply below_alloc | apply pw_below_drewN | apply below_drew1)⟩
     subst c20
     have H1 : (if (wrap64 (((rd_T57 l0 x3_1).f1) + ((rd_T57 l0 x3_1).f2))) = 0 then (some 18) else (contangoref15_Check.l0 kj3 l0 (wrap64 (x3_1 + 1)))) = some r := by rw [if_pos rfl] at H; exact H
     clear H
     have H := H1
     clear H1
     by_cases c21 : (wrap64 (((rd_T57 l0 x3_1).f1) + ((rd_T57 l0 x3_1).f2))) = 0
     · rw [if_pos c21] at H
       have c21b0 : ((wrap64 (((rd_T57 l0 x3_1).f1) + ((rd_T57 l0 x3_1).f2))) == 0) = true := beq_iff_eq.mpr c21
       have c21b1 : ((wrap64 (((rd_T57 l0 x3_1).f1) + ((rd_T57 l0 x3_1).f2))) != 0) = false := bne_eq_false_iff_eq.mpr c21
       clear c21
       obtain rfl := Option.some.inj H
       try go_wp2
       have n0_ := Aside0.mk (below_drew1 HB.out)
       clear HB
       have HB := n0_
       clear n0_
       have p241 : 0 ≤ (x3_1 : Int) := of_decide_eq_true (by first | (with_reducible assumption) | assumption)
       have q241 : x3_1 < (l0.length : Int) := of_decide_eq_true (by first | (with_reducible assumption) | assumption)
       obtain ⟨ad241, e241, hx241_0, hx241_1, hx241_2, hx241_3, hx241_4, hx241_5⟩ := at_T57 HR0.out x3_1 p241 q241
       have hw241_5 := hx241_5
       have hw241_4 := hx241_4
       have hw241_3 := hx241_3
       have hw241_2 := hx241_2
       have hw241_1 := hx241_1
       have hw241_0 := hx241_0
       cases e241
       replace hx241_0 := (HB.out.cell (World.block_lt_of_cell? w _ hx241_0)).trans hx241_0
       replace hx241_1 := (HB.out.cell (World.block_lt_of_cell? w _ hx241_1)).trans hx241_1
       replace hx241_2 := (HB.out.cell (World.block_lt_of_cell? w _ hx241_2)).trans hx241_2
       replace hx241_3 := (HB.out.cell (World.block_lt_of_cell? w _ hx241_3)).trans hx241_3
       replace hx241_4 := (HB.out.cell (World.block_lt_of_cell? w _ hx241_4)).trans hx241_4
       replace hx241_5 := (HB.out.cell (World.block_lt_of_cell? w _ hx241_5)).trans hx241_5
       replace p241 := eq_true p241
       replace q241 := eq_true q241
       have p243 : 0 ≤ (x3_1 : Int) := of_decide_eq_true (by first | (with_reducible assumption) | assumption)
       have q243 : x3_1 < (l0.length : Int) := of_decide_eq_true (by first | (with_reducible assumption) | assumption)
       obtain ⟨ad243, e243, hx243_0, hx243_1, hx243_2, hx243_3, hx243_4, hx243_5⟩ := at_T57 HR0.out x3_1 p243 q243
       have hw243_5 := hx243_5
       have hw243_4 := hx243_4
       have hw243_3 := hx243_3
       have hw243_2 := hx243_2
       have hw243_1 := hx243_1
       have hw243_0 := hx243_0
       obtain rfl : ad241 = ad243 := (by injection e243)
       replace hx243_0 := (HB.out.cell (World.block_lt_of_cell? w _ hx243_0)).trans hx243_0
       replace hx243_1 := (HB.out.cell (World.block_lt_of_cell? w _ hx243_1)).trans hx243_1
       replace hx243_2 := (HB.out.cell (World.block_lt_of_cell? w _ hx243_2)).trans hx243_2
       replace hx243_3 := (HB.out.cell (World.block_lt_of_cell? w _ hx243_3)).trans hx243_3
       replace hx243_4 := (HB.out.cell (World.block_lt_of_cell? w _ hx243_4)).trans hx243_4
       replace hx243_5 := (HB.out.cell (World.block_lt_of_cell? w _ hx243_5)).trans hx243_5
       replace p243 := eq_true p243
       replace q243 := eq_true q243
       have p245 : 0 ≤ (x3_1 : Int) := of_decide_eq_true (by first | (with_reducible assumption) | assumption)
       have q245 : x3_1 < (l0.length : Int) := of_decide_eq_true (by first | (with_reducible assumption) | assumption)
       obtain ⟨ad245, e245, hx245_0, hx245_1, hx245_2, hx245_3, hx245_4, hx245_5⟩ := at_T57 HR0.out x3_1 p245 q245
       have hw245_5 := hx245_5
       have hw245_4 := hx245_4
       have hw245_3 := hx245_3
       have hw245_2 := hx245_2
       have hw245_1 := hx245_1
       have hw245_0 := hx245_0
       obtain rfl : ad241 = ad245 := (by injection e245)
       replace hx245_0 := (HB.out.cell (World.block_lt_of_cell? w _ hx245_0)).trans hx245_0
       replace hx245_1 := (HB.out.cell (World.block_lt_of_cell? w _ hx245_1)).trans hx245_1
       replace hx245_2 := (HB.out.cell (World.block_lt_of_cell? w _ hx245_2)).trans hx245_2
       replace hx245_3 := (HB.out.cell (World.block_lt_of_cell? w _ hx245_3)).trans hx245_3
       replace hx245_4 := (HB.out.cell (World.block_lt_of_cell? w _ hx245_4)).trans hx245_4
       replace hx245_5 := (HB.out.cell (World.block_lt_of_cell? w _ hx245_5)).trans hx245_5
       replace p245 := eq_true p245
       replace q245 := eq_true q245
       have p246 : 0 ≤ (x3_1 : Int) := of_decide_eq_true (by first | (with_reducible assumption) | assumption)
       have q246 : x3_1 < (l0.length : Int) := of_decide_eq_true (by first | (with_reducible assumption) | assumption)
       obtain ⟨ad246, e246, hx246_0, hx246_1, hx246_2, hx246_3, hx246_4, hx246_5⟩ := at_T57 HR0.out x3_1 p246 q246
       have hw246_5 := hx246_5
       have hw246_4 := hx246_4
       have hw246_3 := hx246_3
       have hw246_2 := hx246_2
       have hw246_1 := hx246_1
       have hw246_0 := hx246_0
       obtain rfl : ad241 = ad246 := (by injection e246)
       replace hx246_0 := (HB.out.cell (World.block_lt_of_cell? w _ hx246_0)).trans hx246_0
       replace hx246_1 := (HB.out.cell (World.block_lt_of_cell? w _ hx246_1)).trans hx246_1
       replace hx246_2 := (HB.out.cell (World.block_lt_of_cell? w _ hx246_2)).trans hx246_2
       replace hx246_3 := (HB.out.cell (World.block_lt_of_cell? w _ hx246_3)).trans hx246_3
       replace hx246_4 := (HB.out.cell (World.block_lt_of_cell? w _ hx246_4)).trans hx246_4
       replace hx246_5 := (HB.out.cell (World.block_lt_of_cell? w _ hx246_5)).trans hx246_5
       replace p246 := eq_true p246
       replace q246 := eq_true q246
       refine start_ (n := 30) (S := fun w' => w'.cell? (ad241.add ((x3_1).toNat * 6)) = some (.string ((rd_T57 l0 x3_1).f0.f0)) ∧ w'.cell? ⟨(ad241.add ((x3_1).toNat * 6)).block, (ad241.add ((x3_1).toNat * 6)).off + 1, none⟩ = some (.int .i64 ((rd_T57 l0 x3_1).f0.f1)) ∧ w'.cell? ⟨(ad241.add ((x3_1).toNat * 6)).block, (ad241.add ((x3_1).toNat * 6)).off + 2, none⟩ = some (.int .i64 ((rd_T57 l0 x3_1).f0.f2)) ∧ w'.cell? ⟨(ad241.add ((x3_1).toNat * 6)).block, (ad241.add ((x3_1).toNat * 6)).off + 3, none⟩ = some (.int .i64 ((rd_T57 l0 x3_1).f0.f3)) ∧ w'.cell? ⟨(ad241.add ((x3_1).toNat * 6)).block, (ad241.add ((x3_1).toNat * 6)).off + 4, none⟩ = some (.int .i64 ((rd_T57 l0 x3_1).f1)) ∧ w'.cell? ⟨(ad241.add ((x3_1).toNat * 6)).block, (ad241.add ((x3_1).toNat * 6)).off + 5, none⟩ = some (.int .i64 ((rd_T57 l0 x3_1).f2)) ∧ w'.cell? (ad241.add ((x3_1).toNat * 6)) = some (.string ((rd_T57 l0 x3_1).f0.f0)) ∧ w'.cell? ⟨(ad241.add ((x3_1).toNat * 6)).block, (ad241.add ((x3_1).toNat * 6)).off + 1, none⟩ = some (.int .i64 ((rd_T57 l0 x3_1).f0.f1)) ∧ w'.cell? ⟨(ad241.add ((x3_1).toNat * 6)).block, (ad241.add ((x3_1).toNat * 6)).off + 2, none⟩ = some (.int .i64 ((rd_T57 l0 x3_1).f0.f2)) ∧ w'.cell? ⟨(ad241.add ((x3_1).toNat * 6)).block, (ad241.add ((x3_1).toNat * 6)).off + 3, none⟩ = some (.int .i64 ((rd_T57 l0 x3_1).f0.f3)) ∧ w'.cell? ⟨(ad241.add ((x3_1).toNat * 6)).block, (ad241.add ((x3_1).toNat * 6)).off + 4, none⟩ = some (.int .i64 ((rd_T57 l0 x3_1).f1)) ∧ w'.cell? ⟨(ad241.add ((x3_1).toNat * 6)).block, (ad241.add ((x3_1).toNat * 6)).off + 5, none⟩ = some (.int .i64 ((rd_T57 l0 x3_1).f2)) ∧ w'.cell? (ad241.add ((x3_1).toNat * 6)) = some (.string ((rd_T57 l0 x3_1).f0.f0)) ∧ w'.cell? ⟨(ad241.add ((x3_1).toNat * 6)).block, (ad241.add ((x3_1).toNat * 6)).off + 1, none⟩ = some (.int .i64 ((rd_T57 l0 x3_1).f0.f1)) ∧ w'.cell? ⟨(ad241.add ((x3_1).toNat * 6)).block, (ad241.add ((x3_1).toNat * 6)).off + 2, none⟩ = some (.int .i64 ((rd_T57 l0 x3_1).f0.f2)) ∧ w'.cell? ⟨(ad241.add ((x3_1).toNat * 6)).block, (ad241.add ((x3_1).toNat * 6)).off + 3, none⟩ = some (.int .i64 ((rd_T57 l0 x3_1).f0.f3)) ∧ w'.cell? ⟨(ad241.add ((x3_1).toNat * 6)).block, (ad241.add ((x3_1).toNat * 6)).off + 4, none⟩ = some (.int .i64 ((rd_T57 l0 x3_1).f1)) ∧ w'.cell? ⟨(ad241.add ((x3_1).toNat * 6)).block, (ad241.add ((x3_1).toNat * 6)).off + 5, none⟩ = some (.int .i64 ((rd_T57 l0 x3_1).f2)) ∧ w'.cell? (ad241.add ((x3_1).toNat * 6)) = some (.string ((rd_T57 l0 x3_1).f0.f0)) ∧ w'.cell? ⟨(ad241.add ((x3_1).toNat * 6)).block, (ad241.add ((x3_1).toNat * 6)).off + 1, none⟩ = some (.int .i64 ((rd_T57 l0 x3_1).f0.f1)) ∧ w'.cell? ⟨(ad241.add ((x3_1).toNat * 6)).block, (ad241.add ((x3_1).toNat * 6)).off + 2, none⟩ = some (.int .i64 ((rd_T57 l0 x3_1).f0.f2)) ∧ w'.cell? ⟨(ad241.add ((x3_1).toNat * 6)).block, (ad241.add ((x3_1).toNat * 6)).off + 3, none⟩ = some (.int .i64 ((rd_T57 l0 x3_1).f0.f3)) ∧ w'.cell? ⟨(ad241.add ((x3_1).toNat * 6)).block, (ad241.add ((x3_1).toNat * 6)).off + 4, none⟩ = some (.int .i64 ((rd_T57 l0 x3_1).f1)) ∧ w'.cell? ⟨(ad241.add ((x3_1).toNat * 6)).block, (ad241.add ((x3_1).toNat * 6)).off + 5, none⟩ = some (.int .i64 ((rd_T57 l0 x3_1).f2))) (ds := []) #[n14, n14, n14, n14, n14, n14, n14, n14, n14, n14, n14, n14, n14, n14, n14, n14, n14, n14, n14, n14, n14, n14, n14, n14, n14, n14, n14, n14, n14, n14] (by kernel_rfl) rfl rfl ⟨((HB.out.cell (World.block_lt_of_cell? w _ hw241_0)).trans hw241_0), ((HB.out.cell (World.block_lt_of_cell? w _ hw241_1)).trans hw241_1), ((HB.out.cell (World.block_lt_of_cell? w _ hw241_2)).trans hw241_2), ((HB.out.cell (World.block_lt_of_cell? w _ hw241_3)).trans hw241_3), ((HB.out.cell (World.block_lt_of_cell? w _ hw241_4)).trans hw241_4), ((HB.out.cell (World.block_lt_of_cell? w _ hw241_5)).trans hw241_5), ((HB.out.cell (World.block_lt_of_cell? w _ hw243_0)).trans hw243_0), ((HB.out.cell (World.block_lt_of_cell? w _ hw243_1)).trans hw243_1), ((HB.out.cell (World.block_lt_of_cell? w _ hw243_2)).trans hw243_2), ((HB.out.cell (World.block_lt_of_cell? w _ hw243_3)).trans hw243_3), ((HB.out.cell (World.block_lt_of_cell? w _ hw243_4)).trans hw243_4), ((HB.out.cell (World.block_lt_of_cell? w _ hw243_5)).trans hw243_5), ((HB.out.cell (World.block_lt_of_cell? w _ hw245_0)).trans hw245_0), ((HB.out.cell (World.block_lt_of_cell? w _ hw245_1)).trans hw245_1), ((HB.out.cell (World.block_lt_of_cell? w _ hw245_2)).trans hw245_2), ((HB.out.cell (World.block_lt_of_cell? w _ hw245_3)).trans hw245_3), ((HB.out.cell (World.block_lt_of_cell? w _ hw245_4)).trans hw245_4), ((HB.out.cell (World.block_lt_of_cell? w _ hw245_5)).trans hw245_5), ((HB.out.cell (World.block_lt_of_cell? w _ hw246_0)).trans hw246_0), ((HB.out.cell (World.block_lt_of_cell? w _ hw246_1)).trans hw246_1), ((HB.out.cell (World.block_lt_of_cell? w _ hw246_2)).trans hw246_2), ((HB.out.cell (World.block_lt_of_cell? w _ hw246_3)).trans hw246_3), ((HB.out.cell (World.block_lt_of_cell? w _ hw246_4)).trans hw246_4), ((HB.out.cell (World.block_lt_of_cell? w _ hw246_5)).trans hw246_5)⟩ (fun hHeld => ?_); refine with_tabW contangoref15_Check.tab8 contangoref15_Check.bits8 (fun HT_ HW_ => ?_)
       generalize wc.drew = w22 at HB hx241_0 hx241_1 hx241_2 hx241_3 hx241_4 hx241_5 hx243_0 hx243_1 hx243_2 hx243_3 hx243_4 hx243_5 hx245_0 hx245_1 hx245_2 hx245_3 hx245_4 hx245_5 hx246_0 hx246_1 hx246_2 hx246_3 hx246_4 hx246_5 hHeld ⊢
       refine pure_ (i := 0) (N := some 30) (v := ?_) (a' := ?_) #[y14, n14, n14, n14, n14, n14, n14, n14, n14, n14, n14, n14, n14, n14, n14, n14, n14, n14, n14, n14, n14, n14, n14, n14, n14, n14, n14, n14, n14, n14] rfl rfl (any_of HT_.out (by kernel_rfl)) (fun _ _ _ h => h) (Or.inl ⟨by rfl, ?_⟩) ?_ ?_
       rotate_left
       · intro w'
         go_simp
         with_reducible rfl
       rotate_left
       · simp only [Act.put, List.setIfInBounds_toArray, List.set_cons_zero, List.set_cons_succ, i64_w, i32_w]
         rfl
       refine pure_ (i := 1) (N := some 31) (v := ?_) (a' := ?_) #[y14, y14, n14, n14, n14, n14, n14, n14, n14, n14, n14, n14, n14, n14, n14, n14, n14, n14, n14, n14, n14, n14, n14, n14, n14, n14, n14, n14, n14, n14] rfl rfl (any_of HT_.out (by kernel_rfl)) (fun _ _ _ h => h) (Or.inl ⟨by rfl, ?_⟩) ?_ ?_
       rotate_left
       · intro w'
         go_simp
         with_reducible rfl
       rotate_left
       · simp only [Act.put, List.setIfInBounds_toArray, List.set_cons_zero, List.set_cons_succ, i64_w, i32_w]
         rfl
       refine pure_ (i := 2) (N := some 32) (v := ?_) (a' := ?_) #[y14, y14, y14, n14, n14, n14, n14, n14, n14, n14, n14, n14, n14, n14, n14, n14, n14, n14, n14, n14, n14, n14, n14, n14, n14, n14, n14, n14, n14, n14] rfl rfl (any_of HT_.out (by kernel_rfl)) (fun _ _ _ h => h) (Or.inl ⟨by rfl, ?_⟩) ?_ ?_
       rotate_left
       · intro w'
         go_simp
         with_reducible rfl
       rotate_left
       · simp only [Act.put, List.setIfInBounds_toArray, List.set_cons_zero, List.set_cons_succ, i64_w, i32_w]
         rfl
       refine pure_ (i := 3) (N := some 33) (v := ?_) (a' := ?_) #[y14, y14, y14, y14, n14, n14, n14, n14, n14, n14, n14, n14, n14, n14, n14, n14, n14, n14, n14, n14, n14, n14, n14, n14, n14, n14, n14, n14, n14, n14] rfl rfl (any_of HT_.out (by kernel_rfl)) (fun _ _ _ h => h) (Or.inl ⟨by rfl, ?_⟩) ?_ ?_
       rotate_left
       · intro w'
         go_simp
         with_reducible rfl
       rotate_left
       · simp only [Act.put, List.setIfInBounds_toArray, List.set_cons_zero, List.set_cons_succ, i64_w, i32_w]
         rfl
       refine take_ (i := 4) (N := some 34) (v := ?_) (a' := ?_) #[y14, y14, y14, y14, y14, n14, n14, n14, n14, n14, n14, n14, n14, n14, n14, n14, n14, n14, n14, n14, n14, n14, n14, n14, n14, n14, n14, n14, n14, n14] rfl rfl (take_ofW HT_.out HW_.out (by kernel_rfl)) (fun _ _ _ h => h) (Or.inl ⟨by rfl, ?_⟩) hHeld ?_ ?_
       rotate_left
       · rintro w' ⟨s0, s1, s2, s3, s4, s5, s6, s7, s8, s9, s10, s11, s12, s13, s14, s15, s16, s17, s18, s19, s20, s21, s22, s23⟩
         go_simp
         with_reducible rfl
       rotate_left
       · simp only [Act.put, List.setIfInBounds_toArray, List.set_cons_zero, List.set_cons_succ, i64_w, i32_w]
         rfl
       refine one_ (i := 5) (N := some 35) #[y14, y14, y14, y14, y14, y14, n14, n14, n14, n14, n14, n14, n14, n14, n14, n14, n14, n14, n14, n14, n14, n14, n14, n14, n14, n14, n14, n14, n14, n14] rfl rfl (one_of HT_.out (by kernel_rfl)) (by decide) (fun K hK => ?_)
       refine goes_ Try.func59 (by kernel_rfl) rfl #[.int .i64 ((rd_T57 l0 x3_1).f1)] (by rfl) rfl rfl (by (try simp only [List.map_toArray, List.map_cons, List.map_nil]); first | done | rfl | (simp only [List.length_drop, List.length_take]; rfl)) ?_
       with_reducible refine (contangoref15_lots.calls ((rd_T57 l0 x3_1).f1) true _ A17.out).mono ?_
       rintro e w' ⟨rfl, ⟨nd, rfl⟩⟩
       refine ⟨_, rfl, ?_⟩
       refine hK.out _ _ ⟨((HB.out.cell (World.block_lt_of_cell? w _ hw241_0)).trans hw241_0), ((HB.out.cell (World.block_lt_of_cell? w _ hw241_1)).trans hw241_1), ((HB.out.cell (World.block_lt_of_cell? w _ hw241_2)).trans hw241_2), ((HB.out.cell (World.block_lt_of_cell? w _ hw241_3)).trans hw241_3), ((HB.out.cell (World.block_lt_of_cell? w _ hw241_4)).trans hw241_4), ((HB.out.cell (World.block_lt_of_cell? w _ hw241_5)).trans hw241_5), ((HB.out.cell (World.block_lt_of_cell? w _ hw243_0)).trans hw243_0), ((HB.out.cell (World.block_lt_of_cell? w _ hw243_1)).trans hw243_1), ((HB.out.cell (World.block_lt_of_cell? w _ hw243_2)).trans hw243_2), ((HB.out.cell (World.block_lt_of_cell? w _ hw243_3)).trans hw243_3), ((HB.out.cell (World.block_lt_of_cell? w _ hw243_4)).trans hw243_4), ((HB.out.cell (World.block_lt_of_cell? w _ hw243_5)).trans hw243_5), ((HB.out.cell (World.block_lt_of_cell? w _ hw245_0)).trans hw245_0), ((HB.out.cell (World.block_lt_of_cell? w _ hw245_1)).trans hw245_1), ((HB.out.cell (World.block_lt_of_cell? w _ hw245_2)).trans hw245_2), ((HB.out.cell (World.block_lt_of_cell? w _ hw245_3)).trans hw245_3), ((HB.out.cell (World.block_lt_of_cell? w _ hw245_4)).trans hw245_4), ((HB.out.cell (World.block_lt_of_cell? w _ hw245_5)).trans hw245_5), ((HB.out.cell (World.block_lt_of_cell? w _ hw246_0)).trans hw246_0), ((HB.out.cell (World.block_lt_of_cell? w _ hw246_1)).trans hw246_1), ((HB.out.cell (World.block_lt_of_cell? w _ hw246_2)).trans hw246_2), ((HB.out.cell (World.block_lt_of_cell? w _ hw246_3)).trans hw246_3), ((HB.out.cell (World.block_lt_of_cell? w _ hw246_4)).trans hw246_4), ((HB.out.cell (World.block_lt_of_cell? w _ hw246_5)).trans hw246_5)⟩ (fun hHeld => ?_)
       clear hK K
       refine norm_ (a' := ?_) ?_ ?_
       rotate_left
       · show Act.put _ (some 35) _ = _
         simp only [Act.put, List.setIfInBounds_toArray, List.set_cons_zero, List.set_cons_succ, i64_w, i32_w]
         rfl
       refine pure_ (i := 6) (N := some 36) (v := ?_) (a' := ?_) #[y14, y14, y14, y14, y14, y14, y14, n14, n14, n14, n14, n14, n14, n14, n14, n14, n14, n14, n14, n14, n14, n14, n14, n14, n14, n14, n14, n14, n14, n14] rfl rfl (any_of HT_.out (by kernel_rfl)) (fun _ _ _ h => h) (Or.inl ⟨by rfl, ?_⟩) ?_ ?_
       rotate_left
       · intro w'
         go_simp
         with_reducible rfl
       rotate_left
       · simp only [Act.put, List.setIfInBounds_toArray, List.set_cons_zero, List.set_cons_succ, i64_w, i32_w]
         rfl
       refine pure_ (i := 7) (N := some 37) (v := ?_) (a' := ?_) #[y14, y14, y14, y14, y14, y14, y14, y14, n14, n14, n14, n14, n14, n14, n14, n14, n14, n14, n14, n14, n14, n14, n14, n14, n14, n14, n14, n14, n14, n14] rfl rfl (any_of HT_.out (by kernel_rfl)) (fun _ _ _ h => h) (Or.inl ⟨by rfl, ?_⟩) ?_ ?_
       rotate_left
       · intro w'
         go_simp
         with_reducible rfl
       rotate_left
       · simp only [Act.put, List.setIfInBounds_toArray, List.set_cons_zero, List.set_cons_succ, i64_w, i32_w]
         rfl
       refine pure_ (i := 8) (N := some 38) (v := ?_) (a' := ?_) #[y14, y14, y14, y14, y14, y14, y14, y14, y14, n14, n14, n14, n14, n14, n14, n14, n14, n14, n14, n14, n14, n14, n14, n14, n14, n14, n14, n14, n14, n14] rfl rfl (any_of HT_.out (by kernel_rfl)) (fun _ _ _ h => h) (Or.inl ⟨by rfl, ?_⟩) ?_ ?_
       rotate_left
       · intro w'
         go_simp
         with_reducible rfl
       rotate_left
       · simp only [Act.put, List.setIfInBounds_toArray, List.set_cons_zero, List.set_cons_succ, i64_w, i32_w]
         rfl
       refine pure_ (i := 9) (N := some 39) (v := ?_) (a' := ?_) #[y14, y14, y14, y14, y14, y14, y14, y14, y14, y14, n14, n14, n14, n14, n14, n14, n14, n14, n14, n14, n14, n14, n14, n14, n14, n14, n14, n14, n14, n14] rfl rfl (any_of HT_.out (by kernel_rfl)) (fun _ _ _ h => h) (Or.inl ⟨by rfl, ?_⟩) ?_ ?_
       rotate_left
       · intro w'
         go_simp
         with_reducible rfl
       rotate_left
       · simp only [Act.put, List.setIfInBounds_toArray, List.set_cons_zero, List.set_cons_succ, i64_w, i32_w]
         rfl
       refine pure_ (i := 10) (N := some 40) (v := ?_) (a' := ?_) #[y14, y14, y14, y14, y14, y14, y14, y14, y14, y14, y14, n14, n14, n14, n14, n14, n14, n14, n14, n14, n14, n14, n14, n14, n14, n14, n14, n14, n14, n14] rfl rfl (any_of HT_.out (by kernel_rfl)) (fun _ _ _ h => h) (Or.inl ⟨by rfl, ?_⟩) ?_ ?_
       rotate_left
       · intro w'
         go_simp
         with_reducible rfl
       rotate_left
       · simp only [Act.put, List.setIfInBounds_toArray, List.set_cons_zero, List.set_cons_succ, i64_w, i32_w]
         rfl
       refine pure_ (i := 11) (N := some 41) (v := ?_) (a' := ?_) #[y14, y14, y14, y14, y14, y14, y14, y14, y14, y14, y14, y14, n14, n14, n14, n14, n14, n14, n14, n14, n14, n14, n14, n14, n14, n14, n14, n14, n14, n14] rfl rfl (any_of HT_.out (by kernel_rfl)) (fun _ _ _ h => h) (Or.inl ⟨by rfl, ?_⟩) ?_ ?_
       rotate_left
       · intro w'
         go_simp
         with_reducible rfl
       rotate_left
       · simp only [Act.put, List.setIfInBounds_toArray, List.set_cons_zero, List.set_cons_succ, i64_w, i32_w]
         rfl
       refine take_ (i := 12) (N := some 42) (v := ?_) (a' := ?_) #[y14, y14, y14, y14, y14, y14, y14, y14, y14, y14, y14, y14, y14, n14, n14, n14, n14, n14, n14, n14, n14, n14, n14, n14, n14, n14, n14, n14, n14, n14] rfl rfl (take_ofW HT_.out HW_.out (by kernel_rfl)) (fun _ _ _ h => h) (Or.inl ⟨by rfl, ?_⟩) hHeld ?_ ?_
       rotate_left
       · rintro w' ⟨s0, s1, s2, s3, s4, s5, s6, s7, s8, s9, s10, s11, s12, s13, s14, s15, s16, s17, s18, s19, s20, s21, s22, s23⟩
         go_simp
         with_reducible rfl
       rotate_left
       · simp only [Act.put, List.setIfInBounds_toArray, List.set_cons_zero, List.set_cons_succ, i64_w, i32_w]
         rfl
       refine one_ (i := 13) (N := some 43) #[y14, y14, y14, y14, y14, y14, y14, y14, y14, y14, y14, y14, y14, y14, n14, n14, n14, n14, n14, n14, n14, n14, n14, n14, n14, n14, n14, n14, n14, n14] rfl rfl (one_of HT_.out (by kernel_rfl)) (by decide) (fun K hK => ?_)
       refine goes_ Try.func59 (by kernel_rfl) rfl #[.int .i64 ((rd_T57 l0 x3_1).f2)] (by rfl) rfl rfl (by (try simp only [List.map_toArray, List.map_cons, List.map_nil]); first | done | rfl | (simp only [List.length_drop, List.length_take]; rfl)) ?_
       with_reducible refine (contangoref15_lots.calls ((rd_T57 l0 x3_1).f2) true _ A19.out).mono ?_
       rintro e w' ⟨rfl, ⟨nd, rfl⟩⟩
       refine ⟨_, rfl, ?_⟩
       refine hK.out _ _ ⟨((HB.out.cell (World.block_lt_of_cell? w _ hw241_0)).trans hw241_0), ((HB.out.cell (World.block_lt_of_cell? w _ hw241_1)).trans hw241_1), ((HB.out.cell (World.block_lt_of_cell? w _ hw241_2)).trans hw241_2), ((HB.out.cell (World.block_lt_of_cell? w _ hw241_3)).trans hw241_3), ((HB.out.cell (World.block_lt_of_cell? w _ hw241_4)).trans hw241_4), ((HB.out.cell (World.block_lt_of_cell? w _ hw241_5)).trans hw241_5), ((HB.out.cell (World.block_lt_of_cell? w _ hw243_0)).trans hw243_0), ((HB.out.cell (World.block_lt_of_cell? w _ hw243_1)).trans hw243_1), ((HB.out.cell (World.block_lt_of_cell? w _ hw243_2)).trans hw243_2), ((HB.out.cell (World.block_lt_of_cell? w _ hw243_3)).trans hw243_3), ((HB.out.cell (World.block_lt_of_cell? w _ hw243_4)).trans hw243_4), ((HB.out.cell (World.block_lt_of_cell? w _ hw243_5)).trans hw243_5), ((HB.out.cell (World.block_lt_of_cell? w _ hw245_0)).trans hw245_0), ((HB.out.cell (World.block_lt_of_cell? w _ hw245_1)).trans hw245_1), ((HB.out.cell (World.block_lt_of_cell? w _ hw245_2)).trans hw245_2), ((HB.out.cell (World.block_lt_of_cell? w _ hw245_3)).trans hw245_3), ((HB.out.cell (World.block_lt_of_cell? w _ hw245_4)).trans hw245_4), ((HB.out.cell (World.block_lt_of_cell? w _ hw245_5)).trans hw245_5), ((HB.out.cell (World.block_lt_of_cell? w _ hw246_0)).trans hw246_0), ((HB.out.cell (World.block_lt_of_cell? w _ hw246_1)).trans hw246_1), ((HB.out.cell (World.block_lt_of_cell? w _ hw246_2)).trans hw246_2), ((HB.out.cell (World.block_lt_of_cell? w _ hw246_3)).trans hw246_3), ((HB.out.cell (World.block_lt_of_cell? w _ hw246_4)).trans hw246_4), ((HB.out.cell (World.block_lt_of_cell? w _ hw246_5)).trans hw246_5)⟩ (fun hHeld => ?_)
       clear hK K
       refine norm_ (a' := ?_) ?_ ?_
       rotate_left
       · show Act.put _ (some 43) _ = _
         simp only [Act.put, List.setIfInBounds_toArray, List.set_cons_zero, List.set_cons_succ, i64_w, i32_w]
         rfl
       refine pure_ (i := 14) (N := some 44) (v := ?_) (a' := ?_) #[y14, y14, y14, y14, y14, y14, y14, y14, y14, y14, y14, y14, y14, y14, y14, n14, n14, n14, n14, n14, n14, n14, n14, n14, n14, n14, n14, n14, n14, n14] rfl rfl (any_of HT_.out (by kernel_rfl)) (fun _ _ _ h => h) (Or.inl ⟨by rfl, ?_⟩) ?_ ?_
       rotate_left
       · intro w'
         go_simp
         with_reducible rfl
       rotate_left
       · simp only [Act.put, List.setIfInBounds_toArray, List.set_cons_zero, List.set_cons_succ, i64_w, i32_w]
         rfl
       refine pure_ (i := 15) (N := some 45) (v := ?_) (a' := ?_) #[y14, y14, y14, y14, y14, y14, y14, y14, y14, y14, y14, y14, y14, y14, y14, y14, n14, n14, n14, n14, n14, n14, n14, n14, n14, n14, n14, n14, n14, n14] rfl rfl (any_of HT_.out (by kernel_rfl)) (fun _ _ _ h => h) (Or.inl ⟨by rfl, ?_⟩) ?_ ?_
       rotate_left
       · intro w'
         go_simp
         with_reducible rfl
       rotate_left
       · simp only [Act.put, List.setIfInBounds_toArray, List.set_cons_zero, List.set_cons_succ, i64_w, i32_w]
         rfl
       refine pure_ (i := 16) (N := some 46) (v := ?_) (a' := ?_) #[y14, y14, y14, y14, y14, y14, y14, y14, y14, y14, y14, y14, y14, y14, y14, y14, y14, n14, n14, n14, n14, n14, n14, n14, n14, n14, n14, n14, n14, n14] rfl rfl (any_of HT_.out (by kernel_rfl)) (fun _ _ _ h => h) (Or.inl ⟨by rfl, ?_⟩) ?_ ?_
       rotate_left
       · intro w'
         go_simp
         with_reducible rfl
       rotate_left
       · simp only [Act.put, List.setIfInBounds_toArray, List.set_cons_zero, List.set_cons_succ, i64_w, i32_w]
         rfl
       refine pure_ (i := 17) (N := some 47) (v := ?_) (a' := ?_) #[y14, y14, y14, y14, y14, y14, y14, y14, y14, y14, y14, y14, y14, y14, y14, y14, y14, y14, n14, n14, n14, n14, n14, n14, n14, n14, n14, n14, n14, n14] rfl rfl (any_of HT_.out (by kernel_rfl)) (fun _ _ _ h => h) (Or.inl ⟨by rfl, ?_⟩) ?_ ?_
       rotate_left
       · intro w'
         go_simp
         with_reducible rfl
       rotate_left
       · simp only [Act.put, List.setIfInBounds_toArray, List.set_cons_zero, List.set_cons_succ, i64_w, i32_w]
         rfl
       refine pure_ (i := 18) (N := some 48) (v := ?_) (a' := ?_) #[y14, y14, y14, y14, y14, y14, y14, y14, y14, y14, y14, y14, y14, y14, y14, y14, y14, y14, y14, n14, n14, n14, n14, n14, n14, n14, n14, n14, n14, n14] rfl rfl (any_of HT_.out (by kernel_rfl)) (fun _ _ _ h => h) (Or.inl ⟨by rfl, ?_⟩) ?_ ?_
       rotate_left
       · intro w'
         go_simp
         with_reducible rfl
       rotate_left
       · simp only [Act.put, List.setIfInBounds_toArray, List.set_cons_zero, List.set_cons_succ, i64_w, i32_w]
         rfl
       refine pure_ (i := 19) (N := some 49) (v := ?_) (a' := ?_) #[y14, y14, y14, y14, y14, y14, y14, y14, y14, y14, y14, y14, y14, y14, y14, y14, y14, y14, y14, y14, n14, n14, n14, n14, n14, n14, n14, n14, n14, n14] rfl rfl (any_of HT_.out (by kernel_rfl)) (fun _ _ _ h => h) (Or.inl ⟨by rfl, ?_⟩) ?_ ?_
       rotate_left
       · intro w'
         go_simp
         with_reducible rfl
       rotate_left
       · simp only [Act.put, List.setIfInBounds_toArray, List.set_cons_zero, List.set_cons_succ, i64_w, i32_w]
         rfl
       refine pure_ (i := 20) (N := some 50) (v := ?_) (a' := ?_) #[y14, y14, y14, y14, y14, y14, y14, y14, y14, y14, y14, y14, y14, y14, y14, y14, y14, y14, y14, y14, y14, n14, n14, n14, n14, n14, n14, n14, n14, n14] rfl rfl (any_of HT_.out (by kernel_rfl)) (fun _ _ _ h => h) (Or.inl ⟨by rfl, ?_⟩) ?_ ?_
       rotate_left
       · intro w'
         go_simp
         with_reducible rfl
       rotate_left
       · simp only [Act.put, List.setIfInBounds_toArray, List.set_cons_zero, List.set_cons_succ, i64_w, i32_w]
         rfl
       refine pure_ (i := 22) (N := some 52) (v := ?_) (a' := ?_) #[y14, y14, y14, y14, y14, y14, y14, y14, y14, y14, y14, y14, y14, y14, y14, y14, y14, y14, y14, y14, y14, n14, y14, n14, n14, n14, n14, n14, n14, n14] rfl rfl (any_of HT_.out (by kernel_rfl)) (fun _ _ _ h => h) (Or.inl ⟨by rfl, ?_⟩) ?_ ?_
       rotate_left
       · intro w'
         go_simp
         with_reducible rfl
       rotate_left
       · simp only [Act.put, List.setIfInBounds_toArray, List.set_cons_zero, List.set_cons_succ, i64_w, i32_w]
         rfl
       refine pure_ (i := 23) (N := some 53) (v := ?_) (a' := ?_) #[y14, y14, y14, y14, y14, y14, y14, y14, y14, y14, y14, y14, y14, y14, y14, y14, y14, y14, y14, y14, y14, n14, y14, y14, n14, n14, n14, n14, n14, n14] rfl rfl (any_of HT_.out (by kernel_rfl)) (fun _ _ _ h => h) (Or.inl ⟨by rfl, ?_⟩) ?_ ?_
       rotate_left
       · intro w'
         go_simp
         with_reducible rfl
       rotate_left
       · simp only [Act.put, List.setIfInBounds_toArray, List.set_cons_zero, List.set_cons_succ, i64_w, i32_w]
         rfl
       refine pure_ (i := 24) (N := some 54) (v := ?_) (a' := ?_) #[y14, y14, y14, y14, y14, y14, y14, y14, y14, y14, y14, y14, y14, y14, y14, y14, y14, y14, y14, y14, y14, n14, y14, y14, y14, n14, n14, n14, n14, n14] rfl rfl (any_of HT_.out (by kernel_rfl)) (fun _ _ _ h => h) (Or.inl ⟨by rfl, ?_⟩) ?_ ?_
       rotate_left
       · intro w'
         go_simp
         with_reducible rfl
       rotate_left
       · simp only [Act.put, List.setIfInBounds_toArray, List.set_cons_zero, List.set_cons_succ, i64_w, i32_w]
         rfl
       refine pure_ (i := 25) (N := some 55) (v := ?_) (a' := ?_) #[y14, y14, y14, y14, y14, y14, y14, y14, y14, y14, y14, y14, y14, y14, y14, y14, y14, y14, y14, y14, y14, n14, y14, y14, y14, y14, n14, n14, n14, n14] rfl rfl (any_of HT_.out (by kernel_rfl)) (fun _ _ _ h => h) (Or.inl ⟨by rfl, ?_⟩) ?_ ?_
       rotate_left
       · intro w'
         go_simp
         with_reducible rfl
       rotate_left
       · simp only [Act.put, List.setIfInBounds_toArray, List.set_cons_zero, List.set_cons_succ, i64_w, i32_w]
         rfl
       refine take_ (i := 21) (N := some 51) (v := ?_) (a' := ?_) #[y14, y14, y14, y14, y14, y14, y14, y14, y14, y14, y14, y14, y14, y14, y14, y14, y14, y14, y14, y14, y14, y14, y14, y14, y14, y14, n14, n14, n14, n14] rfl rfl (take_ofW HT_.out HW_.out (by kernel_rfl)) (fun _ _ _ h => h) (Or.inl ⟨by rfl, ?_⟩) hHeld ?_ ?_
       rotate_left
       · rintro w' ⟨s0, s1, s2, s3, s4, s5, s6, s7, s8, s9, s10, s11, s12, s13, s14, s15, s16, s17, s18, s19, s20, s21, s22, s23⟩
         go_simp
         with_reducible rfl
       rotate_left
       · simp only [Act.put, List.setIfInBounds_toArray, List.set_cons_zero, List.set_cons_succ, i64_w, i32_w]
         rfl
       refine take_ (i := 26) (N := some 56) (v := ?_) (a' := ?_) #[y14, y14, y14, y14, y14, y14, y14, y14, y14, y14, y14, y14, y14, y14, y14, y14, y14, y14, y14, y14, y14, y14, y14, y14, y14, y14, y14, n14, n14, n14] rfl rfl (take_ofW HT_.out HW_.out (by kernel_rfl)) (fun _ _ _ h => h) (Or.inl ⟨by rfl, ?_⟩) hHeld ?_ ?_
       rotate_left
       · rintro w' ⟨s0, s1, s2, s3, s4, s5, s6, s7, s8, s9, s10, s11, s12, s13, s14, s15, s16, s17, s18, s19, s20, s21, s22, s23⟩
         go_simp
         with_reducible rfl
       rotate_left
       · simp only [Act.put, List.setIfInBounds_toArray, List.set_cons_zero, List.set_cons_succ, i64_w, i32_w]
         rfl
       refine pure_ (i := 27) (N := some 57) (v := ?_) (a' := ?_) #[y14, y14, y14, y14, y14, y14, y14, y14, y14, y14, y14, y14, y14, y14, y14, y14, y14, y14, y14, y14, y14, y14, y14, y14, y14, y14, y14, y14, n14, n14] rfl rfl (any_of HT_.out (by kernel_rfl)) (fun _ _ _ h => h) (Or.inl ⟨by rfl, ?_⟩) ?_ ?_
       rotate_left
       · intro w'
         go_simp
         with_reducible rfl
       rotate_left
       · simp only [Act.put, List.setIfInBounds_toArray, List.set_cons_zero, List.set_cons_succ, i64_w, i32_w]
         rfl
       refine pure_ (i := 28) (N := some 58) (v := ?_) (a' := ?_) #[y14, y14, y14, y14, y14, y14, y14, y14, y14, y14, y14, y14, y14, y14, y14, y14, y14, y14, y14, y14, y14, y14, y14, y14, y14, y14, y14, y14, y14, n14] rfl rfl (any_of HT_.out (by kernel_rfl)) (fun _ _ _ h => h) (Or.inl ⟨by rfl, ?_⟩) ?_ ?_
       rotate_left
       · intro w'
         go_simp
         with_reducible rfl
       rotate_left
       · simp only [Act.put, List.setIfInBounds_toArray, List.set_cons_zero, List.set_cons_succ, i64_w, i32_w]
         rfl
       refine pure_ (i := 29) (N := some 59) (v := ?_) (a' := ?_) #[y14, y14, y14, y14, y14, y14, y14, y14, y14, y14, y14, y14, y14, y14, y14, y14, y14, y14, y14, y14, y14, y14, y14, y14, y14, y14, y14, y14, y14, y14] rfl rfl (any_of HT_.out (by kernel_rfl)) (fun _ _ _ h => h) (Or.inl ⟨by rfl, ?_⟩) ?_ ?_
       rotate_left
       · intro w'
         go_simp
         with_reducible rfl
       rotate_left
       · simp only [Act.put, List.setIfInBounds_toArray, List.set_cons_zero, List.set_cons_succ, i64_w, i32_w]
         rfl
       refine done_ (done_of HT_.out (by kernel_rfl)) ?_
       try go_wp2
       go_ret
       exact ⟨by first | rfl | (simp [errW_none, errW_some] <;> rfl) | (simp [*, errW_none, errW_some] <;> rfl), by repeat (with_reducible first | exact HB.out | apply below_alloc | apply pw_below_drewN | apply below_drew1)⟩
     rw [if_neg c21] at H
     have c21b0 : ((wrap64 (((rd_T57 l0 x3_1).f1) + ((rd_T57 l0 x3_1).f2))) == 0) = false := beq_eq_false_iff_ne.mpr c21
     have c21b1 : ((wrap64 (((rd_T57 l0 x3_1).f1) + ((rd_T57 l0 x3_1).f2))) != 0) = true := bne_iff_ne.mpr c21
     have H' := Aside0.mk H
     clear H
     try go_wp2
     have n0_ := Aside0.mk (below_drew1 HB.out)
     clear HB
     have HB := n0_
     clear n0_
     have p241 : 0 ≤ (x3_1 : Int) := of_decide_eq_true (by first | (with_reducible assumption) | assumption)
     have q241 : x3_1 < (l0.length : Int) := of_decide_eq_true (by first | (with_reducible assumption) | assumption)
     obtain ⟨ad241, e241, hx241_0, hx241_1, hx241_2, hx241_3, hx241_4, hx241_5⟩ := at_T57 HR0.out x3_1 p241 q241
     have hw241_5 := hx241_5
     have hw241_4 := hx241_4
     have hw241_3 := hx241_3
     have hw241_2 := hx241_2
     have hw241_1 := hx241_1
     have hw241_0 := hx241_0
     cases e241
     replace hx241_0 := (HB.out.cell (World.block_lt_of_cell? w _ hx241_0)).trans hx241_0
     replace hx241_1 := (HB.out.cell (World.block_lt_of_cell? w _ hx241_1)).trans hx241_1
     replace hx241_2 := (HB.out.cell (World.block_lt_of_cell? w _ hx241_2)).trans hx241_2
     replace hx241_3 := (HB.out.cell (World.block_lt_of_cell? w _ hx241_3)).trans hx241_3
     replace hx241_4 := (HB.out.cell (World.block_lt_of_cell? w _ hx241_4)).trans hx241_4
     replace hx241_5 := (HB.out.cell (World.block_lt_of_cell? w _ hx241_5)).trans hx241_5
     replace p241 := eq_true p241
     replace q241 := eq_true q241
     have p243 : 0 ≤ (x3_1 : Int) := of_decide_eq_true (by first | (with_reducible assumption) | assumption)
     have q243 : x3_1 < (l0.length : Int) := of_decide_eq_true (by first | (with_reducible assumption) | assumption)
     obtain ⟨ad243, e243, hx243_0, hx243_1, hx243_2, hx243_3, hx243_4, hx243_5⟩ := at_T57 HR0.out x3_1 p243 q243
     have hw243_5 := hx243_5
     have hw243_4 := hx243_4
     have hw243_3 := hx243_3
     have hw243_2 := hx243_2
     have hw243_1 := hx243_1
     have hw243_0 := hx243_0
     obtain rfl : ad241 = ad243 := (by injection e243)
     replace hx243_0 := (HB.out.cell (World.block_lt_of_cell? w _ hx243_0)).trans hx243_0
     replace hx243_1 := (HB.out.cell (World.block_lt_of_cell? w _ hx243_1)).trans hx243_1
     replace hx243_2 := (HB.out.cell (World.block_lt_of_cell? w _ hx243_2)).trans hx243_2
     replace hx243_3 := (HB.out.cell (World.block_lt_of_cell? w _ hx243_3)).trans hx243_3
     replace hx243_4 := (HB.out.cell (World.block_lt_of_cell? w _ hx243_4)).trans hx243_4
     replace hx243_5 := (HB.out.cell (World.block_lt_of_cell? w _ hx243_5)).trans hx243_5
     replace p243 := eq_true p243
     replace q243 := eq_true q243
     have p245 : 0 ≤ (x3_1 : Int) := of_decide_eq_true (by first | (with_reducible assumption) | assumption)
     have q245 : x3_1 < (l0.length : Int) := of_decide_eq_true (by first | (with_reducible assumption) | assumption)
     obtain ⟨ad245, e245, hx245_0, hx245_1, hx245_2, hx245_3, hx245_4, hx245_5⟩ := at_T57 HR0.out x3_1 p245 q245
     have hw245_5 := hx245_5
     have hw245_4 := hx245_4
     have hw245_3 := hx245_3
     have hw245_2 := hx245_2
     have hw245_1 := hx245_1
     have hw245_0 := hx245_0
     obtain rfl : ad241 = ad245 := (by injection e245)
     replace hx245_0 := (HB.out.cell (World.block_lt_of_cell? w _ hx245_0)).trans hx245_0
     replace hx245_1 := (HB.out.cell (World.block_lt_of_cell? w _ hx245_1)).trans hx245_1
     replace hx245_2 := (HB.out.cell (World.block_lt_of_cell? w _ hx245_2)).trans hx245_2
     replace hx245_3 := (HB.out.cell (World.block_lt_of_cell? w _ hx245_3)).trans hx245_3
     replace hx245_4 := (HB.out.cell (World.block_lt_of_cell? w _ hx245_4)).trans hx245_4
     replace hx245_5 := (HB.out.cell (World.block_lt_of_cell? w _ hx245_5)).trans hx245_5
     replace p245 := eq_true p245
     replace q245 := eq_true q245
     have p246 : 0 ≤ (x3_1 : Int) := of_decide_eq_true (by first | (with_reducible assumption) | assumption)
     have q246 : x3_1 < (l0.length : Int) := of_decide_eq_true (by first | (with_reducible assumption) | assumption)
     obtain ⟨ad246, e246, hx246_0, hx246_1, hx246_2, hx246_3, hx246_4, hx246_5⟩ := at_T57 HR0.out x3_1 p246 q246
     have hw246_5 := hx246_5
     have hw246_4 := hx246_4
     have hw246_3 := hx246_3
     have hw246_2 := hx246_2
     have hw246_1 := hx246_1
     have hw246_0 := hx246_0
     obtain rfl : ad241 = ad246 := (by injection e246)
     replace hx246_0 := (HB.out.cell (World.block_lt_of_cell? w _ hx246_0)).trans hx246_0
     replace hx246_1 := (HB.out.cell (World.block_lt_of_cell? w _ hx246_1)).trans hx246_1
     replace hx246_2 := (HB.out.cell (World.block_lt_of_cell? w _ hx246_2)).trans hx246_2
     replace hx246_3 := (HB.out.cell (World.block_lt_of_cell? w _ hx246_3)).trans hx246_3
     replace hx246_4 := (HB.out.cell (World.block_lt_of_cell? w _ hx246_4)).trans hx246_4
     replace hx246_5 := (HB.out.cell (World.block_lt_of_cell? w _ hx246_5)).trans hx246_5
     replace p246 := eq_true p246
     replace q246 := eq_true q246
     refine start_ (n := 30) (S := fun w' => w'.cell? (ad241.add ((x3_1).toNat * 6)) = some (.string ((rd_T57 l0 x3_1).f0.f0)) ∧ w'.cell? ⟨(ad241.add ((x3_1).toNat * 6)).block, (ad241.add ((x3_1).toNat * 6)).off + 1, none⟩ = some (.int .i64 ((rd_T57 l0 x3_1).f0.f1)) ∧ w'.cell? ⟨(ad241.add ((x3_1).toNat * 6)).block, (ad241.add ((x3_1).toNat * 6)).off + 2, none⟩ = some (.int .i64 ((rd_T57 l0 x3_1).f0.f2)) ∧ w'.cell? ⟨(ad241.add ((x3_1).toNat * 6)).block, (ad241.add ((x3_1).toNat * 6)).off + 3, none⟩ = some (.int .i64 ((rd_T57 l0 x3_1).f0.f3)) ∧ w'.cell? ⟨(ad241.add ((x3_1).toNat * 6)).block, (ad241.add ((x3_1).toNat * 6)).off + 4, none⟩ = some (.int .i64 ((rd_T57 l0 x3_1).f1)) ∧ w'.cell? ⟨(ad241.add ((x3_1).toNat * 6)).block, (ad241.add ((x3_1).toNat * 6)).off + 5, none⟩ = some (.int .i64 ((rd_T57 l0 x3_1).f2)) ∧ w'.cell? (ad241.add ((x3_1).toNat * 6)) = some (.string ((rd_T57 l0 x3_1).f0.f0)) ∧ w'.cell? ⟨(ad241.add ((x3_1).toNat * 6)).block, (ad241.add ((x3_1).toNat * 6)).off + 1, none⟩ = some (.int .i64 ((rd_T57 l0 x3_1).f0.f1)) ∧ w'.cell? ⟨(ad241.add ((x3_1).toNat * 6)).block, (ad241.add ((x3_1).toNat * 6)).off + 2, none⟩ = some (.int .i64 ((rd_T57 l0 x3_1).f0.f2)) ∧ w'.cell? ⟨(ad241.add ((x3_1).toNat * 6)).block, (ad241.add ((x3_1).toNat * 6)).off + 3, none⟩ = some (.int .i64 ((rd_T57 l0 x3_1).f0.f3)) ∧ w'.cell? ⟨(ad241.add ((x3_1).toNat * 6)).block, (ad241.add ((x3_1).toNat * 6)).off + 4, none⟩ = some (.int .i64 ((rd_T57 l0 x3_1).f1)) ∧ w'.cell? ⟨(ad241.add ((x3_1).toNat * 6)).block, (ad241.add ((x3_1).toNat * 6)).off + 5, none⟩ = some (.int .i64 ((rd_T57 l0 x3_1).f2)) ∧ w'.cell? (ad241.add ((x3_1).toNat * 6)) = some (.string ((rd_T57 l0 x3_1).f0.f0)) ∧ w'.cell? ⟨(ad241.add ((x3_1).toNat * 6)).block, (ad241.add ((x3_1).toNat * 6)).off + 1, none⟩ = some (.int .i64 ((rd_T57 l0 x3_1).f0.f1)) ∧ w'.cell? ⟨(ad241.add ((x3_1).toNat * 6)).block, (ad241.add ((x3_1).toNat * 6)).off + 2, none⟩ = some (.int .i64 ((rd_T57 l0 x3_1).f0.f2)) ∧ w'.cell? ⟨(ad241.add ((x3_1).toNat * 6)).block, (ad241.add ((x3_1).toNat * 6)).off + 3, none⟩ = some (.int .i64 ((rd_T57 l0 x3_1).f0.f3)) ∧ w'.cell? ⟨(ad241.add ((x3_1).toNat * 6)).block, (ad241.add ((x3_1).toNat * 6)).off + 4, none⟩ = some (.int .i64 ((rd_T57 l0 x3_1).f1)) ∧ w'.cell? ⟨(ad241.add ((x3_1).toNat * 6)).block, (ad241.add ((x3_1).toNat * 6)).off + 5, none⟩ = some (.int .i64 ((rd_T57 l0 x3_1).f2)) ∧ w'.cell? (ad241.add ((x3_1).toNat * 6)) = some (.string ((rd_T57 l0 x3_1).f0.f0)) ∧ w'.cell? ⟨(ad241.add ((x3_1).toNat * 6)).block, (ad241.add ((x3_1).toNat * 6)).off + 1, none⟩ = some (.int .i64 ((rd_T57 l0 x3_1).f0.f1)) ∧ w'.cell? ⟨(ad241.add ((x3_1).toNat * 6)).block, (ad241.add ((x3_1).toNat * 6)).off + 2, none⟩ = some (.int .i64 ((rd_T57 l0 x3_1).f0.f2)) ∧ w'.cell? ⟨(ad241.add ((x3_1).toNat * 6)).block, (ad241.add ((x3_1).toNat * 6)).off + 3, none⟩ = some (.int .i64 ((rd_T57 l0 x3_1).f0.f3)) ∧ w'.cell? ⟨(ad241.add ((x3_1).toNat * 6)).block, (ad241.add ((x3_1).toNat * 6)).off + 4, none⟩ = some (.int .i64 ((rd_T57 l0 x3_1).f1)) ∧ w'.cell? ⟨(ad241.add ((x3_1).toNat * 6)).block, (ad241.add ((x3_1).toNat * 6)).off + 5, none⟩ = some (.int .i64 ((rd_T57 l0 x3_1).f2))) (ds := []) #[n14, n14, n14, n14, n14, n14, n14, n14, n14, n14, n14, n14, n14, n14, n14, n14, n14, n14, n14, n14, n14, n14, n14, n14, n14, n14, n14, n14, n14, n14] (by kernel_rfl) rfl rfl ⟨((HB.out.cell (World.block_lt_of_cell? w _ hw241_0)).trans hw241_0), ((HB.out.cell (World.block_lt_of_cell? w _ hw241_1)).trans hw241_1), ((HB.out.cell (World.block_lt_of_cell? w _ hw241_2)).trans hw241_2), ((HB.out.cell (World.block_lt_of_cell? w _ hw241_3)).trans hw241_3), ((HB.out.cell (World.block_lt_of_cell? w _ hw241_4)).trans hw241_4), ((HB.out.cell (World.block_lt_of_cell? w _ hw241_5)).trans hw241_5), ((HB.out.cell (World.block_lt_of_cell? w _ hw243_0)).trans hw243_0), ((HB.out.cell (World.block_lt_of_cell? w _ hw243_1)).trans hw243_1), ((HB.out.cell (World.block_lt_of_cell? w _ hw243_2)).trans hw243_2), ((HB.out.cell (World.block_lt_of_cell? w _ hw243_3)).trans hw243_3), ((HB.out.cell (World.block_lt_of_cell? w _ hw243_4)).trans hw243_4), ((HB.out.cell (World.block_lt_of_cell? w _ hw243_5)).trans hw243_5), ((HB.out.cell (World.block_lt_of_cell? w _ hw245_0)).trans hw245_0), ((HB.out.cell (World.block_lt_of_cell? w _ hw245_1)).trans hw245_1), ((HB.out.cell (World.block_lt_of_cell? w _ hw245_2)).trans hw245_2), ((HB.out.cell (World.block_lt_of_cell? w _ hw245_3)).trans hw245_3), ((HB.out.cell (World.block_lt_of_cell? w _ hw245_4)).trans hw245_4), ((HB.out.cell (World.block_lt_of_cell? w _ hw245_5)).trans hw245_5), ((HB.out.cell (World.block_lt_of_cell? w _ hw246_0)).trans hw246_0), ((HB.out.cell (World.block_lt_of_cell? w _ hw246_1)).trans hw246_1), ((HB.out.cell (World.block_lt_of_cell? w _ hw246_2)).trans hw246_2), ((HB.out.cell (World.block_lt_of_cell? w _ hw246_3)).trans hw246_3), ((HB.out.cell (World.block_lt_of_cell? w _ hw246_4)).trans hw246_4), ((HB.out.cell (World.block_lt_of_cell? w _ hw246_5)).trans hw246_5)⟩ (fun hHeld => ?_); refine with_tabW contangoref15_Check.tab8 contangoref15_Check.bits8 (fun HT_ HW_ => ?_)
     generalize wc.drew = w23 at HB hx241_0 hx241_1 hx241_2 hx241_3 hx241_4 hx241_5 hx243_0 hx243_1 hx243_2 hx243_3 hx243_4 hx243_5 hx245_0 hx245_1 hx245_2 hx245_3 hx245_4 hx245_5 hx246_0 hx246_1 hx246_2 hx246_3 hx246_4 hx246_5 hHeld ⊢
     refine pure_ (i := 0) (N := some 30) (v := ?_) (a' := ?_) #[y14, n14, n14, n14, n14, n14, n14, n14, n14, n14, n14, n14, n14, n14, n14, n14, n14, n14, n14, n14, n14, n14, n14, n14, n14, n14, n14, n14, n14, n14] rfl rfl (any_of HT_.out (by kernel_rfl)) (fun _ _ _ h => h) (Or.inl ⟨by rfl, ?_⟩) ?_ ?_
     rotate_left
     · intro w'
       go_simp
       with_reducible rfl
     rotate_left
     · simp only [Act.put, List.setIfInBounds_toArray, List.set_cons_zero, List.set_cons_succ, i64_w, i32_w]
       rfl
     refine pure_ (i := 1) (N := some 31) (v := ?_) (a' := ?_) #[y14, y14, n14, n14, n14, n14, n14, n14, n14, n14, n14, n14, n14, n14, n14, n14, n14, n14, n14, n14, n14, n14, n14, n14, n14, n14, n14, n14, n14, n14] rfl rfl (any_of HT_.out (by kernel_rfl)) (fun _ _ _ h => h) (Or.inl ⟨by rfl, ?_⟩) ?_ ?_
     rotate_left
     · intro w'
       go_simp
       with_reducible rfl
     rotate_left
     · simp only [Act.put, List.setIfInBounds_toArray, List.set_cons_zero, List.set_cons_succ, i64_w, i32_w]
       rfl
     refine pure_ (i := 2) (N := some 32) (v := ?_) (a' := ?_) #[y14, y14, y14, n14, n14, n14, n14, n14, n14, n14, n14, n14, n14, n14, n14, n14, n14, n14, n14, n14, n14, n14, n14, n14, n14, n14, n14, n14, n14, n14] rfl rfl (any_of HT_.out (by kernel_rfl)) (fun _ _ _ h => h) (Or.inl ⟨by rfl, ?_⟩) ?_ ?_
     rotate_left
     · intro w'
       go_simp
       with_reducible rfl
     rotate_left
     · simp only [Act.put, List.setIfInBounds_toArray, List.set_cons_zero, List.set_cons_succ, i64_w, i32_w]
       rfl
     refine pure_ (i := 3) (N := some 33) (v := ?_) (a' := ?_) #[y14, y14, y14, y14, n14, n14, n14, n14, n14, n14, n14, n14, n14, n14, n14, n14, n14, n14, n14, n14, n14, n14, n14, n14, n14, n14, n14, n14, n14, n14] rfl rfl (any_of HT_.out (by kernel_rfl)) (fun _ _ _ h => h) (Or.inl ⟨by rfl, ?_⟩) ?_ ?_
     rotate_left
     · intro w'
       go_simp
       with_reducible rfl
     rotate_left
     · simp only [Act.put, List.setIfInBounds_toArray, List.set_cons_zero, List.set_cons_succ, i64_w, i32_w]
       rfl
     refine take_ (i := 4) (N := some 34) (v := ?_) (a' := ?_) #[y14, y14, y14, y14, y14, n14, n14, n14, n14, n14, n14, n14, n14, n14, n14, n14, n14, n14, n14, n14, n14, n14, n14, n14, n14, n14, n14, n14, n14, n14] rfl rfl (take_ofW HT_.out HW_.out (by kernel_rfl)) (fun _ _ _ h => h) (Or.inl ⟨by rfl, ?_⟩) hHeld ?_ ?_
     rotate_left
     · rintro w' ⟨s0, s1, s2, s3, s4, s5, s6, s7, s8, s9, s10, s11, s12, s13, s14, s15, s16, s17, s18, s19, s20, s21, s22, s23⟩
       go_simp
       with_reducible rfl
     rotate_left
     · simp only [Act.put, List.setIfInBounds_toArray, List.set_cons_zero, List.set_cons_succ, i64_w, i32_w]
       rfl
     refine one_ (i := 5) (N := some 35) #[y14, y14, y14, y14, y14, y14, n14, n14, n14, n14, n14, n14, n14, n14, n14, n14, n14, n14, n14, n14, n14, n14, n14, n14, n14, n14, n14, n14, n14, n14] rfl rfl (one_of HT_.out (by kernel_rfl)) (by decide) (fun K hK => ?_)
     refine goes_ Try.func59 (by kernel_rfl) rfl #[.int .i64 ((rd_T57 l0 x3_1).f1)] (by rfl) rfl rfl (by (try simp only [List.map_toArray, List.map_cons, List.map_nil]); first | done | rfl | (simp only [List.length_drop, List.length_take]; rfl)) ?_
     with_reducible refine (contangoref15_lots.calls ((rd_T57 l0 x3_1).f1) true _ A17.out).mono ?_
     rintro e w' ⟨rfl, ⟨nd, rfl⟩⟩
     refine ⟨_, rfl, ?_⟩
     refine hK.out _ _ ⟨((HB.out.cell (World.block_lt_of_cell? w _ hw241_0)).trans hw241_0), ((HB.out.cell (World.block_lt_of_cell? w _ hw241_1)).trans hw241_1), ((HB.out.cell (World.block_lt_of_cell? w _ hw241_2)).trans hw241_2), ((HB.out.cell (World.block_lt_of_cell? w _ hw241_3)).trans hw241_3), ((HB.out.cell (World.block_lt_of_cell? w _ hw241_4)).trans hw241_4), ((HB.out.cell (World.block_lt_of_cell? w _ hw241_5)).trans hw241_5), ((HB.out.cell (World.block_lt_of_cell? w _ hw243_0)).trans hw243_0), ((HB.out.cell (World.block_lt_of_cell? w _ hw243_1)).trans hw243_1), ((HB.out.cell (World.block_lt_of_cell? w _ hw243_2)).trans hw243_2), ((HB.out.cell (World.block_lt_of_cell? w _ hw243_3)).trans hw243_3), ((HB.out.cell (World.block_lt_of_cell? w _ hw243_4)).trans hw243_4), ((HB.out.cell (World.block_lt_of_cell? w _ hw243_5)).trans hw243_5), ((HB.out.cell (World.block_lt_of_cell? w _ hw245_0)).trans hw245_0), ((HB.out.cell (World.block_lt_of_cell? w _ hw245_1)).trans hw245_1), ((HB.out.cell (World.block_lt_of_cell? w _ hw245_2)).trans hw245_2), ((HB.out.cell (World.block_lt_of_cell? w _ hw245_3)).trans hw245_3), ((HB.out.cell (World.block_lt_of_cell? w _ hw245_4)).trans hw245_4), ((HB.out.cell (World.block_lt_of_cell? w _ hw245_5)).trans hw245_5), ((HB.out.cell (World.block_lt_of_cell? w _ hw246_0)).trans hw246_0), ((HB.out.cell (World.block_lt_of_cell? w _ hw246_1)).trans hw246_1), ((HB.out.cell (World.block_lt_of_cell? w _ hw246_2)).trans hw246_2), ((HB.out.cell (World.block_lt_of_cell? w _ hw246_3)).trans hw246_3), ((HB.out.cell (World.block_lt_of_cell? w _ hw246_4)).trans hw246_4), ((HB.out.cell (World.block_lt_of_cell? w _ hw246_5)).trans hw246_5)⟩ (fun hHeld => ?_)
     clear hK K
     refine norm_ (a' := ?_) ?_ ?_
     rotate_left
     · show Act.put _ (some 35) _ = _
       simp only [Act.put, List.setIfInBounds_toArray, List.set_cons_zero, List.set_cons_succ, i64_w, i32_w]
       rfl
     refine pure_ (i := 6) (N := some 36) (v := ?_) (a' := ?_) #[y14, y14, y14, y14, y14, y14, y14, n14, n14, n14, n14, n14, n14, n14, n14, n14, n14, n14, n14, n14, n14, n14, n14, n14, n14, n14, n14, n14, n14, n14] rfl rfl (any_of HT_.out (by kernel_rfl)) (fun _ _ _ h => h) (Or.inl ⟨by rfl, ?_⟩) ?_ ?_
     rotate_left
     · intro w'
       go_simp
       with_reducible rfl
     rotate_left
     · simp only [Act.put, List.setIfInBounds_toArray, List.set_cons_zero, List.set_cons_succ, i64_w, i32_w]
       rfl
     refine pure_ (i := 7) (N := some 37) (v := ?_) (a' := ?_) #[y14, y14, y14, y14, y14, y14, y14, y14, n14, n14, n14, n14, n14, n14, n14, n14, n14, n14, n14, n14, n14, n14, n14, n14, n14, n14, n14, n14, n14, n14] rfl rfl (any_of HT_.out (by kernel_rfl)) (fun _ _ _ h => h) (Or.inl ⟨by rfl, ?_⟩) ?_ ?_
     rotate_left
     · intro w'
       go_simp
       with_reducible rfl
     rotate_left
     · simp only [Act.put, List.setIfInBounds_toArray, List.set_cons_zero, List.set_cons_succ, i64_w, i32_w]
       rfl
     refine pure_ (i := 8) (N := some 38) (v := ?_) (a' := ?_) #[y14, y14, y14, y14, y14, y14, y14, y14, y14, n14, n14, n14, n14, n14, n14, n14, n14, n14, n14, n14, n14, n14, n14, n14, n14, n14, n14, n14, n14, n14] rfl rfl (any_of HT_.out (by kernel_rfl)) (fun _ _ _ h => h) (Or.inl ⟨by rfl, ?_⟩) ?_ ?_
     rotate_left
     · intro w'
       go_simp
       with_reducible rfl
     rotate_left
     · simp only [Act.put, List.setIfInBounds_toArray, List.set_cons_zero, List.set_cons_succ, i64_w, i32_w]
       rfl
     refine pure_ (i := 9) (N := some 39) (v := ?_) (a' := ?_) #[y14, y14, y14, y14, y14, y14, y14, y14, y14, y14, n14, n14, n14, n14, n14, n14, n14, n14, n14, n14, n14, n14, n14, n14, n14, n14, n14, n14, n14, n14] rfl rfl (any_of HT_.out (by kernel_rfl)) (fun _ _ _ h => h) (Or.inl ⟨by rfl, ?_⟩) ?_ ?_
     rotate_left
     · intro w'
       go_simp
       with_reducible rfl
     rotate_left
     · simp only [Act.put, List.setIfInBounds_toArray, List.set_cons_zero, List.set_cons_succ, i64_w, i32_w]
       rfl
     refine pure_ (i := 10) (N := some 40) (v := ?_) (a' := ?_) #[y14, y14, y14, y14, y14, y14, y14, y14, y14, y14, y14, n14, n14, n14, n14, n14, n14, n14, n14, n14, n14, n14, n14, n14, n14, n14, n14, n14, n14, n14] rfl rfl (any_of HT_.out (by kernel_rfl)) (fun _ _ _ h => h) (Or.inl ⟨by rfl, ?_⟩) ?_ ?_
     rotate_left
     · intro w'
       go_simp
       with_reducible rfl
     rotate_left
     · simp only [Act.put, List.setIfInBounds_toArray, List.set_cons_zero, List.set_cons_succ, i64_w, i32_w]
       rfl
     refine pure_ (i := 11) (N := some 41) (v := ?_) (a' := ?_) #[y14, y14, y14, y14, y14, y14, y14, y14, y14, y14, y14, y14, n14, n14, n14, n14, n14, n14, n14, n14, n14, n14, n14, n14, n14, n14, n14, n14, n14, n14] rfl rfl (any_of HT_.out (by kernel_rfl)) (fun _ _ _ h => h) (Or.inl ⟨by rfl, ?_⟩) ?_ ?_
     rotate_left
     · intro w'
       go_simp
       with_reducible rfl
     rotate_left
     · simp only [Act.put, List.setIfInBounds_toArray, List.set_cons_zero, List.set_cons_succ, i64_w, i32_w]
       rfl
     refine take_ (i := 12) (N := some 42) (v := ?_) (a' := ?_) #[y14, y14, y14, y14, y14, y14, y14, y14, y14, y14, y14, y14, y14, n14, n14, n14, n14, n14, n14, n14, n14, n14, n14, n14, n14, n14, n14, n14, n14, n14] rfl rfl (take_ofW HT_.out HW_.out (by kernel_rfl)) (fun _ _ _ h => h) (Or.inl ⟨by rfl, ?_⟩) hHeld ?_ ?_
     rotate_left
     · rintro w' ⟨s0, s1, s2, s3, s4, s5, s6, s7, s8, s9, s10, s11, s12, s13, s14, s15, s16, s17, s18, s19, s20, s21, s22, s23⟩
       go_simp
       with_reducible rfl
     rotate_left
     · simp only [Act.put, List.setIfInBounds_toArray, List.set_cons_zero, List.set_cons_succ, i64_w, i32_w]
       rfl
     refine one_ (i := 13) (N := some 43) #[y14, y14, y14, y14, y14, y14, y14, y14, y14, y14, y14, y14, y14, y14, n14, n14, n14, n14, n14, n14, n14, n14, n14, n14, n14, n14, n14, n14, n14, n14] rfl rfl (one_of HT_.out (by kernel_rfl)) (by decide) (fun K hK => ?_)
     refine goes_ Try.func59 (by kernel_rfl) rfl #[.int .i64 ((rd_T57 l0 x3_1).f2)] (by rfl) rfl rfl (by (try simp only [List.map_toArray, List.map_cons, List.map_nil]); first | done | rfl | (simp only [List.length_drop, List.length_take]; rfl)) ?_
     with_reducible refine (contangoref15_lots.calls ((rd_T57 l0 x3_1).f2) true _ A19.out).mono ?_
     rintro e w' ⟨rfl, ⟨nd, rfl⟩⟩
     refine ⟨_, rfl, ?_⟩
     refine hK.out _ _ ⟨((HB.out.cell (World.block_lt_of_cell? w _ hw241_0)).trans hw241_0), ((HB.out.cell (World.block_lt_of_cell? w _ hw241_1)).trans hw241_1), ((HB.out.cell (World.block_lt_of_cell? w _ hw241_2)).trans hw241_2), ((HB.out.cell (World.block_lt_of_cell? w _ hw241_3)).trans hw241_3), ((HB.out.cell (World.block_lt_of_cell? w _ hw241_4)).trans hw241_4), ((HB.out.cell (World.block_lt_of_cell? w _ hw241_5)).trans hw241_5), ((HB.out.cell (World.block_lt_of_cell? w _ hw243_0)).trans hw243_0), ((HB.out.cell (World.block_lt_of_cell? w _ hw243_1)).trans hw243_1), ((HB.out.cell (World.block_lt_of_cell? w _ hw243_2)).trans hw243_2), ((HB.out.cell (World.block_lt_of_cell? w _ hw243_3)).trans hw243_3), ((HB.out.cell (World.block_lt_of_cell? w _ hw243_4)).trans hw243_4), ((HB.out.cell (World.block_lt_of_cell? w _ hw243_5)).trans hw243_5), ((HB.out.cell (World.block_lt_of_cell? w _ hw245_0)).trans hw245_0), ((HB.out.cell (World.block_lt_of_cell? w _ hw245_1)).trans hw245_1), ((HB.out.cell (World.block_lt_of_cell? w _ hw245_2)).trans hw245_2), ((HB.out.cell (World.block_lt_of_cell? w _ hw245_3)).trans hw245_3), ((HB.out.cell (World.block_lt_of_cell? w _ hw245_4)).trans hw245_4), ((HB.out.cell (World.block_lt_of_cell? w _ hw245_5)).trans hw245_5), ((HB.out.cell (World.block_lt_of_cell? w _ hw246_0)).trans hw246_0), ((HB.out.cell (World.block_lt_of_cell? w _ hw246_1)).trans hw246_1), ((HB.out.cell (World.block_lt_of_cell? w _ hw246_2)).trans hw246_2), ((HB.out.cell (World.block_lt_of_cell? w _ hw246_3)).trans hw246_3), ((HB.out.cell (World.block_lt_of_cell? w _ hw246_4)).trans hw246_4), ((HB.out.cell (World.block_lt_of_cell? w _ hw246_5)).trans hw246_5)⟩ (fun hHeld => ?_)
     clear hK K
     refine norm_ (a' := ?_) ?_ ?_
     rotate_left
     · show Act.put _ (some 43) _ = _
       simp only [Act.put, List.setIfInBounds_toArray, List.set_cons_zero, List.set_cons_succ, i64_w, i32_w]
       rfl
     refine pure_ (i := 14) (N := some 44) (v := ?_) (a' := ?_) #[y14, y14, y14, y14, y14, y14, y14, y14, y14, y14, y14, y14, y14, y14, y14, n14, n14, n14, n14, n14, n14, n14, n14, n14, n14, n14, n14, n14, n14, n14] rfl rfl (any_of HT_.out (by kernel_rfl)) (fun _ _ _ h => h) (Or.inl ⟨by rfl, ?_⟩) ?_ ?_
     rotate_left
     · intro w'
       go_simp
       with_reducible rfl
     rotate_left
     · simp only [Act.put, List.setIfInBounds_toArray, List.set_cons_zero, List.set_cons_succ, i64_w, i32_w]
       rfl
     refine pure_ (i := 15) (N := some 45) (v := ?_) (a' := ?_) #[y14, y14, y14, y14, y14, y14, y14, y14, y14, y14, y14, y14, y14, y14, y14, y14, n14, n14, n14, n14, n14, n14, n14, n14, n14, n14, n14, n14, n14, n14] rfl rfl (any_of HT_.out (by kernel_rfl)) (fun _ _ _ h => h) (Or.inl ⟨by rfl, ?_⟩) ?_ ?_
     rotate_left
     · intro w'
       go_simp
       with_reducible rfl
     rotate_left
     · simp only [Act.put, List.setIfInBounds_toArray, List.set_cons_zero, List.set_cons_succ, i64_w, i32_w]
       rfl
     refine pure_ (i := 16) (N := some 46) (v := ?_) (a' := ?_) #[y14, y14, y14, y14, y14, y14, y14, y14, y14, y14, y14, y14, y14, y14, y14, y14, y14, n14, n14, n14, n14, n14, n14, n14, n14, n14, n14, n14, n14, n14] rfl rfl (any_of HT_.out (by kernel_rfl)) (fun _ _ _ h => h) (Or.inl ⟨by rfl, ?_⟩) ?_ ?_
     rotate_left
     · intro w'
       go_simp
       with_reducible rfl
     rotate_left
     · simp only [Act.put, List.setIfInBounds_toArray, List.set_cons_zero, List.set_cons_succ, i64_w, i32_w]
       rfl
     refine pure_ (i := 17) (N := some 47) (v := ?_) (a' := ?_) #[y14, y14, y14, y14, y14, y14, y14, y14, y14, y14, y14, y14, y14, y14, y14, y14, y14, y14, n14, n14, n14, n14, n14, n14, n14, n14, n14, n14, n14, n14] rfl rfl (any_of HT_.out (by kernel_rfl)) (fun _ _ _ h => h) (Or.inl ⟨by rfl, ?_⟩) ?_ ?_
     rotate_left
     · intro w'
       go_simp
       with_reducible rfl
     rotate_left
     · simp only [Act.put, List.setIfInBounds_toArray, List.set_cons_zero, List.set_cons_succ, i64_w, i32_w]
       rfl
     refine pure_ (i := 18) (N := some 48) (v := ?_) (a' := ?_) #[y14, y14, y14, y14, y14, y14, y14, y14, y14, y14, y14, y14, y14, y14, y14, y14, y14, y14, y14, n14, n14, n14, n14, n14, n14, n14, n14, n14, n14, n14] rfl rfl (any_of HT_.out (by kernel_rfl)) (fun _ _ _ h => h) (Or.inl ⟨by rfl, ?_⟩) ?_ ?_
     rotate_left
     · intro w'
       go_simp
       with_reducible rfl
     rotate_left
     · simp only [Act.put, List.setIfInBounds_toArray, List.set_cons_zero, List.set_cons_succ, i64_w, i32_w]
       rfl
     refine pure_ (i := 19) (N := some 49) (v := ?_) (a' := ?_) #[y14, y14, y14, y14, y14, y14, y14, y14, y14, y14, y14, y14, y14, y14, y14, y14, y14, y14, y14, y14, n14, n14, n14, n14, n14, n14, n14, n14, n14, n14] rfl rfl (any_of HT_.out (by kernel_rfl)) (fun _ _ _ h => h) (Or.inl ⟨by rfl, ?_⟩) ?_ ?_
     rotate_left
     · intro w'
       go_simp
       with_reducible rfl
     rotate_left
     · simp only [Act.put, List.setIfInBounds_toArray, List.set_cons_zero, List.set_cons_succ, i64_w, i32_w]
       rfl
     refine pure_ (i := 20) (N := some 50) (v := ?_) (a' := ?_) #[y14, y14, y14, y14, y14, y14, y14, y14, y14, y14, y14, y14, y14, y14, y14, y14, y14, y14, y14, y14, y14, n14, n14, n14, n14, n14, n14, n14, n14, n14] rfl rfl (any_of HT_.out (by kernel_rfl)) (fun _ _ _ h => h) (Or.inl ⟨by rfl, ?_⟩) ?_ ?_
     rotate_left
     · intro w'
       go_simp
       with_reducible rfl
     rotate_left
     · simp only [Act.put, List.setIfInBounds_toArray, List.set_cons_zero, List.set_cons_succ, i64_w, i32_w]
       rfl
     refine pure_ (i := 22) (N := some 52) (v := ?_) (a' := ?_) #[y14, y14, y14, y14, y14, y14, y14, y14, y14, y14, y14, y14, y14, y14, y14, y14, y14, y14, y14, y14, y14, n14, y14, n14, n14, n14, n14, n14, n14, n14] rfl rfl (any_of HT_.out (by kernel_rfl)) (fun _ _ _ h => h) (Or.inl ⟨by rfl, ?_⟩) ?_ ?_
     rotate_left
     · intro w'
       go_simp
       with_reducible rfl
     rotate_left
     · simp only [Act.put, List.setIfInBounds_toArray, List.set_cons_zero, List.set_cons_succ, i64_w, i32_w]
       rfl
     refine pure_ (i := 23) (N := some 53) (v := ?_) (a' := ?_) #[y14, y14, y14, y14, y14, y14, y14, y14, y14, y14, y14, y14, y14, y14, y14, y14, y14, y14, y14, y14, y14, n14, y14, y14, n14, n14, n14, n14, n14, n14] rfl rfl (any_of HT_.out (by kernel_rfl)) (fun _ _ _ h => h) (Or.inl ⟨by rfl, ?_⟩) ?_ ?_
     rotate_left
     · intro w'
       go_simp
       with_reducible rfl
     rotate_left
     · simp only [Act.put, List.setIfInBounds_toArray, List.set_cons_zero, List.set_cons_succ, i64_w, i32_w]
       rfl
     refine pure_ (i := 24) (N := some 54) (v := ?_) (a' := ?_) #[y14, y14, y14, y14, y14, y14, y14, y14, y14, y14, y14, y14, y14, y14, y14, y14, y14, y14, y14, y14, y14, n14, y14, y14, y14, n14, n14, n14, n14, n14] rfl rfl (any_of HT_.out (by kernel_rfl)) (fun _ _ _ h => h) (Or.inl ⟨by rfl, ?_⟩) ?_ ?_
     rotate_left
     · intro w'
       go_simp
       with_reducible rfl
     rotate_left
     · simp only [Act.put, List.setIfInBounds_toArray, List.set_cons_zero, List.set_cons_succ, i64_w, i32_w]
       rfl
     refine pure_ (i := 25) (N := some 55) (v := ?_) (a' := ?_) #[y14, y14, y14, y14, y14, y14, y14, y14, y14, y14, y14, y14, y14, y14, y14, y14, y14, y14, y14, y14, y14, n14, y14, y14, y14, y14, n14, n14, n14, n14] rfl rfl (any_of HT_.out (by kernel_rfl)) (fun _ _ _ h => h) (Or.inl ⟨by rfl, ?_⟩) ?_ ?_
     rotate_left
     · intro w'
       go_simp
       with_reducible rfl
     rotate_left
     · simp only [Act.put, List.setIfInBounds_toArray, List.set_cons_zero, List.set_cons_succ, i64_w, i32_w]
       rfl
     refine take_ (i := 21) (N := some 51) (v := ?_) (a' := ?_) #[y14, y14, y14, y14, y14, y14, y14, y14, y14, y14, y14, y14, y14, y14, y14, y14, y14, y14, y14, y14, y14, y14, y14, y14, y14, y14, n14, n14, n14, n14] rfl rfl (take_ofW HT_.out HW_.out (by kernel_rfl)) (fun _ _ _ h => h) (Or.inl ⟨by rfl, ?_⟩) hHeld ?_ ?_
     rotate_left
     · rintro w' ⟨s0, s1, s2, s3, s4, s5, s6, s7, s8, s9, s10, s11, s12, s13, s14, s15, s16, s17, s18, s19, s20, s21, s22, s23⟩
       go_simp
       with_reducible rfl
     rotate_left
     · simp only [Act.put, List.setIfInBounds_toArray, List.set_cons_zero, List.set_cons_succ, i64_w, i32_w]
       rfl
     refine take_ (i := 26) (N := some 56) (v := ?_) (a' := ?_) #[y14, y14, y14, y14, y14, y14, y14, y14, y14, y14, y14, y14, y14, y14, y14, y14, y14, y14, y14, y14, y14, y14, y14, y14, y14, y14, y14, n14, n14, n14] rfl rfl (take_ofW HT_.out HW_.out (by kernel_rfl)) (fun _ _ _ h => h) (Or.inl ⟨by rfl, ?_⟩) hHeld ?_ ?_
     rotate_left
     · rintro w' ⟨s0, s1, s2, s3, s4, s5, s6, s7, s8, s9, s10, s11, s12, s13, s14, s15, s16, s17, s18, s19, s20, s21, s22, s23⟩
       go_simp
       with_reducible rfl
     rotate_left
     · simp only [Act.put, List.setIfInBounds_toArray, List.set_cons_zero, List.set_cons_succ, i64_w, i32_w]
       rfl
     refine pure_ (i := 27) (N := some 57) (v := ?_) (a' := ?_) #[y14, y14, y14, y14, y14, y14, y14, y14, y14, y14, y14, y14, y14, y14, y14, y14, y14, y14, y14, y14, y14, y14, y14, y14, y14, y14, y14, y14, n14, n14] rfl rfl (any_of HT_.out (by kernel_rfl)) (fun _ _ _ h => h) (Or.inl ⟨by rfl, ?_⟩) ?_ ?_
     rotate_left
     · intro w'
       go_simp
       with_reducible rfl
     rotate_left
     · simp only [Act.put, List.setIfInBounds_toArray, List.set_cons_zero, List.set_cons_succ, i64_w, i32_w]
       rfl
     refine pure_ (i := 28) (N := some 58) (v := ?_) (a' := ?_) #[y14, y14, y14, y14, y14, y14, y14, y14, y14, y14, y14, y14, y14, y14, y14, y14, y14, y14, y14, y14, y14, y14, y14, y14, y14, y14, y14, y14, y14, n14] rfl rfl (any_of HT_.out (by kernel_rfl)) (fun _ _ _ h => h) (Or.inl ⟨by rfl, ?_⟩) ?_ ?_
     rotate_left
     · intro w'
       go_simp
       with_reducible rfl
     rotate_left
     · simp only [Act.put, List.setIfInBounds_toArray, List.set_cons_zero, List.set_cons_succ, i64_w, i32_w]
       rfl
     refine pure_ (i := 29) (N := some 59) (v := ?_) (a' := ?_) #[y14, y14, y14, y14, y14, y14, y14, y14, y14, y14, y14, y14, y14, y14, y14, y14, y14, y14, y14, y14, y14, y14, y14, y14, y14, y14, y14, y14, y14, y14] rfl rfl (any_of HT_.out (by kernel_rfl)) (fun _ _ _ h => h) (Or.inl ⟨by rfl, ?_⟩) ?_ ?_
     rotate_left
     · intro w'
       go_simp
       with_reducible rfl
     rotate_left
     · simp only [Act.put, List.setIfInBounds_toArray, List.set_cons_zero, List.set_cons_succ, i64_w, i32_w]
       rfl
     refine done_ (done_of HT_.out (by kernel_rfl)) ?_
     try go_wp2
     go_roundg kj3
     case measure => have := HK1.out; have := HJ3.out; omega
     case rel => exact ⟨(wrap64 (x3_1 + 1)), (by first | rfl | (simp; done) | (simp [*]; done)), H', ⟨by have := HK1.out; have := HJ3.out; omega⟩, ⟨by repeat (with_reducible first | exact HB.out | apply below_alloc | apply pw_below_drewN | apply below_drew1)⟩⟩

end Go.Proofs.Ytjaokhpbdhefhaa.POptionNets
