-- Written by a program of this session's (a turned copy of the kit's print, with functions proved by hand).
import Derived.Test.YtjaokhpbdhefhaaPOptionPaysx0
import Derived.Test.YtjaokhpbdhefhaaPOptionPaysx5
import Derived.Test.YtjaokhpbdhefhaaPOptionPaysx10
import Derived.Test.YtjaokhpbdhefhaaPOptionPaysx11
namespace Go.Proofs.Ytjaokhpbdhefhaa.POptionPays
open Go.RowKit Go.Proofs.YtjaokhpbdhefhaaW.PrintWords Go.Proofs.YtjaokhpbdhefhaaW.PrintLast Go.Proofs.YtjaokhpbdhefhaaW.PrintMore
attribute [local go_sem] max2_int min2_int max_two min_two max_three min_three max_four min_four Go.Proofs.YtjaokhpbdhefhaaHand.run_leq_str Go.Proofs.YtjaokhpbdhefhaaHand.run_gtr_str Go.Proofs.YtjaokhpbdhefhaaHand.run_geq_str   -- for this text's walks alone
set_option linter.unusedVariables false
set_option linter.unusedSimpArgs false

/-! ### contangoref21_Parity: function 18 -/
def contangoref21_Parity.l0 : Nat → Int → Int → Int → Int → List Int → Int → Option (Int × Int)
  | 0, _, _, _, _, _, _ => none
  | k + 1, x0, x1, x2, x3, x10, x11 => if x11 < (x10.length : Int) then (if 0 ≤ x11 then (if (rd x10 x11) < (-16777216) then (some (0, 17)) else (if (rd x10 x11) > 16777216 then (some (0, 17)) else (contangoref21_Parity.l0 k x0 x1 x2 x3 x10 (wrap64 (x11 + 1))))) else (none)) else (some (wrap64 ((wrap64 (x0 - x1)) - (wrap64 (x3 - x2))), 0))
def contangoref21_Parity.f (k : Nat) (a0 : Int) (a1 : Int) (a2 : Int) (a3 : Int) : Option (Int × Int) := contangoref21_Parity.l0 k a0 a1 a2 a3 (([a0, a1, a2, a3] : List Int)) 0
theorem contangoref21_Parity.mono_l : ∀ k, (∀ y0 y1 y2 y3 y4 y5, LeO (contangoref21_Parity.l0 k y0 y1 y2 y3 y4 y5) (contangoref21_Parity.l0 (k + 1) y0 y1 y2 y3 y4 y5))
  | 0 => fun _ _ _ _ _ _ r h => by simp [contangoref21_Parity.l0] at h
  | k + 1 => by
    have ih0 := contangoref21_Parity.mono_l k
    · intro y0 y1 y2 y3 y4 y5
      unfold contangoref21_Parity.l0
      repeat' first
      | (with_reducible exact ih0 _ _ _ _ _ _)
      | (with_reducible exact LeO.refl _)
      | (with_reducible exact LeO.none _)
      | (with_reducible refine LeO.ite ?_ ?_)
      | (with_reducible refine LeO.bind ?_ (fun _ => ?_))
      | exact ih0 _ _ _ _ _ _
      | exact LeO.none _
      | refine LeO.ite ?_ ?_
      | refine LeO.bind ?_ (fun _ => ?_)
theorem contangoref21_Parity.mono : ∀ a0 a1 a2 a3 k, LeO (contangoref21_Parity.f k a0 a1 a2 a3) (contangoref21_Parity.f (k + 1) a0 a1 a2 a3) := by
  intro a0 a1 a2 a3 k
  have ih0 := contangoref21_Parity.mono_l k
  unfold contangoref21_Parity.f
  repeat' first
      | (with_reducible exact ih0 _ _ _ _ _ _)
      | (with_reducible exact LeO.refl _)
      | (with_reducible exact LeO.none _)
      | (with_reducible refine LeO.ite ?_ ?_)
      | (with_reducible refine LeO.bind ?_ (fun _ => ?_))
      | exact ih0 _ _ _ _ _ _
      | exact LeO.none _
      | refine LeO.ite ?_ ?_
      | refine LeO.bind ?_ (fun _ => ?_)
set_option maxHeartbeats 8000000 in
set_option maxRecDepth 100000 in
theorem contangoref21_Parity.calls (k : Nat) (a0 : Int) (a1 : Int) (a2 : Int) (a3 : Int) (r1 : Int) (r2 : Int) (w : World) (h : contangoref21_Parity.f k a0 a1 a2 a3 = some (r1, r2)) :
    Calls Try.prog 18 #[.int .i64 a0, .int .i64 a1, .int .i64 a2, .int .i64 a3] w fun e w' => e = .returned (.tuple #[.int .i64 r1, .int .i64 r2]) ∧ Below w.heap.size w w' := by
  have HB := Aside0.mk (Below.refl w.heap.size w)
  have H : (contangoref21_Parity.l0 k a0 a1 a2 a3 (([a0, a1, a2, a3] : List Int)) 0) = some (r1, r2) := h
  clear h
  obtain ⟨y238, hy238⟩ : ∃ y_ : List Int, y_ = (([a0, a1, a2, a3] : List Int)) := ⟨_, rfl⟩
  replace H : (contangoref21_Parity.l0 k a0 a1 a2 a3 y238 0) = some (r1, r2) := by first | (rw [hy238]; with_reducible exact H) | (have H2_ := (Option.bind_some _ _).symm.trans H; rw [hy238]; with_reducible exact H2_) | (have H2_ := (Option.bind_some _ _).symm.trans H; with_reducible exact H2_) | with_reducible exact H | (rw [hy238]; exact H) | exact H
  have Ny238 := Aside0.mk hy238
  clear hy238
  have H' := Aside0.mk H
  clear H
  go_enter Try.func18, Try.ntmps18
  go_wp2_with (first | ((with_reducible refine gate_dst (N := 16) rfl ?_); refine Kd.R_lit (Kd.int .i64) _ 3 ?hg (N := 16) ?hd (xs := ([a0, a1, a2, a3] : List Int)) (inner := [.int .i64 a0, .int .i64 a1, .int .i64 a2, .int .i64 a3]) (ok := fun _ => True) (okp := fun _ => True) ?hr ?hp (fun _ hk => hk) trivial (Below.refl _ _) (Nat.le_refl _) (by simp) ?_; (case hd => rfl); (case hg => rfl); (case hr => first | (go_simp; done) | (go_simp; rfl)); (case hp => exact (Reps.one (show Kd.M (Kd.int .i64) _ _ _ a0 [.int .i64 a0] from rfl) (Reps.one (show Kd.M (Kd.int .i64) _ _ _ a1 [.int .i64 a1] from rfl) (Reps.one (show Kd.M (Kd.int .i64) _ _ _ a2 [.int .i64 a2] from rfl) (Reps.one (show Kd.M (Kd.int .i64) _ _ _ a3 [.int .i64 a3] from rfl) (Reps.none _ _)))))); intro v239 w5 ho6 hb hg_ hnew_; clear hg_ hnew_; (first | rw [← Ny238.out] at ho6 | (simp only [Int.reduceToNat] at ho6; rw [← Ny238.out] at ho6)); have n0_ := Aside0.mk (Kd.R_lower ho6 (below_size (by repeat (first | (with_reducible first | exact HB.out | apply below_alloc | apply pw_below_drewN | apply below_drew1) | exact HB.out)))); have n1_ := Aside0.mk (below_step (by repeat (first | (with_reducible first | exact HB.out | apply below_alloc | apply pw_below_drewN | apply below_drew1) | exact HB.out)) hb); clear HB; have HO240 := n0_; have HB := n1_; clear n0_ n1_; clear hb ho6))
  go_loopg [11] k (fun kq v11 w' => ∃ (x11_1 : Int), v11 = .int .i64 x11_1 ∧ Aside0 (contangoref21_Parity.l0 kq a0 a1 a2 a3 y238 x11_1 = some (r1, r2)) ∧ Aside0 (kq ≤ k) ∧ Aside0 (Kd.R (Kd.int .i64) 3 w' w.heap.size (fun _ => True) v239 y238) ∧ Aside0 (Below w.heap.size w w'))
  case atStart => exact ⟨(0), (by first | rfl | (simp; done) | (simp [*]; done)), H', ⟨Nat.le_refl _⟩, ⟨by (with_reducible repeat (first | apply Kd.R_alloc | apply Kd.R_drewN | apply Kd.R_drew)); exact HO240.out⟩, ⟨by repeat (first | (with_reducible first | exact HB.out | apply below_alloc | apply pw_below_drewN | apply below_drew1) | exact HB.out)⟩⟩
  case round =>
    clear H'
    try clear c1
    try clear p2
    obtain ⟨x11_1, rfl, HA, HK1, HO_10, HB⟩ := hrel
    cases gk with
    | zero => exact absurd HA.out (by simp [contangoref21_Parity.l0])
    | succ k1 =>
      have H := HA.out
      clear HA
      simp only [contangoref21_Parity.l0] at H
      by_cases c7 : x11_1 < (y238.length : Int)
      · rw [if_pos c7] at H
        have c7b0 : decide (x11_1 < (y238.length : Int)) = true := decide_eq_true c7
        clear c7
        by_cases c8 : 0 ≤ x11_1
        · rw [if_pos c8] at H
          have c8b0 : decide (0 ≤ x11_1) = true := decide_eq_true c8
          clear c8
          by_cases c9 : (rd y238 x11_1) < (-16777216)
          · rw [if_pos c9] at H
            have c9b0 : decide ((rd y238 x11_1) < (-16777216)) = true := decide_eq_true c9
            clear c9
            simp only [Option.some.injEq, Prod.mk.injEq] at H
            obtain ⟨rfl, rfl⟩ := H
            obtain ⟨Ao10, co10, eo10⟩ := Kd.R_slice HO_10.out
            subst eo10
            have p241 : 0 ≤ (x11_1 : Int) := of_decide_eq_true (by first | (with_reducible assumption) | assumption)
            have q241 : x11_1 < (y238.length : Int) := of_decide_eq_true (by first | (with_reducible assumption) | assumption)
            obtain ⟨ad241, e241, hx241_0⟩ := Kd.at_int (Kd.R_reads' HO_10.out).2.2 x11_1 p241 q241
            cases e241
            replace p241 := eq_true p241
            replace q241 := eq_true q241
            go_wp2
            go_ret2
            exact ⟨by first | rfl | (simp [errW_none, errW_some] <;> rfl) | (simp [*, errW_none, errW_some] <;> rfl), by repeat (first | (with_reducible first | exact HB.out | apply below_alloc | apply pw_below_drewN | apply below_drew1) | exact HB.out)⟩
          · rw [if_neg c9] at H
            have c9b0 : decide ((rd y238 x11_1) < (-16777216)) = false := decide_eq_false c9
            clear c9
            by_cases c11 : (rd y238 x11_1) > 16777216
            · rw [if_pos c11] at H
              have c11b0 : decide (16777216 < (rd y238 x11_1)) = true := decide_eq_true c11
              clear c11
              simp only [Option.some.injEq, Prod.mk.injEq] at H
              obtain ⟨rfl, rfl⟩ := H
              obtain ⟨Ao12, co12, eo12⟩ := Kd.R_slice HO_10.out
              subst eo12
              have p241 : 0 ≤ (x11_1 : Int) := of_decide_eq_true (by first | (with_reducible assumption) | assumption)
              have q241 : x11_1 < (y238.length : Int) := of_decide_eq_true (by first | (with_reducible assumption) | assumption)
              obtain ⟨ad241, e241, hx241_0⟩ := Kd.at_int (Kd.R_reads' HO_10.out).2.2 x11_1 p241 q241
              cases e241
              replace p241 := eq_true p241
              replace q241 := eq_true q241
              have p242 : 0 ≤ (x11_1 : Int) := of_decide_eq_true (by first | (with_reducible assumption) | assumption)
              have q242 : x11_1 < (y238.length : Int) := of_decide_eq_true (by first | (with_reducible assumption) | assumption)
              obtain ⟨ad242, e242, hx242_0⟩ := Kd.at_int (Kd.R_reads' HO_10.out).2.2 x11_1 p242 q242
              obtain rfl : ad241 = ad242 := (by injection e242)
              replace p242 := eq_true p242
              replace q242 := eq_true q242
              go_wp2
              go_ret2
              exact ⟨by first | rfl | (simp [errW_none, errW_some] <;> rfl) | (simp [*, errW_none, errW_some] <;> rfl), by repeat (first | (with_reducible first | exact HB.out | apply below_alloc | apply pw_below_drewN | apply below_drew1) | exact HB.out)⟩
            · rw [if_neg c11] at H
              have c11b0 : decide (16777216 < (rd y238 x11_1)) = false := decide_eq_false c11
              clear c11
              have H' := Aside0.mk H
              clear H
              obtain ⟨Ao13, co13, eo13⟩ := Kd.R_slice HO_10.out
              subst eo13
              have p241 : 0 ≤ (x11_1 : Int) := of_decide_eq_true (by first | (with_reducible assumption) | assumption)
              have q241 : x11_1 < (y238.length : Int) := of_decide_eq_true (by first | (with_reducible assumption) | assumption)
              obtain ⟨ad241, e241, hx241_0⟩ := Kd.at_int (Kd.R_reads' HO_10.out).2.2 x11_1 p241 q241
              cases e241
              replace p241 := eq_true p241
              replace q241 := eq_true q241
              have p242 : 0 ≤ (x11_1 : Int) := of_decide_eq_true (by first | (with_reducible assumption) | assumption)
              have q242 : x11_1 < (y238.length : Int) := of_decide_eq_true (by first | (with_reducible assumption) | assumption)
              obtain ⟨ad242, e242, hx242_0⟩ := Kd.at_int (Kd.R_reads' HO_10.out).2.2 x11_1 p242 q242
              obtain rfl : ad241 = ad242 := (by injection e242)
              replace p242 := eq_true p242
              replace q242 := eq_true q242
              go_wp2
              go_roundg k1
              case measure => have := HK1.out; omega
              case rel => exact ⟨(wrap64 (x11_1 + 1)), (by first | rfl | (simp; done) | (simp [*]; done)), H', ⟨by have := HK1.out; omega⟩, ⟨by (with_reducible repeat (first | apply Kd.R_alloc | apply Kd.R_drewN | apply Kd.R_drew)); exact HO_10.out⟩, ⟨by repeat (first | (with_reducible first | exact HB.out | apply below_alloc | apply pw_below_drewN | apply below_drew1) | exact HB.out)⟩⟩
        · rw [if_neg c8] at H
          exact absurd H (by simp)
      · rw [if_neg c7] at H
        have c7b0 : decide (x11_1 < (y238.length : Int)) = false := decide_eq_false c7
        clear c7
        simp only [Option.some.injEq, Prod.mk.injEq] at H
        obtain ⟨rfl, rfl⟩ := H
        obtain ⟨Ao14, co14, eo14⟩ := Kd.R_slice HO_10.out
        subst eo14
        go_wp2
        go_ret2
        exact ⟨by first | rfl | (simp [errW_none, errW_some] <;> rfl) | (simp [*, errW_none, errW_some] <;> rfl), by repeat (first | (with_reducible first | exact HB.out | apply below_alloc | apply pw_below_drewN | apply below_drew1) | exact HB.out)⟩

/-! ### contangolaw21_OptionPays: function 4 -/
-- KINDS
structure S34 where
  f0 : Int
  f1 : Int
  f2 : Int
  f3 : Int
def k34 : Kd S34 := Kd.iso (Kd.pair (Kd.int .i64) (Kd.pair (Kd.int .i64) (Kd.pair (Kd.int .i64) (Kd.int .i64)))) (fun x : S34 => (x.f0, x.f1, x.f2, x.f3))
theorem k34_open {w : World} {x : S34} {cs : List Value} (h : k34.K w x cs) : cs = [.int .i64 x.f0, .int .i64 x.f1, .int .i64 x.f2, .int .i64 x.f3] := by
  obtain ⟨_, _, rfl, rfl, ⟨_, _, rfl, rfl, ⟨_, _, rfl, rfl, rfl⟩⟩⟩ := h
  exact rfl
theorem boxes3 {w w1 : World} {B0 B1 B2 : Obj} (hb : Below (((w.alloc B0).alloc B1).alloc B2).heap.size (((w.alloc B0).alloc B1).alloc B2) w1) :
    w1.heap[w.heap.size]? = some B0 ∧ w1.heap[w.heap.size + 1]? = some B1 ∧ w1.heap[w.heap.size + 2]? = some B2 ∧ Below w.heap.size w w1 ∧ w.heap.size + 2 < w1.heap.size := by
  have h2 := blk_below (blk_new ((w.alloc B0).alloc B1) B2) hb
  have h1 := blk_below (blk_alloc (blk_new (w.alloc B0) B1) B2) hb
  rw [World.size_alloc, World.size_alloc] at h2
  rw [World.size_alloc] at h1
  exact ⟨blk_below (blk_alloc (blk_alloc (blk_new w B0) B1) B2) hb, h1, h2, below_step (below_alloc (below_alloc (below_alloc (Below.refl _ _) _) _) _) hb, blk_lt h2⟩
/-- What the law comes to. -/
def contangolaw21_OptionPays.f (k : Nat) (a0_0 : ByteArray) (a0_1 : Int) (a0_2 : Int) (a0_3 : Int) (a0_4 : Int) (a0_5 : Int) (a0_6 : Bool) (a1_0 : ByteArray) (a1_1 : ByteArray) (a1_2 : ByteArray) (a1_3 : Int) (a1_4 : Int) (a1_5 : Int) (a1_6 : Int) (a1_7 : Int) (a1_8 : Int) (q0 : Int) (q1 : Int) (q2 : Int) (q3 : Int) : Option Bool :=
  (option_Premium.f k a0_0 a0_1 a0_2 a0_3 a0_4 a0_5 a0_6 a1_0 a1_1 a1_2 a1_3 a1_4 a1_5 a1_6 a1_7 a1_8).bind fun x => (contangoref21_Premium.f k a0_0 a0_1 a0_2 a0_3 a0_4 a0_5 a0_6 a1_0 a1_1 a1_2 a1_3 a1_4 a1_5 a1_6 a1_7 a1_8).bind fun y => (option_Parity.f k q0 q1 q2 q3).bind fun u => (contangoref21_Parity.f k q0 q1 q2 q3).bind fun v =>
    if x.1 = y.1 ∧ x.2 = y.2 ∧ u.1 = v.1 ∧ u.2 = v.2 then contangolaw21_goes.f k else some false
set_option maxHeartbeats 3200000 in
set_option maxRecDepth 100000 in
theorem contangolaw21_OptionPays.calls (k : Nat) (a0_0 : ByteArray) (a0_1 : Int) (a0_2 : Int) (a0_3 : Int) (a0_4 : Int) (a0_5 : Int) (a0_6 : Bool) (a1_0 : ByteArray) (a1_1 : ByteArray) (a1_2 : ByteArray) (a1_3 : Int) (a1_4 : Int) (a1_5 : Int) (a1_6 : Int) (a1_7 : Int) (a1_8 : Int) (q0 : Int) (q1 : Int) (q2 : Int) (q3 : Int) (r : Bool) (hrt : r = true) (w : World) (h : contangolaw21_OptionPays.f k a0_0 a0_1 a0_2 a0_3 a0_4 a0_5 a0_6 a1_0 a1_1 a1_2 a1_3 a1_4 a1_5 a1_6 a1_7 a1_8 q0 q1 q2 q3 = some r) :
    Calls Try.prog 4 #[.agg #[.string a0_0, .int .i64 a0_1, .int .i64 a0_2, .int .i64 a0_3, .int .i64 a0_4, .int .i64 a0_5, .bool a0_6], .agg #[.string a1_0, .string a1_1, .string a1_2, .int .i64 a1_3, .int .i64 a1_4, .int .i64 a1_5, .int .i64 a1_6, .int .i64 a1_7, .int .i64 a1_8], .agg #[.int .i64 q0, .int .i64 q1, .int .i64 q2, .int .i64 q3]] w fun e w' => e = .returned (.bool r) ∧ Below w.heap.size w w' := by
  subst hrt
  obtain ⟨⟨n, e⟩, h1, ha⟩ := Option.bind_eq_some_iff.mp h
  obtain ⟨⟨n', e'⟩, h2, hb⟩ := Option.bind_eq_some_iff.mp ha
  obtain ⟨⟨c, g⟩, h3, hc⟩ := Option.bind_eq_some_iff.mp hb
  obtain ⟨⟨c', g'⟩, h4, hd⟩ := Option.bind_eq_some_iff.mp hc
  clear h ha hb hc
  by_cases hc : n = n' ∧ e = e' ∧ c = c' ∧ g = g'
  case neg => rw [if_neg hc] at hd; cases hd
  rw [if_pos hc] at hd
  obtain ⟨rfl, rfl, rfl, rfl⟩ := hc
  have H1 := Aside0.mk h1
  have H2 := Aside0.mk h2
  have H3 := Aside0.mk h3
  have H4 := Aside0.mk h4
  have H5 := Aside0.mk hd
  clear h1 h2 h3 h4 hd
  go_enter Try.func4, Try.ntmps4
  go_wp2_with (first | (go_at_call 15; refine (option_Premium.calls k a0_0 a0_1 a0_2 a0_3 a0_4 a0_5 a0_6 a1_0 a1_1 a1_2 a1_3 a1_4 a1_5 a1_6 a1_7 a1_8 n e _ H1.out).mono ?_; rintro _ w1 ⟨rfl, hb⟩; obtain ⟨b0, b1, b2, hb1, hlt1⟩ := boxes3 hb; have p0 : w1.cell? ⟨w.heap.size, 0, none⟩ = some (.string a0_0) := (blk_cell b0 0).trans rfl; have p1 : w1.cell? ⟨w.heap.size, 1, none⟩ = some (.int .i64 a0_1) := (blk_cell b0 1).trans rfl; have p2 : w1.cell? ⟨w.heap.size, 2, none⟩ = some (.int .i64 a0_2) := (blk_cell b0 2).trans rfl; have p3 : w1.cell? ⟨w.heap.size, 3, none⟩ = some (.int .i64 a0_3) := (blk_cell b0 3).trans rfl; have p4 : w1.cell? ⟨w.heap.size, 4, none⟩ = some (.int .i64 a0_4) := (blk_cell b0 4).trans rfl; have p5 : w1.cell? ⟨w.heap.size, 5, none⟩ = some (.int .i64 a0_5) := (blk_cell b0 5).trans rfl; have p6 : w1.cell? ⟨w.heap.size, 6, none⟩ = some (.bool a0_6) := (blk_cell b0 6).trans rfl; have l0 : w1.cell? ⟨w.heap.size + 1, 0, none⟩ = some (.string a1_0) := (blk_cell b1 0).trans rfl; have l1 : w1.cell? ⟨w.heap.size + 1, 1, none⟩ = some (.string a1_1) := (blk_cell b1 1).trans rfl; have l2 : w1.cell? ⟨w.heap.size + 1, 2, none⟩ = some (.string a1_2) := (blk_cell b1 2).trans rfl; have l3 : w1.cell? ⟨w.heap.size + 1, 3, none⟩ = some (.int .i64 a1_3) := (blk_cell b1 3).trans rfl; have l4 : w1.cell? ⟨w.heap.size + 1, 4, none⟩ = some (.int .i64 a1_4) := (blk_cell b1 4).trans rfl; have l5 : w1.cell? ⟨w.heap.size + 1, 5, none⟩ = some (.int .i64 a1_5) := (blk_cell b1 5).trans rfl; have l6 : w1.cell? ⟨w.heap.size + 1, 6, none⟩ = some (.int .i64 a1_6) := (blk_cell b1 6).trans rfl; have l7 : w1.cell? ⟨w.heap.size + 1, 7, none⟩ = some (.int .i64 a1_7) := (blk_cell b1 7).trans rfl; have l8 : w1.cell? ⟨w.heap.size + 1, 8, none⟩ = some (.int .i64 a1_8) := (blk_cell b1 8).trans rfl; have B2 := Aside0.mk b2; have HB1 := Aside0.mk hb1; clear hb hb1 b0 b1 b2) | (go_at_call 16; refine (contangoref21_Premium.calls k a0_0 a0_1 a0_2 a0_3 a0_4 a0_5 a0_6 a1_0 a1_1 a1_2 a1_3 a1_4 a1_5 a1_6 a1_7 a1_8 n e _ H2.out).mono ?_; rintro _ w2 ⟨rfl, hb⟩; have b2 := blk_below B2.out hb; have s0 : w2.cell? ⟨w.heap.size + 2, 0, none⟩ = some (.int .i64 q0) := (blk_cell b2 0).trans rfl; have s1 : w2.cell? ⟨w.heap.size + 2, 1, none⟩ = some (.int .i64 q1) := (blk_cell b2 1).trans rfl; have s2 : w2.cell? ⟨w.heap.size + 2, 2, none⟩ = some (.int .i64 q2) := (blk_cell b2 2).trans rfl; have s3 : w2.cell? ⟨w.heap.size + 2, 3, none⟩ = some (.int .i64 q3) := (blk_cell b2 3).trans rfl; have B22 := Aside0.mk b2; have HB2 := Aside0.mk (below_step HB1.out hb); have hlt2 := blk_lt b2; clear hb b2) | (go_at_call 17; refine (option_Parity.calls k q0 q1 q2 q3 c g _ H3.out).mono ?_; rintro _ w3 ⟨rfl, hb⟩; have b2 := blk_below B22.out hb; have t0 : w3.cell? ⟨w.heap.size + 2, 0, none⟩ = some (.int .i64 q0) := (blk_cell b2 0).trans rfl; have t1 : w3.cell? ⟨w.heap.size + 2, 1, none⟩ = some (.int .i64 q1) := (blk_cell b2 1).trans rfl; have t2 : w3.cell? ⟨w.heap.size + 2, 2, none⟩ = some (.int .i64 q2) := (blk_cell b2 2).trans rfl; have t3 : w3.cell? ⟨w.heap.size + 2, 3, none⟩ = some (.int .i64 q3) := (blk_cell b2 3).trans rfl; have HB3 := Aside0.mk (below_step HB2.out hb); have hlt3 := blk_lt b2; clear hb b2) | (go_at_call 18; refine (contangoref21_Parity.calls k q0 q1 q2 q3 c g _ H4.out).mono ?_; rintro _ w4 ⟨rfl, hb⟩; have HB4 := Aside0.mk (below_step HB3.out hb); clear hb) | (go_at_call 14; refine (contangolaw21_goes.calls k true _ H5.out).mono ?_; rintro _ w5 ⟨rfl, hb⟩; have HB5 := Aside0.mk (below_step HB4.out hb); clear hb))
  repeat (go_quiet (first | (go_at_call 14; refine (contangolaw21_goes.calls k true _ H5.out).mono ?_; rintro _ w5 ⟨rfl, hb⟩; have HB5 := Aside0.mk (below_step HB4.out hb); clear hb) | fail); try go_wp2)
  go_ret
  exact ⟨rfl, HB5.out⟩

end Go.Proofs.Ytjaokhpbdhefhaa.POptionPays
