-- Written by a program of this session's (a turned copy of the kit's print, with functions proved by hand).
import Derived.Test.YtaookghbppimnaaPStressMarginx0
import Derived.Test.YtaookghbppimnaaPStressMarginx1
import Derived.Test.YtaookghbppimnaaPStressMarginx5
import Derived.Test.YtaookghbppimnaaPStressMarginx6
namespace Go.Proofs.Ytaookghbppimnaa.PStressMargin
open Go.RowKit Go.Proofs.YtaookghbppimnaaW.PrintWords Go.Proofs.YtaookghbppimnaaW.PrintLast Go.Proofs.YtaookghbppimnaaW.PrintMore
attribute [local go_sem] max2_int min2_int max_two min_two max_three min_three max_four min_four Go.Proofs.YtaookghbppimnaaHand.run_leq_str Go.Proofs.YtaookghbppimnaaHand.run_gtr_str Go.Proofs.YtaookghbppimnaaHand.run_geq_str   -- for this text's walks alone
set_option linter.unusedVariables false
set_option linter.unusedSimpArgs false

/-! ### contangolaw39_StressMargin: function 6 -/
def contangolaw39_StressMargin.j0 : Nat → List (S49) → Int → Int → Int → Bool → Option (Bool)
  | 0, _, _, _, _, _ => none
  | k + 1, x0, x1, x2, x7, x34 => if x34 = true then (if x7 = 0 then ((contangolaw39_goes.f k).bind fun t209 => (some t209)) else (some false)) else ((contangolaw39_own.f k x0).bind fun t210 => (if (IntKind.u64.wrap ((t210.length : Int))) = 0 then (none) else (if 0 ≤ (wrap64 (Int.tmod (IntKind.u64.wrap (x1)) (IntKind.u64.wrap ((t210.length : Int))))) then (if (wrap64 (Int.tmod (IntKind.u64.wrap (x1)) (IntKind.u64.wrap ((t210.length : Int))))) < (t210.length : Int) then ((stress_Two.f k (t210.set ((wrap64 (Int.tmod (IntKind.u64.wrap (x1)) (IntKind.u64.wrap ((t210.length : Int))))) : Int).toNat (⟨(rd_T49 t210 (wrap64 (Int.tmod (IntKind.u64.wrap (x1)) (IntKind.u64.wrap ((t210.length : Int)))))).f0, (rd_T49 t210 (wrap64 (Int.tmod (IntKind.u64.wrap (x1)) (IntKind.u64.wrap ((t210.length : Int)))))).f1, (rd_T49 t210 (wrap64 (Int.tmod (IntKind.u64.wrap (x1)) (IntKind.u64.wrap ((t210.length : Int)))))).f2, mn (wrap64 (((rd_T49 t210 (wrap64 (Int.tmod (IntKind.u64.wrap (x1)) (IntKind.u64.wrap ((t210.length : Int)))))).f3) + (wrap64 (Int.tmod (IntKind.u64.wrap (x2)) 1099511627776)))) 1152921504606846976⟩ : S49))).bind fun bt215 => (if bt215.2.2.2 = 0 then (if bt215.1 ≤ x7 then (if bt215.1 ≥ 0 then ((contangolaw39_goes.f k).bind fun t221 => (some t221)) else (some false)) else (some false)) else (some false))) else (none)) else (none))))
def contangolaw39_StressMargin.f (k : Nat) (l0 : List (S49)) (a1 : Int) (a2 : Int) : Option (Bool) := (contangolaw39_few.f k l0).bind fun t201 => (if t201 = true then ((stress_Two.f k l0).bind fun bt203 => (if bt203.2.2.2 = 0 then (contangolaw39_StressMargin.j0 k l0 a1 a2 bt203.1 ((l0.length : Int) == 0)) else (contangolaw39_StressMargin.j0 k l0 a1 a2 bt203.1 true))) else ((contangolaw39_goes.f k).bind fun t202 => (some t202)))
theorem contangolaw39_StressMargin.mono_l : ∀ k, (∀ y0 y1 y2 y3 y4, LeO (contangolaw39_StressMargin.j0 k y0 y1 y2 y3 y4) (contangolaw39_StressMargin.j0 (k + 1) y0 y1 y2 y3 y4))
  | 0 => fun _ _ _ _ _ r h => by simp [contangolaw39_StressMargin.j0] at h
  | k + 1 => by
    have ih0 := contangolaw39_StressMargin.mono_l k
    · intro y0 y1 y2 y3 y4
      unfold contangolaw39_StressMargin.j0
      repeat' first
      | (with_reducible exact ih0 _ _ _ _ _)
      | (with_reducible exact contangolaw39_few.mono _ _)
      | (with_reducible exact contangolaw39_goes.mono _)
      | (with_reducible exact contangolaw39_own.mono _ _)
      | (with_reducible exact stress_Two.mono _ _)
      | (with_reducible exact LeO.refl _)
      | (with_reducible exact LeO.none _)
      | (with_reducible refine LeO.ite ?_ ?_)
      | (with_reducible refine LeO.bind ?_ (fun _ => ?_))
      | exact ih0 _ _ _ _ _
      | exact contangolaw39_few.mono _ _
      | exact contangolaw39_goes.mono _
      | exact contangolaw39_own.mono _ _
      | exact stress_Two.mono _ _
      | exact LeO.none _
      | refine LeO.ite ?_ ?_
      | refine LeO.bind ?_ (fun _ => ?_)
theorem contangolaw39_StressMargin.mono : ∀ a0 a1 a2 k, LeO (contangolaw39_StressMargin.f k a0 a1 a2) (contangolaw39_StressMargin.f (k + 1) a0 a1 a2) := by
  intro a0 a1 a2 k
  have ih0 := contangolaw39_StressMargin.mono_l k
  unfold contangolaw39_StressMargin.f
  repeat' first
      | (with_reducible exact ih0 _ _ _ _ _)
      | (with_reducible exact contangolaw39_few.mono _ _)
      | (with_reducible exact contangolaw39_goes.mono _)
      | (with_reducible exact contangolaw39_own.mono _ _)
      | (with_reducible exact stress_Two.mono _ _)
      | (with_reducible exact LeO.refl _)
      | (with_reducible exact LeO.none _)
      | (with_reducible refine LeO.ite ?_ ?_)
      | (with_reducible refine LeO.bind ?_ (fun _ => ?_))
      | exact ih0 _ _ _ _ _
      | exact contangolaw39_few.mono _ _
      | exact contangolaw39_goes.mono _
      | exact contangolaw39_own.mono _ _
      | exact stress_Two.mono _ _
      | exact LeO.none _
      | refine LeO.ite ?_ ?_
      | refine LeO.bind ?_ (fun _ => ?_)
set_option maxHeartbeats 8000000 in
set_option maxRecDepth 100000 in
theorem contangolaw39_StressMargin.calls (k : Nat) (A0 : Option Addr) (c0 : Nat) (l0 : List (S49)) (a1 : Int) (a2 : Int) (r : Bool) (hrt : r = true) (w : World) (hr0 : Kd.C k49 w A0 l0.length l0) (hc0 : l0.length ≤ c0) (h : contangolaw39_StressMargin.f k l0 a1 a2 = some r) :
    Calls Try.prog 6 #[.slice A0 l0.length c0, .int .i64 a1, .int .i64 a2] w fun e w' => e = .returned (.bool r) ∧ Below w.heap.size w w' := by
  have HR0 := Aside0.mk hr0
  have HC0 := Aside0.mk hc0
  clear hr0 hc0
  have HB := Aside0.mk (Below.refl w.heap.size w)
  have HRT := Aside0.mk hrt
  clear hrt
  have H : ((contangolaw39_few.f k l0).bind fun t201 => (if t201 = true then ((stress_Two.f k l0).bind fun bt203 => (if bt203.2.2.2 = 0 then (contangolaw39_StressMargin.j0 k l0 a1 a2 bt203.1 ((l0.length : Int) == 0)) else (contangolaw39_StressMargin.j0 k l0 a1 a2 bt203.1 true))) else ((contangolaw39_goes.f k).bind fun t202 => (some t202)))) = some r := h
  clear h
  replace H := Option.bind_eq_some_iff.mp H
  obtain ⟨t201, A40, H⟩ := H
  replace H : (if t201 = true then ((stress_Two.f k l0).bind fun bt203 => (if bt203.2.2.2 = 0 then (contangolaw39_StressMargin.j0 k l0 a1 a2 bt203.1 ((l0.length : Int) == 0)) else (contangolaw39_StressMargin.j0 k l0 a1 a2 bt203.1 true))) else ((contangolaw39_goes.f k).bind fun t202 => (some t202))) = some r := H
  have A4 := Aside0.mk A40
  clear A40
  by_cases c5 : t201 = true
  · subst c5
    have H1 : ((stress_Two.f k l0).bind fun bt203 => (if bt203.2.2.2 = 0 then (contangolaw39_StressMargin.j0 k l0 a1 a2 bt203.1 ((l0.length : Int) == 0)) else (contangolaw39_StressMargin.j0 k l0 a1 a2 bt203.1 true))) = some r := by rw [if_pos rfl] at H; exact H
    clear H
    have H := H1
    clear H1
    replace H := Option.bind_eq_some_iff.mp H
    obtain ⟨⟨t203, t204, t205, t206⟩, A60, H⟩ := H
    replace H : (if t206 = 0 then (contangolaw39_StressMargin.j0 k l0 a1 a2 t203 ((l0.length : Int) == 0)) else (contangolaw39_StressMargin.j0 k l0 a1 a2 t203 true)) = some r := H
    have A6 := Aside0.mk A60
    clear A60
    have HC7 := Aside0.mk H
    clear H
    go_enter Try.func6, Try.ntmps6
    go_upto_region 4 with (first | ((with_reducible refine gate_callee (f := 8) rfl ?_); refine goesL_ (some 18) rfl rfl Try.func8 (by kernel_rfl) rfl #[.slice A0 l0.length c0] rfl (by (try simp only [List.map_toArray, List.map_cons, List.map_nil]); first | done | rfl | (simp only [List.length_drop, List.length_take]; rfl)) ?_; (with_reducible refine (contangolaw39_few.calls k _ _ l0 true _ ?side1 ?side2 A4.out).mono ?_); (case side1 => repeat (first | exact HR0.out | (with_reducible refine Kd.C_alloc ?_ _) | (with_reducible refine Kd.C_drewN ?_ _) | (with_reducible refine Kd.C_drew ?_))); (case side2 => exact HC0.out); rintro e w' ⟨rfl, ⟨nd, rfl⟩⟩; refine ⟨_, rfl, ?_⟩) | ((with_reducible refine gate_callee (f := 18) rfl ?_); refine goesL_ (some 23) rfl rfl Try.func18 (by kernel_rfl) rfl #[.slice A0 l0.length c0] rfl (by (try simp only [List.map_toArray, List.map_cons, List.map_nil]); first | done | rfl | (simp only [List.length_drop, List.length_take]; rfl)) ?_; (with_reducible refine (stress_Two.calls k _ _ l0 t203 t204 t205 t206 _ ?side1 ?side2 A6.out).mono ?_); (case side1 => repeat (first | exact HR0.out | (with_reducible refine Kd.C_alloc ?_ _) | (with_reducible refine Kd.C_drewN ?_ _) | (with_reducible refine Kd.C_drew ?_))); (case side2 => exact HC0.out); rintro e w8 ⟨v207, rfl, ho0, hb⟩; refine ⟨_, rfl, ?_⟩; have n0_ := Aside0.mk (Kd.R_lower ho0 (below_size (by repeat (first | (with_reducible first | exact HB.out | apply below_alloc | apply pw_below_drewN | apply below_drew1) | exact HB.out)))); have n1_ := Aside0.mk (below_step (by repeat (first | (with_reducible first | exact HB.out | apply below_alloc | apply pw_below_drewN | apply below_drew1) | exact HB.out)) hb); clear HB; have HO208 := n0_; have HB := n1_; clear n0_ n1_; (try clear hb); (try clear hb2); (try clear hk); (try clear hi); (try clear ho0)))
    (try simp only [Act.put, List.setIfInBounds_toArray, List.set_cons_zero, List.set_cons_succ])
    go_cut [34] (fun v34 wc => ∃ (kq : Nat) (x34_6 : Bool), v34 = .bool x34_6 ∧ Aside0 (contangolaw39_StressMargin.j0 kq l0 a1 a2 t203 x34_6 = some r) ∧ Aside0 (kq ≤ k) ∧ Aside0 (Below w.heap.size w wc))
    case first =>
      have H := HC7.out
      clear HC7
      by_cases c9 : t206 = 0
      · rw [if_pos c9] at H
        have c9b0 : (t206 == 0) = true := beq_iff_eq.mpr c9
        have c9b1 : (t206 != 0) = false := bne_eq_false_iff_eq.mpr c9
        clear c9
        (first | rw [c9b0] | (simp only [i64_w, i32_w]; rw [c9b0]) | skip)
        have H' := Aside0.mk H
        clear H
        go_wp2
        go_meet
        case rel => exact ⟨_, (((l0.length : Int) == 0)), (by first | rfl | (simp; done) | (simp [*]; done)), H', ⟨by first | omega | exact Nat.le_refl _⟩, ⟨by repeat (first | (with_reducible first | exact HB.out | apply below_alloc | apply pw_below_drewN | apply below_drew1) | exact HB.out)⟩⟩
      · rw [if_neg c9] at H
        have c9b0 : (t206 == 0) = false := beq_eq_false_iff_ne.mpr c9
        have c9b1 : (t206 != 0) = true := bne_iff_ne.mpr c9
        (first | rw [c9b0] | (simp only [i64_w, i32_w]; rw [c9b0]) | skip)
        have H' := Aside0.mk H
        clear H
        go_wp2
        go_meet
        case rel => exact ⟨_, (true), (by first | rfl | (simp; done) | (simp [*]; done)), H', ⟨by first | omega | exact Nat.le_refl _⟩, ⟨by repeat (first | (with_reducible first | exact HB.out | apply below_alloc | apply pw_below_drewN | apply below_drew1) | exact HB.out)⟩⟩
    case rest =>
      clear HC7
      try clear c1
      try clear p2
      try clear c5
      try clear c6
      try clear c8
      try clear c9
      try clear c9b0
      try clear c9b1
      obtain ⟨kq, x34_6, rfl, HA, HJ6, HB⟩ := hcut
      cases kq with
      | zero => exact absurd HA.out (by simp [contangolaw39_StressMargin.j0])
      | succ kj6 =>
        have H := HA.out
        clear HA
        simp only [contangolaw39_StressMargin.j0] at H
        by_cases c10 : x34_6 = true
        · subst c10
          have H1 : (if t203 = 0 then ((contangolaw39_goes.f kj6).bind fun t209 => (some t209)) else (some false)) = some r := by rw [if_pos rfl] at H; exact H
          clear H
          have H := H1
          clear H1
          by_cases c11 : t203 = 0
          · rw [if_pos c11] at H
            have c11b0 : (t203 == 0) = true := beq_iff_eq.mpr c11
            have c11b1 : (t203 != 0) = false := bne_eq_false_iff_eq.mpr c11
            clear c11
            replace H := Option.bind_eq_some_iff.mp H
            obtain ⟨t209, A120, H⟩ := H
            replace H : (some t209) = some r := H
            have A12 := Aside0.mk A120
            clear A120
            obtain rfl := Option.some.inj H
            go_wp2_with (first | (go_at_call 9; (with_reducible refine (contangolaw39_goes.calls kj6  t209 _ A12.out).mono ?_); rintro e w13 ⟨rfl, hb⟩; have n0_ := Aside0.mk (below_step (by repeat (first | (with_reducible first | exact HB.out | apply below_alloc | apply pw_below_drewN | apply below_drew1) | exact HB.out)) hb); clear HB; have HB := n0_; clear n0_; (try clear hb); (try clear hb2); (try clear hk); (try clear hi)))
            go_ret
            exact ⟨by first | rfl | (simp [errW_none, errW_some] <;> rfl) | (simp [*, errW_none, errW_some] <;> rfl), by repeat (first | (with_reducible first | exact HB.out | apply below_alloc | apply pw_below_drewN | apply below_drew1) | exact HB.out)⟩
          · rw [if_neg c11] at H
            exact absurd (H.trans (congrArg some HRT.out)) (by first | simp [contangolaw39_StressMargin.j0] | (simp only [contangolaw39_StressMargin.j0]; (repeat' split) <;> simp))
        · replace c10 := Bool.eq_false_iff.mpr c10
          subst c10
          have H1 : ((contangolaw39_own.f kj6 l0).bind fun t210 => (if (IntKind.u64.wrap ((t210.length : Int))) = 0 then (none) else (if 0 ≤ (wrap64 (Int.tmod (IntKind.u64.wrap (a1)) (IntKind.u64.wrap ((t210.length : Int))))) then (if (wrap64 (Int.tmod (IntKind.u64.wrap (a1)) (IntKind.u64.wrap ((t210.length : Int))))) < (t210.length : Int) then ((stress_Two.f kj6 (t210.set ((wrap64 (Int.tmod (IntKind.u64.wrap (a1)) (IntKind.u64.wrap ((t210.length : Int))))) : Int).toNat (⟨(rd_T49 t210 (wrap64 (Int.tmod (IntKind.u64.wrap (a1)) (IntKind.u64.wrap ((t210.length : Int)))))).f0, (rd_T49 t210 (wrap64 (Int.tmod (IntKind.u64.wrap (a1)) (IntKind.u64.wrap ((t210.length : Int)))))).f1, (rd_T49 t210 (wrap64 (Int.tmod (IntKind.u64.wrap (a1)) (IntKind.u64.wrap ((t210.length : Int)))))).f2, mn (wrap64 (((rd_T49 t210 (wrap64 (Int.tmod (IntKind.u64.wrap (a1)) (IntKind.u64.wrap ((t210.length : Int)))))).f3) + (wrap64 (Int.tmod (IntKind.u64.wrap (a2)) 1099511627776)))) 1152921504606846976⟩ : S49))).bind fun bt215 => (if bt215.2.2.2 = 0 then (if bt215.1 ≤ t203 then (if bt215.1 ≥ 0 then ((contangolaw39_goes.f kj6).bind fun t221 => (some t221)) else (some false)) else (some false)) else (some false))) else (none)) else (none)))) = some r := by rw [if_neg (show ¬ (false = true) by decide)] at H; exact H
          clear H
          have H := H1
          clear H1
          replace H := Option.bind_eq_some_iff.mp H
          obtain ⟨t210, A140, H⟩ := H
          replace H : (if (IntKind.u64.wrap ((t210.length : Int))) = 0 then (none) else (if 0 ≤ (wrap64 (Int.tmod (IntKind.u64.wrap (a1)) (IntKind.u64.wrap ((t210.length : Int))))) then (if (wrap64 (Int.tmod (IntKind.u64.wrap (a1)) (IntKind.u64.wrap ((t210.length : Int))))) < (t210.length : Int) then ((stress_Two.f kj6 (t210.set ((wrap64 (Int.tmod (IntKind.u64.wrap (a1)) (IntKind.u64.wrap ((t210.length : Int))))) : Int).toNat (⟨(rd_T49 t210 (wrap64 (Int.tmod (IntKind.u64.wrap (a1)) (IntKind.u64.wrap ((t210.length : Int)))))).f0, (rd_T49 t210 (wrap64 (Int.tmod (IntKind.u64.wrap (a1)) (IntKind.u64.wrap ((t210.length : Int)))))).f1, (rd_T49 t210 (wrap64 (Int.tmod (IntKind.u64.wrap (a1)) (IntKind.u64.wrap ((t210.length : Int)))))).f2, mn (wrap64 (((rd_T49 t210 (wrap64 (Int.tmod (IntKind.u64.wrap (a1)) (IntKind.u64.wrap ((t210.length : Int)))))).f3) + (wrap64 (Int.tmod (IntKind.u64.wrap (a2)) 1099511627776)))) 1152921504606846976⟩ : S49))).bind fun bt215 => (if bt215.2.2.2 = 0 then (if bt215.1 ≤ t203 then (if bt215.1 ≥ 0 then ((contangolaw39_goes.f kj6).bind fun t221 => (some t221)) else (some false)) else (some false)) else (some false))) else (none)) else (none))) = some r := H
          have A14 := Aside0.mk A140
          clear A140
          by_cases c15 : (IntKind.u64.wrap ((t210.length : Int))) = 0
          · rw [if_pos c15] at H
            exact absurd H (by simp)
          · rw [if_neg c15] at H
            have c15b0 : ((IntKind.u64.wrap ((t210.length : Int))) == 0) = false := beq_eq_false_iff_ne.mpr c15
            have c15b1 : ((IntKind.u64.wrap ((t210.length : Int))) != 0) = true := bne_iff_ne.mpr c15
            obtain ⟨ji16, hji16⟩ : ∃ j_ : Int, (wrap64 (Int.tmod (IntKind.u64.wrap (a1)) (IntKind.u64.wrap ((t210.length : Int))))) = j_ := ⟨_, rfl⟩
            replace H : (if 0 ≤ (ji16) then (if (ji16) < (t210.length : Int) then ((stress_Two.f kj6 (t210.set ((ji16) : Int).toNat (⟨(rd_T49 t210 (ji16)).f0, (rd_T49 t210 (ji16)).f1, (rd_T49 t210 (ji16)).f2, mn (wrap64 (((rd_T49 t210 (ji16)).f3) + (wrap64 (Int.tmod (IntKind.u64.wrap (a2)) 1099511627776)))) 1152921504606846976⟩ : S49))).bind fun bt215 => (if bt215.2.2.2 = 0 then (if bt215.1 ≤ t203 then (if bt215.1 ≥ 0 then ((contangolaw39_goes.f kj6).bind fun t221 => (some t221)) else (some false)) else (some false)) else (some false))) else (none)) else (none)) = some r := by first | (rw [hji16] at H; exact H) | (simp only [hji16] at H ⊢; exact H)
            (try rw [hji16] at A14)
            have hji16w : (IntKind.i64.wrap (Int.tmod (IntKind.u64.wrap (a1)) (IntKind.u64.wrap ((t210.length : Int))))) = ji16 := (i64_w _).trans hji16
            by_cases c17 : 0 ≤ (ji16)
            · rw [if_pos c17] at H
              have c17b0 : decide (0 ≤ (ji16)) = true := decide_eq_true c17
              clear c17
              by_cases c18 : (ji16) < (t210.length : Int)
              · rw [if_pos c18] at H
                have c18b0 : decide ((ji16) < (t210.length : Int)) = true := decide_eq_true c18
                clear c18
                obtain ⟨ji19, hji19⟩ : ∃ j_ : Int, (mn (wrap64 (((rd_T49 t210 (ji16)).f3) + (wrap64 (Int.tmod (IntKind.u64.wrap (a2)) 1099511627776)))) 1152921504606846976) = j_ := ⟨_, rfl⟩
                replace H : ((stress_Two.f kj6 (t210.set ((ji16) : Int).toNat (⟨(rd_T49 t210 (ji16)).f0, (rd_T49 t210 (ji16)).f1, (rd_T49 t210 (ji16)).f2, ji19⟩ : S49))).bind fun bt215 => (if bt215.2.2.2 = 0 then (if bt215.1 ≤ t203 then (if bt215.1 ≥ 0 then ((contangolaw39_goes.f kj6).bind fun t221 => (some t221)) else (some false)) else (some false)) else (some false))) = some r := by first | (rw [hji19] at H; exact H) | (simp only [hji19] at H ⊢; exact H)
                (try rw [hji19] at A14)
                have hji19_ : (if 1152921504606846976 < (wrap64 (((rd_T49 t210 (ji16)).f3) + (wrap64 (Int.tmod (IntKind.u64.wrap (a2)) 1099511627776)))) then 1152921504606846976 else (wrap64 (((rd_T49 t210 (ji16)).f3) + (wrap64 (Int.tmod (IntKind.u64.wrap (a2)) 1099511627776))))) = ji19 := hji19
                (try (have hji19w : (if 1152921504606846976 < (IntKind.i64.wrap (((rd_T49 t210 (ji16)).f3) + (IntKind.i64.wrap (Int.tmod (IntKind.u64.wrap (a2)) 1099511627776)))) then 1152921504606846976 else (IntKind.i64.wrap (((rd_T49 t210 (ji16)).f3) + (IntKind.i64.wrap (Int.tmod (IntKind.u64.wrap (a2)) 1099511627776))))) = ji19 := by simp only [i64_w]; exact hji19))
                obtain ⟨y214, hy214⟩ : ∃ y_ : List (S49), y_ = (t210.set ((ji16) : Int).toNat (⟨(rd_T49 t210 (ji16)).f0, (rd_T49 t210 (ji16)).f1, (rd_T49 t210 (ji16)).f2, ji19⟩ : S49)) := ⟨_, rfl⟩
                replace H : ((stress_Two.f kj6 y214).bind fun bt215 => (if bt215.2.2.2 = 0 then (if bt215.1 ≤ t203 then (if bt215.1 ≥ 0 then ((contangolaw39_goes.f kj6).bind fun t221 => (some t221)) else (some false)) else (some false)) else (some false))) = some r := by first | (rw [hy214]; with_reducible exact H) | (have H2_ := (Option.bind_some _ _).symm.trans H; rw [hy214]; with_reducible exact H2_) | (have H2_ := (Option.bind_some _ _).symm.trans H; with_reducible exact H2_) | with_reducible exact H | (rw [hy214]; exact H) | exact H
                have Ny214 := Aside0.mk hy214
                clear hy214
                replace H := Option.bind_eq_some_iff.mp H
                obtain ⟨⟨t215, t216, t217, t218⟩, A210, H⟩ := H
                replace H : (if t218 = 0 then (if t215 ≤ t203 then (if t215 ≥ 0 then ((contangolaw39_goes.f kj6).bind fun t221 => (some t221)) else (some false)) else (some false)) else (some false)) = some r := H
                have A21 := Aside0.mk A210
                clear A210
                by_cases c22 : t218 = 0
                · rw [if_pos c22] at H
                  have c22b0 : (t218 == 0) = true := beq_iff_eq.mpr c22
                  have c22b1 : (t218 != 0) = false := bne_eq_false_iff_eq.mpr c22
                  clear c22
                  by_cases c23 : t215 ≤ t203
                  · rw [if_pos c23] at H
                    have c23b0 : decide (t215 ≤ t203) = true := decide_eq_true c23
                    clear c23
                    by_cases c24 : t215 ≥ 0
                    · rw [if_pos c24] at H
                      have c24b0 : decide (0 ≤ t215) = true := decide_eq_true c24
                      clear c24
                      replace H := Option.bind_eq_some_iff.mp H
                      obtain ⟨t221, A250, H⟩ := H
                      replace H : (some t221) = some r := H
                      have A25 := Aside0.mk A250
                      clear A250
                      obtain rfl := Option.some.inj H
                      go_wp2_with (first | ((with_reducible refine gate_callee (f := 10) rfl ?_); refine goesL_ (some 41) rfl rfl Try.func10 (by kernel_rfl) rfl #[.slice A0 l0.length c0] rfl (by (try simp only [List.map_toArray, List.map_cons, List.map_nil]); first | done | rfl | (simp only [List.length_drop, List.length_take]; rfl)) ?_; (with_reducible refine (contangolaw39_own.calls kj6 (fun k_ => k_ < w.heap.size) _ _ l0 t210 _ ?side1 A14.out).mono ?_); (case side1 => exact Kd.V_mk HC0.out (Kd.F_below (Kd.C_F k49_heap HR0.out) (by repeat (first | (with_reducible first | exact HB.out | apply below_alloc | apply pw_below_drewN | apply below_drew1) | exact HB.out)))); rintro e w26 ⟨v211, rfl, ho0, hb⟩; refine ⟨_, rfl, ?_⟩; have n0_ := Aside0.mk (Kd.N_lower (Kd.N_mono (ok' := fun k_ => True) ho0 (fun k_ hk_ => trivial)) (below_size (by repeat (first | (with_reducible first | exact HB.out | apply below_alloc | apply pw_below_drewN | apply below_drew1) | exact HB.out)))); have n1_ := Aside0.mk (below_step (by repeat (first | (with_reducible first | exact HB.out | apply below_alloc | apply pw_below_drewN | apply below_drew1) | exact HB.out)) hb); clear HB; have HO212 := n0_; have HB := n1_; clear n0_ n1_; (try clear hb); (try clear hb2); (try clear hk); (try clear hi); (try clear ho0); obtain ⟨Ao27, co27, eo27⟩ := Kd.N_slice HO212.out; subst eo27; have p213 : 0 ≤ ((ji16) : Int) := of_decide_eq_true (by first | (with_reducible assumption) | assumption); have q213 : (ji16) < (t210.length : Int) := of_decide_eq_true (by first | (with_reducible assumption) | assumption); obtain ⟨ad213, A213_2, c213_2, e213, hx213_0, hx213_1, hx213_2, hx213_3, hl213_2, hi213_2⟩ := at_T49 (Kd.N_reads' HO212.out).2.2 (ji16) p213 q213; cases e213; obtain ⟨ce213, hce213, hMe213, hcc213⟩ := Kd.N_get HO212.out z49 (ji16) p213 (by first | exact q213 | exact of_decide_eq_true (by first | (with_reducible assumption) | assumption) | (have e_ := (Kd.N_reads' HO212.out).1; omega)); obtain ⟨ua213_2, uc213_2, rfl, ul213_2, ge213_2⟩ := k49_openF hMe213; have hv213_2 := hcc213 2 _ rfl; rw [add_field _ _ 2 (by omega)] at hv213_2; replace hv213_2 := Option.some.inj (hv213_2.symm.trans hx213_2); injection hv213_2 with hva_ hvn_ hvc_; rw [hva_] at ge213_2; rw [hvc_] at ul213_2; have HL213_2 := Aside0.mk (show Kd.V (Kd.int .i64) 3 _ w.heap.size _ _ ((rd_T49 t210 (ji16)).f2) from Kd.V_mk ul213_2 ge213_2); clear hva_ hvn_ hvc_ ge213_2 ul213_2; clear hcc213 hce213; have HR213_2 := Aside0.mk hi213_2; have HC213_2 := Aside0.mk hl213_2; clear hi213_2 hl213_2; replace p213 := eq_true p213; replace q213 := eq_true q213; have p20 : 0 ≤ ((ji16) : Int) := of_decide_eq_true (by first | (with_reducible assumption) | assumption); have q20 : ((ji16) : Int) < ((t210.length : Int) : Int) := of_decide_eq_true (by first | (with_reducible assumption) | assumption); obtain ⟨go20, co20, eo20, gb20, gl20, cl20, HG20⟩ := Kd.N_form HO212.out (by omega); (first | cases eo20 | (injection eo20 with ea_ en_ ec_; (first | subst ea_ | (injection ea_ with ea_; subst ea_)); subst ec_; clear en_)); have GB20 := Aside0.mk gb20; have GG20 := Aside0.mk HG20; clear gb20 gl20 HG20; (first | simp only [add_plain] at hx213_0 | skip); (first | simp only [add_plain] at hx213_1 | skip); (first | simp only [add_plain] at hx213_2 | skip); (first | simp only [add_plain] at hx213_3 | skip); obtain ⟨ce20, hcl20, hM20, hcc20, hfr20⟩ := Kd.N_elem HO212.out z49 ((ji16) : Int) p20 q20; obtain ⟨ua20_2, uc20_2, rfl, ul20_2, ge20_2⟩ := k49_openF hM20; have hx20_0 : w26.cell? ⟨go20, ((ji16) : Int).toNat * 4, none⟩ = some (.string ((rd_T49 t210 (ji16)).f0)) := hcc20 0 _ rfl; have hx20_1 : w26.cell? ⟨go20, ((ji16) : Int).toNat * 4 + 1, none⟩ = some (.string ((rd_T49 t210 (ji16)).f1)) := hcc20 1 _ rfl; have hx20_2 : w26.cell? ⟨go20, ((ji16) : Int).toNat * 4 + 2, none⟩ = some (.slice ua20_2 ((rd_T49 t210 (ji16)).f2).length uc20_2) := hcc20 2 _ rfl; have hx20_3 : w26.cell? ⟨go20, ((ji16) : Int).toNat * 4 + 3, none⟩ = some (.int .i64 ((rd_T49 t210 (ji16)).f3)) := hcc20 3 _ rfl; have hf20_0 : w26.frozen? ⟨go20, ((ji16) : Int).toNat * 4, none⟩ = false := hfr20 0; have hf20_1 : w26.frozen? ⟨go20, ((ji16) : Int).toNat * 4 + 1, none⟩ = false := hfr20 1; have hf20_2 : w26.frozen? ⟨go20, ((ji16) : Int).toNat * 4 + 2, none⟩ = false := hfr20 2; have hf20_3 : w26.frozen? ⟨go20, ((ji16) : Int).toNat * 4 + 3, none⟩ = false := hfr20 3; clear hcl20 hcc20 hfr20 hM20; replace p20 := eq_true p20; replace q20 := eq_true q20; have HX28 := Aside0.mk (show Kd.N k49 49 w26 w.heap.size (fun _ => True) (.slice (some ⟨go20, 0, none⟩) t210.length co27) t210 from (by (with_reducible repeat (first | apply Kd.N_alloc | apply Kd.N_drewN | apply Kd.N_drew)); exact HO212.out)); obtain ⟨ce28, hcl28, hM28, hcc28, hfr28⟩ := Kd.N_elem HX28.out z49 ((ji16) : Int) (of_decide_eq_true (by first | (with_reducible assumption) | assumption)) (by have h_ : ((ji16) : Int) < ((t210.length : Int) : Int) := of_decide_eq_true (by first | (with_reducible assumption) | assumption); first | exact h_ | (have e_ := (Kd.N_reads' HO212.out).1; omega) | simpa using h_); obtain ⟨ua28_2, uc28_2, rfl, ul28_2, ge28_2⟩ := k49_openF hM28; have HP28 := Kd.N_seg HX28.out ((ji16) : Int) (of_decide_eq_true (by first | (with_reducible assumption) | assumption)) (by have h_ : ((ji16) : Int) < ((t210.length : Int) : Int) := of_decide_eq_true (by first | (with_reducible assumption) | assumption); first | exact h_ | (have e_ := (Kd.N_reads' HO212.out).1; omega) | simpa using h_) (seg := [.int .i64 ji19]) (j := 3) hcl28 hcc28 (show 4 ≤ 4 from by decide) (x' := (⟨(rd_T49 t210 (ji16)).f0, (rd_T49 t210 (ji16)).f1, (rd_T49 t210 (ji16)).f2, ji19⟩ : S49)) (k49_mkF _ _ (⟨(rd_T49 t210 (ji16)).f0, (rd_T49 t210 (ji16)).f1, (rd_T49 t210 (ji16)).f2, ji19⟩ : S49) ul28_2 ge28_2) (fun _ hk => hk); have hx28_3 := hcc28 3 _ rfl; (try simp only [show (k49).sz = 4 from rfl, Nat.mul_one, Nat.add_zero] at hx28_3); have hf28_3 := hfr28 3; (try simp only [show (k49).sz = 4 from rfl, Nat.mul_one, Nat.add_zero] at hf28_3); clear hcl28 hcc28 hfr28 hM28) | ((with_reducible refine gate_store (t := 3) (p := 63) rfl ?_); refine store_event (t := 3) (p := 63) (v := ?vo_w29) (w1 := (w26.setCell ⟨go20, ((ji16) : Int).toNat * 4 + 3, none⟩ (.int .i64 ji19))) ?hg ?ho ?hn ?hr ?_; (case ho => rfl); (case hg => rfl); (case hn => rfl); (case hr => first | (go_simp; done) | (go_simp; rfl)); intro w29 hw; have hg : w26.grownBy w29 (some go20) := (by rw [hw]; exact HP28.2); have hp_ : Kd.N k49 49 w29 w.heap.size (fun _ => True) (.slice (some ⟨go20, 0, none⟩) t210.length co27) y214 := (by rw [hw, Ny214.out]; exact HP28.1); clear HP28; have n0_ := Aside0.mk (hp_); have n1_ := Aside0.mk (Kd.V_afterv (v := (.slice (some ⟨go20, 0, none⟩) t210.length co27)) (v1 := (.slice (some ⟨go20, 0, none⟩) t210.length co27)) (ok := (fun _ => True)) (by (with_reducible repeat (first | apply Kd.V_alloc | apply Kd.V_drewN | apply Kd.V_drew)); exact HL213_2.out) hg (.inl rfl)); have n2_ := Aside0.mk ((by rw [hw]; exact below_set (HB.out) GB20.out : Below w.heap.size w w29)); clear HO212; clear HL213_2; clear HB; have HO212 := n0_; have HL213_2 := n1_; have HB := n2_; clear n0_ n1_ n2_; clear hg hw hp_) | ((with_reducible refine gate_callee (f := 18) rfl ?_); refine goesL_ (some 66) rfl rfl Try.func18 (by kernel_rfl) rfl #[.slice (some ⟨go20, 0, none⟩) y214.length co27] rfl (by (try simp only [List.map_toArray, List.map_cons, List.map_nil]); first | done | (rw [show y214.length = t210.length from (Kd.N_reads' HO212.out).1.symm] <;> rfl) | rfl | (simp only [List.length_drop, List.length_take]; rfl)) ?_; (with_reducible refine (stress_Two.calls kj6 _ _ y214 t215 t216 t217 t218 _ ?side1 ?side2 A21.out).mono ?_); (case side1 => repeat (first | exact (Kd.N_reads' HO212.out).2.2 | (with_reducible refine Kd.C_alloc ?_ _) | (with_reducible refine Kd.C_drewN ?_ _) | (with_reducible refine Kd.C_drew ?_))); (case side2 => rw [show y214.length = t210.length from (Kd.N_reads' HO212.out).1.symm]; exact (Kd.N_reads' HO212.out).2.1); rintro e w30 ⟨v219, rfl, ho0, hb⟩; refine ⟨_, rfl, ?_⟩; have n0_ := Aside0.mk (Kd.N_elder' (by (with_reducible repeat (first | apply Kd.N_alloc | apply Kd.N_drewN | apply Kd.N_drew)); exact HO212.out) (Kd.R_base ho0) hb); have n1_ := Aside0.mk (Kd.V_elder' (by (with_reducible repeat (first | apply Kd.V_alloc | apply Kd.V_drewN | apply Kd.V_drew)); exact HL213_2.out) (Kd.R_base ho0) hb); have n2_ := Aside0.mk (Kd.R_lower ho0 (below_size (by repeat (first | (with_reducible first | exact HB.out | apply below_alloc | apply pw_below_drewN | apply below_drew1) | exact HB.out)))); have n3_ := Aside0.mk (below_step (by repeat (first | (with_reducible first | exact HB.out | apply below_alloc | apply pw_below_drewN | apply below_drew1) | exact HB.out)) hb); clear HO212; clear HL213_2; clear HB; have HO212 := n0_; have HL213_2 := n1_; have HO220 := n2_; have HB := n3_; clear n0_ n1_ n2_ n3_; (try clear hb); (try clear hb2); (try clear hk); (try clear hi); (try clear ho0)) | (go_at_call 9; (with_reducible refine (contangolaw39_goes.calls kj6  t221 _ A25.out).mono ?_); rintro e w31 ⟨rfl, hb⟩; have n0_ := Aside0.mk (Kd.N_below (by (with_reducible repeat (first | apply Kd.N_alloc | apply Kd.N_drewN | apply Kd.N_drew)); exact HO212.out) hb); have n1_ := Aside0.mk (Kd.V_below (by (with_reducible repeat (first | apply Kd.V_alloc | apply Kd.V_drewN | apply Kd.V_drew)); exact HL213_2.out) hb); have n2_ := Aside0.mk (Kd.R_below (by (with_reducible repeat (first | apply Kd.R_alloc | apply Kd.R_drewN | apply Kd.R_drew)); exact HO220.out) hb); have n3_ := Aside0.mk (below_step (by repeat (first | (with_reducible first | exact HB.out | apply below_alloc | apply pw_below_drewN | apply below_drew1) | exact HB.out)) hb); clear HO212; clear HL213_2; clear HO220; clear HB; have HO212 := n0_; have HL213_2 := n1_; have HO220 := n2_; have HB := n3_; clear n0_ n1_ n2_ n3_; (try clear hb); (try clear hb2); (try clear hk); (try clear hi)))
                      go_ret
                      exact ⟨by first | rfl | (simp [errW_none, errW_some] <;> rfl) | (simp only [← hji16, ← hji19]; first | rfl | (simp [errW_none, errW_some] <;> rfl)) | (simp [*, errW_none, errW_some] <;> rfl), by repeat (first | (with_reducible first | exact HB.out | apply below_alloc | apply pw_below_drewN | apply below_drew1) | exact HB.out)⟩
                    · rw [if_neg c24] at H
                      exact absurd (H.trans (congrArg some HRT.out)) (by first | simp [contangolaw39_StressMargin.j0] | (simp only [contangolaw39_StressMargin.j0]; (repeat' split) <;> simp))
                  · rw [if_neg c23] at H
                    exact absurd (H.trans (congrArg some HRT.out)) (by first | simp [contangolaw39_StressMargin.j0] | (simp only [contangolaw39_StressMargin.j0]; (repeat' split) <;> simp))
                · rw [if_neg c22] at H
                  exact absurd (H.trans (congrArg some HRT.out)) (by first | simp [contangolaw39_StressMargin.j0] | (simp only [contangolaw39_StressMargin.j0]; (repeat' split) <;> simp))
              · rw [if_neg c18] at H
                exact absurd H (by simp)
            · rw [if_neg c17] at H
              exact absurd H (by simp)
  · replace c5 := Bool.eq_false_iff.mpr c5
    subst c5
    have H1 : ((contangolaw39_goes.f k).bind fun t202 => (some t202)) = some r := by rw [if_neg (show ¬ (false = true) by decide)] at H; exact H
    clear H
    have H := H1
    clear H1
    replace H := Option.bind_eq_some_iff.mp H
    obtain ⟨t202, A320, H⟩ := H
    replace H : (some t202) = some r := H
    have A32 := Aside0.mk A320
    clear A320
    obtain rfl := Option.some.inj H
    go_enter Try.func6, Try.ntmps6
    go_wp2_with (first | ((with_reducible refine gate_callee (f := 8) rfl ?_); refine goesL_ (some 18) rfl rfl Try.func8 (by kernel_rfl) rfl #[.slice A0 l0.length c0] rfl (by (try simp only [List.map_toArray, List.map_cons, List.map_nil]); first | done | rfl | (simp only [List.length_drop, List.length_take]; rfl)) ?_; (with_reducible refine (contangolaw39_few.calls k _ _ l0 false _ ?side1 ?side2 A4.out).mono ?_); (case side1 => repeat (first | exact HR0.out | (with_reducible refine Kd.C_alloc ?_ _) | (with_reducible refine Kd.C_drewN ?_ _) | (with_reducible refine Kd.C_drew ?_))); (case side2 => exact HC0.out); rintro e w' ⟨rfl, ⟨nd, rfl⟩⟩; refine ⟨_, rfl, ?_⟩) | ((with_reducible refine gate_callee (f := 9) rfl ?_); refine goesL_ (some 20) rfl rfl Try.func9 (by kernel_rfl) rfl #[] rfl (by (try simp only [List.map_toArray, List.map_cons, List.map_nil]); first | done | rfl | (simp only [List.length_drop, List.length_take]; rfl)) ?_; (with_reducible refine (contangolaw39_goes.calls k  t202 _ A32.out).mono ?_); rintro e w33 ⟨rfl, hb⟩; refine ⟨_, rfl, ?_⟩; have n0_ := Aside0.mk (below_step (by repeat (first | (with_reducible first | exact HB.out | apply below_alloc | apply pw_below_drewN | apply below_drew1) | exact HB.out)) hb); clear HB; have HB := n0_; clear n0_; (try clear hb); (try clear hb2); (try clear hk); (try clear hi)))
    go_ret
    exact ⟨by first | rfl | (simp [errW_none, errW_some] <;> rfl) | (simp [*, errW_none, errW_some] <;> rfl), by repeat (first | (with_reducible first | exact HB.out | apply below_alloc | apply pw_below_drewN | apply below_drew1) | exact HB.out)⟩

end Go.Proofs.Ytaookghbppimnaa.PStressMargin
