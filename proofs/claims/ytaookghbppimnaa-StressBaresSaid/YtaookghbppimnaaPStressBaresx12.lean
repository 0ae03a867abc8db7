-- Written by a program of this session's (a turned copy of the kit's print, with functions proved by hand).
import Derived.Test.YtaookghbppimnaaPStressBaresx0
import Derived.Test.YtaookghbppimnaaPStressBaresx1
import Derived.Test.YtaookghbppimnaaPStressBaresx2
import Derived.Test.YtaookghbppimnaaPStressBaresx4
import Derived.Test.YtaookghbppimnaaPStressBaresx5
import Derived.Test.YtaookghbppimnaaPStressBaresx6
import Derived.Test.YtaookghbppimnaaPStressBaresx8
import Derived.Test.YtaookghbppimnaaPStressBaresx10
import Derived.Test.YtaookghbppimnaaPStressBaresx11
namespace Go.Proofs.Ytaookghbppimnaa.PStressBares
open Go.RowKit Go.Proofs.YtaookghbppimnaaW.PrintWords Go.Proofs.YtaookghbppimnaaW.PrintLast Go.Proofs.YtaookghbppimnaaW.PrintMore
attribute [local go_sem] max2_int min2_int max_two min_two max_three min_three max_four min_four Go.Proofs.YtaookghbppimnaaHand.run_leq_str Go.Proofs.YtaookghbppimnaaHand.run_gtr_str Go.Proofs.YtaookghbppimnaaHand.run_geq_str   -- for this text's walks alone
set_option linter.unusedVariables false
set_option linter.unusedSimpArgs false

/-! ### contangolaw39_StressBares: function 3 -/
def contangolaw39_StressBares.f (k : Nat) (l0 : List (S49)) (a1 : Int) : Option (Bool) := (contangolaw39_few.f k l0).bind fun t263 => (if t263 = true then ((contangolaw39_own.f k l0).bind fun t265 => ((stress_Bare.f k t265 a1).bind fun bt268 => ((contangoref39_Bare.f k l0 a1).bind fun bt275 => ((stress_Check.f k t265).bind fun t282 => ((contangoref39_Check.f k l0).bind fun t283 => (if t282 = t283 then ((contangoref39_Texts.f k bt268.1 bt275.1).bind fun t284 => (if t284 = true then ((contangoref39_Ints.f k bt268.2.1 bt275.2.1).bind fun t285 => (if t285 = true then (if bt268.2.2 = bt275.2.2 then ((contangolaw39_kept.f k t265 l0).bind fun t286 => (if t286 = true then ((contangolaw39_goes.f k).bind fun t287 => (some t287)) else (some false))) else (some false)) else (some false))) else (some false))) else (some false))))))) else ((contangolaw39_goes.f k).bind fun t264 => (some t264)))
theorem contangolaw39_StressBares.mono : ∀ a0 a1 k, LeO (contangolaw39_StressBares.f k a0 a1) (contangolaw39_StressBares.f (k + 1) a0 a1) := by
  intro a0 a1 k
  unfold contangolaw39_StressBares.f
  repeat' first
      | (with_reducible exact contangolaw39_few.mono _ _)
      | (with_reducible exact contangolaw39_goes.mono _)
      | (with_reducible exact contangolaw39_kept.mono _ _ _)
      | (with_reducible exact contangolaw39_own.mono _ _)
      | (with_reducible exact contangoref39_Bare.mono _ _ _)
      | (with_reducible exact contangoref39_Check.mono _ _)
      | (with_reducible exact contangoref39_Ints.mono _ _ _)
      | (with_reducible exact contangoref39_Texts.mono _ _ _)
      | (with_reducible exact stress_Bare.mono _ _ _)
      | (with_reducible exact stress_Check.mono _ _)
      | (with_reducible exact LeO.refl _)
      | (with_reducible exact LeO.none _)
      | (with_reducible refine LeO.ite ?_ ?_)
      | (with_reducible refine LeO.bind ?_ (fun _ => ?_))
      | exact contangolaw39_few.mono _ _
      | exact contangolaw39_goes.mono _
      | exact contangolaw39_kept.mono _ _ _
      | exact contangolaw39_own.mono _ _
      | exact contangoref39_Bare.mono _ _ _
      | exact contangoref39_Check.mono _ _
      | exact contangoref39_Ints.mono _ _ _
      | exact contangoref39_Texts.mono _ _ _
      | exact stress_Bare.mono _ _ _
      | exact stress_Check.mono _ _
      | exact LeO.none _
      | refine LeO.ite ?_ ?_
      | refine LeO.bind ?_ (fun _ => ?_)
set_option maxHeartbeats 8000000 in
set_option maxRecDepth 100000 in
theorem contangolaw39_StressBares.calls (k : Nat) (A0 : Option Addr) (c0 : Nat) (l0 : List (S49)) (a1 : Int) (r : Bool) (hrt : r = true) (w : World) (hr0 : Kd.C k49 w A0 l0.length l0) (hc0 : l0.length ≤ c0) (h : contangolaw39_StressBares.f k l0 a1 = some r) :
    Calls Try.prog 3 #[.slice A0 l0.length c0, .int .i64 a1] w fun e w' => e = .returned (.bool r) ∧ Below w.heap.size w w' := by
  have HR0 := Aside0.mk hr0
  have HC0 := Aside0.mk hc0
  clear hr0 hc0
  have HB := Aside0.mk (Below.refl w.heap.size w)
  have HRT := Aside0.mk hrt
  clear hrt
  have H : ((contangolaw39_few.f k l0).bind fun t263 => (if t263 = true then ((contangolaw39_own.f k l0).bind fun t265 => ((stress_Bare.f k t265 a1).bind fun bt268 => ((contangoref39_Bare.f k l0 a1).bind fun bt275 => ((stress_Check.f k t265).bind fun t282 => ((contangoref39_Check.f k l0).bind fun t283 => (if t282 = t283 then ((contangoref39_Texts.f k bt268.1 bt275.1).bind fun t284 => (if t284 = true then ((contangoref39_Ints.f k bt268.2.1 bt275.2.1).bind fun t285 => (if t285 = true then (if bt268.2.2 = bt275.2.2 then ((contangolaw39_kept.f k t265 l0).bind fun t286 => (if t286 = true then ((contangolaw39_goes.f k).bind fun t287 => (some t287)) else (some false))) else (some false)) else (some false))) else (some false))) else (some false))))))) else ((contangolaw39_goes.f k).bind fun t264 => (some t264)))) = some r := h
  clear h
  replace H := Option.bind_eq_some_iff.mp H
  obtain ⟨t263, A30, H⟩ := H
  replace H : (if t263 = true then ((contangolaw39_own.f k l0).bind fun t265 => ((stress_Bare.f k t265 a1).bind fun bt268 => ((contangoref39_Bare.f k l0 a1).bind fun bt275 => ((stress_Check.f k t265).bind fun t282 => ((contangoref39_Check.f k l0).bind fun t283 => (if t282 = t283 then ((contangoref39_Texts.f k bt268.1 bt275.1).bind fun t284 => (if t284 = true then ((contangoref39_Ints.f k bt268.2.1 bt275.2.1).bind fun t285 => (if t285 = true then (if bt268.2.2 = bt275.2.2 then ((contangolaw39_kept.f k t265 l0).bind fun t286 => (if t286 = true then ((contangolaw39_goes.f k).bind fun t287 => (some t287)) else (some false))) else (some false)) else (some false))) else (some false))) else (some false))))))) else ((contangolaw39_goes.f k).bind fun t264 => (some t264))) = some r := H
  have A3 := Aside0.mk A30
  clear A30
  by_cases c4 : t263 = true
  · subst c4
    have H1 : ((contangolaw39_own.f k l0).bind fun t265 => ((stress_Bare.f k t265 a1).bind fun bt268 => ((contangoref39_Bare.f k l0 a1).bind fun bt275 => ((stress_Check.f k t265).bind fun t282 => ((contangoref39_Check.f k l0).bind fun t283 => (if t282 = t283 then ((contangoref39_Texts.f k bt268.1 bt275.1).bind fun t284 => (if t284 = true then ((contangoref39_Ints.f k bt268.2.1 bt275.2.1).bind fun t285 => (if t285 = true then (if bt268.2.2 = bt275.2.2 then ((contangolaw39_kept.f k t265 l0).bind fun t286 => (if t286 = true then ((contangolaw39_goes.f k).bind fun t287 => (some t287)) else (some false))) else (some false)) else (some false))) else (some false))) else (some false))))))) = some r := by rw [if_pos rfl] at H; exact H
    clear H
    have H := H1
    clear H1
    replace H := Option.bind_eq_some_iff.mp H
    obtain ⟨t265, A50, H⟩ := H
    replace H : ((stress_Bare.f k t265 a1).bind fun bt268 => ((contangoref39_Bare.f k l0 a1).bind fun bt275 => ((stress_Check.f k t265).bind fun t282 => ((contangoref39_Check.f k l0).bind fun t283 => (if t282 = t283 then ((contangoref39_Texts.f k bt268.1 bt275.1).bind fun t284 => (if t284 = true then ((contangoref39_Ints.f k bt268.2.1 bt275.2.1).bind fun t285 => (if t285 = true then (if bt268.2.2 = bt275.2.2 then ((contangolaw39_kept.f k t265 l0).bind fun t286 => (if t286 = true then ((contangolaw39_goes.f k).bind fun t287 => (some t287)) else (some false))) else (some false)) else (some false))) else (some false))) else (some false)))))) = some r := H
    have A5 := Aside0.mk A50
    clear A50
    replace H := Option.bind_eq_some_iff.mp H
    obtain ⟨⟨t268, t269, t270⟩, A60, H⟩ := H
    replace H : ((contangoref39_Bare.f k l0 a1).bind fun bt275 => ((stress_Check.f k t265).bind fun t282 => ((contangoref39_Check.f k l0).bind fun t283 => (if t282 = t283 then ((contangoref39_Texts.f k t268 bt275.1).bind fun t284 => (if t284 = true then ((contangoref39_Ints.f k t269 bt275.2.1).bind fun t285 => (if t285 = true then (if t270 = bt275.2.2 then ((contangolaw39_kept.f k t265 l0).bind fun t286 => (if t286 = true then ((contangolaw39_goes.f k).bind fun t287 => (some t287)) else (some false))) else (some false)) else (some false))) else (some false))) else (some false))))) = some r := H
    have A6 := Aside0.mk A60
    clear A60
    replace H := Option.bind_eq_some_iff.mp H
    obtain ⟨⟨t275, t276, t277⟩, A70, H⟩ := H
    replace H : ((stress_Check.f k t265).bind fun t282 => ((contangoref39_Check.f k l0).bind fun t283 => (if t282 = t283 then ((contangoref39_Texts.f k t268 t275).bind fun t284 => (if t284 = true then ((contangoref39_Ints.f k t269 t276).bind fun t285 => (if t285 = true then (if t270 = t277 then ((contangolaw39_kept.f k t265 l0).bind fun t286 => (if t286 = true then ((contangolaw39_goes.f k).bind fun t287 => (some t287)) else (some false))) else (some false)) else (some false))) else (some false))) else (some false)))) = some r := H
    have A7 := Aside0.mk A70
    clear A70
    replace H := Option.bind_eq_some_iff.mp H
    obtain ⟨t282, A80, H⟩ := H
    replace H : ((contangoref39_Check.f k l0).bind fun t283 => (if t282 = t283 then ((contangoref39_Texts.f k t268 t275).bind fun t284 => (if t284 = true then ((contangoref39_Ints.f k t269 t276).bind fun t285 => (if t285 = true then (if t270 = t277 then ((contangolaw39_kept.f k t265 l0).bind fun t286 => (if t286 = true then ((contangolaw39_goes.f k).bind fun t287 => (some t287)) else (some false))) else (some false)) else (some false))) else (some false))) else (some false))) = some r := H
    have A8 := Aside0.mk A80
    clear A80
    replace H := Option.bind_eq_some_iff.mp H
    obtain ⟨t283, A90, H⟩ := H
    replace H : (if t282 = t283 then ((contangoref39_Texts.f k t268 t275).bind fun t284 => (if t284 = true then ((contangoref39_Ints.f k t269 t276).bind fun t285 => (if t285 = true then (if t270 = t277 then ((contangolaw39_kept.f k t265 l0).bind fun t286 => (if t286 = true then ((contangolaw39_goes.f k).bind fun t287 => (some t287)) else (some false))) else (some false)) else (some false))) else (some false))) else (some false)) = some r := H
    have A9 := Aside0.mk A90
    clear A90
    by_cases c10 : t282 = t283
    · rw [if_pos c10] at H
      have c10b0 : (t282 == t283) = true := beq_iff_eq.mpr c10
      have c10b1 : (t282 != t283) = false := bne_eq_false_iff_eq.mpr c10
      clear c10
      replace H := Option.bind_eq_some_iff.mp H
      obtain ⟨t284, A110, H⟩ := H
      replace H : (if t284 = true then ((contangoref39_Ints.f k t269 t276).bind fun t285 => (if t285 = true then (if t270 = t277 then ((contangolaw39_kept.f k t265 l0).bind fun t286 => (if t286 = true then ((contangolaw39_goes.f k).bind fun t287 => (some t287)) else (some false))) else (some false)) else (some false))) else (some false)) = some r := H
      have A11 := Aside0.mk A110
      clear A110
      by_cases c12 : t284 = true
      · subst c12
        have H1 : ((contangoref39_Ints.f k t269 t276).bind fun t285 => (if t285 = true then (if t270 = t277 then ((contangolaw39_kept.f k t265 l0).bind fun t286 => (if t286 = true then ((contangolaw39_goes.f k).bind fun t287 => (some t287)) else (some false))) else (some false)) else (some false))) = some r := by rw [if_pos rfl] at H; exact H
        clear H
        have H := H1
        clear H1
        replace H := Option.bind_eq_some_iff.mp H
        obtain ⟨t285, A130, H⟩ := H
        replace H : (if t285 = true then (if t270 = t277 then ((contangolaw39_kept.f k t265 l0).bind fun t286 => (if t286 = true then ((contangolaw39_goes.f k).bind fun t287 => (some t287)) else (some false))) else (some false)) else (some false)) = some r := H
        have A13 := Aside0.mk A130
        clear A130
        by_cases c14 : t285 = true
        · subst c14
          have H1 : (if t270 = t277 then ((contangolaw39_kept.f k t265 l0).bind fun t286 => (if t286 = true then ((contangolaw39_goes.f k).bind fun t287 => (some t287)) else (some false))) else (some false)) = some r := by rw [if_pos rfl] at H; exact H
          clear H
          have H := H1
          clear H1
          by_cases c15 : t270 = t277
          · rw [if_pos c15] at H
            have c15b0 : (t270 == t277) = true := beq_iff_eq.mpr c15
            have c15b1 : (t270 != t277) = false := bne_eq_false_iff_eq.mpr c15
            clear c15
            replace H := Option.bind_eq_some_iff.mp H
            obtain ⟨t286, A160, H⟩ := H
            replace H : (if t286 = true then ((contangolaw39_goes.f k).bind fun t287 => (some t287)) else (some false)) = some r := H
            have A16 := Aside0.mk A160
            clear A160
            by_cases c17 : t286 = true
            · subst c17
              have H1 : ((contangolaw39_goes.f k).bind fun t287 => (some t287)) = some r := by rw [if_pos rfl] at H; exact H
              clear H
              have H := H1
              clear H1
              replace H := Option.bind_eq_some_iff.mp H
              obtain ⟨t287, A180, H⟩ := H
              replace H : (some t287) = some r := H
              have A18 := Aside0.mk A180
              clear A180
              obtain rfl := Option.some.inj H
              go_enter Try.func3, Try.ntmps3
              go_wp2_with (first | ((with_reducible refine gate_callee (f := 8) rfl ?_); refine goesL_ (some 13) rfl rfl Try.func8 (by kernel_rfl) rfl #[.slice A0 l0.length c0] rfl (by (try simp only [List.map_toArray, List.map_cons, List.map_nil]); first | done | rfl | (simp only [List.length_drop, List.length_take]; rfl)) ?_; (with_reducible refine (contangolaw39_few.calls k _ _ l0 true _ ?side1 ?side2 A3.out).mono ?_); (case side1 => repeat (first | exact HR0.out | (with_reducible refine Kd.C_alloc ?_ _) | (with_reducible refine Kd.C_drewN ?_ _) | (with_reducible refine Kd.C_drew ?_))); (case side2 => exact HC0.out); rintro e w' ⟨rfl, ⟨nd, rfl⟩⟩; refine ⟨_, rfl, ?_⟩) | ((with_reducible refine gate_callee (f := 10) rfl ?_); refine goesL_ (some 17) rfl rfl Try.func10 (by kernel_rfl) rfl #[.slice A0 l0.length c0] rfl (by (try simp only [List.map_toArray, List.map_cons, List.map_nil]); first | done | rfl | (simp only [List.length_drop, List.length_take]; rfl)) ?_; (with_reducible refine (contangolaw39_own.calls k (fun k_ => k_ < w.heap.size) _ _ l0 t265 _ ?side1 A5.out).mono ?_); (case side1 => exact Kd.V_mk HC0.out (Kd.F_below (Kd.C_F k49_heap HR0.out) (by repeat (first | (with_reducible first | exact HB.out | apply below_alloc | apply pw_below_drewN | apply below_drew1) | exact HB.out)))); rintro e w19 ⟨v266, rfl, ho0, hb⟩; refine ⟨_, rfl, ?_⟩; have n0_ := Aside0.mk (Kd.N_lower (Kd.N_mono (ok' := fun k_ => True) ho0 (fun k_ hk_ => trivial)) (below_size (by repeat (first | (with_reducible first | exact HB.out | apply below_alloc | apply pw_below_drewN | apply below_drew1) | exact HB.out)))); have n1_ := Aside0.mk (below_step (by repeat (first | (with_reducible first | exact HB.out | apply below_alloc | apply pw_below_drewN | apply below_drew1) | exact HB.out)) hb); clear HB; have HO267 := n0_; have HB := n1_; clear n0_ n1_; (try clear hb); (try clear hb2); (try clear hk); (try clear hi); (try clear ho0); obtain ⟨Ao20, co20, eo20⟩ := Kd.N_slice HO267.out; subst eo20) | ((with_reducible refine gate_callee (f := 11) rfl ?_); refine goesL_ (some 21) rfl rfl Try.func11 (by kernel_rfl) rfl #[.slice Ao20 t265.length co20, .int .i64 a1] rfl (by (try simp only [List.map_toArray, List.map_cons, List.map_nil]); first | done | rfl | (simp only [List.length_drop, List.length_take]; rfl)) ?_; (with_reducible refine (stress_Bare.calls k _ _ t265 a1 t268 t269 t270 _ ?side1 ?side2 A6.out).mono ?_); (case side1 => repeat (first | exact (Kd.N_reads' HO267.out).2.2 | (with_reducible refine Kd.C_alloc ?_ _) | (with_reducible refine Kd.C_drewN ?_ _) | (with_reducible refine Kd.C_drew ?_))); (case side2 => exact (Kd.N_reads' HO267.out).2.1); rintro e w21 ⟨v271, v273, rfl, ho0, ho1, hb⟩; refine ⟨_, rfl, ?_⟩; have n0_ := Aside0.mk (Kd.N_mono (Kd.N_told (Kd.N_told (Kd.N_old (by (with_reducible repeat (first | apply Kd.N_alloc | apply Kd.N_drewN | apply Kd.N_drew)); exact HO267.out) hb) (Kd.R_base ho0)) (Kd.R_base ho1)) (fun _ h_ => h_.1)); have n1_ := Aside0.mk (Kd.R_lower ho0 (below_size (by repeat (first | (with_reducible first | exact HB.out | apply below_alloc | apply pw_below_drewN | apply below_drew1) | exact HB.out)))); have n2_ := Aside0.mk (Kd.R_lower ho1 (below_size (by repeat (first | (with_reducible first | exact HB.out | apply below_alloc | apply pw_below_drewN | apply below_drew1) | exact HB.out)))); have n3_ := Aside0.mk (below_step (by repeat (first | (with_reducible first | exact HB.out | apply below_alloc | apply pw_below_drewN | apply below_drew1) | exact HB.out)) hb); clear HO267; clear HB; have HO267 := n0_; have HO272 := n1_; have HO274 := n2_; have HB := n3_; clear n0_ n1_ n2_ n3_; (try clear hb); (try clear hb2); (try clear hk); (try clear hi); (try clear ho0); (try clear ho1)) | ((with_reducible refine gate_callee (f := 12) rfl ?_); refine goesL_ (some 28) rfl rfl Try.func12 (by kernel_rfl) rfl #[.slice A0 l0.length c0, .int .i64 a1] rfl (by (try simp only [List.map_toArray, List.map_cons, List.map_nil]); first | done | rfl | (simp only [List.length_drop, List.length_take]; rfl)) ?_; (with_reducible refine (contangoref39_Bare.calls k _ _ l0 a1 t275 t276 t277 _ ?side1 ?side2 A7.out).mono ?_); (case side1 => repeat (first | exact (Kd.C_below HR0.out HB.out) | (with_reducible refine Kd.C_alloc ?_ _) | (with_reducible refine Kd.C_drewN ?_ _) | (with_reducible refine Kd.C_drew ?_))); (case side2 => exact HC0.out); rintro e w22 ⟨v278, v280, rfl, ho0, ho1, hb⟩; refine ⟨_, rfl, ?_⟩; have n0_ := Aside0.mk (Kd.N_mono (Kd.N_told (Kd.N_told (Kd.N_old (by (with_reducible repeat (first | apply Kd.N_alloc | apply Kd.N_drewN | apply Kd.N_drew)); exact HO267.out) hb) (Kd.R_base ho0)) (Kd.R_base ho1)) (fun _ h_ => h_.1)); have n1_ := Aside0.mk (Kd.R_elder' (by (with_reducible repeat (first | apply Kd.R_alloc | apply Kd.R_drewN | apply Kd.R_drew)); exact HO272.out) (Kd.R_base ho0) hb); have n2_ := Aside0.mk (Kd.R_elder' (by (with_reducible repeat (first | apply Kd.R_alloc | apply Kd.R_drewN | apply Kd.R_drew)); exact HO274.out) (Kd.R_base ho1) hb); have n3_ := Aside0.mk (Kd.R_lower (Kd.R_new' ho0 (Kd.R_lt (by (with_reducible repeat (first | apply Kd.R_alloc | apply Kd.R_drewN | apply Kd.R_drew)); exact HO272.out))) (below_size (by repeat (first | (with_reducible first | exact HB.out | apply below_alloc | apply pw_below_drewN | apply below_drew1) | exact HB.out)))); have n4_ := Aside0.mk (Kd.R_lower (Kd.R_new' ho1 (Kd.R_lt (by (with_reducible repeat (first | apply Kd.R_alloc | apply Kd.R_drewN | apply Kd.R_drew)); exact HO274.out))) (below_size (by repeat (first | (with_reducible first | exact HB.out | apply below_alloc | apply pw_below_drewN | apply below_drew1) | exact HB.out)))); have n5_ := Aside0.mk (below_step (by repeat (first | (with_reducible first | exact HB.out | apply below_alloc | apply pw_below_drewN | apply below_drew1) | exact HB.out)) hb); clear HO267; clear HO272; clear HO274; clear HB; have HO267 := n0_; have HO272 := n1_; have HO274 := n2_; have HO279 := n3_; have HO281 := n4_; have HB := n5_; clear n0_ n1_ n2_ n3_ n4_ n5_; (try clear hb); (try clear hb2); (try clear hk); (try clear hi); (try clear ho0); (try clear ho1)) | ((with_reducible refine gate_callee (f := 13) rfl ?_); refine goesL_ (some 33) rfl rfl Try.func13 (by kernel_rfl) rfl #[.slice Ao20 t265.length co20] rfl (by (try simp only [List.map_toArray, List.map_cons, List.map_nil]); first | done | rfl | (simp only [List.length_drop, List.length_take]; rfl)) ?_; (with_reducible refine (stress_Check.calls k _ _ t265 t282 _ ?side1 ?side2 A8.out).mono ?_); (case side1 => repeat (first | exact (Kd.N_reads' HO267.out).2.2 | (with_reducible refine Kd.C_alloc ?_ _) | (with_reducible refine Kd.C_drewN ?_ _) | (with_reducible refine Kd.C_drew ?_))); (case side2 => exact (Kd.N_reads' HO267.out).2.1); rintro e w23 ⟨rfl, hb⟩; refine ⟨_, rfl, ?_⟩; have n0_ := Aside0.mk (Kd.N_below (by (with_reducible repeat (first | apply Kd.N_alloc | apply Kd.N_drewN | apply Kd.N_drew)); exact HO267.out) hb); have n1_ := Aside0.mk (Kd.R_below (by (with_reducible repeat (first | apply Kd.R_alloc | apply Kd.R_drewN | apply Kd.R_drew)); exact HO272.out) hb); have n2_ := Aside0.mk (Kd.R_below (by (with_reducible repeat (first | apply Kd.R_alloc | apply Kd.R_drewN | apply Kd.R_drew)); exact HO274.out) hb); have n3_ := Aside0.mk (Kd.R_below (by (with_reducible repeat (first | apply Kd.R_alloc | apply Kd.R_drewN | apply Kd.R_drew)); exact HO279.out) hb); have n4_ := Aside0.mk (Kd.R_below (by (with_reducible repeat (first | apply Kd.R_alloc | apply Kd.R_drewN | apply Kd.R_drew)); exact HO281.out) hb); have n5_ := Aside0.mk (below_step (by repeat (first | (with_reducible first | exact HB.out | apply below_alloc | apply pw_below_drewN | apply below_drew1) | exact HB.out)) hb); clear HO267; clear HO272; clear HO274; clear HO279; clear HO281; clear HB; have HO267 := n0_; have HO272 := n1_; have HO274 := n2_; have HO279 := n3_; have HO281 := n4_; have HB := n5_; clear n0_ n1_ n2_ n3_ n4_ n5_; (try clear hb); (try clear hb2); (try clear hk); (try clear hi)) | ((with_reducible refine gate_callee (f := 14) rfl ?_); refine goesL_ (some 35) rfl rfl Try.func14 (by kernel_rfl) rfl #[.slice A0 l0.length c0] rfl (by (try simp only [List.map_toArray, List.map_cons, List.map_nil]); first | done | rfl | (simp only [List.length_drop, List.length_take]; rfl)) ?_; (with_reducible refine (contangoref39_Check.calls k _ _ l0 t283 _ ?side1 ?side2 A9.out).mono ?_); (case side1 => repeat (first | exact (Kd.C_below HR0.out HB.out) | (with_reducible refine Kd.C_alloc ?_ _) | (with_reducible refine Kd.C_drewN ?_ _) | (with_reducible refine Kd.C_drew ?_))); (case side2 => exact HC0.out); rintro e w24 ⟨rfl, hb⟩; refine ⟨_, rfl, ?_⟩; have n0_ := Aside0.mk (Kd.N_below (by (with_reducible repeat (first | apply Kd.N_alloc | apply Kd.N_drewN | apply Kd.N_drew)); exact HO267.out) hb); have n1_ := Aside0.mk (Kd.R_below (by (with_reducible repeat (first | apply Kd.R_alloc | apply Kd.R_drewN | apply Kd.R_drew)); exact HO272.out) hb); have n2_ := Aside0.mk (Kd.R_below (by (with_reducible repeat (first | apply Kd.R_alloc | apply Kd.R_drewN | apply Kd.R_drew)); exact HO274.out) hb); have n3_ := Aside0.mk (Kd.R_below (by (with_reducible repeat (first | apply Kd.R_alloc | apply Kd.R_drewN | apply Kd.R_drew)); exact HO279.out) hb); have n4_ := Aside0.mk (Kd.R_below (by (with_reducible repeat (first | apply Kd.R_alloc | apply Kd.R_drewN | apply Kd.R_drew)); exact HO281.out) hb); have n5_ := Aside0.mk (below_step (by repeat (first | (with_reducible first | exact HB.out | apply below_alloc | apply pw_below_drewN | apply below_drew1) | exact HB.out)) hb); clear HO267; clear HO272; clear HO274; clear HO279; clear HO281; clear HB; have HO267 := n0_; have HO272 := n1_; have HO274 := n2_; have HO279 := n3_; have HO281 := n4_; have HB := n5_; clear n0_ n1_ n2_ n3_ n4_ n5_; (try clear hb); (try clear hb2); (try clear hk); (try clear hi); obtain ⟨Ao25, co25, eo25⟩ := Kd.R_slice HO272.out; subst eo25; obtain ⟨Ao26, co26, eo26⟩ := Kd.R_slice HO279.out; subst eo26) | (go_at_call 15; (with_reducible refine (contangoref39_Texts.calls k _ _ t268 _ _ t275 true _ ?side1 ?side2 ?side3 ?side4 A11.out).mono ?_); (case side1 => repeat (first | exact (Kd.R_reads' HO272.out).2.2 | (with_reducible refine Kd.C_alloc ?_ _) | (with_reducible refine Kd.C_drewN ?_ _) | (with_reducible refine Kd.C_drew ?_))); (case side2 => exact (Kd.R_reads' HO272.out).2.1); (case side3 => repeat (first | exact (Kd.R_reads' HO279.out).2.2 | (with_reducible refine Kd.C_alloc ?_ _) | (with_reducible refine Kd.C_drewN ?_ _) | (with_reducible refine Kd.C_drew ?_))); (case side4 => exact (Kd.R_reads' HO279.out).2.1); rintro e w' ⟨rfl, ⟨nd, rfl⟩⟩; obtain ⟨Ao27, co27, eo27⟩ := Kd.R_slice HO274.out; subst eo27; obtain ⟨Ao28, co28, eo28⟩ := Kd.R_slice HO281.out; subst eo28) | (go_at_call 16; (with_reducible refine (contangoref39_Ints.calls k _ _ t269 _ _ t276 true _ ?side1 ?side2 ?side3 ?side4 A13.out).mono ?_); (case side1 => repeat (first | exact (Kd.R_reads' HO274.out).2.2 | (with_reducible refine Kd.C_alloc ?_ _) | (with_reducible refine Kd.C_drewN ?_ _) | (with_reducible refine Kd.C_drew ?_))); (case side2 => exact (Kd.R_reads' HO274.out).2.1); (case side3 => repeat (first | exact (Kd.R_reads' HO281.out).2.2 | (with_reducible refine Kd.C_alloc ?_ _) | (with_reducible refine Kd.C_drewN ?_ _) | (with_reducible refine Kd.C_drew ?_))); (case side4 => exact (Kd.R_reads' HO281.out).2.1); rintro e w' ⟨rfl, ⟨nd, rfl⟩⟩) | (go_at_call 17; (with_reducible refine (contangolaw39_kept.calls k _ _ t265 _ _ l0 true _ ?side1 ?side2 ?side3 ?side4 A16.out).mono ?_); (case side1 => repeat (first | exact (Kd.N_reads' HO267.out).2.2 | (with_reducible refine Kd.C_alloc ?_ _) | (with_reducible refine Kd.C_drewN ?_ _) | (with_reducible refine Kd.C_drew ?_))); (case side2 => exact (Kd.N_reads' HO267.out).2.1); (case side3 => repeat (first | exact (Kd.C_below HR0.out (by repeat (first | (with_reducible first | exact HB.out | apply below_alloc | apply pw_below_drewN | apply below_drew1) | exact HB.out))) | (with_reducible refine Kd.C_alloc ?_ _) | (with_reducible refine Kd.C_drewN ?_ _) | (with_reducible refine Kd.C_drew ?_))); (case side4 => exact HC0.out); rintro e w29 ⟨rfl, hb⟩; have n0_ := Aside0.mk (Kd.N_below (by (with_reducible repeat (first | apply Kd.N_alloc | apply Kd.N_drewN | apply Kd.N_drew)); exact HO267.out) hb); have n1_ := Aside0.mk (Kd.R_below (by (with_reducible repeat (first | apply Kd.R_alloc | apply Kd.R_drewN | apply Kd.R_drew)); exact HO272.out) hb); have n2_ := Aside0.mk (Kd.R_below (by (with_reducible repeat (first | apply Kd.R_alloc | apply Kd.R_drewN | apply Kd.R_drew)); exact HO274.out) hb); have n3_ := Aside0.mk (Kd.R_below (by (with_reducible repeat (first | apply Kd.R_alloc | apply Kd.R_drewN | apply Kd.R_drew)); exact HO279.out) hb); have n4_ := Aside0.mk (Kd.R_below (by (with_reducible repeat (first | apply Kd.R_alloc | apply Kd.R_drewN | apply Kd.R_drew)); exact HO281.out) hb); have n5_ := Aside0.mk (below_step (by repeat (first | (with_reducible first | exact HB.out | apply below_alloc | apply pw_below_drewN | apply below_drew1) | exact HB.out)) hb); clear HO267; clear HO272; clear HO274; clear HO279; clear HO281; clear HB; have HO267 := n0_; have HO272 := n1_; have HO274 := n2_; have HO279 := n3_; have HO281 := n4_; have HB := n5_; clear n0_ n1_ n2_ n3_ n4_ n5_; (try clear hb); (try clear hb2); (try clear hk); (try clear hi)) | (go_at_call 9; (with_reducible refine (contangolaw39_goes.calls k  t287 _ A18.out).mono ?_); rintro e w30 ⟨rfl, hb⟩; have n0_ := Aside0.mk (Kd.N_below (by (with_reducible repeat (first | apply Kd.N_alloc | apply Kd.N_drewN | apply Kd.N_drew)); exact HO267.out) hb); have n1_ := Aside0.mk (Kd.R_below (by (with_reducible repeat (first | apply Kd.R_alloc | apply Kd.R_drewN | apply Kd.R_drew)); exact HO272.out) hb); have n2_ := Aside0.mk (Kd.R_below (by (with_reducible repeat (first | apply Kd.R_alloc | apply Kd.R_drewN | apply Kd.R_drew)); exact HO274.out) hb); have n3_ := Aside0.mk (Kd.R_below (by (with_reducible repeat (first | apply Kd.R_alloc | apply Kd.R_drewN | apply Kd.R_drew)); exact HO279.out) hb); have n4_ := Aside0.mk (Kd.R_below (by (with_reducible repeat (first | apply Kd.R_alloc | apply Kd.R_drewN | apply Kd.R_drew)); exact HO281.out) hb); have n5_ := Aside0.mk (below_step (by repeat (first | (with_reducible first | exact HB.out | apply below_alloc | apply pw_below_drewN | apply below_drew1) | exact HB.out)) hb); clear HO267; clear HO272; clear HO274; clear HO279; clear HO281; clear HB; have HO267 := n0_; have HO272 := n1_; have HO274 := n2_; have HO279 := n3_; have HO281 := n4_; have HB := n5_; clear n0_ n1_ n2_ n3_ n4_ n5_; (try clear hb); (try clear hb2); (try clear hk); (try clear hi)))
              go_ret
              exact ⟨by first | rfl | (simp [errW_none, errW_some] <;> rfl) | (simp [*, errW_none, errW_some] <;> rfl), by repeat (first | (with_reducible first | exact HB.out | apply below_alloc | apply pw_below_drewN | apply below_drew1) | exact HB.out)⟩
            · replace c17 := Bool.eq_false_iff.mpr c17
              subst c17
              have H1 : (some false) = some r := by rw [if_neg (show ¬ (false = true) by decide)] at H; exact H
              clear H
              have H := H1
              clear H1
              exact absurd (H.trans (congrArg some HRT.out)) (by first | simp [] | (simp only []; (repeat' split) <;> simp))
          · rw [if_neg c15] at H
            exact absurd (H.trans (congrArg some HRT.out)) (by first | simp [] | (simp only []; (repeat' split) <;> simp))
        · replace c14 := Bool.eq_false_iff.mpr c14
          subst c14
          have H1 : (some false) = some r := by rw [if_neg (show ¬ (false = true) by decide)] at H; exact H
          clear H
          have H := H1
          clear H1
          exact absurd (H.trans (congrArg some HRT.out)) (by first | simp [] | (simp only []; (repeat' split) <;> simp))
      · replace c12 := Bool.eq_false_iff.mpr c12
        subst c12
        have H1 : (some false) = some r := by rw [if_neg (show ¬ (false = true) by decide)] at H; exact H
        clear H
        have H := H1
        clear H1
        exact absurd (H.trans (congrArg some HRT.out)) (by first | simp [] | (simp only []; (repeat' split) <;> simp))
    · rw [if_neg c10] at H
      exact absurd (H.trans (congrArg some HRT.out)) (by first | simp [] | (simp only []; (repeat' split) <;> simp))
  · replace c4 := Bool.eq_false_iff.mpr c4
    subst c4
    have H1 : ((contangolaw39_goes.f k).bind fun t264 => (some t264)) = some r := by rw [if_neg (show ¬ (false = true) by decide)] at H; exact H
    clear H
    have H := H1
    clear H1
    replace H := Option.bind_eq_some_iff.mp H
    obtain ⟨t264, A310, H⟩ := H
    replace H : (some t264) = some r := H
    have A31 := Aside0.mk A310
    clear A310
    obtain rfl := Option.some.inj H
    go_enter Try.func3, Try.ntmps3
    go_wp2_with (first | ((with_reducible refine gate_callee (f := 8) rfl ?_); refine goesL_ (some 13) rfl rfl Try.func8 (by kernel_rfl) rfl #[.slice A0 l0.length c0] rfl (by (try simp only [List.map_toArray, List.map_cons, List.map_nil]); first | done | rfl | (simp only [List.length_drop, List.length_take]; rfl)) ?_; (with_reducible refine (contangolaw39_few.calls k _ _ l0 false _ ?side1 ?side2 A3.out).mono ?_); (case side1 => repeat (first | exact HR0.out | (with_reducible refine Kd.C_alloc ?_ _) | (with_reducible refine Kd.C_drewN ?_ _) | (with_reducible refine Kd.C_drew ?_))); (case side2 => exact HC0.out); rintro e w' ⟨rfl, ⟨nd, rfl⟩⟩; refine ⟨_, rfl, ?_⟩) | ((with_reducible refine gate_callee (f := 9) rfl ?_); refine goesL_ (some 15) rfl rfl Try.func9 (by kernel_rfl) rfl #[] rfl (by (try simp only [List.map_toArray, List.map_cons, List.map_nil]); first | done | rfl | (simp only [List.length_drop, List.length_take]; rfl)) ?_; (with_reducible refine (contangolaw39_goes.calls k  t264 _ A31.out).mono ?_); rintro e w32 ⟨rfl, hb⟩; refine ⟨_, rfl, ?_⟩; have n0_ := Aside0.mk (below_step (by repeat (first | (with_reducible first | exact HB.out | apply below_alloc | apply pw_below_drewN | apply below_drew1) | exact HB.out)) hb); clear HB; have HB := n0_; clear n0_; (try clear hb); (try clear hb2); (try clear hk); (try clear hi)))
    go_ret
    exact ⟨by first | rfl | (simp [errW_none, errW_some] <;> rfl) | (simp [*, errW_none, errW_some] <;> rfl), by repeat (first | (with_reducible first | exact HB.out | apply below_alloc | apply pw_below_drewN | apply below_drew1) | exact HB.out)⟩

end Go.Proofs.Ytaookghbppimnaa.PStressBares
