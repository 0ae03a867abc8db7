import Derived.Test.YtoejllkjhaeeeaaPExpiryFlowsx0
import Derived.Test.YtoejllkjhaeeeaaPExpiryFlowsx13
import Derived.Test.YtoejllkjhaeeeaaPExpiryFlowsx14
import Derived.Test.YtoejllkjhaeeeaaPExpiryFlowsx21
import Derived.Test.YtoejllkjhaeeeaaPExpiryFlowsx22
import Derived.Test.YtoejllkjhaeeeaaPExpiryFlowsx23
namespace Go.Proofs.Ytoejllkjhaeeeaa.PExpiryFlows
open Go.RowKit Go.Proofs.YtoejllkjhaeeeaaW.PrintWords Go.Proofs.YtoejllkjhaeeeaaW.PrintLast Go.Proofs.YtoejllkjhaeeeaaW.PrintMore
attribute [local go_sem] max2_int min2_int max_two min_two max_three min_three max_four min_four Go.Proofs.YtoejllkjhaeeeaaHand.run_leq_str Go.Proofs.YtoejllkjhaeeeaaHand.run_gtr_str Go.Proofs.YtoejllkjhaeeeaaHand.run_geq_str   -- for this text's walks alone
set_option linter.unusedVariables false
set_option linter.unusedSimpArgs false

/-! ### contangolaw51_ExpiryFlows: function 7 -/
def contangolaw51_ExpiryFlows.f (k : Nat) (a0_0 : ByteArray) (a0_1 : Int) (a0_2 : Int) (a0_3 : Int) (a0_4 : Int) (a0_5 : Int) (a0_6 : Bool) (l1 : List (S47)) (a2_0 : ByteArray) (a2_1 : Int) (a2_2 : Int) (a2_3 : Int) (a2_4 : Int) (a2_5 : Int) : Option (Bool) := (contangolaw51_few.f l1).bind fun t301 => (if t301 = true then ((expiry_Flows.f k a0_0 a0_1 a0_2 a0_3 a0_4 a0_5 a0_6 l1 a2_0 a2_1 a2_2 a2_3 a2_4).bind fun bt303 => ((contangoref51_Flows.f k a0_0 a0_1 a0_2 a0_3 a0_4 a0_5 a0_6 l1 a2_0 a2_1 a2_2 a2_3 a2_4).bind fun bt307 => ((contangoref51_Same.f k bt303.1 bt307.1).bind fun t311 => (if t311 = true then (if bt303.2 = bt307.2 then ((expiry_Drop.f k l1 a2_5).bind fun t312 => ((contangoref51_Drop.f k l1 a2_5).bind fun t315 => ((contangoref51_Holdings.f k t312 t315).bind fun t318 => (if t318 = true then ((contangolaw51_goes.f k).bind fun t319 => (some t319)) else (some false))))) else (some false)) else (some false))))) else ((contangolaw51_goes.f k).bind fun t302 => (some t302)))
theorem contangolaw51_ExpiryFlows.mono : ∀ a0 a1 a2 a3 a4 a5 a6 a7 a8 a9 a10 a11 a12 a13 k, LeO (contangolaw51_ExpiryFlows.f k a0 a1 a2 a3 a4 a5 a6 a7 a8 a9 a10 a11 a12 a13) (contangolaw51_ExpiryFlows.f (k + 1) a0 a1 a2 a3 a4 a5 a6 a7 a8 a9 a10 a11 a12 a13) := by
  intro a0 a1 a2 a3 a4 a5 a6 a7 a8 a9 a10 a11 a12 a13 k
  unfold contangolaw51_ExpiryFlows.f
  repeat' first
      | (with_reducible exact contangolaw51_goes.mono _)
      | (with_reducible exact contangoref51_Drop.mono _ _ _)
      | (with_reducible exact contangoref51_Flows.mono _ _ _ _ _ _ _ _ _ _ _ _ _ _)
      | (with_reducible exact contangoref51_Holdings.mono _ _ _)
      | (with_reducible exact contangoref51_Same.mono _ _ _)
      | (with_reducible exact expiry_Drop.mono _ _ _)
      | (with_reducible exact expiry_Flows.mono _ _ _ _ _ _ _ _ _ _ _ _ _ _)
      | (with_reducible exact LeO.refl _)
      | (with_reducible exact LeO.none _)
      | (with_reducible refine LeO.ite ?_ ?_)
      | (with_reducible refine LeO.bind ?_ (fun _ => ?_))
      | exact LeO.none _
      | refine LeO.ite ?_ ?_
      | refine LeO.bind ?_ (fun _ => ?_)
def contangolaw51_ExpiryFlows.T5 : Bool × List (List Nat × List Nat) := (true, [([], []), ([], []), ([0, 1], [0, 1]), ([2, 2], [2]), ([3], [3]), ([3], [3]), ([4, 5, 3], [3, 4, 5]), ([3, 6], [3, 6]), ([7, 3], [7]), ([8], [8]), ([8], [8]), ([10, 8], [8, 10]), ([9, 11, 8, 8], [8, 9, 11]), ([8], [8]), ([8], [8]), ([14, 8], [8, 14]), ([13, 15, 12, 8], [8, 13, 15]), ([12, 16, 16, 8], [8, 12, 16]), ([8, 17], [8, 17]), ([18, 17], [18]), ([19, 19], [19]), ([19, 20], [19, 20]), ([21, 20, 0, 1, 2, 3, 4, 5, 6, 7, 8, 9, 10, 11, 12, 13, 14, 15, 16, 17, 18, 19, 20, 21], [21])])
def contangolaw51_ExpiryFlows.B5 : List Nat := [0, 0, 3, 7, 15, 15, 63, 127, 255, 511, 511, 1535, 4095, 511, 511, 16895, 65535, 131071, 262143, 524287, 1048575, 2097151, 4194303]
theorem contangolaw51_ExpiryFlows.tab5 : rtab .any (opsOf Try.f7 5) = contangolaw51_ExpiryFlows.T5 := by kernel_rfl
theorem contangolaw51_ExpiryFlows.bits5 : waitsOk contangolaw51_ExpiryFlows.T5.2 contangolaw51_ExpiryFlows.B5 = true := by kernel_rfl
set_option maxHeartbeats 8000000 in
set_option maxRecDepth 100000 in
theorem contangolaw51_ExpiryFlows.calls (k : Nat) (a0_0 : ByteArray) (a0_1 : Int) (a0_2 : Int) (a0_3 : Int) (a0_4 : Int) (a0_5 : Int) (a0_6 : Bool) (A1 : Option Addr) (c1 : Nat) (l1 : List (S47)) (a2_0 : ByteArray) (a2_1 : Int) (a2_2 : Int) (a2_3 : Int) (a2_4 : Int) (a2_5 : Int) (r : Bool) (hrt : r = true) (w : World) (hr1 : Kd.C k47 w A1 l1.length l1) (hc1 : l1.length ≤ c1) (h : contangolaw51_ExpiryFlows.f k a0_0 a0_1 a0_2 a0_3 a0_4 a0_5 a0_6 l1 a2_0 a2_1 a2_2 a2_3 a2_4 a2_5 = some r) :
    Calls Try.prog 7 #[.agg #[.string a0_0, .int .i64 a0_1, .int .i64 a0_2, .int .i64 a0_3, .int .i64 a0_4, .int .i64 a0_5, .bool a0_6], .slice A1 l1.length c1, .agg #[.string a2_0, .int .i64 a2_1, .int .i64 a2_2, .int .i64 a2_3, .int .i64 a2_4, .int .i64 a2_5]] w fun e w' => e = .returned (.bool r) ∧ Below w.heap.size w w' := by
 have hu23 := Try.underlying23
 have hu29 := Try.underlying29
 have hu25 := Try.underlying25
 have HR1 := Aside0.mk hr1
 have HC1 := Aside0.mk hc1
 clear hr1 hc1
 have HB := Aside0.mk (Below.refl w.heap.size w)
 have HRT := Aside0.mk hrt
 clear hrt
 have H : ((contangolaw51_few.f l1).bind fun t301 => (if t301 = true then ((expiry_Flows.f k a0_0 a0_1 a0_2 a0_3 a0_4 a0_5 a0_6 l1 a2_0 a2_1 a2_2 a2_3 a2_4).bind fun bt303 => ((contangoref51_Flows.f k a0_0 a0_1 a0_2 a0_3 a0_4 a0_5 a0_6 l1 a2_0 a2_1 a2_2 a2_3 a2_4).bind fun bt307 => ((contangoref51_Same.f k bt303.1 bt307.1).bind fun t311 => (if t311 = true then (if bt303.2 = bt307.2 then ((expiry_Drop.f k l1 a2_5).bind fun t312 => ((contangoref51_Drop.f k l1 a2_5).bind fun t315 => ((contangoref51_Holdings.f k t312 t315).bind fun t318 => (if t318 = true then ((contangolaw51_goes.f k).bind fun t319 => (some t319)) else (some false))))) else (some false)) else (some false))))) else ((contangolaw51_goes.f k).bind fun t302 => (some t302)))) = some r := h
 clear h
 replace H := Option.bind_eq_some_iff.mp H
 obtain ⟨t301, A40, H⟩ := H
 replace H : (if t301 = true then ((expiry_Flows.f k a0_0 a0_1 a0_2 a0_3 a0_4 a0_5 a0_6 l1 a2_0 a2_1 a2_2 a2_3 a2_4).bind fun bt303 => ((contangoref51_Flows.f k a0_0 a0_1 a0_2 a0_3 a0_4 a0_5 a0_6 l1 a2_0 a2_1 a2_2 a2_3 a2_4).bind fun bt307 => ((contangoref51_Same.f k bt303.1 bt307.1).bind fun t311 => (if t311 = true then (if bt303.2 = bt307.2 then ((expiry_Drop.f k l1 a2_5).bind fun t312 => ((contangoref51_Drop.f k l1 a2_5).bind fun t315 => ((contangoref51_Holdings.f k t312 t315).bind fun t318 => (if t318 = true then ((contangolaw51_goes.f k).bind fun t319 => (some t319)) else (some false))))) else (some false)) else (some false))))) else ((contangolaw51_goes.f k).bind fun t302 => (some t302))) = some r := H
 have A4 := Aside0.mk A40
 clear A40
 by_cases c5 : t301 = true
 rotate_left
 · replace c5 := Bool.eq_false_iff.mpr c5
   subst c5
   have H1 : ((contangolaw51_goes.f k).bind fun t302 => (some t302)) = some r := by rw [if_neg (show ¬ (false = true) by decide)] at H; exact H
   clear H
   have H := H1
   clear H1
   replace H := Option.bind_eq_some_iff.mp H
   obtain ⟨t302, A330, H⟩ := H
   replace H : (some t302) = some r := H
   have A33 := Aside0.mk A330
   clear A330
   obtain rfl := Option.some.inj H
   go_enter Try.func7, Try.ntmps7
   go_wp2_with (first | ((with_reducible refine gate_dst (N := 3) rfl ?_); refine box_event ?hg (N := 3) ?hd (cs := #[.string a0_0, .int .i64 a0_1, .int .i64 a0_2, .int .i64 a0_3, .int .i64 a0_4, .int .i64 a0_5, .bool a0_6]) (t := 23) ?hr ?_; (case hd => rfl); (case hg => rfl); (case hr => first | (go_simp; done) | (go_simp; rfl)); intro gb299 hg w34 hbox hb; have n0_ := Aside0.mk (below_step (bz0 HB.out) hb); have n1_ := Aside0.mk (hbox); have n2_ := Aside0.mk ((by rw [hg]; exact (below_size (bz0 HB.out)) : w.heap.size ≤ gb299)); have n3_ := Aside0.mk ((by rw [hg]; exact (below_size (bz0 HB.out)) : w.heap.size ≤ gb299)); clear HB; have HB := n0_; have BK299 := n1_; have GW299 := n2_; have GE299 := n3_; clear n0_ n1_ n2_ n3_; clear hb hbox hg) | ((with_reducible refine gate_dst (N := 5) rfl ?_); refine box_event ?hg (N := 5) ?hd (cs := #[.string a2_0, .int .i64 a2_1, .int .i64 a2_2, .int .i64 a2_3, .int .i64 a2_4, .int .i64 a2_5]) (t := 29) ?hr ?_; (case hd => rfl); (case hg => rfl); (case hr => first | (go_simp; done) | (go_simp; rfl)); intro gb300 hg w35 hbox hb; have n0_ := Aside0.mk (blk_below (g := gb299) (o := .cells #[.string a0_0, .int .i64 a0_1, .int .i64 a0_2, .int .i64 a0_3, .int .i64 a0_4, .int .i64 a0_5, .bool a0_6] 23 (0, 0)) (bk_ BK299.out) hb); have n1_ := Aside0.mk (below_step (bz1 HB.out GE299.out) hb); have n2_ := Aside0.mk (hbox); have n3_ := Aside0.mk ((by rw [hg]; exact (below_size (bz1 HB.out GE299.out)) : w.heap.size ≤ gb300)); have n4_ := Aside0.mk ((by rw [hg]; exact (below_size (bz1 HB.out GE299.out)) : w.heap.size ≤ gb300)); have n5_ := Aside0.mk ((by rw [hg]; exact Nat.ne_of_lt (blk_lt (g := gb299) (o := .cells #[.string a0_0, .int .i64 a0_1, .int .i64 a0_2, .int .i64 a0_3, .int .i64 a0_4, .int .i64 a0_5, .bool a0_6] 23 (0, 0)) (bk_ BK299.out)) : gb299 ≠ gb300)); have n6_ := Aside0.mk ((by rw [hg]; exact Nat.ne_of_gt (blk_lt (g := gb299) (o := .cells #[.string a0_0, .int .i64 a0_1, .int .i64 a0_2, .int .i64 a0_3, .int .i64 a0_4, .int .i64 a0_5, .bool a0_6] 23 (0, 0)) (bk_ BK299.out)) : gb300 ≠ gb299)); clear BK299; clear HB; have BK299 := n0_; have HB := n1_; have BK300 := n2_; have GW300 := n3_; have GE300 := n4_; have NB299_300 := n5_; have NB300_299 := n6_; clear n0_ n1_ n2_ n3_ n4_ n5_ n6_; clear hb hbox hg) | ((with_reducible refine gate_callee (f := 14) rfl ?_); refine goesL_ (some 12) rfl rfl Try.func14 (by kernel_rfl) rfl #[.slice A1 l1.length c1] rfl pm_ ?_; (with_reducible refine (contangolaw51_few.calls _ _ l1 false _ ?side1 ?side2 A4.out).mono ?_); (case side1 => repeat (first | exact (Kd.C_below HR1.out HB.out) | (with_reducible refine Kd.C_alloc ?_ _) | (with_reducible refine Kd.C_drewN ?_ _) | (with_reducible refine Kd.C_drew ?_))); (case side2 => exact HC1.out); rintro e w' ⟨rfl, ⟨nd, rfl⟩⟩; refine ⟨_, rfl, ?_⟩) | ((with_reducible refine gate_callee (f := 10) rfl ?_); refine goesL_ (some 14) rfl rfl Try.func10 (by kernel_rfl) rfl #[] rfl pm_ ?_; (with_reducible refine (contangolaw51_goes.calls k  t302 _ A33.out).mono ?_); rintro e w36 ⟨rfl, hb⟩; refine ⟨_, rfl, ?_⟩; have n0_ := Aside0.mk (blk_below (g := gb299) (o := .cells #[.string a0_0, .int .i64 a0_1, .int .i64 a0_2, .int .i64 a0_3, .int .i64 a0_4, .int .i64 a0_5, .bool a0_6] 23 (0, 0)) (bk_ BK299.out) hb); have n1_ := Aside0.mk (blk_below (g := gb300) (o := .cells #[.string a2_0, .int .i64 a2_1, .int .i64 a2_2, .int .i64 a2_3, .int .i64 a2_4, .int .i64 a2_5] 29 (0, 0)) (bk_ BK300.out) hb); have n2_ := Aside0.mk (below_step (bz2 HB.out GE299.out GE300.out) hb); clear BK299; clear BK300; clear HB; have BK299 := n0_; have BK300 := n1_; have HB := n2_; clear n0_ n1_ n2_; (try clear hb); (try clear hb2); (try clear hk); (try clear hi)))
   go_ret
   exact ⟨by first | rfl | (simp [errW_none, errW_some] <;> rfl) | (simp [*, errW_none, errW_some] <;> rfl), bz2 HB.out GE299.out GE300.out⟩
 subst c5
 have H1 : ((expiry_Flows.f k a0_0 a0_1 a0_2 a0_3 a0_4 a0_5 a0_6 l1 a2_0 a2_1 a2_2 a2_3 a2_4).bind fun bt303 => ((contangoref51_Flows.f k a0_0 a0_1 a0_2 a0_3 a0_4 a0_5 a0_6 l1 a2_0 a2_1 a2_2 a2_3 a2_4).bind fun bt307 => ((contangoref51_Same.f k bt303.1 bt307.1).bind fun t311 => (if t311 = true then (if bt303.2 = bt307.2 then ((expiry_Drop.f k l1 a2_5).bind fun t312 => ((contangoref51_Drop.f k l1 a2_5).bind fun t315 => ((contangoref51_Holdings.f k t312 t315).bind fun t318 => (if t318 = true then ((contangolaw51_goes.f k).bind fun t319 => (some t319)) else (some false))))) else (some false)) else (some false))))) = some r := by rw [if_pos rfl] at H; exact H
 clear H
 have H := H1
 clear H1
 replace H := Option.bind_eq_some_iff.mp H
 obtain ⟨⟨t303, t306⟩, A60, H⟩ := H
 replace H : ((contangoref51_Flows.f k a0_0 a0_1 a0_2 a0_3 a0_4 a0_5 a0_6 l1 a2_0 a2_1 a2_2 a2_3 a2_4).bind fun bt307 => ((contangoref51_Same.f k t303 bt307.1).bind fun t311 => (if t311 = true then (if t306 = bt307.2 then ((expiry_Drop.f k l1 a2_5).bind fun t312 => ((contangoref51_Drop.f k l1 a2_5).bind fun t315 => ((contangoref51_Holdings.f k t312 t315).bind fun t318 => (if t318 = true then ((contangolaw51_goes.f k).bind fun t319 => (some t319)) else (some false))))) else (some false)) else (some false)))) = some r := H
 have A6 := Aside0.mk A60
 clear A60
 replace H := Option.bind_eq_some_iff.mp H
 obtain ⟨⟨t307, t310⟩, A70, H⟩ := H
 replace H : ((contangoref51_Same.f k t303 t307).bind fun t311 => (if t311 = true then (if t306 = t310 then ((expiry_Drop.f k l1 a2_5).bind fun t312 => ((contangoref51_Drop.f k l1 a2_5).bind fun t315 => ((contangoref51_Holdings.f k t312 t315).bind fun t318 => (if t318 = true then ((contangolaw51_goes.f k).bind fun t319 => (some t319)) else (some false))))) else (some false)) else (some false))) = some r := H
 have A7 := Aside0.mk A70
 clear A70
 replace H := Option.bind_eq_some_iff.mp H
 obtain ⟨t311, A80, H⟩ := H
 replace H : (if t311 = true then (if t306 = t310 then ((expiry_Drop.f k l1 a2_5).bind fun t312 => ((contangoref51_Drop.f k l1 a2_5).bind fun t315 => ((contangoref51_Holdings.f k t312 t315).bind fun t318 => (if t318 = true then ((contangolaw51_goes.f k).bind fun t319 => (some t319)) else (some false))))) else (some false)) else (some false)) = some r := H
 have A8 := Aside0.mk A80
 clear A80
 by_cases c9 : t311 = true
 rotate_left
 · replace c9 := Bool.eq_false_iff.mpr c9
   subst c9
   have H1 : (some false) = some r := by rw [if_neg (show ¬ (false = true) by decide)] at H; exact H
   clear H
   have H := H1
   clear H1
   exact absurd (H.trans (congrArg some HRT.out)) (by first | simp [] | (simp only []; (repeat' split) <;> simp))
 subst c9
 have H1 : (if t306 = t310 then ((expiry_Drop.f k l1 a2_5).bind fun t312 => ((contangoref51_Drop.f k l1 a2_5).bind fun t315 => ((contangoref51_Holdings.f k t312 t315).bind fun t318 => (if t318 = true then ((contangolaw51_goes.f k).bind fun t319 => (some t319)) else (some false))))) else (some false)) = some r := by rw [if_pos rfl] at H; exact H
 clear H
 have H := H1
 clear H1
 by_cases c10 : t306 = t310
 rotate_left
 · rw [if_neg c10] at H
   exact absurd (H.trans (congrArg some HRT.out)) (by first | simp [] | (simp only []; (repeat' split) <;> simp))
 rw [if_pos c10] at H
 have c10b0 : (t306 == t310) = true := beq_iff_eq.mpr c10
 have c10b1 : (t306 != t310) = false := bne_eq_false_iff_eq.mpr c10
 clear c10
 replace H := Option.bind_eq_some_iff.mp H
 obtain ⟨t312, A110, H⟩ := H
 replace H : ((contangoref51_Drop.f k l1 a2_5).bind fun t315 => ((contangoref51_Holdings.f k t312 t315).bind fun t318 => (if t318 = true then ((contangolaw51_goes.f k).bind fun t319 => (some t319)) else (some false)))) = some r := H
 have A11 := Aside0.mk A110
 clear A110
 replace H := Option.bind_eq_some_iff.mp H
 obtain ⟨t315, A120, H⟩ := H
 replace H : ((contangoref51_Holdings.f k t312 t315).bind fun t318 => (if t318 = true then ((contangolaw51_goes.f k).bind fun t319 => (some t319)) else (some false))) = some r := H
 have A12 := Aside0.mk A120
 clear A120
 replace H := Option.bind_eq_some_iff.mp H
 obtain ⟨t318, A130, H⟩ := H
 replace H : (if t318 = true then ((contangolaw51_goes.f k).bind fun t319 => (some t319)) else (some false)) = some r := H
 have A13 := Aside0.mk A130
 clear A130
 by_cases c14 : t318 = true
 rotate_left
 · replace c14 := Bool.eq_false_iff.mpr c14
   subst c14
   have H1 : (some false) = some r := by rw [if_neg (show ¬ (false = true) by decide)] at H; exact H
   clear H
   have H := H1
   clear H1
   exact absurd (H.trans (congrArg some HRT.out)) (by first | simp [] | (simp only []; (repeat' split) <;> simp))
 subst c14
 have H1 : ((contangolaw51_goes.f k).bind fun t319 => (some t319)) = some r := by rw [if_pos rfl] at H; exact H
 clear H
 have H := H1
 clear H1
 replace H := Option.bind_eq_some_iff.mp H
 obtain ⟨t319, A150, H⟩ := H
 replace H : (some t319) = some r := H
 have A15 := Aside0.mk A150
 clear A150
 obtain rfl := Option.some.inj H
 go_enter Try.func7, Try.ntmps7
 try go_wp2_with (first | ((with_reducible refine gate_dst (N := 3) rfl ?_); refine box_event ?hg (N := 3) ?hd (cs := #[.string a0_0, .int .i64 a0_1, .int .i64 a0_2, .int .i64 a0_3, .int .i64 a0_4, .int .i64 a0_5, .bool a0_6]) (t := 23) ?hr ?_; (case hd => rfl); (case hg => rfl); (case hr => first | (go_simp; done) | (go_simp; rfl)); intro gb299 hg w16 hbox hb; have n0_ := Aside0.mk (below_step (bz0 HB.out) hb); have n1_ := Aside0.mk (hbox); have n2_ := Aside0.mk ((by rw [hg]; exact (below_size (bz0 HB.out)) : w.heap.size ≤ gb299)); have n3_ := Aside0.mk ((by rw [hg]; exact (below_size (bz0 HB.out)) : w.heap.size ≤ gb299)); clear HB; have HB := n0_; have BK299 := n1_; have GW299 := n2_; have GE299 := n3_; clear n0_ n1_ n2_ n3_; clear hb hbox hg) | ((with_reducible refine gate_dst (N := 5) rfl ?_); refine box_event ?hg (N := 5) ?hd (cs := #[.string a2_0, .int .i64 a2_1, .int .i64 a2_2, .int .i64 a2_3, .int .i64 a2_4, .int .i64 a2_5]) (t := 29) ?hr ?_; (case hd => rfl); (case hg => rfl); (case hr => first | (go_simp; done) | (go_simp; rfl)); intro gb300 hg w17 hbox hb; have n0_ := Aside0.mk (blk_below (g := gb299) (o := .cells #[.string a0_0, .int .i64 a0_1, .int .i64 a0_2, .int .i64 a0_3, .int .i64 a0_4, .int .i64 a0_5, .bool a0_6] 23 (0, 0)) (bk_ BK299.out) hb); have n1_ := Aside0.mk (below_step (bz1 HB.out GE299.out) hb); have n2_ := Aside0.mk (hbox); have n3_ := Aside0.mk ((by rw [hg]; exact (below_size (bz1 HB.out GE299.out)) : w.heap.size ≤ gb300)); have n4_ := Aside0.mk ((by rw [hg]; exact (below_size (bz1 HB.out GE299.out)) : w.heap.size ≤ gb300)); have n5_ := Aside0.mk ((by rw [hg]; exact Nat.ne_of_lt (blk_lt (g := gb299) (o := .cells #[.string a0_0, .int .i64 a0_1, .int .i64 a0_2, .int .i64 a0_3, .int .i64 a0_4, .int .i64 a0_5, .bool a0_6] 23 (0, 0)) (bk_ BK299.out)) : gb299 ≠ gb300)); have n6_ := Aside0.mk ((by rw [hg]; exact Nat.ne_of_gt (blk_lt (g := gb299) (o := .cells #[.string a0_0, .int .i64 a0_1, .int .i64 a0_2, .int .i64 a0_3, .int .i64 a0_4, .int .i64 a0_5, .bool a0_6] 23 (0, 0)) (bk_ BK299.out)) : gb300 ≠ gb299)); clear BK299; clear HB; have BK299 := n0_; have HB := n1_; have BK300 := n2_; have GW300 := n3_; have GE300 := n4_; have NB299_300 := n5_; have NB300_299 := n6_; clear n0_ n1_ n2_ n3_ n4_ n5_ n6_; clear hb hbox hg) | ((with_reducible refine gate_callee (f := 14) rfl ?_); refine goesL_ (some 12) rfl rfl Try.func14 (by kernel_rfl) rfl #[.slice A1 l1.length c1] rfl pm_ ?_; (with_reducible refine (contangolaw51_few.calls _ _ l1 true _ ?side1 ?side2 A4.out).mono ?_); (case side1 => repeat (first | exact (Kd.C_below HR1.out HB.out) | (with_reducible refine Kd.C_alloc ?_ _) | (with_reducible refine Kd.C_drewN ?_ _) | (with_reducible refine Kd.C_drew ?_))); (case side2 => exact HC1.out); rintro e w' ⟨rfl, ⟨nd, rfl⟩⟩; refine ⟨_, rfl, ?_⟩; have hnb18 := NB299_300.out; have hnc18 := NB300_299.out; have hcz19_0 : w17.cell? ⟨gb299, 0, none⟩ = some (.string a0_0) := (blk_cell BK299.out 0).trans rfl; have hcz19_1 : w17.cell? ⟨gb299, 1, none⟩ = some (.int .i64 a0_1) := (blk_cell BK299.out 1).trans rfl; have hcz19_2 : w17.cell? ⟨gb299, 2, none⟩ = some (.int .i64 a0_2) := (blk_cell BK299.out 2).trans rfl; have hcz19_3 : w17.cell? ⟨gb299, 3, none⟩ = some (.int .i64 a0_3) := (blk_cell BK299.out 3).trans rfl; have hcz19_4 : w17.cell? ⟨gb299, 4, none⟩ = some (.int .i64 a0_4) := (blk_cell BK299.out 4).trans rfl; have hcz19_5 : w17.cell? ⟨gb299, 5, none⟩ = some (.int .i64 a0_5) := (blk_cell BK299.out 5).trans rfl; have hcz19_6 : w17.cell? ⟨gb299, 6, none⟩ = some (.bool a0_6) := (blk_cell BK299.out 6).trans rfl; have hfz19_0 := blk_frozen BK299.out 0; have hfz19_1 := blk_frozen BK299.out 1; have hfz19_2 := blk_frozen BK299.out 2; have hfz19_3 := blk_frozen BK299.out 3; have hfz19_4 := blk_frozen BK299.out 4; have hfz19_5 := blk_frozen BK299.out 5; have hfz19_6 := blk_frozen BK299.out 6; have hcz20_0 : w17.cell? ⟨gb300, 0, none⟩ = some (.string a2_0) := (blk_cell BK300.out 0).trans rfl; have hcz20_1 : w17.cell? ⟨gb300, 1, none⟩ = some (.int .i64 a2_1) := (blk_cell BK300.out 1).trans rfl; have hcz20_2 : w17.cell? ⟨gb300, 2, none⟩ = some (.int .i64 a2_2) := (blk_cell BK300.out 2).trans rfl; have hcz20_3 : w17.cell? ⟨gb300, 3, none⟩ = some (.int .i64 a2_3) := (blk_cell BK300.out 3).trans rfl; have hcz20_4 : w17.cell? ⟨gb300, 4, none⟩ = some (.int .i64 a2_4) := (blk_cell BK300.out 4).trans rfl; have hcz20_5 : w17.cell? ⟨gb300, 5, none⟩ = some (.int .i64 a2_5) := (blk_cell BK300.out 5).trans rfl; have hfz20_0 := blk_frozen BK300.out 0; have hfz20_1 := blk_frozen BK300.out 1; have hfz20_2 := blk_frozen BK300.out 2; have hfz20_3 := blk_frozen BK300.out 3; have hfz20_4 := blk_frozen BK300.out 4; have hfz20_5 := blk_frozen BK300.out 5) | ((with_reducible refine gate_callee (f := 19) rfl ?_); refine goesL_ (some 22) rfl rfl Try.func19 (by kernel_rfl) rfl #[.agg #[.string a0_0, .int .i64 a0_1, .int .i64 a0_2, .int .i64 a0_3, .int .i64 a0_4, .int .i64 a0_5, .bool a0_6], .slice A1 l1.length c1, .agg #[.string a2_0, .int .i64 a2_1, .int .i64 a2_2, .int .i64 a2_3], .int .i64 a2_4] rfl pm_ ?_; (with_reducible refine (expiry_Flows.calls k a0_0 a0_1 a0_2 a0_3 a0_4 a0_5 a0_6 _ _ l1 a2_0 a2_1 a2_2 a2_3 a2_4 t303 t306 _ ?side1 ?side2 A6.out).mono ?_); (case side1 => repeat (first | exact (Kd.C_below HR1.out (bz2 HB.out GE299.out GE300.out)) | (with_reducible refine Kd.C_alloc ?_ _) | (with_reducible refine Kd.C_drewN ?_ _) | (with_reducible refine Kd.C_drew ?_))); (case side2 => exact HC1.out); rintro e w21 ⟨v304, rfl, ho0, hb⟩; refine ⟨_, rfl, ?_⟩; have n0_ := Aside0.mk (Kd.R_lower ho0 (below_size (bz2 HB.out GE299.out GE300.out))); have n1_ := Aside0.mk (blk_below (g := gb299) (o := .cells #[.string a0_0, .int .i64 a0_1, .int .i64 a0_2, .int .i64 a0_3, .int .i64 a0_4, .int .i64 a0_5, .bool a0_6] 23 (0, 0)) (bk_ BK299.out) hb); have n2_ := Aside0.mk (blk_below (g := gb300) (o := .cells #[.string a2_0, .int .i64 a2_1, .int .i64 a2_2, .int .i64 a2_3, .int .i64 a2_4, .int .i64 a2_5] 29 (0, 0)) (bk_ BK300.out) hb); have n3_ := Aside0.mk (below_step (bz2 HB.out GE299.out GE300.out) hb); clear BK299; clear BK300; clear HB; have HO305 := n0_; have BK299 := n1_; have BK300 := n2_; have HB := n3_; clear n0_ n1_ n2_ n3_; (try clear hb); (try clear hb2); (try clear hk); (try clear hi); (try clear ho0); have hcz22_0 : w21.cell? ⟨gb299, 0, none⟩ = some (.string a0_0) := (blk_cell BK299.out 0).trans rfl; have hcz22_1 : w21.cell? ⟨gb299, 1, none⟩ = some (.int .i64 a0_1) := (blk_cell BK299.out 1).trans rfl; have hcz22_2 : w21.cell? ⟨gb299, 2, none⟩ = some (.int .i64 a0_2) := (blk_cell BK299.out 2).trans rfl; have hcz22_3 : w21.cell? ⟨gb299, 3, none⟩ = some (.int .i64 a0_3) := (blk_cell BK299.out 3).trans rfl; have hcz22_4 : w21.cell? ⟨gb299, 4, none⟩ = some (.int .i64 a0_4) := (blk_cell BK299.out 4).trans rfl; have hcz22_5 : w21.cell? ⟨gb299, 5, none⟩ = some (.int .i64 a0_5) := (blk_cell BK299.out 5).trans rfl; have hcz22_6 : w21.cell? ⟨gb299, 6, none⟩ = some (.bool a0_6) := (blk_cell BK299.out 6).trans rfl; have hfz22_0 := blk_frozen BK299.out 0; have hfz22_1 := blk_frozen BK299.out 1; have hfz22_2 := blk_frozen BK299.out 2; have hfz22_3 := blk_frozen BK299.out 3; have hfz22_4 := blk_frozen BK299.out 4; have hfz22_5 := blk_frozen BK299.out 5; have hfz22_6 := blk_frozen BK299.out 6; have hcz23_0 : w21.cell? ⟨gb300, 0, none⟩ = some (.string a2_0) := (blk_cell BK300.out 0).trans rfl; have hcz23_1 : w21.cell? ⟨gb300, 1, none⟩ = some (.int .i64 a2_1) := (blk_cell BK300.out 1).trans rfl; have hcz23_2 : w21.cell? ⟨gb300, 2, none⟩ = some (.int .i64 a2_2) := (blk_cell BK300.out 2).trans rfl; have hcz23_3 : w21.cell? ⟨gb300, 3, none⟩ = some (.int .i64 a2_3) := (blk_cell BK300.out 3).trans rfl; have hcz23_4 : w21.cell? ⟨gb300, 4, none⟩ = some (.int .i64 a2_4) := (blk_cell BK300.out 4).trans rfl; have hcz23_5 : w21.cell? ⟨gb300, 5, none⟩ = some (.int .i64 a2_5) := (blk_cell BK300.out 5).trans rfl; have hfz23_0 := blk_frozen BK300.out 0; have hfz23_1 := blk_frozen BK300.out 1; have hfz23_2 := blk_frozen BK300.out 2; have hfz23_3 := blk_frozen BK300.out 3; have hfz23_4 := blk_frozen BK300.out 4; have hfz23_5 := blk_frozen BK300.out 5) | ((with_reducible refine gate_callee (f := 20) rfl ?_); refine goesL_ (some 32) rfl rfl Try.func20 (by kernel_rfl) rfl #[.agg #[.string a0_0, .int .i64 a0_1, .int .i64 a0_2, .int .i64 a0_3, .int .i64 a0_4, .int .i64 a0_5, .bool a0_6], .slice A1 l1.length c1, .agg #[.string a2_0, .int .i64 a2_1, .int .i64 a2_2, .int .i64 a2_3], .int .i64 a2_4] rfl pm_ ?_; (with_reducible refine (contangoref51_Flows.calls k a0_0 a0_1 a0_2 a0_3 a0_4 a0_5 a0_6 _ _ l1 a2_0 a2_1 a2_2 a2_3 a2_4 t307 t310 _ ?side1 ?side2 A7.out).mono ?_); (case side1 => repeat (first | exact (Kd.C_below HR1.out HB.out) | (with_reducible refine Kd.C_alloc ?_ _) | (with_reducible refine Kd.C_drewN ?_ _) | (with_reducible refine Kd.C_drew ?_))); (case side2 => exact HC1.out); rintro e w24 ⟨v308, rfl, ho0, hb⟩; refine ⟨_, rfl, ?_⟩; have n0_ := Aside0.mk (Kd.R_elder' (br_ HO305.out) (Kd.R_base ho0) hb); have n1_ := Aside0.mk (Kd.R_lower (Kd.R_new' ho0 (Kd.R_lt (br_ HO305.out))) (below_size (bz2 HB.out GE299.out GE300.out))); have n2_ := Aside0.mk (blk_below (g := gb299) (o := .cells #[.string a0_0, .int .i64 a0_1, .int .i64 a0_2, .int .i64 a0_3, .int .i64 a0_4, .int .i64 a0_5, .bool a0_6] 23 (0, 0)) (bk_ BK299.out) hb); have n3_ := Aside0.mk (blk_below (g := gb300) (o := .cells #[.string a2_0, .int .i64 a2_1, .int .i64 a2_2, .int .i64 a2_3, .int .i64 a2_4, .int .i64 a2_5] 29 (0, 0)) (bk_ BK300.out) hb); have n4_ := Aside0.mk (below_step (bz2 HB.out GE299.out GE300.out) hb); clear HO305; clear BK299; clear BK300; clear HB; have HO305 := n0_; have HO309 := n1_; have BK299 := n2_; have BK300 := n3_; have HB := n4_; clear n0_ n1_ n2_ n3_ n4_; (try clear hb); (try clear hb2); (try clear hk); (try clear hi); (try clear ho0)))
 have n0_ := Aside0.mk (Kd.R_drew HO305.out)
 have n1_ := Aside0.mk (Kd.R_drew HO309.out)
 have n2_ := Aside0.mk (blk_drew BK299.out)
 have n3_ := Aside0.mk (blk_drew BK300.out)
 have n4_ := Aside0.mk (below_drew1 HB.out)
 clear HO305
 clear HO309
 clear BK299
 clear BK300
 clear HB
 have HO305 := n0_
 have HO309 := n1_
 have BK299 := n2_
 have BK300 := n3_
 have HB := n4_
 clear n0_ n1_ n2_ n3_ n4_
 obtain ⟨Ao26, co26, eo26⟩ := Kd.R_slice HO305.out
 (first | subst eo26 | (injection eo26 with f1_ f2_ f3_; have f4_ := f1_.symm; have f5_ := f3_.symm; clear f1_ f2_ f3_; subst f4_; subst f5_))
 obtain ⟨Ao27, co27, eo27⟩ := Kd.R_slice HO309.out
 (first | subst eo27 | (injection eo27 with f1_ f2_ f3_; have f4_ := f1_.symm; have f5_ := f3_.symm; clear f1_ f2_ f3_; subst f4_; subst f5_))
 refine start_ (n := 23) (S := fun w' => w'.cell? ⟨gb300, 0, none⟩ = some (.string a2_0) ∧ w'.cell? ⟨gb300, 1, none⟩ = some (.int .i64 a2_1) ∧ w'.cell? ⟨gb300, 2, none⟩ = some (.int .i64 a2_2) ∧ w'.cell? ⟨gb300, 3, none⟩ = some (.int .i64 a2_3) ∧ w'.cell? ⟨gb300, 4, none⟩ = some (.int .i64 a2_4) ∧ w'.cell? ⟨gb300, 5, none⟩ = some (.int .i64 a2_5)) (ds := []) (tf 0 23) (by kernel_rfl) rfl rfl ⟨(blk_cell BK300.out 0).trans rfl, (blk_cell BK300.out 1).trans rfl, (blk_cell BK300.out 2).trans rfl, (blk_cell BK300.out 3).trans rfl, (blk_cell BK300.out 4).trans rfl, (blk_cell BK300.out 5).trans rfl⟩ (fun hHeld => ?_); refine with_tabW contangolaw51_ExpiryFlows.tab5 contangolaw51_ExpiryFlows.bits5 (fun HT_ HW_ => ?_)
 generalize w24.drew = w25 at HO305 HO309 BK299 BK300 HB hHeld ⊢
 refine pv_ 0 35 (tf 1 22) HT_ ?_
 refine pv_ 1 36 (tf 2 21) HT_ ?_
 refine one_ (i := 2) (N := some 37) (tf 3 20) rfl rfl (one_of HT_.out (by kernel_rfl)) (by decide) (fun K hK => ?_)
 refine goes_ Try.func21 (by kernel_rfl) rfl #[.slice Ao26 t303.length co26, .slice Ao27 t307.length co27] (by rfl) rfl rfl pm_ ?_
 with_reducible refine (contangoref51_Same.calls k _ _ t303 _ _ t307 true _ ?side1 ?side2 ?side3 ?side4 A8.out).mono ?_
 (case side1 => repeat (first | exact (Kd.R_reads' HO305.out).2.2 | (with_reducible refine Kd.C_alloc ?_ _) | (with_reducible refine Kd.C_drewN ?_ _) | (with_reducible refine Kd.C_drew ?_)))
 (case side2 => exact (Kd.R_reads' HO305.out).2.1)
 (case side3 => repeat (first | exact (Kd.R_reads' HO309.out).2.2 | (with_reducible refine Kd.C_alloc ?_ _) | (with_reducible refine Kd.C_drewN ?_ _) | (with_reducible refine Kd.C_drew ?_)))
 (case side4 => exact (Kd.R_reads' HO309.out).2.1)
 rintro e w' ⟨rfl, ⟨nd, rfl⟩⟩
 refine ⟨_, rfl, ?_⟩
 refine hK.out _ _ ⟨(blk_cell BK300.out 0).trans rfl, (blk_cell BK300.out 1).trans rfl, (blk_cell BK300.out 2).trans rfl, (blk_cell BK300.out 3).trans rfl, (blk_cell BK300.out 4).trans rfl, (blk_cell BK300.out 5).trans rfl⟩ (fun hHeld => ?_)
 clear hK K
 refine norm_ (a' := ?_) ?_ ?_
 rotate_left
 · show Act.put _ (some 37) _ = _
   simp only [Act.put, List.setIfInBounds_toArray, List.set_cons_zero, List.set_cons_succ, i64_w, i32_w]
   rfl
 refine pv_ 3 38 (tf 4 19) HT_ ?_
 refine pv_ 4 39 (tf 5 18) HT_ ?_
 refine pv_ 5 40 (tf 6 17) HT_ ?_
 refine pv_ 6 41 (tf 7 16) HT_ ?_
 refine pv_ 7 42 (tf 8 15) HT_ ?_
 refine pv_ 8 43 (tf 9 14) HT_ ?_
 refine pv_ 9 44 (tf 10 13) HT_ ?_
 refine pv_ 10 45 (tf 11 12) HT_ ?_
 refine pv_ 13 48 #[true, true, true, true, true, true, true, true, true, true, true, false, false, true, false, false, false, false, false, false, false, false, false] HT_ ?_
 refine pv_ 14 49 #[true, true, true, true, true, true, true, true, true, true, true, false, false, true, true, false, false, false, false, false, false, false, false] HT_ ?_
 refine take_ (i := 11) (N := some 46) (v := ?_) (a' := ?_) #[true, true, true, true, true, true, true, true, true, true, true, true, false, true, true, false, false, false, false, false, false, false, false] rfl rfl (take_ofW HT_.out HW_.out (by kernel_rfl)) (fun _ _ _ h => h) (Or.inl ⟨by rfl, ?_⟩) hHeld ?_ ?_
 rotate_left
 · rintro w' ⟨s0, s1, s2, s3, s4, s5⟩
   go_simp
   with_reducible rfl
 rotate_left
 · exact ap_
 refine take_ (i := 15) (N := some 50) (v := ?_) (a' := ?_) #[true, true, true, true, true, true, true, true, true, true, true, true, false, true, true, true, false, false, false, false, false, false, false] rfl rfl (take_ofW HT_.out HW_.out (by kernel_rfl)) (fun _ _ _ h => h) (Or.inl ⟨by rfl, ?_⟩) hHeld ?_ ?_
 rotate_left
 · rintro w' ⟨s0, s1, s2, s3, s4, s5⟩
   go_simp
   with_reducible rfl
 rotate_left
 · exact ap_
 refine one_ (i := 12) (N := some 47) (tf 16 7) rfl rfl (one_of HT_.out (by kernel_rfl)) (by decide) (fun K hK => ?_)
 refine goes_ Try.func23 (by kernel_rfl) rfl #[.slice A1 l1.length c1, .int .i64 a2_5] (by rfl) rfl rfl pm_ ?_
 with_reducible refine (expiry_Drop.calls k _ _ l1 a2_5 t312 _ ?side1 ?side2 A11.out).mono ?_
 (case side1 => repeat (first | exact (Kd.C_below HR1.out (bz2 HB.out GE299.out GE300.out)) | (with_reducible refine Kd.C_alloc ?_ _) | (with_reducible refine Kd.C_drewN ?_ _) | (with_reducible refine Kd.C_drew ?_)))
 (case side2 => exact HC1.out)
 rintro e w28 ⟨v313, rfl, ho0, hb⟩
 refine ⟨_, rfl, ?_⟩
 have n0_ := Aside0.mk (Kd.R_below (br_ HO305.out) hb)
 have n1_ := Aside0.mk (Kd.R_below (br_ HO309.out) hb)
 have n2_ := Aside0.mk (Kd.S_lower ho0 (below_size (bz2 HB.out GE299.out GE300.out)))
 have n3_ := Aside0.mk (blk_below (g := gb299) (o := .cells #[.string a0_0, .int .i64 a0_1, .int .i64 a0_2, .int .i64 a0_3, .int .i64 a0_4, .int .i64 a0_5, .bool a0_6] 23 (0, 0)) (bk_ BK299.out) hb)
 have n4_ := Aside0.mk (blk_below (g := gb300) (o := .cells #[.string a2_0, .int .i64 a2_1, .int .i64 a2_2, .int .i64 a2_3, .int .i64 a2_4, .int .i64 a2_5] 29 (0, 0)) (bk_ BK300.out) hb)
 have n5_ := Aside0.mk (below_step (bz2 HB.out GE299.out GE300.out) hb)
 clear HO305
 clear HO309
 clear BK299
 clear BK300
 clear HB
 have HO305 := n0_
 have HO309 := n1_
 have HO314 := n2_
 have BK299 := n3_
 have BK300 := n4_
 have HB := n5_
 clear n0_ n1_ n2_ n3_ n4_ n5_
 (try clear hb)
 (try clear hb2)
 (try clear hk)
 (try clear hi)
 (try clear ho0)
 refine hK.out _ _ ⟨(blk_cell BK300.out 0).trans rfl, (blk_cell BK300.out 1).trans rfl, (blk_cell BK300.out 2).trans rfl, (blk_cell BK300.out 3).trans rfl, (blk_cell BK300.out 4).trans rfl, (blk_cell BK300.out 5).trans rfl⟩ (fun hHeld => ?_)
 clear hK K
 refine norm_ (a' := ?_) ?_ ?_
 rotate_left
 · show Act.put _ (some 47) _ = _
   simp only [Act.put, List.setIfInBounds_toArray, List.set_cons_zero, List.set_cons_succ, i64_w, i32_w]
   rfl
 refine one_ (i := 16) (N := some 51) (tf 17 6) rfl rfl (one_of HT_.out (by kernel_rfl)) (by decide) (fun K hK => ?_)
 refine goes_ Try.func24 (by kernel_rfl) rfl #[.slice A1 l1.length c1, .int .i64 a2_5] (by rfl) rfl rfl pm_ ?_
 with_reducible refine (contangoref51_Drop.calls k _ _ l1 a2_5 t315 _ ?side1 ?side2 A12.out).mono ?_
 (case side1 => repeat (first | exact (Kd.C_below HR1.out HB.out) | (with_reducible refine Kd.C_alloc ?_ _) | (with_reducible refine Kd.C_drewN ?_ _) | (with_reducible refine Kd.C_drew ?_)))
 (case side2 => exact HC1.out)
 rintro e w29 ⟨v316, rfl, ho0, hb⟩
 refine ⟨_, rfl, ?_⟩
 have n0_ := Aside0.mk (Kd.R_below (br_ HO305.out) hb)
 have n1_ := Aside0.mk (Kd.R_below (br_ HO309.out) hb)
 have n2_ := Aside0.mk (Kd.S_elder' (by (with_reducible repeat (first | apply Kd.S_alloc | apply Kd.S_drewN | apply Kd.S_drew)); exact HO314.out) (Kd.S_base ho0) hb)
 have n3_ := Aside0.mk (Kd.S_lower (Kd.S_new' ho0 (Kd.S_lt (by (with_reducible repeat (first | apply Kd.S_alloc | apply Kd.S_drewN | apply Kd.S_drew)); exact HO314.out))) (below_size (bz2 HB.out GE299.out GE300.out)))
 have n4_ := Aside0.mk (blk_below (g := gb299) (o := .cells #[.string a0_0, .int .i64 a0_1, .int .i64 a0_2, .int .i64 a0_3, .int .i64 a0_4, .int .i64 a0_5, .bool a0_6] 23 (0, 0)) (bk_ BK299.out) hb)
 have n5_ := Aside0.mk (blk_below (g := gb300) (o := .cells #[.string a2_0, .int .i64 a2_1, .int .i64 a2_2, .int .i64 a2_3, .int .i64 a2_4, .int .i64 a2_5] 29 (0, 0)) (bk_ BK300.out) hb)
 have n6_ := Aside0.mk (below_step (bz2 HB.out GE299.out GE300.out) hb)
 clear HO305
 clear HO309
 clear HO314
 clear BK299
 clear BK300
 clear HB
 have HO305 := n0_
 have HO309 := n1_
 have HO314 := n2_
 have HO317 := n3_
 have BK299 := n4_
 have BK300 := n5_
 have HB := n6_
 clear n0_ n1_ n2_ n3_ n4_ n5_ n6_
 (try clear hb)
 (try clear hb2)
 (try clear hk)
 (try clear hi)
 (try clear ho0)
 obtain ⟨Ao30, co30, eo30⟩ := Kd.S_slice HO314.out
 (first | subst eo30 | (injection eo30 with f1_ f2_ f3_; have f4_ := f1_.symm; have f5_ := f3_.symm; clear f1_ f2_ f3_; subst f4_; subst f5_))
 obtain ⟨Ao31, co31, eo31⟩ := Kd.S_slice HO317.out
 (first | subst eo31 | (injection eo31 with f1_ f2_ f3_; have f4_ := f1_.symm; have f5_ := f3_.symm; clear f1_ f2_ f3_; subst f4_; subst f5_))
 refine hK.out _ _ ⟨(blk_cell BK300.out 0).trans rfl, (blk_cell BK300.out 1).trans rfl, (blk_cell BK300.out 2).trans rfl, (blk_cell BK300.out 3).trans rfl, (blk_cell BK300.out 4).trans rfl, (blk_cell BK300.out 5).trans rfl⟩ (fun hHeld => ?_)
 clear hK K
 refine norm_ (a' := ?_) ?_ ?_
 rotate_left
 · show Act.put _ (some 51) _ = _
   simp only [Act.put, List.setIfInBounds_toArray, List.set_cons_zero, List.set_cons_succ, i64_w, i32_w]
   rfl
 refine one_ (i := 17) (N := some 52) (tf 18 5) rfl rfl (one_of HT_.out (by kernel_rfl)) (by decide) (fun K hK => ?_)
 refine goes_ Try.func22 (by kernel_rfl) rfl #[.slice Ao30 t312.length co30, .slice Ao31 t315.length co31] (by rfl) rfl rfl pm_ ?_
 with_reducible refine (contangoref51_Holdings.calls k _ _ t312 _ _ t315 true _ ?side1 ?side2 ?side3 ?side4 A13.out).mono ?_
 (case side1 => repeat (first | exact (Kd.S_reads' HO314.out).2.2 | (with_reducible refine Kd.C_alloc ?_ _) | (with_reducible refine Kd.C_drewN ?_ _) | (with_reducible refine Kd.C_drew ?_)))
 (case side2 => exact (Kd.S_reads' HO314.out).2.1)
 (case side3 => repeat (first | exact (Kd.S_reads' HO317.out).2.2 | (with_reducible refine Kd.C_alloc ?_ _) | (with_reducible refine Kd.C_drewN ?_ _) | (with_reducible refine Kd.C_drew ?_)))
 (case side4 => exact (Kd.S_reads' HO317.out).2.1)
 rintro e w' ⟨rfl, ⟨nd, rfl⟩⟩
 refine ⟨_, rfl, ?_⟩
 refine hK.out _ _ ⟨(blk_cell BK300.out 0).trans rfl, (blk_cell BK300.out 1).trans rfl, (blk_cell BK300.out 2).trans rfl, (blk_cell BK300.out 3).trans rfl, (blk_cell BK300.out 4).trans rfl, (blk_cell BK300.out 5).trans rfl⟩ (fun hHeld => ?_)
 clear hK K
 refine norm_ (a' := ?_) ?_ ?_
 rotate_left
 · show Act.put _ (some 52) _ = _
   simp only [Act.put, List.setIfInBounds_toArray, List.set_cons_zero, List.set_cons_succ, i64_w, i32_w]
   rfl
 refine pv_ 18 53 (tf 19 4) HT_ ?_
 refine pv_ 19 54 (tf 20 3) HT_ ?_
 refine one_ (i := 20) (N := some 55) (tf 21 2) rfl rfl (one_of HT_.out (by kernel_rfl)) (by decide) (fun K hK => ?_)
 refine goes_ Try.func10 (by kernel_rfl) rfl #[] (by rfl) rfl rfl pm_ ?_
 with_reducible refine (contangolaw51_goes.calls k  t319 _ A15.out).mono ?_
 rintro e w32 ⟨rfl, hb⟩
 refine ⟨_, rfl, ?_⟩
 have n0_ := Aside0.mk (Kd.R_below (br_ HO305.out) hb)
 have n1_ := Aside0.mk (Kd.R_below (br_ HO309.out) hb)
 have n2_ := Aside0.mk (Kd.S_below (by (with_reducible repeat (first | apply Kd.S_alloc | apply Kd.S_drewN | apply Kd.S_drew)); exact HO314.out) hb)
 have n3_ := Aside0.mk (Kd.S_below (by (with_reducible repeat (first | apply Kd.S_alloc | apply Kd.S_drewN | apply Kd.S_drew)); exact HO317.out) hb)
 have n4_ := Aside0.mk (blk_below (g := gb299) (o := .cells #[.string a0_0, .int .i64 a0_1, .int .i64 a0_2, .int .i64 a0_3, .int .i64 a0_4, .int .i64 a0_5, .bool a0_6] 23 (0, 0)) (bk_ BK299.out) hb)
 have n5_ := Aside0.mk (blk_below (g := gb300) (o := .cells #[.string a2_0, .int .i64 a2_1, .int .i64 a2_2, .int .i64 a2_3, .int .i64 a2_4, .int .i64 a2_5] 29 (0, 0)) (bk_ BK300.out) hb)
 have n6_ := Aside0.mk (below_step (bz2 HB.out GE299.out GE300.out) hb)
 clear HO305
 clear HO309
 clear HO314
 clear HO317
 clear BK299
 clear BK300
 clear HB
 have HO305 := n0_
 have HO309 := n1_
 have HO314 := n2_
 have HO317 := n3_
 have BK299 := n4_
 have BK300 := n5_
 have HB := n6_
 clear n0_ n1_ n2_ n3_ n4_ n5_ n6_
 (try clear hb)
 (try clear hb2)
 (try clear hk)
 (try clear hi)
 refine hK.out _ _ ⟨(blk_cell BK300.out 0).trans rfl, (blk_cell BK300.out 1).trans rfl, (blk_cell BK300.out 2).trans rfl, (blk_cell BK300.out 3).trans rfl, (blk_cell BK300.out 4).trans rfl, (blk_cell BK300.out 5).trans rfl⟩ (fun hHeld => ?_)
 clear hK K
 refine norm_ (a' := ?_) ?_ ?_
 rotate_left
 · show Act.put _ (some 55) _ = _
   simp only [Act.put, List.setIfInBounds_toArray, List.set_cons_zero, List.set_cons_succ, i64_w, i32_w]
   rfl
 refine pv_ 21 56 (tf 22 1) HT_ ?_
 refine pv_ 22 6 (tf 23 0) HT_ ?_
 refine done_ (done_of HT_.out (by kernel_rfl)) ?_
 try go_wp2
 go_ret
 exact ⟨by first | rfl | (simp [errW_none, errW_some] <;> rfl) | (simp [*, errW_none, errW_some] <;> rfl), bz2 HB.out GE299.out GE300.out⟩

end Go.Proofs.Ytoejllkjhaeeeaa.PExpiryFlows
