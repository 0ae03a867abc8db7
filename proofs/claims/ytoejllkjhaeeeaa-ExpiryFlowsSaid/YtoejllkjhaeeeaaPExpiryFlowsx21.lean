import Derived.Test.YtoejllkjhaeeeaaPExpiryFlowsx0
import Derived.Test.YtoejllkjhaeeeaaPExpiryFlowsx14
import Derived.Test.YtoejllkjhaeeeaaPExpiryFlowsx17
import Derived.Test.YtoejllkjhaeeeaaPExpiryFlowsx18
import Derived.Test.YtoejllkjhaeeeaaPExpiryFlowsx19
import Derived.Test.YtoejllkjhaeeeaaPExpiryFlowsx20
namespace Go.Proofs.Ytoejllkjhaeeeaa.PExpiryFlows
open Go.RowKit Go.Proofs.YtoejllkjhaeeeaaW.PrintWords Go.Proofs.YtoejllkjhaeeeaaW.PrintLast Go.Proofs.YtoejllkjhaeeeaaW.PrintMore
attribute [local go_sem] max2_int min2_int max_two min_two max_three min_three max_four min_four Go.Proofs.YtoejllkjhaeeeaaHand.run_leq_str Go.Proofs.YtoejllkjhaeeeaaHand.run_gtr_str Go.Proofs.YtoejllkjhaeeeaaHand.run_geq_str   -- for this text's walks alone
set_option linter.unusedVariables false
set_option linter.unusedSimpArgs false

/-! ### contangoref51_Flows: function 20 -/
mutual
def contangoref51_Flows.l0 : Nat → List (S47) → Int → List Int → List ByteArray → Int → ByteArray → Int → Int → Int → Int → Int → Bool → ByteArray → Int → Int → Int → Option ((List (S58)) × Int)
  | 0, _, _, _, _, _, _, _, _, _, _, _, _, _, _, _, _ => none
  | k + 1, x1, x3, x10, x11, x12, x232000, x232001, x232002, x232003, x232004, x232005, x232006, x233000, x233001, x233002, x233003 => if x12 < (x1.length : Int) then (if 0 ≤ x12 then ((contangoref15_Check.f k ((rd_T47 x1 x12).f1)).bind fun t234 => (if t234 = 0 then ((contangoref15_Find.f k ((rd_T47 x1 x12).f1) x233000 x233001 x233002 x233003).bind fun bt236 => ((contangoref51_Cash.f k x232000 x232001 x232002 x232003 x232004 x232005 x232006 x233000 x233001 x233002 x233003 bt236.1 bt236.2.1 bt236.2.2.1 bt236.2.2.2.1 bt236.2.2.2.2.1 bt236.2.2.2.2.2 x3).bind fun bt242 => (if bt242.2 = 0 then (if x10.length < 17592186044416 then ((contangoref51_with.f k x11 ((rd_T47 x1 x12).f0.f0)).bind fun t248 => (contangoref51_Flows.l0 k x1 x3 (x10 ++ [bt242.1]) t248 (wrap64 (x12 + 1)) x232000 x232001 x232002 x232003 x232004 x232005 x232006 x233000 x233001 x233002 x233003)) else (none)) else (some (([] : List (S58)), bt242.2))))) else (some (([] : List (S58)), t234)))) else (none)) else (contangoref51_Flows.l1 k x1 x10 x11 ([] : List (S58)) 0 x232000 x232001 x232002 x232003 x232004 x232005 x232006)
def contangoref51_Flows.l1 : Nat → List (S47) → List Int → List ByteArray → List (S58) → Int → ByteArray → Int → Int → Int → Int → Int → Bool → Option ((List (S58)) × Int)
  | 0, _, _, _, _, _, _, _, _, _, _, _, _ => none
  | k + 1, x1, x10, x11, x16, x17, x232000, x232001, x232002, x232003, x232004, x232005, x232006 => if x17 < (x11.length : Int) then (contangoref51_Flows.l2 k x1 x10 x11 x16 x17 ([] : List Int) 0 x232000 x232001 x232002 x232003 x232004 x232005 x232006) else (some (x16, 0))
def contangoref51_Flows.l2 : Nat → List (S47) → List Int → List ByteArray → List (S58) → Int → List Int → Int → ByteArray → Int → Int → Int → Int → Int → Bool → Option ((List (S58)) × Int)
  | 0, _, _, _, _, _, _, _, _, _, _, _, _, _, _ => none
  | k + 1, x1, x10, x11, x16, x17, x18, x19, x232000, x232001, x232002, x232003, x232004, x232005, x232006 => if x19 < (x1.length : Int) then (if 0 ≤ x19 then (if 0 ≤ x17 then (if x17 < (x11.length : Int) then (if ((rd_T47 x1 x19).f0.f0).toList = (rdOf ByteArray.empty x11 x17).toList then (if x19 < (x10.length : Int) then (if x18.length < 17592186044416 then (contangoref51_Flows.l2 k x1 x10 x11 x16 x17 (x18 ++ [rd x10 x19]) (wrap64 (x19 + 1)) x232000 x232001 x232002 x232003 x232004 x232005 x232006) else (none)) else (none)) else (contangoref51_Flows.l2 k x1 x10 x11 x16 x17 x18 (wrap64 (x19 + 1)) x232000 x232001 x232002 x232003 x232004 x232005 x232006)) else (none)) else (none)) else (none)) else ((contangoref01_Sum.f k x18).bind fun bt257 => (if bt257.2 = 0 then (if bt257.1 = 0 then (contangoref51_Flows.l1 k x1 x10 x11 x16 (wrap64 (x17 + 1)) x232000 x232001 x232002 x232003 x232004 x232005 x232006) else (if 0 ≤ x17 then (if x17 < (x11.length : Int) then (if x16.length < 3518437208883 then (contangoref51_Flows.l1 k x1 x10 x11 (x16 ++ [(⟨rdOf ByteArray.empty x11 x17, x232001, bt257.1, 3⟩ : S58)]) (wrap64 (x17 + 1)) x232000 x232001 x232002 x232003 x232004 x232005 x232006) else (none)) else (none)) else (none))) else (some (([] : List (S58)), 3))))
end
def contangoref51_Flows.f (k : Nat) (a0_0 : ByteArray) (a0_1 : Int) (a0_2 : Int) (a0_3 : Int) (a0_4 : Int) (a0_5 : Int) (a0_6 : Bool) (l1 : List (S47)) (a2_0 : ByteArray) (a2_1 : Int) (a2_2 : Int) (a2_3 : Int) (a3 : Int) : Option ((List (S58)) × Int) := if (l1.length : Int) > 1024 then (some (([] : List (S58)), 8)) else (contangoref51_Flows.l0 k l1 a3 ([] : List Int) ([] : List ByteArray) 0 a0_0 a0_1 a0_2 a0_3 a0_4 a0_5 a0_6 a2_0 a2_1 a2_2 a2_3)
theorem contangoref51_Flows.mono_l : ∀ k, (∀ y0 y1 y2 y3 y4 y5 y6 y7 y8 y9 y10 y11 y12 y13 y14 y15, LeO (contangoref51_Flows.l0 k y0 y1 y2 y3 y4 y5 y6 y7 y8 y9 y10 y11 y12 y13 y14 y15) (contangoref51_Flows.l0 (k + 1) y0 y1 y2 y3 y4 y5 y6 y7 y8 y9 y10 y11 y12 y13 y14 y15)) ∧ (∀ y0 y1 y2 y3 y4 y5 y6 y7 y8 y9 y10 y11, LeO (contangoref51_Flows.l1 k y0 y1 y2 y3 y4 y5 y6 y7 y8 y9 y10 y11) (contangoref51_Flows.l1 (k + 1) y0 y1 y2 y3 y4 y5 y6 y7 y8 y9 y10 y11)) ∧ (∀ y0 y1 y2 y3 y4 y5 y6 y7 y8 y9 y10 y11 y12 y13, LeO (contangoref51_Flows.l2 k y0 y1 y2 y3 y4 y5 y6 y7 y8 y9 y10 y11 y12 y13) (contangoref51_Flows.l2 (k + 1) y0 y1 y2 y3 y4 y5 y6 y7 y8 y9 y10 y11 y12 y13))
  | 0 => ⟨fun _ _ _ _ _ _ _ _ _ _ _ _ _ _ _ _ r h => by simp [contangoref51_Flows.l0] at h, fun _ _ _ _ _ _ _ _ _ _ _ _ r h => by simp [contangoref51_Flows.l1] at h, fun _ _ _ _ _ _ _ _ _ _ _ _ _ _ r h => by simp [contangoref51_Flows.l2] at h⟩
  | k + 1 => by
    obtain ⟨ih0, ih1, ih2⟩ := contangoref51_Flows.mono_l k
    refine ⟨?_, ?_, ?_⟩
    · intro y0 y1 y2 y3 y4 y5 y6 y7 y8 y9 y10 y11 y12 y13 y14 y15
      unfold contangoref51_Flows.l0
      repeat' first
      | (with_reducible exact ih0 _ _ _ _ _ _ _ _ _ _ _ _ _ _ _ _)
      | (with_reducible exact ih1 _ _ _ _ _ _ _ _ _ _ _ _)
      | (with_reducible exact ih2 _ _ _ _ _ _ _ _ _ _ _ _ _ _)
      | (with_reducible exact contangoref01_Sum.mono _ _)
      | (with_reducible exact contangoref15_Check.mono _ _)
      | (with_reducible exact contangoref15_Find.mono _ _ _ _ _ _)
      | (with_reducible exact contangoref51_Cash.mono _ _ _ _ _ _ _ _ _ _ _ _ _ _ _ _ _ _ _)
      | (with_reducible exact contangoref51_with.mono _ _ _)
      | (with_reducible exact LeO.refl _)
      | (with_reducible exact LeO.none _)
      | (with_reducible refine LeO.ite ?_ ?_)
      | (with_reducible refine LeO.bind ?_ (fun _ => ?_))
      | exact LeO.none _
      | refine LeO.ite ?_ ?_
      | refine LeO.bind ?_ (fun _ => ?_)
    · intro y0 y1 y2 y3 y4 y5 y6 y7 y8 y9 y10 y11
      unfold contangoref51_Flows.l1
      repeat' first
      | (with_reducible exact ih0 _ _ _ _ _ _ _ _ _ _ _ _ _ _ _ _)
      | (with_reducible exact ih1 _ _ _ _ _ _ _ _ _ _ _ _)
      | (with_reducible exact ih2 _ _ _ _ _ _ _ _ _ _ _ _ _ _)
      | (with_reducible exact contangoref01_Sum.mono _ _)
      | (with_reducible exact contangoref15_Check.mono _ _)
      | (with_reducible exact contangoref15_Find.mono _ _ _ _ _ _)
      | (with_reducible exact contangoref51_Cash.mono _ _ _ _ _ _ _ _ _ _ _ _ _ _ _ _ _ _ _)
      | (with_reducible exact contangoref51_with.mono _ _ _)
      | (with_reducible exact LeO.refl _)
      | (with_reducible exact LeO.none _)
      | (with_reducible refine LeO.ite ?_ ?_)
      | (with_reducible refine LeO.bind ?_ (fun _ => ?_))
      | exact LeO.none _
      | refine LeO.ite ?_ ?_
      | refine LeO.bind ?_ (fun _ => ?_)
    · intro y0 y1 y2 y3 y4 y5 y6 y7 y8 y9 y10 y11 y12 y13
      unfold contangoref51_Flows.l2
      repeat' first
      | (with_reducible exact ih0 _ _ _ _ _ _ _ _ _ _ _ _ _ _ _ _)
      | (with_reducible exact ih1 _ _ _ _ _ _ _ _ _ _ _ _)
      | (with_reducible exact ih2 _ _ _ _ _ _ _ _ _ _ _ _ _ _)
      | (with_reducible exact contangoref01_Sum.mono _ _)
      | (with_reducible exact contangoref15_Check.mono _ _)
      | (with_reducible exact contangoref15_Find.mono _ _ _ _ _ _)
      | (with_reducible exact contangoref51_Cash.mono _ _ _ _ _ _ _ _ _ _ _ _ _ _ _ _ _ _ _)
      | (with_reducible exact contangoref51_with.mono _ _ _)
      | (with_reducible exact LeO.refl _)
      | (with_reducible exact LeO.none _)
      | (with_reducible refine LeO.ite ?_ ?_)
      | (with_reducible refine LeO.bind ?_ (fun _ => ?_))
      | exact LeO.none _
      | refine LeO.ite ?_ ?_
      | refine LeO.bind ?_ (fun _ => ?_)
theorem contangoref51_Flows.mono : ∀ a0 a1 a2 a3 a4 a5 a6 a7 a8 a9 a10 a11 a12 k, LeO (contangoref51_Flows.f k a0 a1 a2 a3 a4 a5 a6 a7 a8 a9 a10 a11 a12) (contangoref51_Flows.f (k + 1) a0 a1 a2 a3 a4 a5 a6 a7 a8 a9 a10 a11 a12) := by
  intro a0 a1 a2 a3 a4 a5 a6 a7 a8 a9 a10 a11 a12 k
  obtain ⟨ih0, ih1, ih2⟩ := contangoref51_Flows.mono_l k
  unfold contangoref51_Flows.f
  repeat' first
      | (with_reducible exact ih0 _ _ _ _ _ _ _ _ _ _ _ _ _ _ _ _)
      | (with_reducible exact ih1 _ _ _ _ _ _ _ _ _ _ _ _)
      | (with_reducible exact ih2 _ _ _ _ _ _ _ _ _ _ _ _ _ _)
      | (with_reducible exact contangoref01_Sum.mono _ _)
      | (with_reducible exact contangoref15_Check.mono _ _)
      | (with_reducible exact contangoref15_Find.mono _ _ _ _ _ _)
      | (with_reducible exact contangoref51_Cash.mono _ _ _ _ _ _ _ _ _ _ _ _ _ _ _ _ _ _ _)
      | (with_reducible exact contangoref51_with.mono _ _ _)
      | (with_reducible exact LeO.refl _)
      | (with_reducible exact LeO.none _)
      | (with_reducible refine LeO.ite ?_ ?_)
      | (with_reducible refine LeO.bind ?_ (fun _ => ?_))
      | exact LeO.none _
      | refine LeO.ite ?_ ?_
      | refine LeO.bind ?_ (fun _ => ?_)
def contangoref51_Flows.T11 : Bool × List (List Nat × List Nat) := (true, [([], []), ([], []), ([], []), ([], []), ([2, 3], [2, 3]), ([4], [4]), ([5], [5]), ([], []), ([6, 7], [6, 7]), ([], []), ([0, 1, 8, 9, 8], [0, 1, 8, 9]), ([10], [10]), ([11], [11]), ([11], [11]), ([12, 10, 0, 1, 2, 3, 4, 5, 6, 7, 8, 9, 10, 11, 12], [12]), ([13, 14, 0, 1, 2, 3, 4, 5, 6, 7, 8, 9, 10, 11, 12, 13, 14], [13])])
def contangoref51_Flows.B11 : List Nat := [0, 0, 0, 0, 12, 28, 60, 0, 252, 0, 1023, 2047, 4095, 4095, 8191, 32767]
theorem contangoref51_Flows.tab11 : rtab .any (opsOf Try.f20 11) = contangoref51_Flows.T11 := by kernel_rfl
theorem contangoref51_Flows.bits11 : waitsOk contangoref51_Flows.T11.2 contangoref51_Flows.B11 = true := by kernel_rfl
def contangoref51_Flows.T24 : Bool × List (List Nat × List Nat) := (true, [([], []), ([], []), ([0, 1], [0, 1]), ([2], [2]), ([3], [3]), ([4], [4]), ([], []), ([], []), ([6, 7], [6, 7]), ([8], [8]), ([5, 9], [5, 9])])
def contangoref51_Flows.B24 : List Nat := [0, 0, 3, 7, 15, 31, 0, 0, 192, 448, 1023]
theorem contangoref51_Flows.tab24 : rtab .any (opsOf Try.f20 24) = contangoref51_Flows.T24 := by kernel_rfl
theorem contangoref51_Flows.bits24 : waitsOk contangoref51_Flows.T24.2 contangoref51_Flows.B24 = true := by kernel_rfl
def contangoref51_Flows.T30 : Bool × List (List Nat × List Nat) := (true, [([], []), ([], []), ([], []), ([1, 2], [1, 2]), ([3], [3]), ([], []), ([5], [5]), ([], []), ([4, 6, 7], [4, 6, 7]), ([8], [8]), ([0, 9], [0, 9]), ([10, 10, 0, 1, 2, 3, 4, 5, 6, 7, 8, 9, 10], [0, 10])])
def contangoref51_Flows.B30 : List Nat := [0, 0, 0, 6, 14, 0, 32, 0, 254, 510, 1023, 2047]
theorem contangoref51_Flows.tab30 : rtab .any (opsOf Try.f20 30) = contangoref51_Flows.T30 := by kernel_rfl
theorem contangoref51_Flows.bits30 : waitsOk contangoref51_Flows.T30.2 contangoref51_Flows.B30 = true := by kernel_rfl
set_option maxHeartbeats 8000000 in
set_option maxRecDepth 100000 in
theorem contangoref51_Flows.calls (k : Nat) (a0_0 : ByteArray) (a0_1 : Int) (a0_2 : Int) (a0_3 : Int) (a0_4 : Int) (a0_5 : Int) (a0_6 : Bool) (A1 : Option Addr) (c1 : Nat) (l1 : List (S47)) (a2_0 : ByteArray) (a2_1 : Int) (a2_2 : Int) (a2_3 : Int) (a3 : Int) (r1 : List (S58)) (r2 : Int) (w : World) (hr1 : Kd.C k47 w A1 l1.length l1) (hc1 : l1.length ≤ c1) (h : contangoref51_Flows.f k a0_0 a0_1 a0_2 a0_3 a0_4 a0_5 a0_6 l1 a2_0 a2_1 a2_2 a2_3 a3 = some (r1, r2)) :
    Calls Try.prog 20 #[.agg #[.string a0_0, .int .i64 a0_1, .int .i64 a0_2, .int .i64 a0_3, .int .i64 a0_4, .int .i64 a0_5, .bool a0_6], .slice A1 l1.length c1, .agg #[.string a2_0, .int .i64 a2_1, .int .i64 a2_2, .int .i64 a2_3], .int .i64 a3] w fun e w' => ∃ v0_ : Value, e = .returned (.tuple #[v0_, .int .i64 r2]) ∧ Kd.R k58 58 w' w.heap.size (fun _ => True) v0_ r1 ∧ Below w.heap.size w w' := by
 have hu23 := Try.underlying23
 have hu25 := Try.underlying25
 have hu58 := Try.underlying58
 have HR1 := Aside0.mk hr1
 have HC1 := Aside0.mk hc1
 clear hr1 hc1
 have HB := Aside0.mk (Below.refl w.heap.size w)
 have H : (if (l1.length : Int) > 1024 then (some (([] : List (S58)), 8)) else (contangoref51_Flows.l0 k l1 a3 ([] : List Int) ([] : List ByteArray) 0 a0_0 a0_1 a0_2 a0_3 a0_4 a0_5 a0_6 a2_0 a2_1 a2_2 a2_3)) = some (r1, r2) := h
 clear h
 by_cases c5 : (l1.length : Int) > 1024
 · rw [if_pos c5] at H
   have c5b0 : decide (1024 < (l1.length : Int)) = true := decide_eq_true c5
   have c5b1 : decide (1024 < l1.length) = true := decide_eq_true (by omega)
   clear c5
   simp only [Option.some.injEq, Prod.mk.injEq] at H
   obtain ⟨rfl, rfl⟩ := H
   go_enter Try.func20, Try.ntmps20
   go_wp2_with (first | ((with_reducible refine gate_dst (N := 4) rfl ?_); refine box_event ?hg (N := 4) ?hd (cs := #[.string a0_0, .int .i64 a0_1, .int .i64 a0_2, .int .i64 a0_3, .int .i64 a0_4, .int .i64 a0_5, .bool a0_6]) (t := 23) ?hr ?_; (case hd => rfl); (case hg => rfl); (case hr => first | (go_simp; done) | (go_simp; rfl)); intro gb231 hg w6 hbox hb; have n0_ := Aside0.mk (below_step (bz0 HB.out) hb); have n1_ := Aside0.mk (hbox); have n2_ := Aside0.mk ((by rw [hg]; exact (below_size (bz0 HB.out)) : w.heap.size ≤ gb231)); have n3_ := Aside0.mk ((by rw [hg]; exact (below_size (bz0 HB.out)) : w.heap.size ≤ gb231)); clear HB; have HB := n0_; have BK231 := n1_; have GW231 := n2_; have GE231 := n3_; clear n0_ n1_ n2_ n3_; clear hb hbox hg) | ((with_reducible refine gate_dst (N := 6) rfl ?_); refine box_event ?hg (N := 6) ?hd (cs := #[.string a2_0, .int .i64 a2_1, .int .i64 a2_2, .int .i64 a2_3]) (t := 25) ?hr ?_; (case hd => rfl); (case hg => rfl); (case hr => first | (go_simp; done) | (go_simp; rfl)); intro gb232 hg w7 hbox hb; have n0_ := Aside0.mk (blk_below (g := gb231) (o := .cells #[.string a0_0, .int .i64 a0_1, .int .i64 a0_2, .int .i64 a0_3, .int .i64 a0_4, .int .i64 a0_5, .bool a0_6] 23 (0, 0)) (bk_ BK231.out) hb); have n1_ := Aside0.mk (below_step (bz1 HB.out GE231.out) hb); have n2_ := Aside0.mk (hbox); have n3_ := Aside0.mk ((by rw [hg]; exact (below_size (bz1 HB.out GE231.out)) : w.heap.size ≤ gb232)); have n4_ := Aside0.mk ((by rw [hg]; exact (below_size (bz1 HB.out GE231.out)) : w.heap.size ≤ gb232)); have n5_ := Aside0.mk ((by rw [hg]; exact Nat.ne_of_lt (blk_lt (g := gb231) (o := .cells #[.string a0_0, .int .i64 a0_1, .int .i64 a0_2, .int .i64 a0_3, .int .i64 a0_4, .int .i64 a0_5, .bool a0_6] 23 (0, 0)) (bk_ BK231.out)) : gb231 ≠ gb232)); have n6_ := Aside0.mk ((by rw [hg]; exact Nat.ne_of_gt (blk_lt (g := gb231) (o := .cells #[.string a0_0, .int .i64 a0_1, .int .i64 a0_2, .int .i64 a0_3, .int .i64 a0_4, .int .i64 a0_5, .bool a0_6] 23 (0, 0)) (bk_ BK231.out)) : gb232 ≠ gb231)); clear BK231; clear HB; have BK231 := n0_; have HB := n1_; have BK232 := n2_; have GW232 := n3_; have GE232 := n4_; have NB231_232 := n5_; have NB232_231 := n6_; clear n0_ n1_ n2_ n3_ n4_ n5_ n6_; clear hb hbox hg))
   go_ret2
   exact ⟨_, by first | rfl | (simp [errW_none, errW_some] <;> rfl) | (simp [*, errW_none, errW_some] <;> rfl), by first | exact Kd.R_nil _ _ _ _ _ | exact Kd.N_nil _ _ _ _ _ | exact Kd.V_nil _ _ _ _ _ | exact Kd.Q_nil _ _ _ _ _ | exact Kd.S_nil _ _ _ _ _, bz2 HB.out GE231.out GE232.out⟩
 rw [if_neg c5] at H
 have c5b0 : decide (1024 < (l1.length : Int)) = false := decide_eq_false c5
 have c5b1 : decide (1024 < l1.length) = false := decide_eq_false (by omega)
 clear c5
 have H' := Aside0.mk H
 clear H
 go_enter Try.func20, Try.ntmps20
 go_wp2_with (first | ((with_reducible refine gate_dst (N := 4) rfl ?_); refine box_event ?hg (N := 4) ?hd (cs := #[.string a0_0, .int .i64 a0_1, .int .i64 a0_2, .int .i64 a0_3, .int .i64 a0_4, .int .i64 a0_5, .bool a0_6]) (t := 23) ?hr ?_; (case hd => rfl); (case hg => rfl); (case hr => first | (go_simp; done) | (go_simp; rfl)); intro gb231 hg w8 hbox hb; have n0_ := Aside0.mk (below_step (bz0 HB.out) hb); have n1_ := Aside0.mk (hbox); have n2_ := Aside0.mk ((by rw [hg]; exact (below_size (bz0 HB.out)) : w.heap.size ≤ gb231)); have n3_ := Aside0.mk ((by rw [hg]; exact (below_size (bz0 HB.out)) : w.heap.size ≤ gb231)); clear HB; have HB := n0_; have BK231 := n1_; have GW231 := n2_; have GE231 := n3_; clear n0_ n1_ n2_ n3_; clear hb hbox hg) | ((with_reducible refine gate_dst (N := 6) rfl ?_); refine box_event ?hg (N := 6) ?hd (cs := #[.string a2_0, .int .i64 a2_1, .int .i64 a2_2, .int .i64 a2_3]) (t := 25) ?hr ?_; (case hd => rfl); (case hg => rfl); (case hr => first | (go_simp; done) | (go_simp; rfl)); intro gb232 hg w9 hbox hb; have n0_ := Aside0.mk (blk_below (g := gb231) (o := .cells #[.string a0_0, .int .i64 a0_1, .int .i64 a0_2, .int .i64 a0_3, .int .i64 a0_4, .int .i64 a0_5, .bool a0_6] 23 (0, 0)) (bk_ BK231.out) hb); have n1_ := Aside0.mk (below_step (bz1 HB.out GE231.out) hb); have n2_ := Aside0.mk (hbox); have n3_ := Aside0.mk ((by rw [hg]; exact (below_size (bz1 HB.out GE231.out)) : w.heap.size ≤ gb232)); have n4_ := Aside0.mk ((by rw [hg]; exact (below_size (bz1 HB.out GE231.out)) : w.heap.size ≤ gb232)); have n5_ := Aside0.mk ((by rw [hg]; exact Nat.ne_of_lt (blk_lt (g := gb231) (o := .cells #[.string a0_0, .int .i64 a0_1, .int .i64 a0_2, .int .i64 a0_3, .int .i64 a0_4, .int .i64 a0_5, .bool a0_6] 23 (0, 0)) (bk_ BK231.out)) : gb231 ≠ gb232)); have n6_ := Aside0.mk ((by rw [hg]; exact Nat.ne_of_gt (blk_lt (g := gb231) (o := .cells #[.string a0_0, .int .i64 a0_1, .int .i64 a0_2, .int .i64 a0_3, .int .i64 a0_4, .int .i64 a0_5, .bool a0_6] 23 (0, 0)) (bk_ BK231.out)) : gb232 ≠ gb231)); clear BK231; clear HB; have BK231 := n0_; have HB := n1_; have BK232 := n2_; have GW232 := n3_; have GE232 := n4_; have NB231_232 := n5_; have NB232_231 := n6_; clear n0_ n1_ n2_ n3_ n4_ n5_ n6_; clear hb hbox hg))
 go_loopg [10, 11, 12] k (fun kq v10 v11 v12 w' => ∃ (x10_1 : List Int) (x11_1 : List ByteArray) (x12_1 : Int), v12 = .int .i64 x12_1 ∧ Aside0 (contangoref51_Flows.l0 kq l1 a3 x10_1 x11_1 x12_1 a0_0 a0_1 a0_2 a0_3 a0_4 a0_5 a0_6 a2_0 a2_1 a2_2 a2_3 = some (r1, r2)) ∧ Aside0 (kq ≤ k) ∧ Aside0 (Kd.R (Kd.int .i64) 3 w' w.heap.size (fun _ => True) v10 x10_1) ∧ Aside0 (Kd.R Kd.string 9 w' w.heap.size (fun _ => True) v11 x11_1) ∧ Aside0 (w'.heap[gb231]? = some (.cells #[.string a0_0, .int .i64 a0_1, .int .i64 a0_2, .int .i64 a0_3, .int .i64 a0_4, .int .i64 a0_5, .bool a0_6] 23 (0, 0))) ∧ Aside0 (w'.heap[gb232]? = some (.cells #[.string a2_0, .int .i64 a2_1, .int .i64 a2_2, .int .i64 a2_3] 25 (0, 0))) ∧ Aside0 (Below w.heap.size w w'))
 case atStart => exact ⟨(([] : List Int)), (([] : List ByteArray)), (0), rf_, H', ⟨Nat.le_refl _⟩, ⟨by first | exact Kd.R_nil _ _ _ _ _ | exact Kd.N_nil _ _ _ _ _ | exact Kd.V_nil _ _ _ _ _ | exact Kd.Q_nil _ _ _ _ _ | exact Kd.S_nil _ _ _ _ _⟩, ⟨by first | exact Kd.R_nil _ _ _ _ _ | exact Kd.N_nil _ _ _ _ _ | exact Kd.V_nil _ _ _ _ _ | exact Kd.Q_nil _ _ _ _ _ | exact Kd.S_nil _ _ _ _ _⟩, ⟨by (with_reducible repeat (first | refine blk_drewN ?_ _ | refine blk_drew ?_ | refine blk_alloc ?_ _)); exact BK231.out⟩, ⟨by (with_reducible repeat (first | refine blk_drewN ?_ _ | refine blk_drew ?_ | refine blk_alloc ?_ _)); exact BK232.out⟩, ⟨bz2 HB.out GE231.out GE232.out⟩⟩
 case round =>
  clear H'
  try clear c1
  try clear c2
  try clear p2
  try clear c5
  try clear c5b0
  try clear c5b1
  obtain ⟨x10_1, x11_1, x12_1, rfl, HA, HK1, HO_10, HO_11, BK231, BK232, HB⟩ := hrel
  cases gk with
  | zero => exact absurd HA.out (by simp [contangoref51_Flows.l0])
  | succ k1 =>
   have H := HA.out
   clear HA
   simp only [contangoref51_Flows.l0] at H
   by_cases c10 : x12_1 < (l1.length : Int)
   rotate_left
   · rw [if_neg c10] at H
     have c10b0 : decide (x12_1 < (l1.length : Int)) = false := decide_eq_false c10
     clear c10
     have H' := Aside0.mk H
     clear H
     go_wp2
     go_loopg [16, 17] k1 (fun kq v16 v17 w' => ∃ (x16_2 : List (S58)) (x17_2 : Int), v17 = .int .i64 x17_2 ∧ Aside0 (contangoref51_Flows.l1 kq l1 x10_1 x11_1 x16_2 x17_2 a0_0 a0_1 a0_2 a0_3 a0_4 a0_5 a0_6 = some (r1, r2)) ∧ Aside0 (kq ≤ k1) ∧ Aside0 (Kd.R (Kd.int .i64) 3 w' w.heap.size (fun _ => True) u10 x10_1) ∧ Aside0 (Kd.R Kd.string 9 w' w.heap.size (fun _ => True) u11 x11_1) ∧ Aside0 (Kd.R k58 58 w' w.heap.size (fun _ => True) v16 x16_2) ∧ Aside0 (w'.heap[gb231]? = some (.cells #[.string a0_0, .int .i64 a0_1, .int .i64 a0_2, .int .i64 a0_3, .int .i64 a0_4, .int .i64 a0_5, .bool a0_6] 23 (0, 0))) ∧ Aside0 (w'.heap[gb232]? = some (.cells #[.string a2_0, .int .i64 a2_1, .int .i64 a2_2, .int .i64 a2_3] 25 (0, 0))) ∧ Aside0 (Below w.heap.size w w'))
     case atStart => exact ⟨(([] : List (S58))), (0), rf_, H', ⟨Nat.le_refl _⟩, ⟨by (with_reducible repeat (first | apply Kd.R_alloc | apply Kd.R_drewN | apply Kd.R_drew)); exact HO_10.out⟩, ⟨by (with_reducible repeat (first | apply Kd.R_alloc | apply Kd.R_drewN | apply Kd.R_drew)); exact HO_11.out⟩, ⟨by first | exact Kd.R_nil _ _ _ _ _ | exact Kd.N_nil _ _ _ _ _ | exact Kd.V_nil _ _ _ _ _ | exact Kd.Q_nil _ _ _ _ _ | exact Kd.S_nil _ _ _ _ _⟩, ⟨by (with_reducible repeat (first | refine blk_drewN ?_ _ | refine blk_drew ?_ | refine blk_alloc ?_ _)); exact BK231.out⟩, ⟨by (with_reducible repeat (first | refine blk_drewN ?_ _ | refine blk_drew ?_ | refine blk_alloc ?_ _)); exact BK232.out⟩, ⟨bz2 HB.out GE231.out GE232.out⟩⟩
     case round =>
      clear H'
      try clear c1
      try clear c2
      try clear p2
      try clear q2
      try clear hx2
      try clear c5
      try clear c5b0
      try clear c5b1
      try clear p6
      try clear c9
      try clear c10
      try clear c10b0
      try clear c11
      try clear c11b0
      try clear c13
      try clear c13b0
      try clear c13b1
      try clear c16
      try clear c16b0
      try clear c16b1
      try clear c17
      try clear c20
      try clear c23
      try clear p23
      try clear q23
      try clear hx23
      try clear c24
      try clear p24
      try clear q24
      try clear hx24
      try clear hx233_0
      try clear hx233_1
      try clear hx233_2
      try clear hx235_0
      try clear hx235_1
      try clear hx235_2
      try clear hx247_0
      try clear hx247_1
      try clear hx247_2
      try clear p2
      try clear p233
      try clear p235
      try clear p247
      try clear q233
      try clear q235
      try clear q247
      obtain ⟨x16_2, x17_2, rfl, HA, HK2, HO_10, HO_11, HO_16, BK231, BK232, HB⟩ := hrel
      cases gk with
      | zero => exact absurd HA.out (by simp [contangoref51_Flows.l1])
      | succ k2 =>
       have H := HA.out
       clear HA
       simp only [contangoref51_Flows.l1] at H
       by_cases c31 : x17_2 < (x11_1.length : Int)
       rotate_left
       · rw [if_neg c31] at H
         have c31b0 : decide (x17_2 < (x11_1.length : Int)) = false := decide_eq_false c31
         clear c31
         simp only [Option.some.injEq, Prod.mk.injEq] at H
         obtain ⟨rfl, rfl⟩ := H
         obtain ⟨Ao55, co55, eo55⟩ := Kd.R_slice HO_11.out
         subst eo55
         go_wp2
         go_ret2
         exact ⟨_, by first | rfl | (simp [errW_none, errW_some] <;> rfl) | (simp [*, errW_none, errW_some] <;> rfl), by (with_reducible repeat (first | apply Kd.R_alloc | apply Kd.R_drewN | apply Kd.R_drew)); exact HO_16.out, bz2 HB.out GE231.out GE232.out⟩
       rw [if_pos c31] at H
       have c31b0 : decide (x17_2 < (x11_1.length : Int)) = true := decide_eq_true c31
       clear c31
       have H' := Aside0.mk H
       clear H
       obtain ⟨Ao32, co32, eo32⟩ := Kd.R_slice HO_11.out
       subst eo32
       go_wp2
       go_loopg [18, 19] k2 (fun kq v18 v19 w' => ∃ (x18_3 : List Int) (x19_3 : Int), v19 = .int .i64 x19_3 ∧ Aside0 (contangoref51_Flows.l2 kq l1 x10_1 x11_1 x16_2 x17_2 x18_3 x19_3 a0_0 a0_1 a0_2 a0_3 a0_4 a0_5 a0_6 = some (r1, r2)) ∧ Aside0 (kq ≤ k2) ∧ Aside0 (Kd.R (Kd.int .i64) 3 w' w.heap.size (fun k_ => some k_ ≠ (v18 : Value).ownBlock) u10 x10_1) ∧ Aside0 (Kd.R Kd.string 9 w' w.heap.size (fun _ => True) (.slice Ao32 x11_1.length co32) x11_1) ∧ Aside0 (Kd.R k58 58 w' w.heap.size (fun _ => True) u16 x16_2) ∧ Aside0 (Kd.R (Kd.int .i64) 3 w' w.heap.size (fun k_ => some k_ ≠ (u10 : Value).ownBlock) v18 x18_3) ∧ Aside0 (w'.heap[gb231]? = some (.cells #[.string a0_0, .int .i64 a0_1, .int .i64 a0_2, .int .i64 a0_3, .int .i64 a0_4, .int .i64 a0_5, .bool a0_6] 23 (0, 0))) ∧ Aside0 (w'.heap[gb232]? = some (.cells #[.string a2_0, .int .i64 a2_1, .int .i64 a2_2, .int .i64 a2_3] 25 (0, 0))) ∧ Aside0 (Below w.heap.size w w'))
       case atStart => exact ⟨(([] : List Int)), (0), rf_, H', ⟨Nat.le_refl _⟩, ⟨by (with_reducible repeat (first | apply Kd.R_alloc | apply Kd.R_drewN | apply Kd.R_drew)); exact Kd.R_mono HO_10.out (fun _ hk => (by simp [Value.ownBlock]))⟩, ⟨by (with_reducible repeat (first | apply Kd.R_alloc | apply Kd.R_drewN | apply Kd.R_drew)); exact HO_11.out⟩, ⟨by (with_reducible repeat (first | apply Kd.R_alloc | apply Kd.R_drewN | apply Kd.R_drew)); exact HO_16.out⟩, ⟨by first | exact Kd.R_nil _ _ _ _ _ | exact Kd.N_nil _ _ _ _ _ | exact Kd.V_nil _ _ _ _ _ | exact Kd.Q_nil _ _ _ _ _ | exact Kd.S_nil _ _ _ _ _⟩, ⟨by (with_reducible repeat (first | refine blk_drewN ?_ _ | refine blk_drew ?_ | refine blk_alloc ?_ _)); exact BK231.out⟩, ⟨by (with_reducible repeat (first | refine blk_drewN ?_ _ | refine blk_drew ?_ | refine blk_alloc ?_ _)); exact BK232.out⟩, ⟨bz2 HB.out GE231.out GE232.out⟩⟩
       case round =>
        clear H'
        try clear c1
        try clear c2
        try clear p2
        try clear q2
        try clear hx2
        try clear c3
        try clear c5
        try clear c5b0
        try clear c5b1
        try clear p6
        try clear c9
        try clear c10
        try clear c10b0
        try clear c11
        try clear c11b0
        try clear c13
        try clear c13b0
        try clear c13b1
        try clear c16
        try clear c16b0
        try clear c16b1
        try clear c17
        try clear c20
        try clear c23
        try clear p23
        try clear q23
        try clear hx23
        try clear c24
        try clear p24
        try clear q24
        try clear hx24
        try clear c31
        try clear c31b0
        try clear hx233_0
        try clear hx233_1
        try clear hx233_2
        try clear hx235_0
        try clear hx235_1
        try clear hx235_2
        try clear hx247_0
        try clear hx247_1
        try clear hx247_2
        try clear p2
        try clear p23
        try clear p233
        try clear p235
        try clear p24
        try clear p247
        try clear p6
        try clear q2
        try clear q23
        try clear q233
        try clear q235
        try clear q24
        try clear q247
        obtain ⟨x18_3, x19_3, rfl, HA, HK3, HO_10, HO_11, HO_16, HO_18, BK231, BK232, HB⟩ := hrel
        cases gk with
        | zero => exact absurd HA.out (by simp [contangoref51_Flows.l2])
        | succ k3 =>
         have H := HA.out
         clear HA
         simp only [contangoref51_Flows.l2] at H
         by_cases c33 : x19_3 < (l1.length : Int)
         · rw [if_pos c33] at H
           have c33b0 : decide (x19_3 < (l1.length : Int)) = true := decide_eq_true c33
           clear c33
           by_cases c34 : 0 ≤ x19_3
           rotate_left
           · rw [if_neg c34] at H
             exact absurd H (by simp)
           rw [if_pos c34] at H
           have c34b0 : decide (0 ≤ x19_3) = true := decide_eq_true c34
           clear c34
           by_cases c35 : 0 ≤ x17_2
           rotate_left
           · rw [if_neg c35] at H
             exact absurd H (by simp)
           rw [if_pos c35] at H
           have c35b0 : decide (0 ≤ x17_2) = true := decide_eq_true c35
           clear c35
           by_cases c36 : x17_2 < (x11_1.length : Int)
           rotate_left
           · rw [if_neg c36] at H
             exact absurd H (by simp)
           rw [if_pos c36] at H
           have c36b0 : decide (x17_2 < (x11_1.length : Int)) = true := decide_eq_true c36
           clear c36
           by_cases c37 : ((rd_T47 l1 x19_3).f0.f0).toList = (rdOf ByteArray.empty x11_1 x17_2).toList
           rotate_left
           · rw [if_neg c37] at H
             have c37b0 : (((rd_T47 l1 x19_3).f0.f0).toList == (rdOf ByteArray.empty x11_1 x17_2).toList) = false := beq_eq_false_iff_ne.mpr c37
             have c37b1 : (((rd_T47 l1 x19_3).f0.f0).toList != (rdOf ByteArray.empty x11_1 x17_2).toList) = true := bne_iff_ne.mpr c37
             have H' := Aside0.mk H
             clear H
             try go_wp2
             have n0_ := Aside0.mk (Kd.R_drew HO_10.out)
             have n1_ := Aside0.mk (Kd.R_drew HO_11.out)
             have n2_ := Aside0.mk (Kd.R_drew HO_16.out)
             have n3_ := Aside0.mk (Kd.R_drew HO_18.out)
             have n4_ := Aside0.mk (blk_drew BK231.out)
             have n5_ := Aside0.mk (blk_drew BK232.out)
             have n6_ := Aside0.mk (below_drew1 HB.out)
             clear HO_10
             clear HO_11
             clear HO_16
             clear HO_18
             clear BK231
             clear BK232
             clear HB
             have HO_10 := n0_
             have HO_11 := n1_
             have HO_16 := n2_
             have HO_18 := n3_
             have BK231 := n4_
             have BK232 := n5_
             have HB := n6_
             clear n0_ n1_ n2_ n3_ n4_ n5_ n6_
             have p251 : 0 ≤ (x19_3 : Int) := od_
             have q251 : x19_3 < (l1.length : Int) := od_
             obtain ⟨ad251, A251_2, c251_2, e251, hx251_0, hx251_1, hx251_2, hl251_2, hi251_2⟩ := at_T47 HR1.out x19_3 p251 q251
             have hw251_2 := hx251_2
             have hw251_1 := hx251_1
             have hw251_0 := hx251_0
             cases e251
             replace hx251_0 := (HB.out.cell (World.block_lt_of_cell? w _ hx251_0)).trans hx251_0
             replace hx251_1 := (HB.out.cell (World.block_lt_of_cell? w _ hx251_1)).trans hx251_1
             replace hx251_2 := (HB.out.cell (World.block_lt_of_cell? w _ hx251_2)).trans hx251_2
             have HR251_2 := Aside0.mk hi251_2
             have HC251_2 := Aside0.mk hl251_2
             clear hi251_2 hl251_2
             replace p251 := eq_true p251
             replace q251 := eq_true q251
             have p252 : 0 ≤ (x17_2 : Int) := od_
             have q252 : x17_2 < (x11_1.length : Int) := od_
             obtain ⟨ad252, e252, hx252_0⟩ := Kd.at_string (Kd.R_reads' HO_11.out).2.2 x17_2 p252 q252
             cases e252
             replace p252 := eq_true p252
             replace q252 := eq_true q252
             refine start_ (n := 11) (S := fun w' => w'.cell? (ad251.add ((x19_3).toNat * 3)) = some (.string ((rd_T47 l1 x19_3).f0.f0)) ∧ w'.cell? ⟨(ad251.add ((x19_3).toNat * 3)).block, (ad251.add ((x19_3).toNat * 3)).off + 1, none⟩ = some (.string ((rd_T47 l1 x19_3).f0.f1)) ∧ w'.cell? ⟨(ad251.add ((x19_3).toNat * 3)).block, (ad251.add ((x19_3).toNat * 3)).off + 2, none⟩ = some (.slice A251_2 ((rd_T47 l1 x19_3).f1).length c251_2) ∧ w'.cell? (ad252.add (x17_2).toNat) = some (.string (rdOf ByteArray.empty x11_1 x17_2))) (ds := []) (tf 0 11) (by kernel_rfl) rfl rfl ⟨((HB.out.cell (World.block_lt_of_cell? w _ hw251_0)).trans hw251_0), ((HB.out.cell (World.block_lt_of_cell? w _ hw251_1)).trans hw251_1), ((HB.out.cell (World.block_lt_of_cell? w _ hw251_2)).trans hw251_2), hx252_0⟩ (fun hHeld => ?_); refine with_tabW contangoref51_Flows.tab24 contangoref51_Flows.bits24 (fun HT_ HW_ => ?_)
             generalize wr.drew = w43 at HO_10 HO_11 HO_16 HO_18 BK231 BK232 HB HR251_2 hx251_0 hx251_1 hx251_2 hx252_0 hHeld ⊢
             refine pv_ 0 81 (tf 1 10) HT_ ?_
             refine pv_ 1 82 (tf 2 9) HT_ ?_
             refine pv_ 2 83 (tf 3 8) HT_ ?_
             refine pv_ 3 84 (tf 4 7) HT_ ?_
             refine pv_ 4 85 (tf 5 6) HT_ ?_
             refine pv_ 6 87 #[true, true, true, true, true, false, true, false, false, false, false] HT_ ?_
             refine pv_ 7 88 #[true, true, true, true, true, false, true, true, false, false, false] HT_ ?_
             refine pv_ 8 89 #[true, true, true, true, true, false, true, true, true, false, false] HT_ ?_
             refine take_ (i := 5) (N := some 86) (v := ?_) (a' := ?_) (tf 9 2) rfl rfl (take_ofW HT_.out HW_.out (by kernel_rfl)) (fun _ _ _ h => h) (Or.inl ⟨by rfl, ?_⟩) hHeld ?_ ?_
             rotate_left
             · rintro w' ⟨s0, s1, s2, s3⟩
               go_simp
               with_reducible rfl
             rotate_left
             · exact ap_
             refine take_ (i := 9) (N := some 90) (v := ?_) (a' := ?_) (tf 10 1) rfl rfl (take_ofW HT_.out HW_.out (by kernel_rfl)) (fun _ _ _ h => h) (Or.inl ⟨by rfl, ?_⟩) hHeld ?_ ?_
             rotate_left
             · rintro w' ⟨s0, s1, s2, s3⟩
               go_simp
               with_reducible rfl
             rotate_left
             · exact ap_
             refine pv_ 10 91 (tf 11 0) HT_ ?_
             refine done_ (done_of HT_.out (by kernel_rfl)) ?_
             try go_wp2
             go_roundg k3
             case measure => have := HK1.out; have := HK2.out; have := HK3.out; omega
             case rel => exact ⟨(x18_3), (wrap64 (x19_3 + 1)), rf_, H', ⟨by have := HK1.out; have := HK2.out; have := HK3.out; omega⟩, ⟨by (with_reducible repeat (first | apply Kd.R_alloc | apply Kd.R_drewN | apply Kd.R_drew)); exact HO_10.out⟩, ⟨by (with_reducible repeat (first | apply Kd.R_alloc | apply Kd.R_drewN | apply Kd.R_drew)); exact HO_11.out⟩, ⟨by (with_reducible repeat (first | apply Kd.R_alloc | apply Kd.R_drewN | apply Kd.R_drew)); exact HO_16.out⟩, ⟨by (with_reducible repeat (first | apply Kd.R_alloc | apply Kd.R_drewN | apply Kd.R_drew)); exact HO_18.out⟩, ⟨by (with_reducible repeat (first | refine blk_drewN ?_ _ | refine blk_drew ?_ | refine blk_alloc ?_ _)); exact BK231.out⟩, ⟨by (with_reducible repeat (first | refine blk_drewN ?_ _ | refine blk_drew ?_ | refine blk_alloc ?_ _)); exact BK232.out⟩, ⟨bz2 HB.out GE231.out GE232.out⟩⟩
           rw [if_pos c37] at H
           have c37b0 : (((rd_T47 l1 x19_3).f0.f0).toList == (rdOf ByteArray.empty x11_1 x17_2).toList) = true := beq_iff_eq.mpr c37
           have c37b1 : (((rd_T47 l1 x19_3).f0.f0).toList != (rdOf ByteArray.empty x11_1 x17_2).toList) = false := bne_eq_false_iff_eq.mpr c37
           clear c37
           by_cases c38 : x19_3 < (x10_1.length : Int)
           rotate_left
           · rw [if_neg c38] at H
             exact absurd H (by simp)
           rw [if_pos c38] at H
           have c38b0 : decide (x19_3 < (x10_1.length : Int)) = true := decide_eq_true c38
           clear c38
           by_cases c39 : x18_3.length < 17592186044416
           rotate_left
           · rw [if_neg c39] at H
             exact absurd H (by simp)
           rw [if_pos c39] at H
           have LMc39 := Aside0.mk c39
           clear c39
           obtain ⟨y254, hy254⟩ : ∃ y_ : List Int, y_ = (x18_3 ++ [rd x10_1 x19_3]) := ⟨_, rfl⟩
           replace H : (contangoref51_Flows.l2 k3 l1 x10_1 x11_1 x16_2 x17_2 y254 (wrap64 (x19_3 + 1)) a0_0 a0_1 a0_2 a0_3 a0_4 a0_5 a0_6) = some (r1, r2) := by first | (rw [hy254]; with_reducible exact H) | (have H2_ := (Option.bind_some _ _).symm.trans H; rw [hy254]; with_reducible exact H2_) | (have H2_ := (Option.bind_some _ _).symm.trans H; with_reducible exact H2_) | with_reducible exact H | (rw [hy254]; exact H) | exact H
           have Ny254 := Aside0.mk hy254
           clear hy254
           have H' := Aside0.mk H
           clear H
           try go_wp2
           have n0_ := Aside0.mk (Kd.R_drew HO_10.out)
           have n1_ := Aside0.mk (Kd.R_drew HO_11.out)
           have n2_ := Aside0.mk (Kd.R_drew HO_16.out)
           have n3_ := Aside0.mk (Kd.R_drew HO_18.out)
           have n4_ := Aside0.mk (blk_drew BK231.out)
           have n5_ := Aside0.mk (blk_drew BK232.out)
           have n6_ := Aside0.mk (below_drew1 HB.out)
           clear HO_10
           clear HO_11
           clear HO_16
           clear HO_18
           clear BK231
           clear BK232
           clear HB
           have HO_10 := n0_
           have HO_11 := n1_
           have HO_16 := n2_
           have HO_18 := n3_
           have BK231 := n4_
           have BK232 := n5_
           have HB := n6_
           clear n0_ n1_ n2_ n3_ n4_ n5_ n6_
           have p251 : 0 ≤ (x19_3 : Int) := od_
           have q251 : x19_3 < (l1.length : Int) := od_
           obtain ⟨ad251, A251_2, c251_2, e251, hx251_0, hx251_1, hx251_2, hl251_2, hi251_2⟩ := at_T47 HR1.out x19_3 p251 q251
           have hw251_2 := hx251_2
           have hw251_1 := hx251_1
           have hw251_0 := hx251_0
           cases e251
           replace hx251_0 := (HB.out.cell (World.block_lt_of_cell? w _ hx251_0)).trans hx251_0
           replace hx251_1 := (HB.out.cell (World.block_lt_of_cell? w _ hx251_1)).trans hx251_1
           replace hx251_2 := (HB.out.cell (World.block_lt_of_cell? w _ hx251_2)).trans hx251_2
           have HR251_2 := Aside0.mk hi251_2
           have HC251_2 := Aside0.mk hl251_2
           clear hi251_2 hl251_2
           replace p251 := eq_true p251
           replace q251 := eq_true q251
           have p252 : 0 ≤ (x17_2 : Int) := od_
           have q252 : x17_2 < (x11_1.length : Int) := od_
           obtain ⟨ad252, e252, hx252_0⟩ := Kd.at_string (Kd.R_reads' HO_11.out).2.2 x17_2 p252 q252
           cases e252
           replace p252 := eq_true p252
           replace q252 := eq_true q252
           refine start_ (n := 11) (S := fun w' => w'.cell? (ad251.add ((x19_3).toNat * 3)) = some (.string ((rd_T47 l1 x19_3).f0.f0)) ∧ w'.cell? ⟨(ad251.add ((x19_3).toNat * 3)).block, (ad251.add ((x19_3).toNat * 3)).off + 1, none⟩ = some (.string ((rd_T47 l1 x19_3).f0.f1)) ∧ w'.cell? ⟨(ad251.add ((x19_3).toNat * 3)).block, (ad251.add ((x19_3).toNat * 3)).off + 2, none⟩ = some (.slice A251_2 ((rd_T47 l1 x19_3).f1).length c251_2) ∧ w'.cell? (ad252.add (x17_2).toNat) = some (.string (rdOf ByteArray.empty x11_1 x17_2))) (ds := []) (tf 0 11) (by kernel_rfl) rfl rfl ⟨((HB.out.cell (World.block_lt_of_cell? w _ hw251_0)).trans hw251_0), ((HB.out.cell (World.block_lt_of_cell? w _ hw251_1)).trans hw251_1), ((HB.out.cell (World.block_lt_of_cell? w _ hw251_2)).trans hw251_2), hx252_0⟩ (fun hHeld => ?_); refine with_tabW contangoref51_Flows.tab24 contangoref51_Flows.bits24 (fun HT_ HW_ => ?_)
           generalize wr.drew = w40 at HO_10 HO_11 HO_16 HO_18 BK231 BK232 HB HR251_2 hx251_0 hx251_1 hx251_2 hx252_0 hHeld ⊢
           refine pv_ 0 81 (tf 1 10) HT_ ?_
           refine pv_ 1 82 (tf 2 9) HT_ ?_
           refine pv_ 2 83 (tf 3 8) HT_ ?_
           refine pv_ 3 84 (tf 4 7) HT_ ?_
           refine pv_ 4 85 (tf 5 6) HT_ ?_
           refine pv_ 6 87 #[true, true, true, true, true, false, true, false, false, false, false] HT_ ?_
           refine pv_ 7 88 #[true, true, true, true, true, false, true, true, false, false, false] HT_ ?_
           refine pv_ 8 89 #[true, true, true, true, true, false, true, true, true, false, false] HT_ ?_
           refine take_ (i := 5) (N := some 86) (v := ?_) (a' := ?_) (tf 9 2) rfl rfl (take_ofW HT_.out HW_.out (by kernel_rfl)) (fun _ _ _ h => h) (Or.inl ⟨by rfl, ?_⟩) hHeld ?_ ?_
           rotate_left
           · rintro w' ⟨s0, s1, s2, s3⟩
             go_simp
             with_reducible rfl
           rotate_left
           · exact ap_
           refine take_ (i := 9) (N := some 90) (v := ?_) (a' := ?_) (tf 10 1) rfl rfl (take_ofW HT_.out HW_.out (by kernel_rfl)) (fun _ _ _ h => h) (Or.inl ⟨by rfl, ?_⟩) hHeld ?_ ?_
           rotate_left
           · rintro w' ⟨s0, s1, s2, s3⟩
             go_simp
             with_reducible rfl
           rotate_left
           · exact ap_
           refine pv_ 10 91 (tf 11 0) HT_ ?_
           refine done_ (done_of HT_.out (by kernel_rfl)) ?_
           obtain ⟨Ao41, co41, eo41⟩ := Kd.R_slice HO_10.out
           subst eo41
           have p253 : 0 ≤ (x19_3 : Int) := od_
           have q253 : x19_3 < (x10_1.length : Int) := od_
           obtain ⟨ad253, e253, hx253_0⟩ := Kd.at_int (Kd.R_reads' HO_10.out).2.2 x19_3 p253 q253
           cases e253
           replace p253 := eq_true p253
           replace q253 := eq_true q253
           try go_wp2_with (first | ((with_reducible refine gate_builtin (b := .append) (xs := #[.tmp 92, .tmp 97]) rfl ?_); at_builtin; refine Kd.R_append (Kd.int .i64) (w0 := w) w.heap.size rfl (.tmp 92) (.tmp 97) 79 3 (.int .i64 0) 8 rfl Try.underlying79 info3 rfl (by decide) (by omega) u18 x18_3 (rd x10_1 x19_3) [.int .i64 (rd x10_1 x19_3)] (fun k_ => some k_ ≠ (.slice (some ad253) x10_1.length co41 : Value).ownBlock) (fun _ => False) rfl rfl ?aP (fun _ hk => hk.elim) ?aF ?aO ?aB ?aS ?aL ?_; (case aP => exact rfl); (case aB => exact (bz2 HB.out GE231.out GE232.out)); (case aF => exact (fun k_ hk => Kd.fresh' (Kd.R_lt (br_ HO_10.out)) k_ hk)); (case aO => exact (br_ HO_18.out)); (case aS => exact (below_size (bz2 HB.out GE231.out GE232.out))); (case aL => have := LMc39.out; omega); intro v255 w42 ho hb hg hat; rw [← Ny254.out] at ho; have n0_ := Aside0.mk (Kd.R_after (ok := (fun _ => True)) (by (with_reducible repeat (first | apply Kd.R_alloc | apply Kd.R_drewN | apply Kd.R_drew)); exact Kd.R_mono HO_10.out (fun _ hk => ⟨trivial, hk⟩)) hg hat); have n1_ := Aside0.mk (Kd.R_over' (br_ HO_11.out) (Kd.R_typed (br_ HO_18.out)) (by decide) hg); have n2_ := Aside0.mk (Kd.R_over' (br_ HO_16.out) (Kd.R_typed (br_ HO_18.out)) (by decide) hg); have n3_ := Aside0.mk (blk_grown (g := gb231) (o := .cells #[.string a0_0, .int .i64 a0_1, .int .i64 a0_2, .int .i64 a0_3, .int .i64 a0_4, .int .i64 a0_5, .bool a0_6] 23 (0, 0)) (bk_ BK231.out) hg (Kd.R_ne HO_18.out BK231.out (by decide))); have n4_ := Aside0.mk (blk_grown (g := gb232) (o := .cells #[.string a2_0, .int .i64 a2_1, .int .i64 a2_2, .int .i64 a2_3] 25 (0, 0)) (bk_ BK232.out) hg (Kd.R_ne HO_18.out BK232.out (by decide))); have n5_ := Aside0.mk (hb); have n6_ := Aside0.mk (ho); clear HO_10; clear HO_11; clear HO_16; clear BK231; clear BK232; clear HB; clear HO_18; have HO_10 := n0_; have HO_11 := n1_; have HO_16 := n2_; have BK231 := n3_; have BK232 := n4_; have HB := n5_; have HO256 := n6_; clear n0_ n1_ n2_ n3_ n4_ n5_ n6_; clear ho hb hg hat))
           go_roundg k3
           case measure => have := HK1.out; have := HK2.out; have := HK3.out; omega
           case rel => exact ⟨(y254), (wrap64 (x19_3 + 1)), rf_, H', ⟨by have := HK1.out; have := HK2.out; have := HK3.out; omega⟩, ⟨by (with_reducible repeat (first | apply Kd.R_alloc | apply Kd.R_drewN | apply Kd.R_drew)); exact Kd.R_mono HO_10.out (fun _ hk => hk.2)⟩, ⟨by (with_reducible repeat (first | apply Kd.R_alloc | apply Kd.R_drewN | apply Kd.R_drew)); exact HO_11.out⟩, ⟨by (with_reducible repeat (first | apply Kd.R_alloc | apply Kd.R_drewN | apply Kd.R_drew)); exact HO_16.out⟩, ⟨by (with_reducible repeat (first | apply Kd.R_alloc | apply Kd.R_drewN | apply Kd.R_drew)); exact HO256.out⟩, ⟨by (with_reducible repeat (first | refine blk_drewN ?_ _ | refine blk_drew ?_ | refine blk_alloc ?_ _)); exact BK231.out⟩, ⟨by (with_reducible repeat (first | refine blk_drewN ?_ _ | refine blk_drew ?_ | refine blk_alloc ?_ _)); exact BK232.out⟩, ⟨bz2 HB.out GE231.out GE232.out⟩⟩
         rw [if_neg c33] at H
         have c33b0 : decide (x19_3 < (l1.length : Int)) = false := decide_eq_false c33
         clear c33
         replace H := Option.bind_eq_some_iff.mp H
         obtain ⟨⟨t257, t258⟩, A440, H⟩ := H
         replace H : (if t258 = 0 then (if t257 = 0 then (contangoref51_Flows.l1 k3 l1 x10_1 x11_1 x16_2 (wrap64 (x17_2 + 1)) a0_0 a0_1 a0_2 a0_3 a0_4 a0_5 a0_6) else (if 0 ≤ x17_2 then (if x17_2 < (x11_1.length : Int) then (if x16_2.length < 3518437208883 then (contangoref51_Flows.l1 k3 l1 x10_1 x11_1 (x16_2 ++ [(⟨rdOf ByteArray.empty x11_1 x17_2, a0_1, t257, 3⟩ : S58)]) (wrap64 (x17_2 + 1)) a0_0 a0_1 a0_2 a0_3 a0_4 a0_5 a0_6) else (none)) else (none)) else (none))) else (some (([] : List (S58)), 3))) = some (r1, r2) := H
         have A44 := Aside0.mk A440
         clear A440
         by_cases c45 : t258 = 0
         rotate_left
         · rw [if_neg c45] at H
           have c45b0 : (t258 == 0) = false := beq_eq_false_iff_ne.mpr c45
           have c45b1 : (t258 != 0) = true := bne_iff_ne.mpr c45
           simp only [Option.some.injEq, Prod.mk.injEq] at H
           obtain ⟨rfl, rfl⟩ := H
           obtain ⟨Ao54, co54, eo54⟩ := Kd.R_slice HO_18.out
           subst eo54
           go_wp2_with (first | ((with_reducible refine gate_callee (f := 52) rfl ?_); refine goesL_ (some 101) rfl rfl Try.func52 (by kernel_rfl) rfl #[.slice Ao54 x18_3.length co54] rfl pm_ ?_; (with_reducible refine (contangoref01_Sum.calls k3 _ _ x18_3 t257 t258 _ ?side1 ?side2 A44.out).mono ?_); (case side1 => repeat (first | exact (Kd.R_reads' HO_18.out).2.2 | (with_reducible refine Kd.C_alloc ?_ _) | (with_reducible refine Kd.C_drewN ?_ _) | (with_reducible refine Kd.C_drew ?_))); (case side2 => exact (Kd.R_reads' HO_18.out).2.1); rintro e w' ⟨rfl, ⟨nd, rfl⟩⟩; refine ⟨_, rfl, ?_⟩))
           go_ret2
           exact ⟨_, by first | rfl | (simp [errW_none, errW_some] <;> rfl) | (simp [*, errW_none, errW_some] <;> rfl), by first | exact Kd.R_nil _ _ _ _ _ | exact Kd.N_nil _ _ _ _ _ | exact Kd.V_nil _ _ _ _ _ | exact Kd.Q_nil _ _ _ _ _ | exact Kd.S_nil _ _ _ _ _, bz2 HB.out GE231.out GE232.out⟩
         rw [if_pos c45] at H
         have c45b0 : (t258 == 0) = true := beq_iff_eq.mpr c45
         have c45b1 : (t258 != 0) = false := bne_eq_false_iff_eq.mpr c45
         clear c45
         by_cases c46 : t257 = 0
         · rw [if_pos c46] at H
           have c46b0 : (t257 == 0) = true := beq_iff_eq.mpr c46
           have c46b1 : (t257 != 0) = false := bne_eq_false_iff_eq.mpr c46
           clear c46
           have H' := Aside0.mk H
           clear H
           obtain ⟨Ao47, co47, eo47⟩ := Kd.R_slice HO_18.out
           subst eo47
           go_wp2_with (first | ((with_reducible refine gate_callee (f := 52) rfl ?_); refine goesL_ (some 101) rfl rfl Try.func52 (by kernel_rfl) rfl #[.slice Ao47 x18_3.length co47] rfl pm_ ?_; (with_reducible refine (contangoref01_Sum.calls k3 _ _ x18_3 t257 t258 _ ?side1 ?side2 A44.out).mono ?_); (case side1 => repeat (first | exact (Kd.R_reads' HO_18.out).2.2 | (with_reducible refine Kd.C_alloc ?_ _) | (with_reducible refine Kd.C_drewN ?_ _) | (with_reducible refine Kd.C_drew ?_))); (case side2 => exact (Kd.R_reads' HO_18.out).2.1); rintro e w' ⟨rfl, ⟨nd, rfl⟩⟩; refine ⟨_, rfl, ?_⟩))
           go_roundg k3
           case measure => have := HK1.out; have := HK2.out; have := HK3.out; omega
           case rel => exact ⟨(x16_2), (wrap64 (x17_2 + 1)), rf_, H', ⟨by have := HK1.out; have := HK2.out; have := HK3.out; omega⟩, ⟨by (with_reducible repeat (first | apply Kd.R_alloc | apply Kd.R_drewN | apply Kd.R_drew)); exact Kd.R_mono HO_10.out (fun _ hk => trivial)⟩, ⟨by (with_reducible repeat (first | apply Kd.R_alloc | apply Kd.R_drewN | apply Kd.R_drew)); exact HO_11.out⟩, ⟨by (with_reducible repeat (first | apply Kd.R_alloc | apply Kd.R_drewN | apply Kd.R_drew)); exact HO_16.out⟩, ⟨by (with_reducible repeat (first | refine blk_drewN ?_ _ | refine blk_drew ?_ | refine blk_alloc ?_ _)); exact BK231.out⟩, ⟨by (with_reducible repeat (first | refine blk_drewN ?_ _ | refine blk_drew ?_ | refine blk_alloc ?_ _)); exact BK232.out⟩, ⟨bz2 HB.out GE231.out GE232.out⟩⟩
         rw [if_neg c46] at H
         have c46b0 : (t257 == 0) = false := beq_eq_false_iff_ne.mpr c46
         have c46b1 : (t257 != 0) = true := bne_iff_ne.mpr c46
         by_cases c48 : 0 ≤ x17_2
         rotate_left
         · rw [if_neg c48] at H
           exact absurd H (by simp)
         rw [if_pos c48] at H
         have c48b0 : decide (0 ≤ x17_2) = true := decide_eq_true c48
         clear c48
         by_cases c49 : x17_2 < (x11_1.length : Int)
         rotate_left
         · rw [if_neg c49] at H
           exact absurd H (by simp)
         rw [if_pos c49] at H
         have c49b0 : decide (x17_2 < (x11_1.length : Int)) = true := decide_eq_true c49
         clear c49
         by_cases c50 : x16_2.length < 3518437208883
         rotate_left
         · rw [if_neg c50] at H
           exact absurd H (by simp)
         rw [if_pos c50] at H
         have LMc50 := Aside0.mk c50
         clear c50
         obtain ⟨y260, hy260⟩ : ∃ y_ : List (S58), y_ = (x16_2 ++ [(⟨rdOf ByteArray.empty x11_1 x17_2, a0_1, t257, 3⟩ : S58)]) := ⟨_, rfl⟩
         replace H : (contangoref51_Flows.l1 k3 l1 x10_1 x11_1 y260 (wrap64 (x17_2 + 1)) a0_0 a0_1 a0_2 a0_3 a0_4 a0_5 a0_6) = some (r1, r2) := by first | (rw [hy260]; with_reducible exact H) | (have H2_ := (Option.bind_some _ _).symm.trans H; rw [hy260]; with_reducible exact H2_) | (have H2_ := (Option.bind_some _ _).symm.trans H; with_reducible exact H2_) | with_reducible exact H | (rw [hy260]; exact H) | exact H
         have Ny260 := Aside0.mk hy260
         clear hy260
         have H' := Aside0.mk H
         clear H
         obtain ⟨Ao51, co51, eo51⟩ := Kd.R_slice HO_18.out
         subst eo51
         try go_wp2_with (first | ((with_reducible refine gate_callee (f := 52) rfl ?_); refine goesL_ (some 101) rfl rfl Try.func52 (by kernel_rfl) rfl #[.slice Ao51 x18_3.length co51] rfl pm_ ?_; (with_reducible refine (contangoref01_Sum.calls k3 _ _ x18_3 t257 t258 _ ?side1 ?side2 A44.out).mono ?_); (case side1 => repeat (first | exact (Kd.R_reads' HO_18.out).2.2 | (with_reducible refine Kd.C_alloc ?_ _) | (with_reducible refine Kd.C_drewN ?_ _) | (with_reducible refine Kd.C_drew ?_))); (case side2 => exact (Kd.R_reads' HO_18.out).2.1); rintro e w' ⟨rfl, ⟨nd, rfl⟩⟩; refine ⟨_, rfl, ?_⟩))
         (try (rw [drewN_self wr]; generalize hq_ : World.drewN wr _ = wr; have n0_ : Aside0 (Kd.R (Kd.int .i64) 3 wr w.heap.size (fun k_ => some k_ ≠ (.slice Ao51 x18_3.length co51 : Value).ownBlock) u10 x10_1) := ⟨by rw [← hq_]; exact (br_ HO_10.out)⟩; have n1_ : Aside0 (Kd.R Kd.string 9 wr w.heap.size (fun _ => True) (.slice Ao32 x11_1.length co32) x11_1) := ⟨by rw [← hq_]; exact (br_ HO_11.out)⟩; have n2_ : Aside0 (Kd.R k58 58 wr w.heap.size (fun _ => True) u16 x16_2) := ⟨by rw [← hq_]; exact (br_ HO_16.out)⟩; have n3_ : Aside0 (Kd.R (Kd.int .i64) 3 wr w.heap.size (fun k_ => some k_ ≠ (u10 : Value).ownBlock) (.slice Ao51 x18_3.length co51) x18_3) := ⟨by rw [← hq_]; exact (br_ HO_18.out)⟩; have n4_ : Aside0 (wr.heap[gb231]? = some (.cells #[.string a0_0, .int .i64 a0_1, .int .i64 a0_2, .int .i64 a0_3, .int .i64 a0_4, .int .i64 a0_5, .bool a0_6] 23 (0, 0))) := ⟨by rw [← hq_]; exact (bk_ BK231.out)⟩; have n5_ : Aside0 (wr.heap[gb232]? = some (.cells #[.string a2_0, .int .i64 a2_1, .int .i64 a2_2, .int .i64 a2_3] 25 (0, 0))) := ⟨by rw [← hq_]; exact (bk_ BK232.out)⟩; have n6_ : Aside0 (Below w.heap.size w wr) := ⟨by rw [← hq_]; exact (bz2 HB.out GE231.out GE232.out)⟩; clear HO_10 HO_11 HO_16 HO_18 BK231 BK232 HB hq_; have HO_10 := n0_; have HO_11 := n1_; have HO_16 := n2_; have HO_18 := n3_; have BK231 := n4_; have BK232 := n5_; have HB := n6_; clear n0_ n1_ n2_ n3_ n4_ n5_ n6_))
         have n0_ := Aside0.mk (Kd.R_drew HO_10.out)
         have n1_ := Aside0.mk (Kd.R_drew HO_11.out)
         have n2_ := Aside0.mk (Kd.R_drew HO_16.out)
         have n3_ := Aside0.mk (Kd.R_drew HO_18.out)
         have n4_ := Aside0.mk (blk_drew BK231.out)
         have n5_ := Aside0.mk (blk_drew BK232.out)
         have n6_ := Aside0.mk (below_drew1 HB.out)
         clear HO_10
         clear HO_11
         clear HO_16
         clear HO_18
         clear BK231
         clear BK232
         clear HB
         have HO_10 := n0_
         have HO_11 := n1_
         have HO_16 := n2_
         have HO_18 := n3_
         have BK231 := n4_
         have BK232 := n5_
         have HB := n6_
         clear n0_ n1_ n2_ n3_ n4_ n5_ n6_
         have p259 : 0 ≤ (x17_2 : Int) := od_
         have q259 : x17_2 < (x11_1.length : Int) := od_
         obtain ⟨ad259, e259, hx259_0⟩ := Kd.at_string (Kd.R_reads' HO_11.out).2.2 x17_2 p259 q259
         cases e259
         replace p259 := eq_true p259
         replace q259 := eq_true q259
         refine start_ (n := 12) (S := fun w' => w'.cell? ⟨gb231, 0, none⟩ = some (.string a0_0) ∧ w'.cell? ⟨gb231, 1, none⟩ = some (.int .i64 a0_1) ∧ w'.cell? ⟨gb231, 2, none⟩ = some (.int .i64 a0_2) ∧ w'.cell? ⟨gb231, 3, none⟩ = some (.int .i64 a0_3) ∧ w'.cell? ⟨gb231, 4, none⟩ = some (.int .i64 a0_4) ∧ w'.cell? ⟨gb231, 5, none⟩ = some (.int .i64 a0_5) ∧ w'.cell? ⟨gb231, 6, none⟩ = some (.bool a0_6) ∧ w'.cell? (ad259.add (x17_2).toNat) = some (.string (rdOf ByteArray.empty x11_1 x17_2))) (ds := [9, 10]) (tf 0 12) (by kernel_rfl) rfl rfl ⟨(blk_cell BK231.out 0).trans rfl, (blk_cell BK231.out 1).trans rfl, (blk_cell BK231.out 2).trans rfl, (blk_cell BK231.out 3).trans rfl, (blk_cell BK231.out 4).trans rfl, (blk_cell BK231.out 5).trans rfl, (blk_cell BK231.out 6).trans rfl, hx259_0⟩ (fun hHeld => ?_); refine with_tabW contangoref51_Flows.tab30 contangoref51_Flows.bits30 (fun HT_ HW_ => ?_)
         generalize wr.drew = w52 at HO_10 HO_11 HO_16 HO_18 BK231 BK232 HB hx259_0 hHeld ⊢
         refine pv_ 0 108 (tf 1 11) HT_ ?_
         refine pv_ 1 109 (tf 2 10) HT_ ?_
         refine pv_ 2 110 (tf 3 9) HT_ ?_
         refine pv_ 3 111 (tf 4 8) HT_ ?_
         refine pv_ 5 113 #[true, true, true, true, false, true, false, false, false, false, false, false] HT_ ?_
         refine pv_ 7 115 #[true, true, true, true, false, true, false, true, false, false, false, false] HT_ ?_
         refine take_ (i := 4) (N := some 112) (v := ?_) (a' := ?_) #[true, true, true, true, true, true, false, true, false, false, false, false] rfl rfl (take_ofW HT_.out HW_.out (by kernel_rfl)) (fun _ _ _ h => h) (Or.inl ⟨by rfl, ?_⟩) hHeld ?_ ?_
         rotate_left
         · rintro w' ⟨s0, s1, s2, s3, s4, s5, s6, s7⟩
           go_simp
           with_reducible rfl
         rotate_left
         · exact ap_
         refine take_ (i := 6) (N := some 114) (v := ?_) (a' := ?_) (tf 8 4) rfl rfl (take_ofW HT_.out HW_.out (by kernel_rfl)) (fun _ _ _ h => h) (Or.inl ⟨by rfl, ?_⟩) hHeld ?_ ?_
         rotate_left
         · rintro w' ⟨s0, s1, s2, s3, s4, s5, s6, s7⟩
           go_simp
           with_reducible rfl
         rotate_left
         · exact ap_
         refine pv_ 8 116 (tf 9 3) HT_ ?_
         refine last_ (i := 9) (N := some 117) (tf 10 2) rfl rfl (one_of HT_.out (by kernel_rfl)) (by decide) (fun K hK => ?_)
         refine value_ (w1 := ?_) (v := ?_) (by rfl) rfl ?_ ?_
         rotate_left 2
         · go_simp
           constructor
           · rfl
           · rfl
         refine hK.out _ _ ?_
         clear hK K
         refine norm_ (a' := ?_) ?_ ?_
         rotate_left
         · show Act.put _ (some 117) _ = _
           simp only [Act.put, List.setIfInBounds_toArray, List.set_cons_zero, List.set_cons_succ, i64_w, i32_w]
           rfl
         refine last_ (i := 10) (N := some 118) (tf 11 1) rfl rfl (one_of HT_.out (by kernel_rfl)) (by decide) (fun K hK => ?_)
         refine Kd.R_append_step k58 (w0 := w) w.heap.size (by rfl) (.tmp 108) (.tmp 117) 54 58 (.agg #[(.string ⟨#[]⟩), (.int .i64 0), (.int .i64 0), (.int .i64 0)]) 40 rfl Try.underlying54 info58 rfl (by decide) (by omega) u16 x16_2 (⟨rdOf ByteArray.empty x11_1 x17_2, a0_1, t257, 3⟩ : S58) [.string (rdOf ByteArray.empty x11_1 x17_2), .int .i64 a0_1, .int .i64 t257, .int .i64 3] (fun _ => True) (fun _ => False) rfl rfl ?aP (fun _ hk => hk.elim) ?aF ?aO ?aB ?aS ?aL ?_
         (case aP => exact k58_mkM _ _ _ (⟨rdOf ByteArray.empty x11_1 x17_2, a0_1, t257, 3⟩ : S58))
         (case aB => exact (bz2 HB.out GE231.out GE232.out))
         (case aF => exact (fun _ _ => trivial))
         (case aO => exact (br_ HO_16.out))
         (case aS => exact (below_size (bz2 HB.out GE231.out GE232.out)))
         (case aL => have := LMc50.out; omega)
         intro v261 w53 ho hb hg hat
         rw [← Ny260.out] at ho
         have n0_ := Aside0.mk (Kd.R_over' (br_ HO_10.out) (Kd.R_typed (br_ HO_16.out)) (by decide) hg)
         have n1_ := Aside0.mk (Kd.R_over' (br_ HO_11.out) (Kd.R_typed (br_ HO_16.out)) (by decide) hg)
         have n2_ := Aside0.mk (Kd.R_over' (br_ HO_18.out) (Kd.R_typed (br_ HO_16.out)) (by decide) hg)
         have n3_ := Aside0.mk (blk_grown (g := gb231) (o := .cells #[.string a0_0, .int .i64 a0_1, .int .i64 a0_2, .int .i64 a0_3, .int .i64 a0_4, .int .i64 a0_5, .bool a0_6] 23 (0, 0)) (bk_ BK231.out) hg (Kd.R_ne HO_16.out BK231.out (by decide)))
         have n4_ := Aside0.mk (blk_grown (g := gb232) (o := .cells #[.string a2_0, .int .i64 a2_1, .int .i64 a2_2, .int .i64 a2_3] 25 (0, 0)) (bk_ BK232.out) hg (Kd.R_ne HO_16.out BK232.out (by decide)))
         have n5_ := Aside0.mk (hb)
         have n6_ := Aside0.mk (ho)
         clear HO_10
         clear HO_11
         clear HO_18
         clear BK231
         clear BK232
         clear HB
         clear HO_16
         have HO_10 := n0_
         have HO_11 := n1_
         have HO_18 := n2_
         have BK231 := n3_
         have BK232 := n4_
         have HB := n5_
         have HO262 := n6_
         clear n0_ n1_ n2_ n3_ n4_ n5_ n6_
         clear ho hb hg hat
         refine hK.out _ _ ?_
         clear hK K
         refine norm_ (a' := ?_) ?_ ?_
         rotate_left
         · show Act.put _ (some 118) _ = _
           simp only [Act.put, List.setIfInBounds_toArray, List.set_cons_zero, List.set_cons_succ, i64_w, i32_w]
           rfl
         refine pv_ 11 16 (tf 12 0) HT_ ?_
         refine done_ (done_of HT_.out (by kernel_rfl)) ?_
         try go_wp2
         go_roundg k3
         case measure => have := HK1.out; have := HK2.out; have := HK3.out; omega
         case rel => exact ⟨(y260), (wrap64 (x17_2 + 1)), rf_, H', ⟨by have := HK1.out; have := HK2.out; have := HK3.out; omega⟩, ⟨by (with_reducible repeat (first | apply Kd.R_alloc | apply Kd.R_drewN | apply Kd.R_drew)); exact Kd.R_mono HO_10.out (fun _ hk => trivial)⟩, ⟨by (with_reducible repeat (first | apply Kd.R_alloc | apply Kd.R_drewN | apply Kd.R_drew)); exact HO_11.out⟩, ⟨by (with_reducible repeat (first | apply Kd.R_alloc | apply Kd.R_drewN | apply Kd.R_drew)); exact HO262.out⟩, ⟨by (with_reducible repeat (first | refine blk_drewN ?_ _ | refine blk_drew ?_ | refine blk_alloc ?_ _)); exact BK231.out⟩, ⟨by (with_reducible repeat (first | refine blk_drewN ?_ _ | refine blk_drew ?_ | refine blk_alloc ?_ _)); exact BK232.out⟩, ⟨bz2 HB.out GE231.out GE232.out⟩⟩
   rw [if_pos c10] at H
   have c10b0 : decide (x12_1 < (l1.length : Int)) = true := decide_eq_true c10
   clear c10
   by_cases c11 : 0 ≤ x12_1
   rotate_left
   · rw [if_neg c11] at H
     exact absurd H (by simp)
   rw [if_pos c11] at H
   have c11b0 : decide (0 ≤ x12_1) = true := decide_eq_true c11
   clear c11
   replace H := Option.bind_eq_some_iff.mp H
   obtain ⟨t234, A120, H⟩ := H
   replace H : (if t234 = 0 then ((contangoref15_Find.f k1 ((rd_T47 l1 x12_1).f1) a2_0 a2_1 a2_2 a2_3).bind fun bt236 => ((contangoref51_Cash.f k1 a0_0 a0_1 a0_2 a0_3 a0_4 a0_5 a0_6 a2_0 a2_1 a2_2 a2_3 bt236.1 bt236.2.1 bt236.2.2.1 bt236.2.2.2.1 bt236.2.2.2.2.1 bt236.2.2.2.2.2 a3).bind fun bt242 => (if bt242.2 = 0 then (if x10_1.length < 17592186044416 then ((contangoref51_with.f k1 x11_1 ((rd_T47 l1 x12_1).f0.f0)).bind fun t248 => (contangoref51_Flows.l0 k1 l1 a3 (x10_1 ++ [bt242.1]) t248 (wrap64 (x12_1 + 1)) a0_0 a0_1 a0_2 a0_3 a0_4 a0_5 a0_6 a2_0 a2_1 a2_2 a2_3)) else (none)) else (some (([] : List (S58)), bt242.2))))) else (some (([] : List (S58)), t234))) = some (r1, r2) := H
   have A12 := Aside0.mk A120
   clear A120
   by_cases c13 : t234 = 0
   rotate_left
   · rw [if_neg c13] at H
     have c13b0 : (t234 == 0) = false := beq_eq_false_iff_ne.mpr c13
     have c13b1 : (t234 != 0) = true := bne_iff_ne.mpr c13
     simp only [Option.some.injEq, Prod.mk.injEq] at H
     obtain ⟨rfl, rfl⟩ := H
     have p233 : 0 ≤ (x12_1 : Int) := od_
     have q233 : x12_1 < (l1.length : Int) := od_
     obtain ⟨ad233, A233_2, c233_2, e233, hx233_0, hx233_1, hx233_2, hl233_2, hi233_2⟩ := at_T47 HR1.out x12_1 p233 q233
     cases e233
     replace hx233_0 := (HB.out.cell (World.block_lt_of_cell? w _ hx233_0)).trans hx233_0
     replace hx233_1 := (HB.out.cell (World.block_lt_of_cell? w _ hx233_1)).trans hx233_1
     replace hx233_2 := (HB.out.cell (World.block_lt_of_cell? w _ hx233_2)).trans hx233_2
     have HR233_2 := Aside0.mk hi233_2
     have HC233_2 := Aside0.mk hl233_2
     clear hi233_2 hl233_2
     replace p233 := eq_true p233
     replace q233 := eq_true q233
     go_wp2_with (first | ((with_reducible refine gate_callee (f := 50) rfl ?_); refine goesL_ (some 36) rfl rfl Try.func50 (by kernel_rfl) rfl #[.slice A233_2 ((rd_T47 l1 x12_1).f1).length c233_2] rfl pm_ ?_; (with_reducible refine (contangoref15_Check.calls k1 _ _ ((rd_T47 l1 x12_1).f1) t234 _ ?side1 ?side2 A12.out).mono ?_); (case side1 => repeat (first | exact (Kd.C_below HR233_2.out HB.out) | (with_reducible refine Kd.C_alloc ?_ _) | (with_reducible refine Kd.C_drewN ?_ _) | (with_reducible refine Kd.C_drew ?_))); (case side2 => exact HC233_2.out); rintro e w30 ⟨rfl, hb⟩; refine ⟨_, rfl, ?_⟩; have n0_ := Aside0.mk (Kd.R_below (br_ HO_10.out) hb); have n1_ := Aside0.mk (Kd.R_below (br_ HO_11.out) hb); have n2_ := Aside0.mk (blk_below (g := gb231) (o := .cells #[.string a0_0, .int .i64 a0_1, .int .i64 a0_2, .int .i64 a0_3, .int .i64 a0_4, .int .i64 a0_5, .bool a0_6] 23 (0, 0)) (bk_ BK231.out) hb); have n3_ := Aside0.mk (blk_below (g := gb232) (o := .cells #[.string a2_0, .int .i64 a2_1, .int .i64 a2_2, .int .i64 a2_3] 25 (0, 0)) (bk_ BK232.out) hb); have n4_ := Aside0.mk (below_step (bz2 HB.out GE231.out GE232.out) hb); clear HO_10; clear HO_11; clear BK231; clear BK232; clear HB; have HO_10 := n0_; have HO_11 := n1_; have BK231 := n2_; have BK232 := n3_; have HB := n4_; clear n0_ n1_ n2_ n3_ n4_; (try clear hb); (try clear hb2); (try clear hk); (try clear hi)))
     go_ret2
     exact ⟨_, by first | rfl | (simp [errW_none, errW_some] <;> rfl) | (simp [*, errW_none, errW_some] <;> rfl), by first | exact Kd.R_nil _ _ _ _ _ | exact Kd.N_nil _ _ _ _ _ | exact Kd.V_nil _ _ _ _ _ | exact Kd.Q_nil _ _ _ _ _ | exact Kd.S_nil _ _ _ _ _, bz2 HB.out GE231.out GE232.out⟩
   rw [if_pos c13] at H
   have c13b0 : (t234 == 0) = true := beq_iff_eq.mpr c13
   have c13b1 : (t234 != 0) = false := bne_eq_false_iff_eq.mpr c13
   clear c13
   replace H := Option.bind_eq_some_iff.mp H
   obtain ⟨⟨t236, t237, t238, t239, t240, t241⟩, A140, H⟩ := H
   replace H : ((contangoref51_Cash.f k1 a0_0 a0_1 a0_2 a0_3 a0_4 a0_5 a0_6 a2_0 a2_1 a2_2 a2_3 t236 t237 t238 t239 t240 t241 a3).bind fun bt242 => (if bt242.2 = 0 then (if x10_1.length < 17592186044416 then ((contangoref51_with.f k1 x11_1 ((rd_T47 l1 x12_1).f0.f0)).bind fun t248 => (contangoref51_Flows.l0 k1 l1 a3 (x10_1 ++ [bt242.1]) t248 (wrap64 (x12_1 + 1)) a0_0 a0_1 a0_2 a0_3 a0_4 a0_5 a0_6 a2_0 a2_1 a2_2 a2_3)) else (none)) else (some (([] : List (S58)), bt242.2)))) = some (r1, r2) := H
   have A14 := Aside0.mk A140
   clear A140
   replace H := Option.bind_eq_some_iff.mp H
   obtain ⟨⟨t242, t243⟩, A150, H⟩ := H
   replace H : (if t243 = 0 then (if x10_1.length < 17592186044416 then ((contangoref51_with.f k1 x11_1 ((rd_T47 l1 x12_1).f0.f0)).bind fun t248 => (contangoref51_Flows.l0 k1 l1 a3 (x10_1 ++ [t242]) t248 (wrap64 (x12_1 + 1)) a0_0 a0_1 a0_2 a0_3 a0_4 a0_5 a0_6 a2_0 a2_1 a2_2 a2_3)) else (none)) else (some (([] : List (S58)), t243))) = some (r1, r2) := H
   have A15 := Aside0.mk A150
   clear A150
   by_cases c16 : t243 = 0
   rotate_left
   · rw [if_neg c16] at H
     have c16b0 : (t243 == 0) = false := beq_eq_false_iff_ne.mpr c16
     have c16b1 : (t243 != 0) = true := bne_iff_ne.mpr c16
     simp only [Option.some.injEq, Prod.mk.injEq] at H
     obtain ⟨rfl, rfl⟩ := H
     have p233 : 0 ≤ (x12_1 : Int) := od_
     have q233 : x12_1 < (l1.length : Int) := od_
     obtain ⟨ad233, A233_2, c233_2, e233, hx233_0, hx233_1, hx233_2, hl233_2, hi233_2⟩ := at_T47 HR1.out x12_1 p233 q233
     cases e233
     replace hx233_0 := (HB.out.cell (World.block_lt_of_cell? w _ hx233_0)).trans hx233_0
     replace hx233_1 := (HB.out.cell (World.block_lt_of_cell? w _ hx233_1)).trans hx233_1
     replace hx233_2 := (HB.out.cell (World.block_lt_of_cell? w _ hx233_2)).trans hx233_2
     have HR233_2 := Aside0.mk hi233_2
     have HC233_2 := Aside0.mk hl233_2
     clear hi233_2 hl233_2
     replace p233 := eq_true p233
     replace q233 := eq_true q233
     try go_wp2_with (first | ((with_reducible refine gate_callee (f := 50) rfl ?_); refine goesL_ (some 36) rfl rfl Try.func50 (by kernel_rfl) rfl #[.slice A233_2 ((rd_T47 l1 x12_1).f1).length c233_2] rfl pm_ ?_; (with_reducible refine (contangoref15_Check.calls k1 _ _ ((rd_T47 l1 x12_1).f1) t234 _ ?side1 ?side2 A12.out).mono ?_); (case side1 => repeat (first | exact (Kd.C_below HR233_2.out HB.out) | (with_reducible refine Kd.C_alloc ?_ _) | (with_reducible refine Kd.C_drewN ?_ _) | (with_reducible refine Kd.C_drew ?_))); (case side2 => exact HC233_2.out); rintro e w26 ⟨rfl, hb⟩; refine ⟨_, rfl, ?_⟩; have n0_ := Aside0.mk (Kd.R_below (br_ HO_10.out) hb); have n1_ := Aside0.mk (Kd.R_below (br_ HO_11.out) hb); have n2_ := Aside0.mk (blk_below (g := gb231) (o := .cells #[.string a0_0, .int .i64 a0_1, .int .i64 a0_2, .int .i64 a0_3, .int .i64 a0_4, .int .i64 a0_5, .bool a0_6] 23 (0, 0)) (bk_ BK231.out) hb); have n3_ := Aside0.mk (blk_below (g := gb232) (o := .cells #[.string a2_0, .int .i64 a2_1, .int .i64 a2_2, .int .i64 a2_3] 25 (0, 0)) (bk_ BK232.out) hb); have n4_ := Aside0.mk (below_step (bz2 HB.out GE231.out GE232.out) hb); clear HO_10; clear HO_11; clear BK231; clear BK232; clear HB; have HO_10 := n0_; have HO_11 := n1_; have BK231 := n2_; have BK232 := n3_; have HB := n4_; clear n0_ n1_ n2_ n3_ n4_; (try clear hb); (try clear hb2); (try clear hk); (try clear hi)))
     have n0_ := Aside0.mk (Kd.R_drew HO_10.out)
     have n1_ := Aside0.mk (Kd.R_drew HO_11.out)
     have n2_ := Aside0.mk (blk_drew BK231.out)
     have n3_ := Aside0.mk (blk_drew BK232.out)
     have n4_ := Aside0.mk (below_drew1 HB.out)
     clear HO_10
     clear HO_11
     clear BK231
     clear BK232
     clear HB
     have HO_10 := n0_
     have HO_11 := n1_
     have BK231 := n2_
     have BK232 := n3_
     have HB := n4_
     clear n0_ n1_ n2_ n3_ n4_
     have p235 : 0 ≤ (x12_1 : Int) := od_
     have q235 : x12_1 < (l1.length : Int) := od_
     obtain ⟨ad235, A235_2, c235_2, e235, hx235_0, hx235_1, hx235_2, hl235_2, hi235_2⟩ := at_T47 HR1.out x12_1 p235 q235
     have hw235_2 := hx235_2
     have hw235_1 := hx235_1
     have hw235_0 := hx235_0
     obtain rfl : ad233 = ad235 := (by injection e235)
     replace hx235_0 := (HB.out.cell (World.block_lt_of_cell? w _ hx235_0)).trans hx235_0
     replace hx235_1 := (HB.out.cell (World.block_lt_of_cell? w _ hx235_1)).trans hx235_1
     replace hx235_2 := (HB.out.cell (World.block_lt_of_cell? w _ hx235_2)).trans hx235_2
     have HR235_2 := Aside0.mk hi235_2
     have HC235_2 := Aside0.mk hl235_2
     clear hi235_2 hl235_2
     replace p235 := eq_true p235
     replace q235 := eq_true q235
     refine start_ (n := 16) (S := fun w' => w'.cell? ⟨gb231, 0, none⟩ = some (.string a0_0) ∧ w'.cell? ⟨gb231, 1, none⟩ = some (.int .i64 a0_1) ∧ w'.cell? ⟨gb231, 2, none⟩ = some (.int .i64 a0_2) ∧ w'.cell? ⟨gb231, 3, none⟩ = some (.int .i64 a0_3) ∧ w'.cell? ⟨gb231, 4, none⟩ = some (.int .i64 a0_4) ∧ w'.cell? ⟨gb231, 5, none⟩ = some (.int .i64 a0_5) ∧ w'.cell? ⟨gb231, 6, none⟩ = some (.bool a0_6) ∧ w'.cell? ⟨gb232, 0, none⟩ = some (.string a2_0) ∧ w'.cell? ⟨gb232, 1, none⟩ = some (.int .i64 a2_1) ∧ w'.cell? ⟨gb232, 2, none⟩ = some (.int .i64 a2_2) ∧ w'.cell? ⟨gb232, 3, none⟩ = some (.int .i64 a2_3) ∧ w'.cell? (ad233.add ((x12_1).toNat * 3)) = some (.string ((rd_T47 l1 x12_1).f0.f0)) ∧ w'.cell? ⟨(ad233.add ((x12_1).toNat * 3)).block, (ad233.add ((x12_1).toNat * 3)).off + 1, none⟩ = some (.string ((rd_T47 l1 x12_1).f0.f1)) ∧ w'.cell? ⟨(ad233.add ((x12_1).toNat * 3)).block, (ad233.add ((x12_1).toNat * 3)).off + 2, none⟩ = some (.slice A235_2 ((rd_T47 l1 x12_1).f1).length c235_2)) (ds := []) (tf 0 16) (by kernel_rfl) rfl rfl ⟨(blk_cell BK231.out 0).trans rfl, (blk_cell BK231.out 1).trans rfl, (blk_cell BK231.out 2).trans rfl, (blk_cell BK231.out 3).trans rfl, (blk_cell BK231.out 4).trans rfl, (blk_cell BK231.out 5).trans rfl, (blk_cell BK231.out 6).trans rfl, (blk_cell BK232.out 0).trans rfl, (blk_cell BK232.out 1).trans rfl, (blk_cell BK232.out 2).trans rfl, (blk_cell BK232.out 3).trans rfl, ((HB.out.cell (World.block_lt_of_cell? w _ hw235_0)).trans hw235_0), ((HB.out.cell (World.block_lt_of_cell? w _ hw235_1)).trans hw235_1), ((HB.out.cell (World.block_lt_of_cell? w _ hw235_2)).trans hw235_2)⟩ (fun hHeld => ?_); refine with_tabW contangoref51_Flows.tab11 contangoref51_Flows.bits11 (fun HT_ HW_ => ?_)
     generalize w26.drew = w27 at HO_10 HO_11 BK231 BK232 HB HR235_2 hx235_0 hx235_1 hx235_2 hHeld ⊢
     refine pv_ 2 43 #[false, false, true, false, false, false, false, false, false, false, false, false, false, false, false, false] HT_ ?_
     refine pv_ 3 44 #[false, false, true, true, false, false, false, false, false, false, false, false, false, false, false, false] HT_ ?_
     refine pv_ 4 45 #[false, false, true, true, true, false, false, false, false, false, false, false, false, false, false, false] HT_ ?_
     refine pv_ 5 46 #[false, false, true, true, true, true, false, false, false, false, false, false, false, false, false, false] HT_ ?_
     refine pv_ 9 50 #[false, false, true, true, true, true, false, false, false, true, false, false, false, false, false, false] HT_ ?_
     refine take_ (i := 0) (N := some 41) (v := ?_) (a' := ?_) #[true, false, true, true, true, true, false, false, false, true, false, false, false, false, false, false] rfl rfl (take_ofW HT_.out HW_.out (by kernel_rfl)) (fun _ _ _ h => h) (Or.inl ⟨by rfl, ?_⟩) hHeld ?_ ?_
     rotate_left
     · rintro w' ⟨s0, s1, s2, s3, s4, s5, s6, s7, s8, s9, s10, s11, s12, s13⟩
       go_simp
       with_reducible rfl
     rotate_left
     · exact ap_
     refine take_ (i := 1) (N := some 42) (v := ?_) (a' := ?_) #[true, true, true, true, true, true, false, false, false, true, false, false, false, false, false, false] rfl rfl (take_ofW HT_.out HW_.out (by kernel_rfl)) (fun _ _ _ h => h) (Or.inl ⟨by rfl, ?_⟩) hHeld ?_ ?_
     rotate_left
     · rintro w' ⟨s0, s1, s2, s3, s4, s5, s6, s7, s8, s9, s10, s11, s12, s13⟩
       go_simp
       with_reducible rfl
     rotate_left
     · exact ap_
     refine take_ (i := 6) (N := some 47) (v := ?_) (a' := ?_) #[true, true, true, true, true, true, true, false, false, true, false, false, false, false, false, false] rfl rfl (take_ofW HT_.out HW_.out (by kernel_rfl)) (fun _ _ _ h => h) (Or.inl ⟨by rfl, ?_⟩) hHeld ?_ ?_
     rotate_left
     · rintro w' ⟨s0, s1, s2, s3, s4, s5, s6, s7, s8, s9, s10, s11, s12, s13⟩
       go_simp
       with_reducible rfl
     rotate_left
     · exact ap_
     refine take_ (i := 7) (N := some 48) (v := ?_) (a' := ?_) #[true, true, true, true, true, true, true, true, false, true, false, false, false, false, false, false] rfl rfl (take_ofW HT_.out HW_.out (by kernel_rfl)) (fun _ _ _ h => h) (Or.inl ⟨by rfl, ?_⟩) hHeld ?_ ?_
     rotate_left
     · rintro w' ⟨s0, s1, s2, s3, s4, s5, s6, s7, s8, s9, s10, s11, s12, s13⟩
       go_simp
       with_reducible rfl
     rotate_left
     · exact ap_
     refine one_ (i := 8) (N := some 49) (tf 10 6) rfl rfl (one_of HT_.out (by kernel_rfl)) (by decide) (fun K hK => ?_)
     refine goes_ Try.func13 (by kernel_rfl) rfl #[.slice A235_2 ((rd_T47 l1 x12_1).f1).length c235_2, .agg #[.string a2_0, .int .i64 a2_1, .int .i64 a2_2, .int .i64 a2_3]] (by rfl) rfl rfl pm_ ?_
     with_reducible refine (contangoref15_Find.calls k1 _ _ ((rd_T47 l1 x12_1).f1) a2_0 a2_1 a2_2 a2_3 t236 t237 t238 t239 t240 t241 _ ?side1 ?side2 A14.out).mono ?_
     (case side1 => repeat (first | exact (Kd.C_below HR235_2.out HB.out) | (with_reducible refine Kd.C_alloc ?_ _) | (with_reducible refine Kd.C_drewN ?_ _) | (with_reducible refine Kd.C_drew ?_)))
     (case side2 => exact HC235_2.out)
     rintro e w28 ⟨rfl, hb⟩
     refine ⟨_, rfl, ?_⟩
     have n0_ := Aside0.mk (Kd.R_below (br_ HO_10.out) hb)
     have n1_ := Aside0.mk (Kd.R_below (br_ HO_11.out) hb)
     have n2_ := Aside0.mk (blk_below (g := gb231) (o := .cells #[.string a0_0, .int .i64 a0_1, .int .i64 a0_2, .int .i64 a0_3, .int .i64 a0_4, .int .i64 a0_5, .bool a0_6] 23 (0, 0)) (bk_ BK231.out) hb)
     have n3_ := Aside0.mk (blk_below (g := gb232) (o := .cells #[.string a2_0, .int .i64 a2_1, .int .i64 a2_2, .int .i64 a2_3] 25 (0, 0)) (bk_ BK232.out) hb)
     have n4_ := Aside0.mk (below_step (bz2 HB.out GE231.out GE232.out) hb)
     clear HO_10
     clear HO_11
     clear BK231
     clear BK232
     clear HB
     have HO_10 := n0_
     have HO_11 := n1_
     have BK231 := n2_
     have BK232 := n3_
     have HB := n4_
     clear n0_ n1_ n2_ n3_ n4_
     (try clear hb)
     (try clear hb2)
     (try clear hk)
     (try clear hi)
     refine hK.out _ _ ⟨(blk_cell BK231.out 0).trans rfl, (blk_cell BK231.out 1).trans rfl, (blk_cell BK231.out 2).trans rfl, (blk_cell BK231.out 3).trans rfl, (blk_cell BK231.out 4).trans rfl, (blk_cell BK231.out 5).trans rfl, (blk_cell BK231.out 6).trans rfl, (blk_cell BK232.out 0).trans rfl, (blk_cell BK232.out 1).trans rfl, (blk_cell BK232.out 2).trans rfl, (blk_cell BK232.out 3).trans rfl, ((HB.out.cell (World.block_lt_of_cell? w _ hw235_0)).trans hw235_0), ((HB.out.cell (World.block_lt_of_cell? w _ hw235_1)).trans hw235_1), ((HB.out.cell (World.block_lt_of_cell? w _ hw235_2)).trans hw235_2)⟩ (fun hHeld => ?_)
     clear hK K
     refine norm_ (a' := ?_) ?_ ?_
     rotate_left
     · show Act.put _ (some 49) _ = _
       simp only [Act.put, List.setIfInBounds_toArray, List.set_cons_zero, List.set_cons_succ, i64_w, i32_w]
       rfl
     refine one_ (i := 10) (N := some 51) (tf 11 5) rfl rfl (one_of HT_.out (by kernel_rfl)) (by decide) (fun K hK => ?_)
     refine goes_ Try.func9 (by kernel_rfl) rfl #[.agg #[.string a0_0, .int .i64 a0_1, .int .i64 a0_2, .int .i64 a0_3, .int .i64 a0_4, .int .i64 a0_5, .bool a0_6], .agg #[.string a2_0, .int .i64 a2_1, .int .i64 a2_2, .int .i64 a2_3], .agg #[.string t236, .int .i64 t237, .int .i64 t238, .int .i64 t239, .int .i64 t240, .int .i64 t241], .int .i64 a3] (by rfl) rfl rfl pm_ ?_
     with_reducible refine (contangoref51_Cash.calls k1 a0_0 a0_1 a0_2 a0_3 a0_4 a0_5 a0_6 a2_0 a2_1 a2_2 a2_3 t236 t237 t238 t239 t240 t241 a3 t242 t243 _ A15.out).mono ?_
     rintro e w29 ⟨rfl, hb⟩
     refine ⟨_, rfl, ?_⟩
     have n0_ := Aside0.mk (Kd.R_below (br_ HO_10.out) hb)
     have n1_ := Aside0.mk (Kd.R_below (br_ HO_11.out) hb)
     have n2_ := Aside0.mk (blk_below (g := gb231) (o := .cells #[.string a0_0, .int .i64 a0_1, .int .i64 a0_2, .int .i64 a0_3, .int .i64 a0_4, .int .i64 a0_5, .bool a0_6] 23 (0, 0)) (bk_ BK231.out) hb)
     have n3_ := Aside0.mk (blk_below (g := gb232) (o := .cells #[.string a2_0, .int .i64 a2_1, .int .i64 a2_2, .int .i64 a2_3] 25 (0, 0)) (bk_ BK232.out) hb)
     have n4_ := Aside0.mk (below_step (bz2 HB.out GE231.out GE232.out) hb)
     clear HO_10
     clear HO_11
     clear BK231
     clear BK232
     clear HB
     have HO_10 := n0_
     have HO_11 := n1_
     have BK231 := n2_
     have BK232 := n3_
     have HB := n4_
     clear n0_ n1_ n2_ n3_ n4_
     (try clear hb)
     (try clear hb2)
     (try clear hk)
     (try clear hi)
     refine hK.out _ _ ⟨(blk_cell BK231.out 0).trans rfl, (blk_cell BK231.out 1).trans rfl, (blk_cell BK231.out 2).trans rfl, (blk_cell BK231.out 3).trans rfl, (blk_cell BK231.out 4).trans rfl, (blk_cell BK231.out 5).trans rfl, (blk_cell BK231.out 6).trans rfl, (blk_cell BK232.out 0).trans rfl, (blk_cell BK232.out 1).trans rfl, (blk_cell BK232.out 2).trans rfl, (blk_cell BK232.out 3).trans rfl, ((HB.out.cell (World.block_lt_of_cell? w _ hw235_0)).trans hw235_0), ((HB.out.cell (World.block_lt_of_cell? w _ hw235_1)).trans hw235_1), ((HB.out.cell (World.block_lt_of_cell? w _ hw235_2)).trans hw235_2)⟩ (fun hHeld => ?_)
     clear hK K
     refine norm_ (a' := ?_) ?_ ?_
     rotate_left
     · show Act.put _ (some 51) _ = _
       simp only [Act.put, List.setIfInBounds_toArray, List.set_cons_zero, List.set_cons_succ, i64_w, i32_w]
       rfl
     refine pv_ 11 40 (tf 12 4) HT_ ?_
     refine pv_ 12 52 (tf 13 3) HT_ ?_
     refine pv_ 13 53 (tf 14 2) HT_ ?_
     refine pv_ 14 14 (tf 15 1) HT_ ?_
     refine pv_ 15 15 (tf 16 0) HT_ ?_
     refine done_ (done_of HT_.out (by kernel_rfl)) ?_
     try go_wp2
     go_ret2
     exact ⟨_, by first | rfl | (simp [errW_none, errW_some] <;> rfl) | (simp [*, errW_none, errW_some] <;> rfl), by first | exact Kd.R_nil _ _ _ _ _ | exact Kd.N_nil _ _ _ _ _ | exact Kd.V_nil _ _ _ _ _ | exact Kd.Q_nil _ _ _ _ _ | exact Kd.S_nil _ _ _ _ _, bz2 HB.out GE231.out GE232.out⟩
   rw [if_pos c16] at H
   have c16b0 : (t243 == 0) = true := beq_iff_eq.mpr c16
   have c16b1 : (t243 != 0) = false := bne_eq_false_iff_eq.mpr c16
   clear c16
   by_cases c17 : x10_1.length < 17592186044416
   rotate_left
   · rw [if_neg c17] at H
     exact absurd H (by simp)
   rw [if_pos c17] at H
   have LMc17 := Aside0.mk c17
   clear c17
   obtain ⟨y244, hy244⟩ : ∃ y_ : List Int, y_ = (x10_1 ++ [t242]) := ⟨_, rfl⟩
   replace H : ((contangoref51_with.f k1 x11_1 ((rd_T47 l1 x12_1).f0.f0)).bind fun t248 => (contangoref51_Flows.l0 k1 l1 a3 y244 t248 (wrap64 (x12_1 + 1)) a0_0 a0_1 a0_2 a0_3 a0_4 a0_5 a0_6 a2_0 a2_1 a2_2 a2_3)) = some (r1, r2) := by first | (rw [hy244]; with_reducible exact H) | (have H2_ := (Option.bind_some _ _).symm.trans H; rw [hy244]; with_reducible exact H2_) | (have H2_ := (Option.bind_some _ _).symm.trans H; with_reducible exact H2_) | with_reducible exact H | (rw [hy244]; exact H) | exact H
   have Ny244 := Aside0.mk hy244
   clear hy244
   replace H := Option.bind_eq_some_iff.mp H
   obtain ⟨t248, A180, H⟩ := H
   replace H : (contangoref51_Flows.l0 k1 l1 a3 y244 t248 (wrap64 (x12_1 + 1)) a0_0 a0_1 a0_2 a0_3 a0_4 a0_5 a0_6 a2_0 a2_1 a2_2 a2_3) = some (r1, r2) := H
   have A18 := Aside0.mk A180
   clear A180
   have H' := Aside0.mk H
   clear H
   have p233 : 0 ≤ (x12_1 : Int) := od_
   have q233 : x12_1 < (l1.length : Int) := od_
   obtain ⟨ad233, A233_2, c233_2, e233, hx233_0, hx233_1, hx233_2, hl233_2, hi233_2⟩ := at_T47 HR1.out x12_1 p233 q233
   cases e233
   replace hx233_0 := (HB.out.cell (World.block_lt_of_cell? w _ hx233_0)).trans hx233_0
   replace hx233_1 := (HB.out.cell (World.block_lt_of_cell? w _ hx233_1)).trans hx233_1
   replace hx233_2 := (HB.out.cell (World.block_lt_of_cell? w _ hx233_2)).trans hx233_2
   have HR233_2 := Aside0.mk hi233_2
   have HC233_2 := Aside0.mk hl233_2
   clear hi233_2 hl233_2
   replace p233 := eq_true p233
   replace q233 := eq_true q233
   try go_wp2_with (first | ((with_reducible refine gate_callee (f := 50) rfl ?_); refine goesL_ (some 36) rfl rfl Try.func50 (by kernel_rfl) rfl #[.slice A233_2 ((rd_T47 l1 x12_1).f1).length c233_2] rfl pm_ ?_; (with_reducible refine (contangoref15_Check.calls k1 _ _ ((rd_T47 l1 x12_1).f1) t234 _ ?side1 ?side2 A12.out).mono ?_); (case side1 => repeat (first | exact (Kd.C_below HR233_2.out HB.out) | (with_reducible refine Kd.C_alloc ?_ _) | (with_reducible refine Kd.C_drewN ?_ _) | (with_reducible refine Kd.C_drew ?_))); (case side2 => exact HC233_2.out); rintro e w19 ⟨rfl, hb⟩; refine ⟨_, rfl, ?_⟩; have n0_ := Aside0.mk (Kd.R_below (br_ HO_10.out) hb); have n1_ := Aside0.mk (Kd.R_below (br_ HO_11.out) hb); have n2_ := Aside0.mk (blk_below (g := gb231) (o := .cells #[.string a0_0, .int .i64 a0_1, .int .i64 a0_2, .int .i64 a0_3, .int .i64 a0_4, .int .i64 a0_5, .bool a0_6] 23 (0, 0)) (bk_ BK231.out) hb); have n3_ := Aside0.mk (blk_below (g := gb232) (o := .cells #[.string a2_0, .int .i64 a2_1, .int .i64 a2_2, .int .i64 a2_3] 25 (0, 0)) (bk_ BK232.out) hb); have n4_ := Aside0.mk (below_step (bz2 HB.out GE231.out GE232.out) hb); clear HO_10; clear HO_11; clear BK231; clear BK232; clear HB; have HO_10 := n0_; have HO_11 := n1_; have BK231 := n2_; have BK232 := n3_; have HB := n4_; clear n0_ n1_ n2_ n3_ n4_; (try clear hb); (try clear hb2); (try clear hk); (try clear hi)))
   have n0_ := Aside0.mk (Kd.R_drew HO_10.out)
   have n1_ := Aside0.mk (Kd.R_drew HO_11.out)
   have n2_ := Aside0.mk (blk_drew BK231.out)
   have n3_ := Aside0.mk (blk_drew BK232.out)
   have n4_ := Aside0.mk (below_drew1 HB.out)
   clear HO_10
   clear HO_11
   clear BK231
   clear BK232
   clear HB
   have HO_10 := n0_
   have HO_11 := n1_
   have BK231 := n2_
   have BK232 := n3_
   have HB := n4_
   clear n0_ n1_ n2_ n3_ n4_
   have p235 : 0 ≤ (x12_1 : Int) := od_
   have q235 : x12_1 < (l1.length : Int) := od_
   obtain ⟨ad235, A235_2, c235_2, e235, hx235_0, hx235_1, hx235_2, hl235_2, hi235_2⟩ := at_T47 HR1.out x12_1 p235 q235
   have hw235_2 := hx235_2
   have hw235_1 := hx235_1
   have hw235_0 := hx235_0
   obtain rfl : ad233 = ad235 := (by injection e235)
   replace hx235_0 := (HB.out.cell (World.block_lt_of_cell? w _ hx235_0)).trans hx235_0
   replace hx235_1 := (HB.out.cell (World.block_lt_of_cell? w _ hx235_1)).trans hx235_1
   replace hx235_2 := (HB.out.cell (World.block_lt_of_cell? w _ hx235_2)).trans hx235_2
   have HR235_2 := Aside0.mk hi235_2
   have HC235_2 := Aside0.mk hl235_2
   clear hi235_2 hl235_2
   replace p235 := eq_true p235
   replace q235 := eq_true q235
   refine start_ (n := 16) (S := fun w' => w'.cell? ⟨gb231, 0, none⟩ = some (.string a0_0) ∧ w'.cell? ⟨gb231, 1, none⟩ = some (.int .i64 a0_1) ∧ w'.cell? ⟨gb231, 2, none⟩ = some (.int .i64 a0_2) ∧ w'.cell? ⟨gb231, 3, none⟩ = some (.int .i64 a0_3) ∧ w'.cell? ⟨gb231, 4, none⟩ = some (.int .i64 a0_4) ∧ w'.cell? ⟨gb231, 5, none⟩ = some (.int .i64 a0_5) ∧ w'.cell? ⟨gb231, 6, none⟩ = some (.bool a0_6) ∧ w'.cell? ⟨gb232, 0, none⟩ = some (.string a2_0) ∧ w'.cell? ⟨gb232, 1, none⟩ = some (.int .i64 a2_1) ∧ w'.cell? ⟨gb232, 2, none⟩ = some (.int .i64 a2_2) ∧ w'.cell? ⟨gb232, 3, none⟩ = some (.int .i64 a2_3) ∧ w'.cell? (ad233.add ((x12_1).toNat * 3)) = some (.string ((rd_T47 l1 x12_1).f0.f0)) ∧ w'.cell? ⟨(ad233.add ((x12_1).toNat * 3)).block, (ad233.add ((x12_1).toNat * 3)).off + 1, none⟩ = some (.string ((rd_T47 l1 x12_1).f0.f1)) ∧ w'.cell? ⟨(ad233.add ((x12_1).toNat * 3)).block, (ad233.add ((x12_1).toNat * 3)).off + 2, none⟩ = some (.slice A235_2 ((rd_T47 l1 x12_1).f1).length c235_2)) (ds := []) (tf 0 16) (by kernel_rfl) rfl rfl ⟨(blk_cell BK231.out 0).trans rfl, (blk_cell BK231.out 1).trans rfl, (blk_cell BK231.out 2).trans rfl, (blk_cell BK231.out 3).trans rfl, (blk_cell BK231.out 4).trans rfl, (blk_cell BK231.out 5).trans rfl, (blk_cell BK231.out 6).trans rfl, (blk_cell BK232.out 0).trans rfl, (blk_cell BK232.out 1).trans rfl, (blk_cell BK232.out 2).trans rfl, (blk_cell BK232.out 3).trans rfl, ((HB.out.cell (World.block_lt_of_cell? w _ hw235_0)).trans hw235_0), ((HB.out.cell (World.block_lt_of_cell? w _ hw235_1)).trans hw235_1), ((HB.out.cell (World.block_lt_of_cell? w _ hw235_2)).trans hw235_2)⟩ (fun hHeld => ?_); refine with_tabW contangoref51_Flows.tab11 contangoref51_Flows.bits11 (fun HT_ HW_ => ?_)
   generalize w19.drew = w20 at HO_10 HO_11 BK231 BK232 HB HR235_2 hx235_0 hx235_1 hx235_2 hHeld ⊢
   refine pv_ 2 43 #[false, false, true, false, false, false, false, false, false, false, false, false, false, false, false, false] HT_ ?_
   refine pv_ 3 44 #[false, false, true, true, false, false, false, false, false, false, false, false, false, false, false, false] HT_ ?_
   refine pv_ 4 45 #[false, false, true, true, true, false, false, false, false, false, false, false, false, false, false, false] HT_ ?_
   refine pv_ 5 46 #[false, false, true, true, true, true, false, false, false, false, false, false, false, false, false, false] HT_ ?_
   refine pv_ 9 50 #[false, false, true, true, true, true, false, false, false, true, false, false, false, false, false, false] HT_ ?_
   refine take_ (i := 0) (N := some 41) (v := ?_) (a' := ?_) #[true, false, true, true, true, true, false, false, false, true, false, false, false, false, false, false] rfl rfl (take_ofW HT_.out HW_.out (by kernel_rfl)) (fun _ _ _ h => h) (Or.inl ⟨by rfl, ?_⟩) hHeld ?_ ?_
   rotate_left
   · rintro w' ⟨s0, s1, s2, s3, s4, s5, s6, s7, s8, s9, s10, s11, s12, s13⟩
     go_simp
     with_reducible rfl
   rotate_left
   · exact ap_
   refine take_ (i := 1) (N := some 42) (v := ?_) (a' := ?_) #[true, true, true, true, true, true, false, false, false, true, false, false, false, false, false, false] rfl rfl (take_ofW HT_.out HW_.out (by kernel_rfl)) (fun _ _ _ h => h) (Or.inl ⟨by rfl, ?_⟩) hHeld ?_ ?_
   rotate_left
   · rintro w' ⟨s0, s1, s2, s3, s4, s5, s6, s7, s8, s9, s10, s11, s12, s13⟩
     go_simp
     with_reducible rfl
   rotate_left
   · exact ap_
   refine take_ (i := 6) (N := some 47) (v := ?_) (a' := ?_) #[true, true, true, true, true, true, true, false, false, true, false, false, false, false, false, false] rfl rfl (take_ofW HT_.out HW_.out (by kernel_rfl)) (fun _ _ _ h => h) (Or.inl ⟨by rfl, ?_⟩) hHeld ?_ ?_
   rotate_left
   · rintro w' ⟨s0, s1, s2, s3, s4, s5, s6, s7, s8, s9, s10, s11, s12, s13⟩
     go_simp
     with_reducible rfl
   rotate_left
   · exact ap_
   refine take_ (i := 7) (N := some 48) (v := ?_) (a' := ?_) #[true, true, true, true, true, true, true, true, false, true, false, false, false, false, false, false] rfl rfl (take_ofW HT_.out HW_.out (by kernel_rfl)) (fun _ _ _ h => h) (Or.inl ⟨by rfl, ?_⟩) hHeld ?_ ?_
   rotate_left
   · rintro w' ⟨s0, s1, s2, s3, s4, s5, s6, s7, s8, s9, s10, s11, s12, s13⟩
     go_simp
     with_reducible rfl
   rotate_left
   · exact ap_
   refine one_ (i := 8) (N := some 49) (tf 10 6) rfl rfl (one_of HT_.out (by kernel_rfl)) (by decide) (fun K hK => ?_)
   refine goes_ Try.func13 (by kernel_rfl) rfl #[.slice A235_2 ((rd_T47 l1 x12_1).f1).length c235_2, .agg #[.string a2_0, .int .i64 a2_1, .int .i64 a2_2, .int .i64 a2_3]] (by rfl) rfl rfl pm_ ?_
   with_reducible refine (contangoref15_Find.calls k1 _ _ ((rd_T47 l1 x12_1).f1) a2_0 a2_1 a2_2 a2_3 t236 t237 t238 t239 t240 t241 _ ?side1 ?side2 A14.out).mono ?_
   (case side1 => repeat (first | exact (Kd.C_below HR235_2.out HB.out) | (with_reducible refine Kd.C_alloc ?_ _) | (with_reducible refine Kd.C_drewN ?_ _) | (with_reducible refine Kd.C_drew ?_)))
   (case side2 => exact HC235_2.out)
   rintro e w21 ⟨rfl, hb⟩
   refine ⟨_, rfl, ?_⟩
   have n0_ := Aside0.mk (Kd.R_below (br_ HO_10.out) hb)
   have n1_ := Aside0.mk (Kd.R_below (br_ HO_11.out) hb)
   have n2_ := Aside0.mk (blk_below (g := gb231) (o := .cells #[.string a0_0, .int .i64 a0_1, .int .i64 a0_2, .int .i64 a0_3, .int .i64 a0_4, .int .i64 a0_5, .bool a0_6] 23 (0, 0)) (bk_ BK231.out) hb)
   have n3_ := Aside0.mk (blk_below (g := gb232) (o := .cells #[.string a2_0, .int .i64 a2_1, .int .i64 a2_2, .int .i64 a2_3] 25 (0, 0)) (bk_ BK232.out) hb)
   have n4_ := Aside0.mk (below_step (bz2 HB.out GE231.out GE232.out) hb)
   clear HO_10
   clear HO_11
   clear BK231
   clear BK232
   clear HB
   have HO_10 := n0_
   have HO_11 := n1_
   have BK231 := n2_
   have BK232 := n3_
   have HB := n4_
   clear n0_ n1_ n2_ n3_ n4_
   (try clear hb)
   (try clear hb2)
   (try clear hk)
   (try clear hi)
   refine hK.out _ _ ⟨(blk_cell BK231.out 0).trans rfl, (blk_cell BK231.out 1).trans rfl, (blk_cell BK231.out 2).trans rfl, (blk_cell BK231.out 3).trans rfl, (blk_cell BK231.out 4).trans rfl, (blk_cell BK231.out 5).trans rfl, (blk_cell BK231.out 6).trans rfl, (blk_cell BK232.out 0).trans rfl, (blk_cell BK232.out 1).trans rfl, (blk_cell BK232.out 2).trans rfl, (blk_cell BK232.out 3).trans rfl, ((HB.out.cell (World.block_lt_of_cell? w _ hw235_0)).trans hw235_0), ((HB.out.cell (World.block_lt_of_cell? w _ hw235_1)).trans hw235_1), ((HB.out.cell (World.block_lt_of_cell? w _ hw235_2)).trans hw235_2)⟩ (fun hHeld => ?_)
   clear hK K
   refine norm_ (a' := ?_) ?_ ?_
   rotate_left
   · show Act.put _ (some 49) _ = _
     simp only [Act.put, List.setIfInBounds_toArray, List.set_cons_zero, List.set_cons_succ, i64_w, i32_w]
     rfl
   refine one_ (i := 10) (N := some 51) (tf 11 5) rfl rfl (one_of HT_.out (by kernel_rfl)) (by decide) (fun K hK => ?_)
   refine goes_ Try.func9 (by kernel_rfl) rfl #[.agg #[.string a0_0, .int .i64 a0_1, .int .i64 a0_2, .int .i64 a0_3, .int .i64 a0_4, .int .i64 a0_5, .bool a0_6], .agg #[.string a2_0, .int .i64 a2_1, .int .i64 a2_2, .int .i64 a2_3], .agg #[.string t236, .int .i64 t237, .int .i64 t238, .int .i64 t239, .int .i64 t240, .int .i64 t241], .int .i64 a3] (by rfl) rfl rfl pm_ ?_
   with_reducible refine (contangoref51_Cash.calls k1 a0_0 a0_1 a0_2 a0_3 a0_4 a0_5 a0_6 a2_0 a2_1 a2_2 a2_3 t236 t237 t238 t239 t240 t241 a3 t242 t243 _ A15.out).mono ?_
   rintro e w22 ⟨rfl, hb⟩
   refine ⟨_, rfl, ?_⟩
   have n0_ := Aside0.mk (Kd.R_below (br_ HO_10.out) hb)
   have n1_ := Aside0.mk (Kd.R_below (br_ HO_11.out) hb)
   have n2_ := Aside0.mk (blk_below (g := gb231) (o := .cells #[.string a0_0, .int .i64 a0_1, .int .i64 a0_2, .int .i64 a0_3, .int .i64 a0_4, .int .i64 a0_5, .bool a0_6] 23 (0, 0)) (bk_ BK231.out) hb)
   have n3_ := Aside0.mk (blk_below (g := gb232) (o := .cells #[.string a2_0, .int .i64 a2_1, .int .i64 a2_2, .int .i64 a2_3] 25 (0, 0)) (bk_ BK232.out) hb)
   have n4_ := Aside0.mk (below_step (bz2 HB.out GE231.out GE232.out) hb)
   clear HO_10
   clear HO_11
   clear BK231
   clear BK232
   clear HB
   have HO_10 := n0_
   have HO_11 := n1_
   have BK231 := n2_
   have BK232 := n3_
   have HB := n4_
   clear n0_ n1_ n2_ n3_ n4_
   (try clear hb)
   (try clear hb2)
   (try clear hk)
   (try clear hi)
   refine hK.out _ _ ⟨(blk_cell BK231.out 0).trans rfl, (blk_cell BK231.out 1).trans rfl, (blk_cell BK231.out 2).trans rfl, (blk_cell BK231.out 3).trans rfl, (blk_cell BK231.out 4).trans rfl, (blk_cell BK231.out 5).trans rfl, (blk_cell BK231.out 6).trans rfl, (blk_cell BK232.out 0).trans rfl, (blk_cell BK232.out 1).trans rfl, (blk_cell BK232.out 2).trans rfl, (blk_cell BK232.out 3).trans rfl, ((HB.out.cell (World.block_lt_of_cell? w _ hw235_0)).trans hw235_0), ((HB.out.cell (World.block_lt_of_cell? w _ hw235_1)).trans hw235_1), ((HB.out.cell (World.block_lt_of_cell? w _ hw235_2)).trans hw235_2)⟩ (fun hHeld => ?_)
   clear hK K
   refine norm_ (a' := ?_) ?_ ?_
   rotate_left
   · show Act.put _ (some 51) _ = _
     simp only [Act.put, List.setIfInBounds_toArray, List.set_cons_zero, List.set_cons_succ, i64_w, i32_w]
     rfl
   refine pv_ 11 40 (tf 12 4) HT_ ?_
   refine pv_ 12 52 (tf 13 3) HT_ ?_
   refine pv_ 13 53 (tf 14 2) HT_ ?_
   refine pv_ 14 14 (tf 15 1) HT_ ?_
   refine pv_ 15 15 (tf 16 0) HT_ ?_
   refine done_ (done_of HT_.out (by kernel_rfl)) ?_
   try go_wp2_with (first | ((with_reducible refine gate_builtin (b := .append) (xs := #[.tmp 57, .tmp 59]) rfl ?_); at_builtin; refine Kd.R_append (Kd.int .i64) (w0 := w) w.heap.size rfl (.tmp 57) (.tmp 59) 79 3 (.int .i64 0) 8 rfl Try.underlying79 info3 rfl (by decide) (by omega) u10 x10_1 t242 [.int .i64 t242] (fun _ => True) (fun _ => False) rfl rfl ?aP (fun _ hk => hk.elim) ?aF ?aO ?aB ?aS ?aL ?_; (case aP => exact rfl); (case aB => exact (bz2 HB.out GE231.out GE232.out)); (case aF => exact (fun _ _ => trivial)); (case aO => exact (br_ HO_10.out)); (case aS => exact (below_size (bz2 HB.out GE231.out GE232.out))); (case aL => have := LMc17.out; omega); intro v245 w23 ho hb hg hat; rw [← Ny244.out] at ho; have n0_ := Aside0.mk (Kd.R_over' (br_ HO_11.out) (Kd.R_typed (br_ HO_10.out)) (by decide) hg); have n1_ := Aside0.mk (blk_grown (g := gb231) (o := .cells #[.string a0_0, .int .i64 a0_1, .int .i64 a0_2, .int .i64 a0_3, .int .i64 a0_4, .int .i64 a0_5, .bool a0_6] 23 (0, 0)) (bk_ BK231.out) hg (Kd.R_ne HO_10.out BK231.out (by decide))); have n2_ := Aside0.mk (blk_grown (g := gb232) (o := .cells #[.string a2_0, .int .i64 a2_1, .int .i64 a2_2, .int .i64 a2_3] 25 (0, 0)) (bk_ BK232.out) hg (Kd.R_ne HO_10.out BK232.out (by decide))); have n3_ := Aside0.mk (hb); have n4_ := Aside0.mk (ho); clear HO_11; clear BK231; clear BK232; clear HB; clear HO_10; have HO_11 := n0_; have BK231 := n1_; have BK232 := n2_; have HB := n3_; have HO246 := n4_; clear n0_ n1_ n2_ n3_ n4_; clear ho hb hg hat; have p247 : 0 ≤ (x12_1 : Int) := od_; have q247 : x12_1 < (l1.length : Int) := od_; obtain ⟨ad247, A247_2, c247_2, e247, hx247_0, hx247_1, hx247_2, hl247_2, hi247_2⟩ := at_T47 HR1.out x12_1 p247 q247; obtain rfl : ad233 = ad247 := (by injection e247); replace hx247_0 := (HB.out.cell (World.block_lt_of_cell? w _ hx247_0)).trans hx247_0; replace hx247_1 := (HB.out.cell (World.block_lt_of_cell? w _ hx247_1)).trans hx247_1; replace hx247_2 := (HB.out.cell (World.block_lt_of_cell? w _ hx247_2)).trans hx247_2; have HR247_2 := Aside0.mk hi247_2; have HC247_2 := Aside0.mk hl247_2; clear hi247_2 hl247_2; replace p247 := eq_true p247; replace q247 := eq_true q247; obtain ⟨Ao24, co24, eo24⟩ := Kd.R_slice HO_11.out; subst eo24) | ((with_reducible refine gate_callee (f := 51) rfl ?_); refine goesL_ (some 68) rfl rfl Try.func51 (by kernel_rfl) rfl #[.slice Ao24 x11_1.length co24, .string ((rd_T47 l1 x12_1).f0.f0)] rfl pm_ ?_; (with_reducible refine (contangoref51_with.calls k1 (fun k_ => some k_ = (.slice Ao24 x11_1.length co24 : Value).ownBlock) (.slice Ao24 x11_1.length co24) x11_1 ((rd_T47 l1 x12_1).f0.f0) t248 w _ ?side1 ?side2 A18.out).mono ?_); (case side1 => repeat (first | (with_reducible first | exact HB.out | apply below_alloc | apply pw_below_drewN | apply below_drew1 | refine below_set ?_ GE231.out | refine below_set ?_ GE232.out) | exact HB.out)); (case side2 => exact Kd.R_tight rfl HO_11.out); rintro e w25 ⟨v249, rfl, ho0, hb, hkp⟩; refine ⟨_, rfl, ?_⟩; have n0_ := Aside0.mk (Go.Proofs.YtoejllkjhaeeeaaW.PrintWords.blk_kept (bk_ BK231.out) hkp (fun hs_ => (fun e_ => (Kd.R_ne HO_11.out BK231.out (by decide)) e_) hs_)); have n1_ := Aside0.mk (Go.Proofs.YtoejllkjhaeeeaaW.PrintWords.blk_kept (bk_ BK232.out) hkp (fun hs_ => (fun e_ => (Kd.R_ne HO_11.out BK232.out (by decide)) e_) hs_)); have n2_ := Aside0.mk (Kd.R_mono (ok' := fun k_ => True) (Kd.R_keptB ((Kd.R_apart' HO246.out (Kd.R_typed HO_11.out) (by decide))) hkp (fun k_ hk_ hs_ => (hk_.2) hs_)) (fun k_ hk_ => trivial)); have n3_ := Aside0.mk (Kd.R_mono (ok' := fun k_ => True) ho0 (fun k_ hk_ => trivial)); have n4_ := Aside0.mk (hb); clear BK231; clear BK232; clear HO246; clear HB; clear HO_11; have BK231 := n0_; have BK232 := n1_; have HO246 := n2_; have HO250 := n3_; have HB := n4_; clear n0_ n1_ n2_ n3_ n4_; (try clear hb); (try clear hkp); (try clear ho0)))
   go_roundg k1
   case measure => have := HK1.out; omega
   case rel => exact ⟨(y244), (t248), (wrap64 (x12_1 + 1)), rf_, H', ⟨by have := HK1.out; omega⟩, ⟨by (with_reducible repeat (first | apply Kd.R_alloc | apply Kd.R_drewN | apply Kd.R_drew)); exact HO246.out⟩, ⟨by (with_reducible repeat (first | apply Kd.R_alloc | apply Kd.R_drewN | apply Kd.R_drew)); exact HO250.out⟩, ⟨by (with_reducible repeat (first | refine blk_drewN ?_ _ | refine blk_drew ?_ | refine blk_alloc ?_ _)); exact BK231.out⟩, ⟨by (with_reducible repeat (first | refine blk_drewN ?_ _ | refine blk_drew ?_ | refine blk_alloc ?_ _)); exact BK232.out⟩, ⟨bz2 HB.out GE231.out GE232.out⟩⟩

end Go.Proofs.Ytoejllkjhaeeeaa.PExpiryFlows
