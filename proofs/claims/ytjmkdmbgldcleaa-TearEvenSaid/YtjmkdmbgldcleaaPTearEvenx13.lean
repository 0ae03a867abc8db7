import Derived.Test.YtjmkdmbgldcleaaPTearEvenx0
import Derived.Test.YtjmkdmbgldcleaaPTearEvenx3
import Derived.Test.YtjmkdmbgldcleaaPTearEvenx4
import Derived.Test.YtjmkdmbgldcleaaPTearEvenx7
import Derived.Test.YtjmkdmbgldcleaaPTearEvenx11
import Derived.Test.YtjmkdmbgldcleaaPTearEvenx12
namespace Go.Proofs.Ytjmkdmbgldcleaa.PTearEven
open Go.RowKit Go.Proofs.YtjmkdmbgldcleaaW.PrintWords Go.Proofs.YtjmkdmbgldcleaaW.PrintLast Go.Proofs.YtjmkdmbgldcleaaW.PrintMore
attribute [local go_sem] max2_int min2_int max_two min_two max_three min_three max_four min_four Go.Proofs.YtjmkdmbgldcleaaHand.run_leq_str Go.Proofs.YtjmkdmbgldcleaaHand.run_gtr_str Go.Proofs.YtjmkdmbgldcleaaHand.run_geq_str   -- for this text's walks alone
set_option linter.unusedVariables false
set_option linter.unusedSimpArgs false

attribute [local go_sem high] eqA55
/-! ### contangolaw50_TearEven: function 7 -/
mutual
def contangolaw50_TearEven.j0 : Nat → List (S58) → Bool → ByteArray → Int → Int → Int → Bool → Int → Option (Bool)
  | 0, _, _, _, _, _, _, _, _ => none
  | k + 1, x0, x25, x198000, x198001, x198002, x198003, x198004, x198005 => if x25 = true then ((contangolaw50_goes.f k).bind fun t200 => (some t200)) else ((tear_Parts.f k x0 x198000 x198001 x198002 x198003 x198004 x198005).bind fun bt201 => (if bt201.2 = 0 then (contangolaw50_TearEven.l0 k x0 bt201.1 0 0 x198000 x198001 x198002 x198003 x198004 x198005) else ((contangolaw50_goes.f k).bind fun t205 => (some t205))))
def contangolaw50_TearEven.l0 : Nat → List (S58) → List (S62) → Int → Int → ByteArray → Int → Int → Int → Bool → Int → Option (Bool)
  | 0, _, _, _, _, _, _, _, _, _, _ => none
  | k + 1, x0, x5, x7, x8, x198000, x198001, x198002, x198003, x198004, x198005 => if x8 < (x0.length : Int) then (if 0 ≤ x8 then ((contangolaw50_has.f k ((rd_T58 x0 x8).f0.f0) ((rd_T58 x0 x8).f0.f1) ((rd_T58 x0 x8).f1) x198000 x198001 x198002 x198003 x198004 x198005).bind fun t207 => (contangolaw50_TearEven.l0 k x0 x5 (wrap64 (x7 + t207)) (wrap64 (x8 + 1)) x198000 x198001 x198002 x198003 x198004 x198005)) else (none)) else (contangolaw50_TearEven.l1 k x0 x5 x7 0 x198000 x198001 x198002 x198003 x198004 x198005)
def contangolaw50_TearEven.l1 : Nat → List (S58) → List (S62) → Int → Int → ByteArray → Int → Int → Int → Bool → Int → Option (Bool)
  | 0, _, _, _, _, _, _, _, _, _, _ => none
  | k + 1, x0, x5, x7, x9, x198000, x198001, x198002, x198003, x198004, x198005 => if x9 < (x0.length : Int) then (contangolaw50_TearEven.l2 k x0 x5 x7 x9 0 0 x198000 x198001 x198002 x198003 x198004 x198005) else ((contangolaw50_goes.f k).bind fun t208 => (some t208))
def contangolaw50_TearEven.l2 : Nat → List (S58) → List (S62) → Int → Int → Int → Int → ByteArray → Int → Int → Int → Bool → Int → Option (Bool)
  | 0, _, _, _, _, _, _, _, _, _, _, _, _ => none
  | k + 1, x0, x5, x7, x9, x10, x11, x198000, x198001, x198002, x198003, x198004, x198005 => if x11 < (x5.length : Int) then (if 0 ≤ x11 then (if 0 ≤ x9 then (if x9 < (x0.length : Int) then (if (eqD55 ((rd_T62 x5 x11).f0.f0) ((rd_T58 x0 x9).f0.f0) ((rd_T62 x5 x11).f0.f1) ((rd_T58 x0 x9).f0.f1)) = true then (contangolaw50_TearEven.l2 k x0 x5 x7 x9 (wrap64 (x10 + ((rd_T62 x5 x11).f1))) (wrap64 (x11 + 1)) x198000 x198001 x198002 x198003 x198004 x198005) else (contangolaw50_TearEven.l2 k x0 x5 x7 x9 x10 (wrap64 (x11 + 1)) x198000 x198001 x198002 x198003 x198004 x198005)) else (none)) else (none)) else (none)) else (if 0 ≤ x9 then (if x9 < (x0.length : Int) then ((contangolaw50_has.f k ((rd_T58 x0 x9).f0.f0) ((rd_T58 x0 x9).f0.f1) ((rd_T58 x0 x9).f1) x198000 x198001 x198002 x198003 x198004 x198005).bind fun t213 => (if x7 > 0 then (if (wrap64 ((wrap64 (x10 * x7)) - (wrap64 (x198005 * t213)))) ≤ (wrap64 (-x7)) then (some false) else (if (wrap64 ((wrap64 (x10 * x7)) - (wrap64 (x198005 * t213)))) ≥ x7 then (some false) else ((contangolaw50_has.f k ((rd_T58 x0 x9).f0.f0) ((rd_T58 x0 x9).f0.f1) ((rd_T58 x0 x9).f1) x198000 x198001 x198002 x198003 x198004 x198005).bind fun t215 => (if x10 > t215 then (some false) else (contangolaw50_TearEven.l1 k x0 x5 x7 (wrap64 (x9 + 1)) x198000 x198001 x198002 x198003 x198004 x198005))))) else ((contangolaw50_has.f k ((rd_T58 x0 x9).f0.f0) ((rd_T58 x0 x9).f0.f1) ((rd_T58 x0 x9).f1) x198000 x198001 x198002 x198003 x198004 x198005).bind fun t217 => (if x10 > t217 then (some false) else (contangolaw50_TearEven.l1 k x0 x5 x7 (wrap64 (x9 + 1)) x198000 x198001 x198002 x198003 x198004 x198005))))) else (none)) else (none))
end
def contangolaw50_TearEven.f (k : Nat) (l0 : List (S58)) (a1_0 : ByteArray) (a1_1 : Int) (a1_2 : Int) (a1_3 : Int) (a1_4 : Bool) (a1_5 : Int) : Option (Bool) := if (l0.length : Int) > 100 then (contangolaw50_TearEven.j0 k l0 true a1_0 a1_1 a1_2 a1_3 a1_4 a1_5) else ((contangolaw50_few.f k l0).bind fun t198 => (if t198 = true then ((contangolaw50_alone.f k l0).bind fun t199 => (contangolaw50_TearEven.j0 k l0 (!t199) a1_0 a1_1 a1_2 a1_3 a1_4 a1_5)) else (contangolaw50_TearEven.j0 k l0 true a1_0 a1_1 a1_2 a1_3 a1_4 a1_5)))
theorem contangolaw50_TearEven.mono_l : ∀ k, (∀ y0 y1 y2 y3 y4 y5 y6 y7, LeO (contangolaw50_TearEven.j0 k y0 y1 y2 y3 y4 y5 y6 y7) (contangolaw50_TearEven.j0 (k + 1) y0 y1 y2 y3 y4 y5 y6 y7)) ∧ (∀ y0 y1 y2 y3 y4 y5 y6 y7 y8 y9, LeO (contangolaw50_TearEven.l0 k y0 y1 y2 y3 y4 y5 y6 y7 y8 y9) (contangolaw50_TearEven.l0 (k + 1) y0 y1 y2 y3 y4 y5 y6 y7 y8 y9)) ∧ (∀ y0 y1 y2 y3 y4 y5 y6 y7 y8 y9, LeO (contangolaw50_TearEven.l1 k y0 y1 y2 y3 y4 y5 y6 y7 y8 y9) (contangolaw50_TearEven.l1 (k + 1) y0 y1 y2 y3 y4 y5 y6 y7 y8 y9)) ∧ (∀ y0 y1 y2 y3 y4 y5 y6 y7 y8 y9 y10 y11, LeO (contangolaw50_TearEven.l2 k y0 y1 y2 y3 y4 y5 y6 y7 y8 y9 y10 y11) (contangolaw50_TearEven.l2 (k + 1) y0 y1 y2 y3 y4 y5 y6 y7 y8 y9 y10 y11))
  | 0 => ⟨fun _ _ _ _ _ _ _ _ r h => by simp [contangolaw50_TearEven.j0] at h, fun _ _ _ _ _ _ _ _ _ _ r h => by simp [contangolaw50_TearEven.l0] at h, fun _ _ _ _ _ _ _ _ _ _ r h => by simp [contangolaw50_TearEven.l1] at h, fun _ _ _ _ _ _ _ _ _ _ _ _ r h => by simp [contangolaw50_TearEven.l2] at h⟩
  | k + 1 => by
    obtain ⟨ih0, ih1, ih2, ih3⟩ := contangolaw50_TearEven.mono_l k
    refine ⟨?_, ?_, ?_, ?_⟩
    · intro y0 y1 y2 y3 y4 y5 y6 y7
      unfold contangolaw50_TearEven.j0
      repeat' first
      | (with_reducible exact ih0 _ _ _ _ _ _ _ _)
      | (with_reducible exact ih1 _ _ _ _ _ _ _ _ _ _)
      | (with_reducible exact ih2 _ _ _ _ _ _ _ _ _ _)
      | (with_reducible exact ih3 _ _ _ _ _ _ _ _ _ _ _ _)
      | (with_reducible exact contangolaw50_alone.mono _ _)
      | (with_reducible exact contangolaw50_few.mono _ _)
      | (with_reducible exact contangolaw50_goes.mono _)
      | (with_reducible exact contangolaw50_has.mono _ _ _ _ _ _ _ _ _ _)
      | (with_reducible exact tear_Parts.mono _ _ _ _ _ _ _ _)
      | (with_reducible exact LeO.refl _)
      | (with_reducible exact LeO.none _)
      | (with_reducible refine LeO.ite ?_ ?_)
      | (with_reducible refine LeO.bind ?_ (fun _ => ?_))
      | exact LeO.none _
      | refine LeO.ite ?_ ?_
      | refine LeO.bind ?_ (fun _ => ?_)
    · intro y0 y1 y2 y3 y4 y5 y6 y7 y8 y9
      unfold contangolaw50_TearEven.l0
      repeat' first
      | (with_reducible exact ih0 _ _ _ _ _ _ _ _)
      | (with_reducible exact ih1 _ _ _ _ _ _ _ _ _ _)
      | (with_reducible exact ih2 _ _ _ _ _ _ _ _ _ _)
      | (with_reducible exact ih3 _ _ _ _ _ _ _ _ _ _ _ _)
      | (with_reducible exact contangolaw50_alone.mono _ _)
      | (with_reducible exact contangolaw50_few.mono _ _)
      | (with_reducible exact contangolaw50_goes.mono _)
      | (with_reducible exact contangolaw50_has.mono _ _ _ _ _ _ _ _ _ _)
      | (with_reducible exact tear_Parts.mono _ _ _ _ _ _ _ _)
      | (with_reducible exact LeO.refl _)
      | (with_reducible exact LeO.none _)
      | (with_reducible refine LeO.ite ?_ ?_)
      | (with_reducible refine LeO.bind ?_ (fun _ => ?_))
      | exact LeO.none _
      | refine LeO.ite ?_ ?_
      | refine LeO.bind ?_ (fun _ => ?_)
    · intro y0 y1 y2 y3 y4 y5 y6 y7 y8 y9
      unfold contangolaw50_TearEven.l1
      repeat' first
      | (with_reducible exact ih0 _ _ _ _ _ _ _ _)
      | (with_reducible exact ih1 _ _ _ _ _ _ _ _ _ _)
      | (with_reducible exact ih2 _ _ _ _ _ _ _ _ _ _)
      | (with_reducible exact ih3 _ _ _ _ _ _ _ _ _ _ _ _)
      | (with_reducible exact contangolaw50_alone.mono _ _)
      | (with_reducible exact contangolaw50_few.mono _ _)
      | (with_reducible exact contangolaw50_goes.mono _)
      | (with_reducible exact contangolaw50_has.mono _ _ _ _ _ _ _ _ _ _)
      | (with_reducible exact tear_Parts.mono _ _ _ _ _ _ _ _)
      | (with_reducible exact LeO.refl _)
      | (with_reducible exact LeO.none _)
      | (with_reducible refine LeO.ite ?_ ?_)
      | (with_reducible refine LeO.bind ?_ (fun _ => ?_))
      | exact LeO.none _
      | refine LeO.ite ?_ ?_
      | refine LeO.bind ?_ (fun _ => ?_)
    · intro y0 y1 y2 y3 y4 y5 y6 y7 y8 y9 y10 y11
      unfold contangolaw50_TearEven.l2
      repeat' first
      | (with_reducible exact ih0 _ _ _ _ _ _ _ _)
      | (with_reducible exact ih1 _ _ _ _ _ _ _ _ _ _)
      | (with_reducible exact ih2 _ _ _ _ _ _ _ _ _ _)
      | (with_reducible exact ih3 _ _ _ _ _ _ _ _ _ _ _ _)
      | (with_reducible exact contangolaw50_alone.mono _ _)
      | (with_reducible exact contangolaw50_few.mono _ _)
      | (with_reducible exact contangolaw50_goes.mono _)
      | (with_reducible exact contangolaw50_has.mono _ _ _ _ _ _ _ _ _ _)
      | (with_reducible exact tear_Parts.mono _ _ _ _ _ _ _ _)
      | (with_reducible exact LeO.refl _)
      | (with_reducible exact LeO.none _)
      | (with_reducible refine LeO.ite ?_ ?_)
      | (with_reducible refine LeO.bind ?_ (fun _ => ?_))
      | exact LeO.none _
      | refine LeO.ite ?_ ?_
      | refine LeO.bind ?_ (fun _ => ?_)
theorem contangolaw50_TearEven.mono : ∀ a0 a1 a2 a3 a4 a5 a6 k, LeO (contangolaw50_TearEven.f k a0 a1 a2 a3 a4 a5 a6) (contangolaw50_TearEven.f (k + 1) a0 a1 a2 a3 a4 a5 a6) := by
  intro a0 a1 a2 a3 a4 a5 a6 k
  obtain ⟨ih0, ih1, ih2, ih3⟩ := contangolaw50_TearEven.mono_l k
  unfold contangolaw50_TearEven.f
  repeat' first
      | (with_reducible exact ih0 _ _ _ _ _ _ _ _)
      | (with_reducible exact ih1 _ _ _ _ _ _ _ _ _ _)
      | (with_reducible exact ih2 _ _ _ _ _ _ _ _ _ _)
      | (with_reducible exact ih3 _ _ _ _ _ _ _ _ _ _ _ _)
      | (with_reducible exact contangolaw50_alone.mono _ _)
      | (with_reducible exact contangolaw50_few.mono _ _)
      | (with_reducible exact contangolaw50_goes.mono _)
      | (with_reducible exact contangolaw50_has.mono _ _ _ _ _ _ _ _ _ _)
      | (with_reducible exact tear_Parts.mono _ _ _ _ _ _ _ _)
      | (with_reducible exact LeO.refl _)
      | (with_reducible exact LeO.none _)
      | (with_reducible refine LeO.ite ?_ ?_)
      | (with_reducible refine LeO.bind ?_ (fun _ => ?_))
      | exact LeO.none _
      | refine LeO.ite ?_ ?_
      | refine LeO.bind ?_ (fun _ => ?_)
def contangolaw50_TearEven.T10 : Bool × List (List Nat × List Nat) := (true, [([], []), ([], []), ([], []), ([1, 2], [1, 2]), ([3], [3]), ([], []), ([4, 5], [4, 5]), ([0, 6], [0, 6]), ([7, 6, 0, 1, 2, 3, 4, 5, 6, 7], [0, 7])])
def contangolaw50_TearEven.B10 : List Nat := [0, 0, 0, 6, 14, 0, 62, 127, 255]
theorem contangolaw50_TearEven.tab10 : rtab .any (opsOf Try.f7 10) = contangolaw50_TearEven.T10 := by kernel_rfl
theorem contangolaw50_TearEven.bits10 : waitsOk contangolaw50_TearEven.T10.2 contangolaw50_TearEven.B10 = true := by kernel_rfl
def contangolaw50_TearEven.T18 : Bool × List (List Nat × List Nat) := (true, [([], []), ([], []), ([0, 1], [0, 1]), ([2], [2]), ([3], [3]), ([], []), ([], []), ([5, 6], [5, 6]), ([7], [7]), ([8], [8]), ([4, 9], [4, 9])])
def contangolaw50_TearEven.B18 : List Nat := [0, 0, 3, 7, 15, 0, 0, 96, 224, 480, 1023]
theorem contangolaw50_TearEven.tab18 : rtab .any (opsOf Try.f7 18) = contangolaw50_TearEven.T18 := by kernel_rfl
theorem contangolaw50_TearEven.bits18 : waitsOk contangolaw50_TearEven.T18.2 contangolaw50_TearEven.B18 = true := by kernel_rfl
def contangolaw50_TearEven.T20 : Bool × List (List Nat × List Nat) := (true, [([], []), ([], []), ([0, 1], [0, 1]), ([], []), ([3], [3]), ([], []), ([], []), ([5, 6], [5, 6]), ([7], [7]), ([], []), ([8, 9], [8, 9]), ([4, 10], [4, 10]), ([2, 11], [2, 11]), ([12, 10, 0, 1, 2, 3, 4, 5, 6, 7, 8, 9, 10, 11, 12], [12])])
def contangolaw50_TearEven.B20 : List Nat := [0, 0, 3, 0, 8, 0, 0, 96, 224, 0, 992, 2040, 4095, 8191]
theorem contangolaw50_TearEven.tab20 : rtab .any (opsOf Try.f7 20) = contangolaw50_TearEven.T20 := by kernel_rfl
theorem contangolaw50_TearEven.bits20 : waitsOk contangolaw50_TearEven.T20.2 contangolaw50_TearEven.B20 = true := by kernel_rfl
def contangolaw50_TearEven.T21 : Bool × List (List Nat × List Nat) := (true, [([], []), ([0], [0]), ([1], [1]), ([2], [2]), ([2], [2]), ([4, 2], [2, 4]), ([3, 5, 2], [2, 3, 5]), ([6, 2, 2], [2, 6]), ([7], [7]), ([7], [7]), ([8, 9, 7], [7, 8, 9]), ([7, 10, 2], [2, 7, 10]), ([2, 11], [2, 11]), ([12, 7], [12]), ([13], [13]), ([13], [13]), ([13], [13]), ([15, 16, 13], [13, 15, 16]), ([17, 13], [13, 17]), ([13], [13]), ([18, 19, 13, 13], [13, 18, 19]), ([14, 20, 13], [13, 14, 20]), ([13, 21], [13, 21])])
def contangolaw50_TearEven.B21 : List Nat := [0, 1, 3, 7, 7, 23, 63, 127, 255, 255, 1023, 2047, 4095, 8191, 16383, 16383, 16383, 114687, 245759, 16383, 1032191, 2097151, 4194303]
theorem contangolaw50_TearEven.tab21 : rtab .any (opsOf Try.f7 21) = contangolaw50_TearEven.T21 := by kernel_rfl
theorem contangolaw50_TearEven.bits21 : waitsOk contangolaw50_TearEven.T21.2 contangolaw50_TearEven.B21 = true := by kernel_rfl
set_option maxHeartbeats 8000000 in
set_option maxRecDepth 100000 in
theorem contangolaw50_TearEven.calls (k : Nat) (A0 : Option Addr) (c0 : Nat) (l0 : List (S58)) (a1_0 : ByteArray) (a1_1 : Int) (a1_2 : Int) (a1_3 : Int) (a1_4 : Bool) (a1_5 : Int) (r : Bool) (hrt : r = true) (w : World) (hr0 : Kd.C k58 w A0 l0.length l0) (hc0 : l0.length ≤ c0) (h : contangolaw50_TearEven.f k l0 a1_0 a1_1 a1_2 a1_3 a1_4 a1_5 = some r) :
    Calls Try.prog 7 #[.slice A0 l0.length c0, .agg #[.string a1_0, .int .i64 a1_1, .int .i64 a1_2, .int .i64 a1_3, .bool a1_4, .int .i64 a1_5]] w fun e w' => e = .returned (.bool r) ∧ Below w.heap.size w w' := by
  have hu26 := Try.underlying26
  have hu24 := Try.underlying24
  have hu58 := Try.underlying58
  have hu55 := Try.underlying55
  have HR0 := Aside0.mk hr0
  have HC0 := Aside0.mk hc0
  clear hr0 hc0
  have HB := Aside0.mk (Below.refl w.heap.size w)
  have HRT := Aside0.mk hrt
  clear hrt
  have H : (if (l0.length : Int) > 100 then (contangolaw50_TearEven.j0 k l0 true a1_0 a1_1 a1_2 a1_3 a1_4 a1_5) else ((contangolaw50_few.f k l0).bind fun t198 => (if t198 = true then ((contangolaw50_alone.f k l0).bind fun t199 => (contangolaw50_TearEven.j0 k l0 (!t199) a1_0 a1_1 a1_2 a1_3 a1_4 a1_5)) else (contangolaw50_TearEven.j0 k l0 true a1_0 a1_1 a1_2 a1_3 a1_4 a1_5)))) = some r := h
  clear h
  have HC3 := Aside0.mk H
  clear H
  go_enter Try.func7, Try.ntmps7
  go_upto_region 1 with (first | ((with_reducible refine gate_dst (N := 3) rfl ?_); refine box_event ?hg (N := 3) ?hd (cs := #[.string a1_0, .int .i64 a1_1, .int .i64 a1_2, .int .i64 a1_3, .bool a1_4, .int .i64 a1_5]) (t := 26) ?hr ?_; (case hd => rfl); (case hg => rfl); (case hr => first | (go_simp; done) | (go_simp; rfl)); intro gb197 hg w4 hbox hb; have n0_ := Aside0.mk (below_step (bz0 HB.out) hb); have n1_ := Aside0.mk (hbox); have n2_ := Aside0.mk ((by rw [hg]; exact (below_size (bz0 HB.out)) : w.heap.size ≤ gb197)); have n3_ := Aside0.mk ((by rw [hg]; exact (below_size (bz0 HB.out)) : w.heap.size ≤ gb197)); clear HB; have HB := n0_; have BK197 := n1_; have GW197 := n2_; have GE197 := n3_; clear n0_ n1_ n2_ n3_; clear hb hbox hg))
  (try simp only [Act.put, List.setIfInBounds_toArray, List.set_cons_zero, List.set_cons_succ])
  go_cut [25] (fun v25 wc => ∃ (kq : Nat) (x25_2 : Bool), v25 = .bool x25_2 ∧ Aside0 (contangolaw50_TearEven.j0 kq l0 x25_2 a1_0 a1_1 a1_2 a1_3 a1_4 a1_5 = some r) ∧ Aside0 (kq ≤ k) ∧ Aside0 (wc.heap[gb197]? = some (.cells #[.string a1_0, .int .i64 a1_1, .int .i64 a1_2, .int .i64 a1_3, .bool a1_4, .int .i64 a1_5] 26 (0, 0))) ∧ Aside0 (Below w.heap.size w wc))
  case first =>
    have H := HC3.out
    clear HC3
    by_cases c5 : (l0.length : Int) > 100
    · rw [if_pos c5] at H
      have c5b0 : decide (100 < (l0.length : Int)) = true := decide_eq_true c5
      have c5b1 : decide (100 < l0.length) = true := decide_eq_true (by omega)
      clear c5
      (first | rw [c5b0] | (simp only [i64_w, i32_w]; rw [c5b0]) | skip)
      have H' := Aside0.mk H
      clear H
      go_wp2
      go_meet
      case rel => exact ⟨_, (true), rf_, H', ⟨by first | omega | exact Nat.le_refl _⟩, ⟨by (with_reducible repeat (first | refine blk_drewN ?_ _ | refine blk_drew ?_ | refine blk_alloc ?_ _)); exact BK197.out⟩, ⟨bz1 HB.out GE197.out⟩⟩
    · rw [if_neg c5] at H
      have c5b0 : decide (100 < (l0.length : Int)) = false := decide_eq_false c5
      have c5b1 : decide (100 < l0.length) = false := decide_eq_false (by omega)
      clear c5
      (first | rw [c5b0] | (simp only [i64_w, i32_w]; rw [c5b0]) | skip)
      replace H := Option.bind_eq_some_iff.mp H
      obtain ⟨t198, A60, H⟩ := H
      replace H : (if t198 = true then ((contangolaw50_alone.f k l0).bind fun t199 => (contangolaw50_TearEven.j0 k l0 (!t199) a1_0 a1_1 a1_2 a1_3 a1_4 a1_5)) else (contangolaw50_TearEven.j0 k l0 true a1_0 a1_1 a1_2 a1_3 a1_4 a1_5)) = some r := H
      have A6 := Aside0.mk A60
      clear A60
      by_cases c7 : t198 = true
      · subst c7
        have H1 : ((contangolaw50_alone.f k l0).bind fun t199 => (contangolaw50_TearEven.j0 k l0 (!t199) a1_0 a1_1 a1_2 a1_3 a1_4 a1_5)) = some r := by rw [if_pos rfl] at H; exact H
        clear H
        have H := H1
        clear H1
        replace H := Option.bind_eq_some_iff.mp H
        obtain ⟨t199, A80, H⟩ := H
        replace H : (contangolaw50_TearEven.j0 k l0 (!t199) a1_0 a1_1 a1_2 a1_3 a1_4 a1_5) = some r := H
        have A8 := Aside0.mk A80
        clear A80
        have H' := Aside0.mk H
        clear H
        go_wp2_with (first | (go_at_call 8; (with_reducible refine (contangolaw50_few.calls k _ _ l0 true _ ?side1 ?side2 A6.out).mono ?_); (case side1 => repeat (first | exact (Kd.C_below HR0.out HB.out) | (with_reducible refine Kd.C_alloc ?_ _) | (with_reducible refine Kd.C_drewN ?_ _) | (with_reducible refine Kd.C_drew ?_))); (case side2 => exact HC0.out); rintro e w' ⟨rfl, ⟨nd, rfl⟩⟩) | (go_at_call 18; (with_reducible refine (contangolaw50_alone.calls k _ _ l0 t199 _ ?side1 ?side2 A8.out).mono ?_); (case side1 => repeat (first | exact (Kd.C_below HR0.out (bz1 HB.out GE197.out)) | (with_reducible refine Kd.C_alloc ?_ _) | (with_reducible refine Kd.C_drewN ?_ _) | (with_reducible refine Kd.C_drew ?_))); (case side2 => exact HC0.out); rintro e w' ⟨rfl, ⟨nd, rfl⟩⟩))
        go_meet
        case rel => exact ⟨_, (!t199), rf_, H', ⟨by first | omega | exact Nat.le_refl _⟩, ⟨by (with_reducible repeat (first | refine blk_drewN ?_ _ | refine blk_drew ?_ | refine blk_alloc ?_ _)); exact BK197.out⟩, ⟨bz1 HB.out GE197.out⟩⟩
      · replace c7 := Bool.eq_false_iff.mpr c7
        subst c7
        have H1 : (contangolaw50_TearEven.j0 k l0 true a1_0 a1_1 a1_2 a1_3 a1_4 a1_5) = some r := by rw [if_neg (show ¬ (false = true) by decide)] at H; exact H
        clear H
        have H := H1
        clear H1
        have H' := Aside0.mk H
        clear H
        go_wp2_with (first | (go_at_call 8; (with_reducible refine (contangolaw50_few.calls k _ _ l0 false _ ?side1 ?side2 A6.out).mono ?_); (case side1 => repeat (first | exact (Kd.C_below HR0.out HB.out) | (with_reducible refine Kd.C_alloc ?_ _) | (with_reducible refine Kd.C_drewN ?_ _) | (with_reducible refine Kd.C_drew ?_))); (case side2 => exact HC0.out); rintro e w' ⟨rfl, ⟨nd, rfl⟩⟩))
        go_meet
        case rel => exact ⟨_, (true), rf_, H', ⟨by first | omega | exact Nat.le_refl _⟩, ⟨by (with_reducible repeat (first | refine blk_drewN ?_ _ | refine blk_drew ?_ | refine blk_alloc ?_ _)); exact BK197.out⟩, ⟨bz1 HB.out GE197.out⟩⟩
  case rest =>
    clear HC3
    try clear p2
    try clear c5
    try clear c5b0
    try clear c5b1
    try clear c7
    obtain ⟨kq, x25_2, rfl, HA, HJ2, BK197, HB⟩ := hcut
    cases kq with
    | zero => exact absurd HA.out (by simp [contangolaw50_TearEven.j0])
    | succ kj2 =>
      have H := HA.out
      clear HA
      simp only [contangolaw50_TearEven.j0] at H
      by_cases c9 : x25_2 = true
      · subst c9
        have H1 : ((contangolaw50_goes.f kj2).bind fun t200 => (some t200)) = some r := by rw [if_pos rfl] at H; exact H
        clear H
        have H := H1
        clear H1
        replace H := Option.bind_eq_some_iff.mp H
        obtain ⟨t200, A100, H⟩ := H
        replace H : (some t200) = some r := H
        have A10 := Aside0.mk A100
        clear A100
        obtain rfl := Option.some.inj H
        go_wp2_with (first | ((with_reducible refine gate_callee (f := 9) rfl ?_); refine goesL_ (some 26) rfl rfl Try.func9 (by kernel_rfl) rfl #[] rfl pm_ ?_; (with_reducible refine (contangolaw50_goes.calls kj2  t200 _ A10.out).mono ?_); rintro e w11 ⟨rfl, hb⟩; refine ⟨_, rfl, ?_⟩; have n0_ := Aside0.mk (blk_below (g := gb197) (o := .cells #[.string a1_0, .int .i64 a1_1, .int .i64 a1_2, .int .i64 a1_3, .bool a1_4, .int .i64 a1_5] 26 (0, 0)) (bk_ BK197.out) hb); have n1_ := Aside0.mk (below_step (bz1 HB.out GE197.out) hb); clear BK197; clear HB; have BK197 := n0_; have HB := n1_; clear n0_ n1_; (try clear hb); (try clear hb2); (try clear hk); (try clear hi)))
        go_ret
        exact ⟨by first | rfl | (simp [errW_none, errW_some] <;> rfl) | (simp [*, errW_none, errW_some] <;> rfl), bz1 HB.out GE197.out⟩
      · replace c9 := Bool.eq_false_iff.mpr c9
        subst c9
        have H1 : ((tear_Parts.f kj2 l0 a1_0 a1_1 a1_2 a1_3 a1_4 a1_5).bind fun bt201 => (if bt201.2 = 0 then (contangolaw50_TearEven.l0 kj2 l0 bt201.1 0 0 a1_0 a1_1 a1_2 a1_3 a1_4 a1_5) else ((contangolaw50_goes.f kj2).bind fun t205 => (some t205)))) = some r := by rw [if_neg (show ¬ (false = true) by decide)] at H; exact H
        clear H
        have H := H1
        clear H1
        replace H := Option.bind_eq_some_iff.mp H
        obtain ⟨⟨t201, t204⟩, A120, H⟩ := H
        replace H : (if t204 = 0 then (contangolaw50_TearEven.l0 kj2 l0 t201 0 0 a1_0 a1_1 a1_2 a1_3 a1_4 a1_5) else ((contangolaw50_goes.f kj2).bind fun t205 => (some t205))) = some r := H
        have A12 := Aside0.mk A120
        clear A120
        by_cases c13 : t204 = 0
        · rw [if_pos c13] at H
          have c13b0 : (t204 == 0) = true := beq_iff_eq.mpr c13
          have c13b1 : (t204 != 0) = false := bne_eq_false_iff_eq.mpr c13
          clear c13
          have H' := Aside0.mk H
          clear H
          have hcz14_0 : wc.cell? ⟨gb197, 0, none⟩ = some (.string a1_0) := (blk_cell BK197.out 0).trans rfl
          have hcz14_1 : wc.cell? ⟨gb197, 1, none⟩ = some (.int .i64 a1_1) := (blk_cell BK197.out 1).trans rfl
          have hcz14_2 : wc.cell? ⟨gb197, 2, none⟩ = some (.int .i64 a1_2) := (blk_cell BK197.out 2).trans rfl
          have hcz14_3 : wc.cell? ⟨gb197, 3, none⟩ = some (.int .i64 a1_3) := (blk_cell BK197.out 3).trans rfl
          have hcz14_4 : wc.cell? ⟨gb197, 4, none⟩ = some (.bool a1_4) := (blk_cell BK197.out 4).trans rfl
          have hcz14_5 : wc.cell? ⟨gb197, 5, none⟩ = some (.int .i64 a1_5) := (blk_cell BK197.out 5).trans rfl
          have hfz14_0 := blk_frozen BK197.out 0
          have hfz14_1 := blk_frozen BK197.out 1
          have hfz14_2 := blk_frozen BK197.out 2
          have hfz14_3 := blk_frozen BK197.out 3
          have hfz14_4 := blk_frozen BK197.out 4
          have hfz14_5 := blk_frozen BK197.out 5
          go_wp2_with (first | ((with_reducible refine gate_callee (f := 10) rfl ?_); refine goesL_ (some 35) rfl rfl Try.func10 (by kernel_rfl) rfl #[.slice A0 l0.length c0, .agg #[.string a1_0, .int .i64 a1_1, .int .i64 a1_2, .int .i64 a1_3], .bool a1_4, .int .i64 a1_5] rfl pm_ ?_; (with_reducible refine (tear_Parts.calls kj2 _ _ l0 a1_0 a1_1 a1_2 a1_3 a1_4 a1_5 t201 t204 _ ?side1 ?side2 A12.out).mono ?_); (case side1 => repeat (first | exact (Kd.C_below HR0.out HB.out) | (with_reducible refine Kd.C_alloc ?_ _) | (with_reducible refine Kd.C_drewN ?_ _) | (with_reducible refine Kd.C_drew ?_))); (case side2 => exact HC0.out); rintro e w15 ⟨v202, rfl, ho0, hb⟩; refine ⟨_, rfl, ?_⟩; have n0_ := Aside0.mk (Kd.R_lower ho0 (below_size (bz1 HB.out GE197.out))); have n1_ := Aside0.mk (blk_below (g := gb197) (o := .cells #[.string a1_0, .int .i64 a1_1, .int .i64 a1_2, .int .i64 a1_3, .bool a1_4, .int .i64 a1_5] 26 (0, 0)) (bk_ BK197.out) hb); have n2_ := Aside0.mk (below_step (bz1 HB.out GE197.out) hb); clear BK197; clear HB; have HO203 := n0_; have BK197 := n1_; have HB := n2_; clear n0_ n1_ n2_; (try clear hb); (try clear hb2); (try clear hk); (try clear hi); (try clear ho0)))
          go_loopg [7, 8] kj2 (fun kq v7 v8 w' => ∃ (x7_2 : Int) (x8_2 : Int), v7 = .int .i64 x7_2 ∧ v8 = .int .i64 x8_2 ∧ Aside0 (contangolaw50_TearEven.l0 kq l0 t201 x7_2 x8_2 a1_0 a1_1 a1_2 a1_3 a1_4 a1_5 = some r) ∧ Aside0 (kq ≤ kj2) ∧ Aside0 (Kd.R k62 62 w' w.heap.size (fun _ => True) v202 t201) ∧ Aside0 (w'.heap[gb197]? = some (.cells #[.string a1_0, .int .i64 a1_1, .int .i64 a1_2, .int .i64 a1_3, .bool a1_4, .int .i64 a1_5] 26 (0, 0))) ∧ Aside0 (Below w.heap.size w w'))
          case atStart => exact ⟨(0), (0), rf_, rf_, H', ⟨Nat.le_refl _⟩, ⟨by (with_reducible repeat (first | apply Kd.R_alloc | apply Kd.R_drewN | apply Kd.R_drew)); exact HO203.out⟩, ⟨by (with_reducible repeat (first | refine blk_drewN ?_ _ | refine blk_drew ?_ | refine blk_alloc ?_ _)); exact BK197.out⟩, ⟨bz1 HB.out GE197.out⟩⟩
          case round =>
            clear H'
            try clear c1
            try clear p2
            try clear c5
            try clear c5b0
            try clear c5b1
            try clear c7
            try clear c9
            try clear c10
            try clear c13
            try clear c13b0
            try clear c13b1
            try clear hcz14_0
            try clear hcz14_1
            try clear hcz14_2
            try clear hcz14_3
            try clear hcz14_4
            try clear hcz14_5
            try clear hfz14_0
            try clear hfz14_1
            try clear hfz14_2
            try clear hfz14_3
            try clear hfz14_4
            try clear hfz14_5
            try clear p2
            obtain ⟨x7_2, x8_2, rfl, rfl, HA, HK2, HO_5, BK197, HB⟩ := hrel
            cases gk with
            | zero => exact absurd HA.out (by simp [contangolaw50_TearEven.l0])
            | succ k2 =>
              have H := HA.out
              clear HA
              simp only [contangolaw50_TearEven.l0] at H
              by_cases c16 : x8_2 < (l0.length : Int)
              · rw [if_pos c16] at H
                have c16b0 : decide (x8_2 < (l0.length : Int)) = true := decide_eq_true c16
                clear c16
                by_cases c17 : 0 ≤ x8_2
                · rw [if_pos c17] at H
                  have c17b0 : decide (0 ≤ x8_2) = true := decide_eq_true c17
                  clear c17
                  replace H := Option.bind_eq_some_iff.mp H
                  obtain ⟨t207, A180, H⟩ := H
                  replace H : (contangolaw50_TearEven.l0 k2 l0 t201 (wrap64 (x7_2 + t207)) (wrap64 (x8_2 + 1)) a1_0 a1_1 a1_2 a1_3 a1_4 a1_5) = some r := H
                  have A18 := Aside0.mk A180
                  clear A180
                  have H' := Aside0.mk H
                  clear H
                  try go_wp2
                  have n0_ := Aside0.mk (Kd.R_drew HO_5.out)
                  have n1_ := Aside0.mk (blk_drew BK197.out)
                  have n2_ := Aside0.mk (below_drew1 HB.out)
                  clear HO_5
                  clear BK197
                  clear HB
                  have HO_5 := n0_
                  have BK197 := n1_
                  have HB := n2_
                  clear n0_ n1_ n2_
                  have p206 : 0 ≤ (x8_2 : Int) := od_
                  have q206 : x8_2 < (l0.length : Int) := od_
                  obtain ⟨ad206, A206_2, c206_2, e206, hx206_0, hx206_1, hx206_2, hl206_2, hi206_2⟩ := at_T58 HR0.out x8_2 p206 q206
                  have hw206_2 := hx206_2
                  have hw206_1 := hx206_1
                  have hw206_0 := hx206_0
                  cases e206
                  replace hx206_0 := (HB.out.cell (World.block_lt_of_cell? w _ hx206_0)).trans hx206_0
                  replace hx206_1 := (HB.out.cell (World.block_lt_of_cell? w _ hx206_1)).trans hx206_1
                  replace hx206_2 := (HB.out.cell (World.block_lt_of_cell? w _ hx206_2)).trans hx206_2
                  have HR206_2 := Aside0.mk hi206_2
                  have HC206_2 := Aside0.mk hl206_2
                  clear hi206_2 hl206_2
                  replace p206 := eq_true p206
                  replace q206 := eq_true q206
                  refine start_ (n := 9) (S := fun w' => w'.cell? ⟨gb197, 0, none⟩ = some (.string a1_0) ∧ w'.cell? ⟨gb197, 1, none⟩ = some (.int .i64 a1_1) ∧ w'.cell? ⟨gb197, 2, none⟩ = some (.int .i64 a1_2) ∧ w'.cell? ⟨gb197, 3, none⟩ = some (.int .i64 a1_3) ∧ w'.cell? ⟨gb197, 4, none⟩ = some (.bool a1_4) ∧ w'.cell? ⟨gb197, 5, none⟩ = some (.int .i64 a1_5) ∧ w'.cell? (ad206.add ((x8_2).toNat * 3)) = some (.string ((rd_T58 l0 x8_2).f0.f0)) ∧ w'.cell? ⟨(ad206.add ((x8_2).toNat * 3)).block, (ad206.add ((x8_2).toNat * 3)).off + 1, none⟩ = some (.string ((rd_T58 l0 x8_2).f0.f1)) ∧ w'.cell? ⟨(ad206.add ((x8_2).toNat * 3)).block, (ad206.add ((x8_2).toNat * 3)).off + 2, none⟩ = some (.slice A206_2 ((rd_T58 l0 x8_2).f1).length c206_2)) (ds := []) (tf 0 9) (by kernel_rfl) rfl rfl ⟨(blk_cell BK197.out 0).trans rfl, (blk_cell BK197.out 1).trans rfl, (blk_cell BK197.out 2).trans rfl, (blk_cell BK197.out 3).trans rfl, (blk_cell BK197.out 4).trans rfl, (blk_cell BK197.out 5).trans rfl, ((HB.out.cell (World.block_lt_of_cell? w _ hw206_0)).trans hw206_0), ((HB.out.cell (World.block_lt_of_cell? w _ hw206_1)).trans hw206_1), ((HB.out.cell (World.block_lt_of_cell? w _ hw206_2)).trans hw206_2)⟩ (fun hHeld => ?_); refine with_tabW contangolaw50_TearEven.tab10 contangolaw50_TearEven.bits10 (fun HT_ HW_ => ?_)
                  generalize wr.drew = w19 at HO_5 BK197 HB HR206_2 hx206_0 hx206_1 hx206_2 hHeld ⊢
                  refine pv_ 0 47 (tf 1 8) HT_ ?_
                  refine pv_ 1 48 (tf 2 7) HT_ ?_
                  refine pv_ 2 49 (tf 3 6) HT_ ?_
                  refine pv_ 3 50 (tf 4 5) HT_ ?_
                  refine take_ (i := 4) (N := some 51) (v := ?_) (a' := ?_) (tf 5 4) rfl rfl (take_ofW HT_.out HW_.out (by kernel_rfl)) (fun _ _ _ h => h) (Or.inl ⟨by rfl, ?_⟩) hHeld ?_ ?_
                  rotate_left
                  · rintro w' ⟨s0, s1, s2, s3, s4, s5, s6, s7, s8⟩
                    go_simp
                    with_reducible rfl
                  rotate_left
                  · exact ap_
                  refine take_ (i := 5) (N := some 52) (v := ?_) (a' := ?_) (tf 6 3) rfl rfl (take_ofW HT_.out HW_.out (by kernel_rfl)) (fun _ _ _ h => h) (Or.inl ⟨by rfl, ?_⟩) hHeld ?_ ?_
                  rotate_left
                  · rintro w' ⟨s0, s1, s2, s3, s4, s5, s6, s7, s8⟩
                    go_simp
                    with_reducible rfl
                  rotate_left
                  · exact ap_
                  refine one_ (i := 6) (N := some 53) (tf 7 2) rfl rfl (one_of HT_.out (by kernel_rfl)) (by decide) (fun K hK => ?_)
                  refine goes_ Try.func22 (by kernel_rfl) rfl #[.agg #[.string ((rd_T58 l0 x8_2).f0.f0), .string ((rd_T58 l0 x8_2).f0.f1), .slice A206_2 ((rd_T58 l0 x8_2).f1).length c206_2], .agg #[.string a1_0, .int .i64 a1_1, .int .i64 a1_2, .int .i64 a1_3, .bool a1_4, .int .i64 a1_5]] (by rfl) rfl rfl pm_ ?_
                  with_reducible refine (contangolaw50_has.calls k2 ((rd_T58 l0 x8_2).f0.f0) ((rd_T58 l0 x8_2).f0.f1) _ _ ((rd_T58 l0 x8_2).f1) a1_0 a1_1 a1_2 a1_3 a1_4 a1_5 t207 _ ?side1 ?side2 A18.out).mono ?_
                  (case side1 => repeat (first | exact (Kd.C_below HR206_2.out HB.out) | (with_reducible refine Kd.C_alloc ?_ _) | (with_reducible refine Kd.C_drewN ?_ _) | (with_reducible refine Kd.C_drew ?_)))
                  (case side2 => exact HC206_2.out)
                  rintro e w20 ⟨rfl, hb⟩
                  refine ⟨_, rfl, ?_⟩
                  have n0_ := Aside0.mk (Kd.R_below (br_ HO_5.out) hb)
                  have n1_ := Aside0.mk (blk_below (g := gb197) (o := .cells #[.string a1_0, .int .i64 a1_1, .int .i64 a1_2, .int .i64 a1_3, .bool a1_4, .int .i64 a1_5] 26 (0, 0)) (bk_ BK197.out) hb)
                  have n2_ := Aside0.mk (below_step (bz1 HB.out GE197.out) hb)
                  clear HO_5
                  clear BK197
                  clear HB
                  have HO_5 := n0_
                  have BK197 := n1_
                  have HB := n2_
                  clear n0_ n1_ n2_
                  (try clear hb)
                  (try clear hb2)
                  (try clear hk)
                  (try clear hi)
                  refine hK.out _ _ ⟨(blk_cell BK197.out 0).trans rfl, (blk_cell BK197.out 1).trans rfl, (blk_cell BK197.out 2).trans rfl, (blk_cell BK197.out 3).trans rfl, (blk_cell BK197.out 4).trans rfl, (blk_cell BK197.out 5).trans rfl, ((HB.out.cell (World.block_lt_of_cell? w _ hw206_0)).trans hw206_0), ((HB.out.cell (World.block_lt_of_cell? w _ hw206_1)).trans hw206_1), ((HB.out.cell (World.block_lt_of_cell? w _ hw206_2)).trans hw206_2)⟩ (fun hHeld => ?_)
                  clear hK K
                  refine norm_ (a' := ?_) ?_ ?_
                  rotate_left
                  · show Act.put _ (some 53) _ = _
                    simp only [Act.put, List.setIfInBounds_toArray, List.set_cons_zero, List.set_cons_succ, i64_w, i32_w]
                    rfl
                  refine pv_ 7 54 (tf 8 1) HT_ ?_
                  refine pv_ 8 7 (tf 9 0) HT_ ?_
                  refine done_ (done_of HT_.out (by kernel_rfl)) ?_
                  try go_wp2
                  go_roundg k2
                  case measure => have := HJ2.out; have := HK2.out; omega
                  case rel => exact ⟨(wrap64 (x7_2 + t207)), (wrap64 (x8_2 + 1)), (by first | rfl | (simp; done) | (simp [i64_w]; done) | (simp [*]; done)), (by first | rfl | (simp; done) | (simp [i64_w]; done) | (simp [*]; done)), H', ⟨by have := HJ2.out; have := HK2.out; omega⟩, ⟨by (with_reducible repeat (first | apply Kd.R_alloc | apply Kd.R_drewN | apply Kd.R_drew)); exact HO_5.out⟩, ⟨by (with_reducible repeat (first | refine blk_drewN ?_ _ | refine blk_drew ?_ | refine blk_alloc ?_ _)); exact BK197.out⟩, ⟨bz1 HB.out GE197.out⟩⟩
                · rw [if_neg c17] at H
                  exact absurd H (by simp)
              · rw [if_neg c16] at H
                have c16b0 : decide (x8_2 < (l0.length : Int)) = false := decide_eq_false c16
                clear c16
                have H' := Aside0.mk H
                clear H
                go_wp2
                go_loopg [9] k2 (fun kq v9 w' => ∃ (x9_3 : Int), v9 = .int .i64 x9_3 ∧ Aside0 (contangolaw50_TearEven.l1 kq l0 t201 x7_2 x9_3 a1_0 a1_1 a1_2 a1_3 a1_4 a1_5 = some r) ∧ Aside0 (kq ≤ k2) ∧ Aside0 (Kd.R k62 62 w' w.heap.size (fun _ => True) v202 t201) ∧ Aside0 (w'.heap[gb197]? = some (.cells #[.string a1_0, .int .i64 a1_1, .int .i64 a1_2, .int .i64 a1_3, .bool a1_4, .int .i64 a1_5] 26 (0, 0))) ∧ Aside0 (Below w.heap.size w w'))
                case atStart => exact ⟨(0), rf_, H', ⟨Nat.le_refl _⟩, ⟨by (with_reducible repeat (first | apply Kd.R_alloc | apply Kd.R_drewN | apply Kd.R_drew)); exact HO_5.out⟩, ⟨by (with_reducible repeat (first | refine blk_drewN ?_ _ | refine blk_drew ?_ | refine blk_alloc ?_ _)); exact BK197.out⟩, ⟨bz1 HB.out GE197.out⟩⟩
                case round =>
                  clear H'
                  try clear c1
                  try clear c2
                  try clear p2
                  try clear q2
                  try clear hx2
                  try clear c5
                  try clear c5b0
                  try clear c5b1
                  try clear p6
                  try clear c7
                  try clear c9
                  try clear c10
                  try clear c13
                  try clear c13b0
                  try clear c13b1
                  try clear c16
                  try clear c16b0
                  try clear c17
                  try clear c17b0
                  try clear c20
                  try clear p20
                  try clear q20
                  try clear hx20
                  try clear hcz14_0
                  try clear hcz14_1
                  try clear hcz14_2
                  try clear hcz14_3
                  try clear hcz14_4
                  try clear hcz14_5
                  try clear hfz14_0
                  try clear hfz14_1
                  try clear hfz14_2
                  try clear hfz14_3
                  try clear hfz14_4
                  try clear hfz14_5
                  try clear hx206_0
                  try clear hx206_1
                  try clear hx206_2
                  try clear p2
                  try clear p206
                  try clear q206
                  obtain ⟨x9_3, rfl, HA, HK3, HO_5, BK197, HB⟩ := hrel
                  cases gk with
                  | zero => exact absurd HA.out (by simp [contangolaw50_TearEven.l1])
                  | succ k3 =>
                    have H := HA.out
                    clear HA
                    simp only [contangolaw50_TearEven.l1] at H
                    by_cases c21 : x9_3 < (l0.length : Int)
                    · rw [if_pos c21] at H
                      have c21b0 : decide (x9_3 < (l0.length : Int)) = true := decide_eq_true c21
                      clear c21
                      have H' := Aside0.mk H
                      clear H
                      go_wp2
                      go_loopg [10, 11] k3 (fun kq v10 v11 w' => ∃ (x10_4 : Int) (x11_4 : Int), v10 = .int .i64 x10_4 ∧ v11 = .int .i64 x11_4 ∧ Aside0 (contangolaw50_TearEven.l2 kq l0 t201 x7_2 x9_3 x10_4 x11_4 a1_0 a1_1 a1_2 a1_3 a1_4 a1_5 = some r) ∧ Aside0 (kq ≤ k3) ∧ Aside0 (Kd.R k62 62 w' w.heap.size (fun _ => True) v202 t201) ∧ Aside0 (w'.heap[gb197]? = some (.cells #[.string a1_0, .int .i64 a1_1, .int .i64 a1_2, .int .i64 a1_3, .bool a1_4, .int .i64 a1_5] 26 (0, 0))) ∧ Aside0 (Below w.heap.size w w'))
                      case atStart => exact ⟨(0), (0), rf_, rf_, H', ⟨Nat.le_refl _⟩, ⟨by (with_reducible repeat (first | apply Kd.R_alloc | apply Kd.R_drewN | apply Kd.R_drew)); exact HO_5.out⟩, ⟨by (with_reducible repeat (first | refine blk_drewN ?_ _ | refine blk_drew ?_ | refine blk_alloc ?_ _)); exact BK197.out⟩, ⟨bz1 HB.out GE197.out⟩⟩
                      case round =>
                        clear H'
                        try clear c1
                        try clear c2
                        try clear p2
                        try clear q2
                        try clear hx2
                        try clear c5
                        try clear c5b0
                        try clear c5b1
                        try clear p6
                        try clear c7
                        try clear c9
                        try clear c10
                        try clear c13
                        try clear c13b0
                        try clear c13b1
                        try clear c16
                        try clear c16b0
                        try clear c17
                        try clear c17b0
                        try clear c20
                        try clear p20
                        try clear q20
                        try clear hx20
                        try clear c21
                        try clear c21b0
                        try clear hcz14_0
                        try clear hcz14_1
                        try clear hcz14_2
                        try clear hcz14_3
                        try clear hcz14_4
                        try clear hcz14_5
                        try clear hfz14_0
                        try clear hfz14_1
                        try clear hfz14_2
                        try clear hfz14_3
                        try clear hfz14_4
                        try clear hfz14_5
                        try clear hx206_0
                        try clear hx206_1
                        try clear hx206_2
                        try clear p2
                        try clear p20
                        try clear p206
                        try clear p6
                        try clear q2
                        try clear q20
                        try clear q206
                        obtain ⟨x10_4, x11_4, rfl, rfl, HA, HK4, HO_5, BK197, HB⟩ := hrel
                        cases gk with
                        | zero => exact absurd HA.out (by simp [contangolaw50_TearEven.l2])
                        | succ k4 =>
                          have H := HA.out
                          clear HA
                          simp only [contangolaw50_TearEven.l2] at H
                          by_cases c22 : x11_4 < (t201.length : Int)
                          · rw [if_pos c22] at H
                            have c22b0 : decide (x11_4 < (t201.length : Int)) = true := decide_eq_true c22
                            clear c22
                            by_cases c23 : 0 ≤ x11_4
                            · rw [if_pos c23] at H
                              have c23b0 : decide (0 ≤ x11_4) = true := decide_eq_true c23
                              clear c23
                              by_cases c24 : 0 ≤ x9_3
                              · rw [if_pos c24] at H
                                have c24b0 : decide (0 ≤ x9_3) = true := decide_eq_true c24
                                clear c24
                                by_cases c25 : x9_3 < (l0.length : Int)
                                · rw [if_pos c25] at H
                                  have c25b0 : decide (x9_3 < (l0.length : Int)) = true := decide_eq_true c25
                                  clear c25
                                  by_cases c26 : (eqD55 ((rd_T62 t201 x11_4).f0.f0) ((rd_T58 l0 x9_3).f0.f0) ((rd_T62 t201 x11_4).f0.f1) ((rd_T58 l0 x9_3).f0.f1)) = true
                                  · rw [if_pos c26] at H
                                    have c26b0 : (eqD55 ((rd_T62 t201 x11_4).f0.f0) ((rd_T58 l0 x9_3).f0.f0) ((rd_T62 t201 x11_4).f0.f1) ((rd_T58 l0 x9_3).f0.f1)) = true := c26
                                    clear c26
                                    have H' := Aside0.mk H
                                    clear H
                                    obtain ⟨Ao27, co27, eo27⟩ := Kd.R_slice HO_5.out
                                    subst eo27
                                    try go_wp2
                                    have n0_ := Aside0.mk (Kd.R_drew HO_5.out)
                                    have n1_ := Aside0.mk (blk_drew BK197.out)
                                    have n2_ := Aside0.mk (below_drew1 HB.out)
                                    clear HO_5
                                    clear BK197
                                    clear HB
                                    have HO_5 := n0_
                                    have BK197 := n1_
                                    have HB := n2_
                                    clear n0_ n1_ n2_
                                    have p209 : 0 ≤ (x11_4 : Int) := od_
                                    have q209 : x11_4 < (t201.length : Int) := od_
                                    obtain ⟨ad209, e209, hx209_0, hx209_1, hx209_2⟩ := at_T62 (Kd.R_reads' HO_5.out).2.2 x11_4 p209 q209
                                    cases e209
                                    replace p209 := eq_true p209
                                    replace q209 := eq_true q209
                                    have p210 : 0 ≤ (x9_3 : Int) := od_
                                    have q210 : x9_3 < (l0.length : Int) := od_
                                    obtain ⟨ad210, A210_2, c210_2, e210, hx210_0, hx210_1, hx210_2, hl210_2, hi210_2⟩ := at_T58 HR0.out x9_3 p210 q210
                                    have hw210_2 := hx210_2
                                    have hw210_1 := hx210_1
                                    have hw210_0 := hx210_0
                                    cases e210
                                    replace hx210_0 := (HB.out.cell (World.block_lt_of_cell? w _ hx210_0)).trans hx210_0
                                    replace hx210_1 := (HB.out.cell (World.block_lt_of_cell? w _ hx210_1)).trans hx210_1
                                    replace hx210_2 := (HB.out.cell (World.block_lt_of_cell? w _ hx210_2)).trans hx210_2
                                    have HR210_2 := Aside0.mk hi210_2
                                    have HC210_2 := Aside0.mk hl210_2
                                    clear hi210_2 hl210_2
                                    replace p210 := eq_true p210
                                    replace q210 := eq_true q210
                                    refine start_ (n := 11) (S := fun w' => w'.cell? (ad209.add ((x11_4).toNat * 3)) = some (.string ((rd_T62 t201 x11_4).f0.f0)) ∧ w'.cell? ⟨(ad209.add ((x11_4).toNat * 3)).block, (ad209.add ((x11_4).toNat * 3)).off + 1, none⟩ = some (.string ((rd_T62 t201 x11_4).f0.f1)) ∧ w'.cell? ⟨(ad209.add ((x11_4).toNat * 3)).block, (ad209.add ((x11_4).toNat * 3)).off + 2, none⟩ = some (.int .i64 ((rd_T62 t201 x11_4).f1)) ∧ w'.cell? (ad210.add ((x9_3).toNat * 3)) = some (.string ((rd_T58 l0 x9_3).f0.f0)) ∧ w'.cell? ⟨(ad210.add ((x9_3).toNat * 3)).block, (ad210.add ((x9_3).toNat * 3)).off + 1, none⟩ = some (.string ((rd_T58 l0 x9_3).f0.f1)) ∧ w'.cell? ⟨(ad210.add ((x9_3).toNat * 3)).block, (ad210.add ((x9_3).toNat * 3)).off + 2, none⟩ = some (.slice A210_2 ((rd_T58 l0 x9_3).f1).length c210_2)) (ds := []) (tf 0 11) (by kernel_rfl) rfl rfl ⟨hx209_0, hx209_1, hx209_2, ((HB.out.cell (World.block_lt_of_cell? w _ hw210_0)).trans hw210_0), ((HB.out.cell (World.block_lt_of_cell? w _ hw210_1)).trans hw210_1), ((HB.out.cell (World.block_lt_of_cell? w _ hw210_2)).trans hw210_2)⟩ (fun hHeld => ?_); refine with_tabW contangolaw50_TearEven.tab18 contangolaw50_TearEven.bits18 (fun HT_ HW_ => ?_)
                                    generalize wr.drew = w28 at HO_5 BK197 HB HR210_2 hx209_0 hx209_1 hx209_2 hx210_0 hx210_1 hx210_2 hHeld ⊢
                                    refine pv_ 0 67 (tf 1 10) HT_ ?_
                                    refine pv_ 1 68 (tf 2 9) HT_ ?_
                                    refine pv_ 2 69 (tf 3 8) HT_ ?_
                                    refine pv_ 3 70 (tf 4 7) HT_ ?_
                                    refine pv_ 5 72 #[true, true, true, true, false, true, false, false, false, false, false] HT_ ?_
                                    refine pv_ 6 73 #[true, true, true, true, false, true, true, false, false, false, false] HT_ ?_
                                    refine pv_ 7 74 #[true, true, true, true, false, true, true, true, false, false, false] HT_ ?_
                                    refine pv_ 8 75 #[true, true, true, true, false, true, true, true, true, false, false] HT_ ?_
                                    refine take_ (i := 4) (N := some 71) (v := ?_) (a' := ?_) (tf 9 2) rfl rfl (take_ofW HT_.out HW_.out (by kernel_rfl)) (fun _ _ _ h => h) (Or.inl ⟨by rfl, ?_⟩) hHeld ?_ ?_
                                    rotate_left
                                    · rintro w' ⟨s0, s1, s2, s3, s4, s5⟩
                                      go_simp
                                      with_reducible rfl
                                    rotate_left
                                    · exact ap_
                                    refine take_ (i := 9) (N := some 76) (v := ?_) (a' := ?_) (tf 10 1) rfl rfl (take_ofW HT_.out HW_.out (by kernel_rfl)) (fun _ _ _ h => h) (Or.inl ⟨by rfl, ?_⟩) hHeld ?_ ?_
                                    rotate_left
                                    · rintro w' ⟨s0, s1, s2, s3, s4, s5⟩
                                      go_simp
                                      with_reducible rfl
                                    rotate_left
                                    · exact ap_
                                    refine pv_ 10 77 (tf 11 0) HT_ ?_
                                    refine done_ (done_of HT_.out (by kernel_rfl)) ?_
                                    have p211 : 0 ≤ (x11_4 : Int) := od_
                                    have q211 : x11_4 < (t201.length : Int) := od_
                                    obtain ⟨ad211, e211, hx211_0, hx211_1, hx211_2⟩ := at_T62 (Kd.R_reads' HO_5.out).2.2 x11_4 p211 q211
                                    obtain rfl : ad209 = ad211 := (by injection e211)
                                    replace p211 := eq_true p211
                                    replace q211 := eq_true q211
                                    try go_wp2
                                    go_roundg k4
                                    case measure => have := HJ2.out; have := HK2.out; have := HK3.out; have := HK4.out; omega
                                    case rel => exact ⟨(wrap64 (x10_4 + ((rd_T62 t201 x11_4).f1))), (wrap64 (x11_4 + 1)), (by first | rfl | (simp; done) | (simp [i64_w]; done) | (simp [*]; done)), (by first | rfl | (simp; done) | (simp [i64_w]; done) | (simp [*]; done)), H', ⟨by have := HJ2.out; have := HK2.out; have := HK3.out; have := HK4.out; omega⟩, ⟨by (with_reducible repeat (first | apply Kd.R_alloc | apply Kd.R_drewN | apply Kd.R_drew)); exact HO_5.out⟩, ⟨by (with_reducible repeat (first | refine blk_drewN ?_ _ | refine blk_drew ?_ | refine blk_alloc ?_ _)); exact BK197.out⟩, ⟨bz1 HB.out GE197.out⟩⟩
                                  · rw [if_neg c26] at H
                                    have c26b0 : (eqD55 ((rd_T62 t201 x11_4).f0.f0) ((rd_T58 l0 x9_3).f0.f0) ((rd_T62 t201 x11_4).f0.f1) ((rd_T58 l0 x9_3).f0.f1)) = false := by simpa using c26
                                    clear c26
                                    have H' := Aside0.mk H
                                    clear H
                                    obtain ⟨Ao29, co29, eo29⟩ := Kd.R_slice HO_5.out
                                    subst eo29
                                    try go_wp2
                                    have n0_ := Aside0.mk (Kd.R_drew HO_5.out)
                                    have n1_ := Aside0.mk (blk_drew BK197.out)
                                    have n2_ := Aside0.mk (below_drew1 HB.out)
                                    clear HO_5
                                    clear BK197
                                    clear HB
                                    have HO_5 := n0_
                                    have BK197 := n1_
                                    have HB := n2_
                                    clear n0_ n1_ n2_
                                    have p209 : 0 ≤ (x11_4 : Int) := od_
                                    have q209 : x11_4 < (t201.length : Int) := od_
                                    obtain ⟨ad209, e209, hx209_0, hx209_1, hx209_2⟩ := at_T62 (Kd.R_reads' HO_5.out).2.2 x11_4 p209 q209
                                    cases e209
                                    replace p209 := eq_true p209
                                    replace q209 := eq_true q209
                                    have p210 : 0 ≤ (x9_3 : Int) := od_
                                    have q210 : x9_3 < (l0.length : Int) := od_
                                    obtain ⟨ad210, A210_2, c210_2, e210, hx210_0, hx210_1, hx210_2, hl210_2, hi210_2⟩ := at_T58 HR0.out x9_3 p210 q210
                                    have hw210_2 := hx210_2
                                    have hw210_1 := hx210_1
                                    have hw210_0 := hx210_0
                                    cases e210
                                    replace hx210_0 := (HB.out.cell (World.block_lt_of_cell? w _ hx210_0)).trans hx210_0
                                    replace hx210_1 := (HB.out.cell (World.block_lt_of_cell? w _ hx210_1)).trans hx210_1
                                    replace hx210_2 := (HB.out.cell (World.block_lt_of_cell? w _ hx210_2)).trans hx210_2
                                    have HR210_2 := Aside0.mk hi210_2
                                    have HC210_2 := Aside0.mk hl210_2
                                    clear hi210_2 hl210_2
                                    replace p210 := eq_true p210
                                    replace q210 := eq_true q210
                                    refine start_ (n := 11) (S := fun w' => w'.cell? (ad209.add ((x11_4).toNat * 3)) = some (.string ((rd_T62 t201 x11_4).f0.f0)) ∧ w'.cell? ⟨(ad209.add ((x11_4).toNat * 3)).block, (ad209.add ((x11_4).toNat * 3)).off + 1, none⟩ = some (.string ((rd_T62 t201 x11_4).f0.f1)) ∧ w'.cell? ⟨(ad209.add ((x11_4).toNat * 3)).block, (ad209.add ((x11_4).toNat * 3)).off + 2, none⟩ = some (.int .i64 ((rd_T62 t201 x11_4).f1)) ∧ w'.cell? (ad210.add ((x9_3).toNat * 3)) = some (.string ((rd_T58 l0 x9_3).f0.f0)) ∧ w'.cell? ⟨(ad210.add ((x9_3).toNat * 3)).block, (ad210.add ((x9_3).toNat * 3)).off + 1, none⟩ = some (.string ((rd_T58 l0 x9_3).f0.f1)) ∧ w'.cell? ⟨(ad210.add ((x9_3).toNat * 3)).block, (ad210.add ((x9_3).toNat * 3)).off + 2, none⟩ = some (.slice A210_2 ((rd_T58 l0 x9_3).f1).length c210_2)) (ds := []) (tf 0 11) (by kernel_rfl) rfl rfl ⟨hx209_0, hx209_1, hx209_2, ((HB.out.cell (World.block_lt_of_cell? w _ hw210_0)).trans hw210_0), ((HB.out.cell (World.block_lt_of_cell? w _ hw210_1)).trans hw210_1), ((HB.out.cell (World.block_lt_of_cell? w _ hw210_2)).trans hw210_2)⟩ (fun hHeld => ?_); refine with_tabW contangolaw50_TearEven.tab18 contangolaw50_TearEven.bits18 (fun HT_ HW_ => ?_)
                                    generalize wr.drew = w30 at HO_5 BK197 HB HR210_2 hx209_0 hx209_1 hx209_2 hx210_0 hx210_1 hx210_2 hHeld ⊢
                                    refine pv_ 0 67 (tf 1 10) HT_ ?_
                                    refine pv_ 1 68 (tf 2 9) HT_ ?_
                                    refine pv_ 2 69 (tf 3 8) HT_ ?_
                                    refine pv_ 3 70 (tf 4 7) HT_ ?_
                                    refine pv_ 5 72 #[true, true, true, true, false, true, false, false, false, false, false] HT_ ?_
                                    refine pv_ 6 73 #[true, true, true, true, false, true, true, false, false, false, false] HT_ ?_
                                    refine pv_ 7 74 #[true, true, true, true, false, true, true, true, false, false, false] HT_ ?_
                                    refine pv_ 8 75 #[true, true, true, true, false, true, true, true, true, false, false] HT_ ?_
                                    refine take_ (i := 4) (N := some 71) (v := ?_) (a' := ?_) (tf 9 2) rfl rfl (take_ofW HT_.out HW_.out (by kernel_rfl)) (fun _ _ _ h => h) (Or.inl ⟨by rfl, ?_⟩) hHeld ?_ ?_
                                    rotate_left
                                    · rintro w' ⟨s0, s1, s2, s3, s4, s5⟩
                                      go_simp
                                      with_reducible rfl
                                    rotate_left
                                    · exact ap_
                                    refine take_ (i := 9) (N := some 76) (v := ?_) (a' := ?_) (tf 10 1) rfl rfl (take_ofW HT_.out HW_.out (by kernel_rfl)) (fun _ _ _ h => h) (Or.inl ⟨by rfl, ?_⟩) hHeld ?_ ?_
                                    rotate_left
                                    · rintro w' ⟨s0, s1, s2, s3, s4, s5⟩
                                      go_simp
                                      with_reducible rfl
                                    rotate_left
                                    · exact ap_
                                    refine pv_ 10 77 (tf 11 0) HT_ ?_
                                    refine done_ (done_of HT_.out (by kernel_rfl)) ?_
                                    try go_wp2
                                    go_roundg k4
                                    case measure => have := HJ2.out; have := HK2.out; have := HK3.out; have := HK4.out; omega
                                    case rel => exact ⟨(x10_4), (wrap64 (x11_4 + 1)), rf_, rf_, H', ⟨by have := HJ2.out; have := HK2.out; have := HK3.out; have := HK4.out; omega⟩, ⟨by (with_reducible repeat (first | apply Kd.R_alloc | apply Kd.R_drewN | apply Kd.R_drew)); exact HO_5.out⟩, ⟨by (with_reducible repeat (first | refine blk_drewN ?_ _ | refine blk_drew ?_ | refine blk_alloc ?_ _)); exact BK197.out⟩, ⟨bz1 HB.out GE197.out⟩⟩
                                · rw [if_neg c25] at H
                                  exact absurd H (by simp)
                              · rw [if_neg c24] at H
                                exact absurd H (by simp)
                            · rw [if_neg c23] at H
                              exact absurd H (by simp)
                          · rw [if_neg c22] at H
                            have c22b0 : decide (x11_4 < (t201.length : Int)) = false := decide_eq_false c22
                            clear c22
                            by_cases c31 : 0 ≤ x9_3
                            · rw [if_pos c31] at H
                              have c31b0 : decide (0 ≤ x9_3) = true := decide_eq_true c31
                              clear c31
                              by_cases c32 : x9_3 < (l0.length : Int)
                              · rw [if_pos c32] at H
                                have c32b0 : decide (x9_3 < (l0.length : Int)) = true := decide_eq_true c32
                                clear c32
                                replace H := Option.bind_eq_some_iff.mp H
                                obtain ⟨t213, A330, H⟩ := H
                                replace H : (if x7_2 > 0 then (if (wrap64 ((wrap64 (x10_4 * x7_2)) - (wrap64 (a1_5 * t213)))) ≤ (wrap64 (-x7_2)) then (some false) else (if (wrap64 ((wrap64 (x10_4 * x7_2)) - (wrap64 (a1_5 * t213)))) ≥ x7_2 then (some false) else ((contangolaw50_has.f k4 ((rd_T58 l0 x9_3).f0.f0) ((rd_T58 l0 x9_3).f0.f1) ((rd_T58 l0 x9_3).f1) a1_0 a1_1 a1_2 a1_3 a1_4 a1_5).bind fun t215 => (if x10_4 > t215 then (some false) else (contangolaw50_TearEven.l1 k4 l0 t201 x7_2 (wrap64 (x9_3 + 1)) a1_0 a1_1 a1_2 a1_3 a1_4 a1_5))))) else ((contangolaw50_has.f k4 ((rd_T58 l0 x9_3).f0.f0) ((rd_T58 l0 x9_3).f0.f1) ((rd_T58 l0 x9_3).f1) a1_0 a1_1 a1_2 a1_3 a1_4 a1_5).bind fun t217 => (if x10_4 > t217 then (some false) else (contangolaw50_TearEven.l1 k4 l0 t201 x7_2 (wrap64 (x9_3 + 1)) a1_0 a1_1 a1_2 a1_3 a1_4 a1_5)))) = some r := H
                                have A33 := Aside0.mk A330
                                clear A330
                                by_cases c34 : x7_2 > 0
                                · rw [if_pos c34] at H
                                  have c34b0 : decide (0 < x7_2) = true := decide_eq_true c34
                                  clear c34
                                  by_cases c35 : (wrap64 ((wrap64 (x10_4 * x7_2)) - (wrap64 (a1_5 * t213)))) ≤ (wrap64 (-x7_2))
                                  · rw [if_pos c35] at H
                                    exact absurd (H.trans (congrArg some HRT.out)) (by first | simp [contangolaw50_TearEven.j0] | (simp only [contangolaw50_TearEven.j0]; (repeat' split) <;> simp))
                                  · rw [if_neg c35] at H
                                    have c35b0 : decide ((wrap64 ((wrap64 (x10_4 * x7_2)) - (wrap64 (a1_5 * t213)))) ≤ (wrap64 (-x7_2))) = false := decide_eq_false c35
                                    clear c35
                                    by_cases c36 : (wrap64 ((wrap64 (x10_4 * x7_2)) - (wrap64 (a1_5 * t213)))) ≥ x7_2
                                    · rw [if_pos c36] at H
                                      exact absurd (H.trans (congrArg some HRT.out)) (by first | simp [contangolaw50_TearEven.j0] | (simp only [contangolaw50_TearEven.j0]; (repeat' split) <;> simp))
                                    · rw [if_neg c36] at H
                                      have c36b0 : decide (x7_2 ≤ (wrap64 ((wrap64 (x10_4 * x7_2)) - (wrap64 (a1_5 * t213))))) = false := decide_eq_false c36
                                      clear c36
                                      replace H := Option.bind_eq_some_iff.mp H
                                      obtain ⟨t215, A370, H⟩ := H
                                      replace H : (if x10_4 > t215 then (some false) else (contangolaw50_TearEven.l1 k4 l0 t201 x7_2 (wrap64 (x9_3 + 1)) a1_0 a1_1 a1_2 a1_3 a1_4 a1_5)) = some r := H
                                      have A37 := Aside0.mk A370
                                      clear A370
                                      by_cases c38 : x10_4 > t215
                                      · rw [if_pos c38] at H
                                        exact absurd (H.trans (congrArg some HRT.out)) (by first | simp [contangolaw50_TearEven.j0] | (simp only [contangolaw50_TearEven.j0]; (repeat' split) <;> simp))
                                      · rw [if_neg c38] at H
                                        have c38b0 : decide (t215 < x10_4) = false := decide_eq_false c38
                                        clear c38
                                        have H' := Aside0.mk H
                                        clear H
                                        obtain ⟨Ao39, co39, eo39⟩ := Kd.R_slice HO_5.out
                                        subst eo39
                                        try go_wp2
                                        have n0_ := Aside0.mk (Kd.R_drew HO_5.out)
                                        have n1_ := Aside0.mk (blk_drew BK197.out)
                                        have n2_ := Aside0.mk (below_drew1 HB.out)
                                        clear HO_5
                                        clear BK197
                                        clear HB
                                        have HO_5 := n0_
                                        have BK197 := n1_
                                        have HB := n2_
                                        clear n0_ n1_ n2_
                                        have p212 : 0 ≤ (x9_3 : Int) := od_
                                        have q212 : x9_3 < (l0.length : Int) := od_
                                        obtain ⟨ad212, A212_2, c212_2, e212, hx212_0, hx212_1, hx212_2, hl212_2, hi212_2⟩ := at_T58 HR0.out x9_3 p212 q212
                                        have hw212_2 := hx212_2
                                        have hw212_1 := hx212_1
                                        have hw212_0 := hx212_0
                                        cases e212
                                        replace hx212_0 := (HB.out.cell (World.block_lt_of_cell? w _ hx212_0)).trans hx212_0
                                        replace hx212_1 := (HB.out.cell (World.block_lt_of_cell? w _ hx212_1)).trans hx212_1
                                        replace hx212_2 := (HB.out.cell (World.block_lt_of_cell? w _ hx212_2)).trans hx212_2
                                        have HR212_2 := Aside0.mk hi212_2
                                        have HC212_2 := Aside0.mk hl212_2
                                        clear hi212_2 hl212_2
                                        replace p212 := eq_true p212
                                        replace q212 := eq_true q212
                                        refine start_ (n := 14) (S := fun w' => w'.cell? ⟨gb197, 0, none⟩ = some (.string a1_0) ∧ w'.cell? ⟨gb197, 1, none⟩ = some (.int .i64 a1_1) ∧ w'.cell? ⟨gb197, 2, none⟩ = some (.int .i64 a1_2) ∧ w'.cell? ⟨gb197, 3, none⟩ = some (.int .i64 a1_3) ∧ w'.cell? ⟨gb197, 4, none⟩ = some (.bool a1_4) ∧ w'.cell? ⟨gb197, 5, none⟩ = some (.int .i64 a1_5) ∧ w'.cell? (ad212.add ((x9_3).toNat * 3)) = some (.string ((rd_T58 l0 x9_3).f0.f0)) ∧ w'.cell? ⟨(ad212.add ((x9_3).toNat * 3)).block, (ad212.add ((x9_3).toNat * 3)).off + 1, none⟩ = some (.string ((rd_T58 l0 x9_3).f0.f1)) ∧ w'.cell? ⟨(ad212.add ((x9_3).toNat * 3)).block, (ad212.add ((x9_3).toNat * 3)).off + 2, none⟩ = some (.slice A212_2 ((rd_T58 l0 x9_3).f1).length c212_2)) (ds := []) (tf 0 14) (by kernel_rfl) rfl rfl ⟨(blk_cell BK197.out 0).trans rfl, (blk_cell BK197.out 1).trans rfl, (blk_cell BK197.out 2).trans rfl, (blk_cell BK197.out 3).trans rfl, (blk_cell BK197.out 4).trans rfl, (blk_cell BK197.out 5).trans rfl, ((HB.out.cell (World.block_lt_of_cell? w _ hw212_0)).trans hw212_0), ((HB.out.cell (World.block_lt_of_cell? w _ hw212_1)).trans hw212_1), ((HB.out.cell (World.block_lt_of_cell? w _ hw212_2)).trans hw212_2)⟩ (fun hHeld => ?_); refine with_tabW contangolaw50_TearEven.tab20 contangolaw50_TearEven.bits20 (fun HT_ HW_ => ?_)
                                        generalize wr.drew = w40 at HO_5 BK197 HB HR212_2 hx212_0 hx212_1 hx212_2 hHeld ⊢
                                        refine pv_ 0 85 (tf 1 13) HT_ ?_
                                        refine pv_ 1 86 (tf 2 12) HT_ ?_
                                        refine pv_ 2 87 (tf 3 11) HT_ ?_
                                        refine pv_ 3 88 (tf 4 10) HT_ ?_
                                        refine pv_ 5 90 #[true, true, true, true, false, true, false, false, false, false, false, false, false, false] HT_ ?_
                                        refine pv_ 6 91 #[true, true, true, true, false, true, true, false, false, false, false, false, false, false] HT_ ?_
                                        refine pv_ 7 92 #[true, true, true, true, false, true, true, true, false, false, false, false, false, false] HT_ ?_
                                        refine take_ (i := 4) (N := some 89) (v := ?_) (a' := ?_) (tf 8 6) rfl rfl (take_ofW HT_.out HW_.out (by kernel_rfl)) (fun _ _ _ h => h) (Or.inl ⟨by rfl, ?_⟩) hHeld ?_ ?_
                                        rotate_left
                                        · rintro w' ⟨s0, s1, s2, s3, s4, s5, s6, s7, s8⟩
                                          go_simp
                                          with_reducible rfl
                                        rotate_left
                                        · exact ap_
                                        refine take_ (i := 8) (N := some 93) (v := ?_) (a' := ?_) (tf 9 5) rfl rfl (take_ofW HT_.out HW_.out (by kernel_rfl)) (fun _ _ _ h => h) (Or.inl ⟨by rfl, ?_⟩) hHeld ?_ ?_
                                        rotate_left
                                        · rintro w' ⟨s0, s1, s2, s3, s4, s5, s6, s7, s8⟩
                                          go_simp
                                          with_reducible rfl
                                        rotate_left
                                        · exact ap_
                                        refine take_ (i := 9) (N := some 94) (v := ?_) (a' := ?_) (tf 10 4) rfl rfl (take_ofW HT_.out HW_.out (by kernel_rfl)) (fun _ _ _ h => h) (Or.inl ⟨by rfl, ?_⟩) hHeld ?_ ?_
                                        rotate_left
                                        · rintro w' ⟨s0, s1, s2, s3, s4, s5, s6, s7, s8⟩
                                          go_simp
                                          with_reducible rfl
                                        rotate_left
                                        · exact ap_
                                        refine one_ (i := 10) (N := some 95) (tf 11 3) rfl rfl (one_of HT_.out (by kernel_rfl)) (by decide) (fun K hK => ?_)
                                        refine goes_ Try.func22 (by kernel_rfl) rfl #[.agg #[.string ((rd_T58 l0 x9_3).f0.f0), .string ((rd_T58 l0 x9_3).f0.f1), .slice A212_2 ((rd_T58 l0 x9_3).f1).length c212_2], .agg #[.string a1_0, .int .i64 a1_1, .int .i64 a1_2, .int .i64 a1_3, .bool a1_4, .int .i64 a1_5]] (by rfl) rfl rfl pm_ ?_
                                        with_reducible refine (contangolaw50_has.calls k4 ((rd_T58 l0 x9_3).f0.f0) ((rd_T58 l0 x9_3).f0.f1) _ _ ((rd_T58 l0 x9_3).f1) a1_0 a1_1 a1_2 a1_3 a1_4 a1_5 t213 _ ?side1 ?side2 A33.out).mono ?_
                                        (case side1 => repeat (first | exact (Kd.C_below HR212_2.out HB.out) | (with_reducible refine Kd.C_alloc ?_ _) | (with_reducible refine Kd.C_drewN ?_ _) | (with_reducible refine Kd.C_drew ?_)))
                                        (case side2 => exact HC212_2.out)
                                        rintro e w41 ⟨rfl, hb⟩
                                        refine ⟨_, rfl, ?_⟩
                                        have n0_ := Aside0.mk (Kd.R_below (br_ HO_5.out) hb)
                                        have n1_ := Aside0.mk (blk_below (g := gb197) (o := .cells #[.string a1_0, .int .i64 a1_1, .int .i64 a1_2, .int .i64 a1_3, .bool a1_4, .int .i64 a1_5] 26 (0, 0)) (bk_ BK197.out) hb)
                                        have n2_ := Aside0.mk (below_step (bz1 HB.out GE197.out) hb)
                                        clear HO_5
                                        clear BK197
                                        clear HB
                                        have HO_5 := n0_
                                        have BK197 := n1_
                                        have HB := n2_
                                        clear n0_ n1_ n2_
                                        (try clear hb)
                                        (try clear hb2)
                                        (try clear hk)
                                        (try clear hi)
                                        refine hK.out _ _ ⟨(blk_cell BK197.out 0).trans rfl, (blk_cell BK197.out 1).trans rfl, (blk_cell BK197.out 2).trans rfl, (blk_cell BK197.out 3).trans rfl, (blk_cell BK197.out 4).trans rfl, (blk_cell BK197.out 5).trans rfl, ((HB.out.cell (World.block_lt_of_cell? w _ hw212_0)).trans hw212_0), ((HB.out.cell (World.block_lt_of_cell? w _ hw212_1)).trans hw212_1), ((HB.out.cell (World.block_lt_of_cell? w _ hw212_2)).trans hw212_2)⟩ (fun hHeld => ?_)
                                        clear hK K
                                        refine norm_ (a' := ?_) ?_ ?_
                                        rotate_left
                                        · show Act.put _ (some 95) _ = _
                                          simp only [Act.put, List.setIfInBounds_toArray, List.set_cons_zero, List.set_cons_succ, i64_w, i32_w]
                                          rfl
                                        refine pv_ 11 96 (tf 12 2) HT_ ?_
                                        refine pv_ 12 97 (tf 13 1) HT_ ?_
                                        refine pv_ 13 12 (tf 14 0) HT_ ?_
                                        refine done_ (done_of HT_.out (by kernel_rfl)) ?_
                                        try go_wp2
                                        have n0_ := Aside0.mk (Kd.R_drew HO_5.out)
                                        have n1_ := Aside0.mk (blk_drew BK197.out)
                                        have n2_ := Aside0.mk (below_drew1 HB.out)
                                        clear HO_5
                                        clear BK197
                                        clear HB
                                        have HO_5 := n0_
                                        have BK197 := n1_
                                        have HB := n2_
                                        clear n0_ n1_ n2_
                                        have p214 : 0 ≤ (x9_3 : Int) := od_
                                        have q214 : x9_3 < (l0.length : Int) := od_
                                        obtain ⟨ad214, A214_2, c214_2, e214, hx214_0, hx214_1, hx214_2, hl214_2, hi214_2⟩ := at_T58 HR0.out x9_3 p214 q214
                                        have hw214_2 := hx214_2
                                        have hw214_1 := hx214_1
                                        have hw214_0 := hx214_0
                                        obtain rfl : ad212 = ad214 := (by injection e214)
                                        replace hx214_0 := (HB.out.cell (World.block_lt_of_cell? w _ hx214_0)).trans hx214_0
                                        replace hx214_1 := (HB.out.cell (World.block_lt_of_cell? w _ hx214_1)).trans hx214_1
                                        replace hx214_2 := (HB.out.cell (World.block_lt_of_cell? w _ hx214_2)).trans hx214_2
                                        have HR214_2 := Aside0.mk hi214_2
                                        have HC214_2 := Aside0.mk hl214_2
                                        clear hi214_2 hl214_2
                                        replace p214 := eq_true p214
                                        replace q214 := eq_true q214
                                        refine start_ (n := 23) (S := fun w' => w'.cell? ⟨gb197, 0, none⟩ = some (.string a1_0) ∧ w'.cell? ⟨gb197, 1, none⟩ = some (.int .i64 a1_1) ∧ w'.cell? ⟨gb197, 2, none⟩ = some (.int .i64 a1_2) ∧ w'.cell? ⟨gb197, 3, none⟩ = some (.int .i64 a1_3) ∧ w'.cell? ⟨gb197, 4, none⟩ = some (.bool a1_4) ∧ w'.cell? ⟨gb197, 5, none⟩ = some (.int .i64 a1_5) ∧ w'.cell? (ad212.add ((x9_3).toNat * 3)) = some (.string ((rd_T58 l0 x9_3).f0.f0)) ∧ w'.cell? ⟨(ad212.add ((x9_3).toNat * 3)).block, (ad212.add ((x9_3).toNat * 3)).off + 1, none⟩ = some (.string ((rd_T58 l0 x9_3).f0.f1)) ∧ w'.cell? ⟨(ad212.add ((x9_3).toNat * 3)).block, (ad212.add ((x9_3).toNat * 3)).off + 2, none⟩ = some (.slice A214_2 ((rd_T58 l0 x9_3).f1).length c214_2)) (ds := []) (tf 0 23) (by kernel_rfl) rfl rfl ⟨(blk_cell BK197.out 0).trans rfl, (blk_cell BK197.out 1).trans rfl, (blk_cell BK197.out 2).trans rfl, (blk_cell BK197.out 3).trans rfl, (blk_cell BK197.out 4).trans rfl, (blk_cell BK197.out 5).trans rfl, ((HB.out.cell (World.block_lt_of_cell? w _ hw214_0)).trans hw214_0), ((HB.out.cell (World.block_lt_of_cell? w _ hw214_1)).trans hw214_1), ((HB.out.cell (World.block_lt_of_cell? w _ hw214_2)).trans hw214_2)⟩ (fun hHeld => ?_); refine with_tabW contangolaw50_TearEven.tab21 contangolaw50_TearEven.bits21 (fun HT_ HW_ => ?_)
                                        generalize w41.drew = w42 at HO_5 BK197 HB HR214_2 hx214_0 hx214_1 hx214_2 hHeld ⊢
                                        refine pv_ 0 98 (tf 1 22) HT_ ?_
                                        refine pv_ 1 99 (tf 2 21) HT_ ?_
                                        refine pv_ 2 100 (tf 3 20) HT_ ?_
                                        refine pv_ 3 101 (tf 4 19) HT_ ?_
                                        refine pv_ 4 102 (tf 5 18) HT_ ?_
                                        refine pv_ 5 103 (tf 6 17) HT_ ?_
                                        refine pv_ 6 104 (tf 7 16) HT_ ?_
                                        refine pv_ 7 105 (tf 8 15) HT_ ?_
                                        refine pv_ 8 106 (tf 9 14) HT_ ?_
                                        refine pv_ 9 107 (tf 10 13) HT_ ?_
                                        refine pv_ 10 108 (tf 11 12) HT_ ?_
                                        refine pv_ 11 109 (tf 12 11) HT_ ?_
                                        refine pv_ 12 110 (tf 13 10) HT_ ?_
                                        refine pv_ 13 111 (tf 14 9) HT_ ?_
                                        refine pv_ 14 112 (tf 15 8) HT_ ?_
                                        refine pv_ 15 113 (tf 16 7) HT_ ?_
                                        refine pv_ 16 114 (tf 17 6) HT_ ?_
                                        refine pv_ 17 115 (tf 18 5) HT_ ?_
                                        refine take_ (i := 18) (N := some 116) (v := ?_) (a' := ?_) (tf 19 4) rfl rfl (take_ofW HT_.out HW_.out (by kernel_rfl)) (fun _ _ _ h => h) (Or.inl ⟨by rfl, ?_⟩) hHeld ?_ ?_
                                        rotate_left
                                        · rintro w' ⟨s0, s1, s2, s3, s4, s5, s6, s7, s8⟩
                                          go_simp
                                          with_reducible rfl
                                        rotate_left
                                        · exact ap_
                                        refine take_ (i := 19) (N := some 117) (v := ?_) (a' := ?_) (tf 20 3) rfl rfl (take_ofW HT_.out HW_.out (by kernel_rfl)) (fun _ _ _ h => h) (Or.inl ⟨by rfl, ?_⟩) hHeld ?_ ?_
                                        rotate_left
                                        · rintro w' ⟨s0, s1, s2, s3, s4, s5, s6, s7, s8⟩
                                          go_simp
                                          with_reducible rfl
                                        rotate_left
                                        · exact ap_
                                        refine one_ (i := 20) (N := some 118) (tf 21 2) rfl rfl (one_of HT_.out (by kernel_rfl)) (by decide) (fun K hK => ?_)
                                        refine goes_ Try.func22 (by kernel_rfl) rfl #[.agg #[.string ((rd_T58 l0 x9_3).f0.f0), .string ((rd_T58 l0 x9_3).f0.f1), .slice A214_2 ((rd_T58 l0 x9_3).f1).length c214_2], .agg #[.string a1_0, .int .i64 a1_1, .int .i64 a1_2, .int .i64 a1_3, .bool a1_4, .int .i64 a1_5]] (by rfl) rfl rfl pm_ ?_
                                        with_reducible refine (contangolaw50_has.calls k4 ((rd_T58 l0 x9_3).f0.f0) ((rd_T58 l0 x9_3).f0.f1) _ _ ((rd_T58 l0 x9_3).f1) a1_0 a1_1 a1_2 a1_3 a1_4 a1_5 t215 _ ?side1 ?side2 A37.out).mono ?_
                                        (case side1 => repeat (first | exact (Kd.C_below HR214_2.out HB.out) | (with_reducible refine Kd.C_alloc ?_ _) | (with_reducible refine Kd.C_drewN ?_ _) | (with_reducible refine Kd.C_drew ?_)))
                                        (case side2 => exact HC214_2.out)
                                        rintro e w43 ⟨rfl, hb⟩
                                        refine ⟨_, rfl, ?_⟩
                                        have n0_ := Aside0.mk (Kd.R_below (br_ HO_5.out) hb)
                                        have n1_ := Aside0.mk (blk_below (g := gb197) (o := .cells #[.string a1_0, .int .i64 a1_1, .int .i64 a1_2, .int .i64 a1_3, .bool a1_4, .int .i64 a1_5] 26 (0, 0)) (bk_ BK197.out) hb)
                                        have n2_ := Aside0.mk (below_step (bz1 HB.out GE197.out) hb)
                                        clear HO_5
                                        clear BK197
                                        clear HB
                                        have HO_5 := n0_
                                        have BK197 := n1_
                                        have HB := n2_
                                        clear n0_ n1_ n2_
                                        (try clear hb)
                                        (try clear hb2)
                                        (try clear hk)
                                        (try clear hi)
                                        refine hK.out _ _ ⟨(blk_cell BK197.out 0).trans rfl, (blk_cell BK197.out 1).trans rfl, (blk_cell BK197.out 2).trans rfl, (blk_cell BK197.out 3).trans rfl, (blk_cell BK197.out 4).trans rfl, (blk_cell BK197.out 5).trans rfl, ((HB.out.cell (World.block_lt_of_cell? w _ hw214_0)).trans hw214_0), ((HB.out.cell (World.block_lt_of_cell? w _ hw214_1)).trans hw214_1), ((HB.out.cell (World.block_lt_of_cell? w _ hw214_2)).trans hw214_2)⟩ (fun hHeld => ?_)
                                        clear hK K
                                        refine norm_ (a' := ?_) ?_ ?_
                                        rotate_left
                                        · show Act.put _ (some 118) _ = _
                                          simp only [Act.put, List.setIfInBounds_toArray, List.set_cons_zero, List.set_cons_succ, i64_w, i32_w]
                                          rfl
                                        refine pv_ 21 119 (tf 22 1) HT_ ?_
                                        refine pv_ 22 120 (tf 23 0) HT_ ?_
                                        refine done_ (done_of HT_.out (by kernel_rfl)) ?_
                                        try go_wp2
                                        go_roundg k4
                                        case measure => have := HJ2.out; have := HK2.out; have := HK3.out; have := HK4.out; omega
                                        case rel => exact ⟨(wrap64 (x9_3 + 1)), rf_, H', ⟨by have := HJ2.out; have := HK2.out; have := HK3.out; have := HK4.out; omega⟩, ⟨by (with_reducible repeat (first | apply Kd.R_alloc | apply Kd.R_drewN | apply Kd.R_drew)); exact HO_5.out⟩, ⟨by (with_reducible repeat (first | refine blk_drewN ?_ _ | refine blk_drew ?_ | refine blk_alloc ?_ _)); exact BK197.out⟩, ⟨bz1 HB.out GE197.out⟩⟩
                                · rw [if_neg c34] at H
                                  have c34b0 : decide (0 < x7_2) = false := decide_eq_false c34
                                  clear c34
                                  replace H := Option.bind_eq_some_iff.mp H
                                  obtain ⟨t217, A440, H⟩ := H
                                  replace H : (if x10_4 > t217 then (some false) else (contangolaw50_TearEven.l1 k4 l0 t201 x7_2 (wrap64 (x9_3 + 1)) a1_0 a1_1 a1_2 a1_3 a1_4 a1_5)) = some r := H
                                  have A44 := Aside0.mk A440
                                  clear A440
                                  by_cases c45 : x10_4 > t217
                                  · rw [if_pos c45] at H
                                    exact absurd (H.trans (congrArg some HRT.out)) (by first | simp [contangolaw50_TearEven.j0] | (simp only [contangolaw50_TearEven.j0]; (repeat' split) <;> simp))
                                  · rw [if_neg c45] at H
                                    have c45b0 : decide (t217 < x10_4) = false := decide_eq_false c45
                                    clear c45
                                    have H' := Aside0.mk H
                                    clear H
                                    obtain ⟨Ao46, co46, eo46⟩ := Kd.R_slice HO_5.out
                                    subst eo46
                                    try go_wp2
                                    have n0_ := Aside0.mk (Kd.R_drew HO_5.out)
                                    have n1_ := Aside0.mk (blk_drew BK197.out)
                                    have n2_ := Aside0.mk (below_drew1 HB.out)
                                    clear HO_5
                                    clear BK197
                                    clear HB
                                    have HO_5 := n0_
                                    have BK197 := n1_
                                    have HB := n2_
                                    clear n0_ n1_ n2_
                                    have p212 : 0 ≤ (x9_3 : Int) := od_
                                    have q212 : x9_3 < (l0.length : Int) := od_
                                    obtain ⟨ad212, A212_2, c212_2, e212, hx212_0, hx212_1, hx212_2, hl212_2, hi212_2⟩ := at_T58 HR0.out x9_3 p212 q212
                                    have hw212_2 := hx212_2
                                    have hw212_1 := hx212_1
                                    have hw212_0 := hx212_0
                                    cases e212
                                    replace hx212_0 := (HB.out.cell (World.block_lt_of_cell? w _ hx212_0)).trans hx212_0
                                    replace hx212_1 := (HB.out.cell (World.block_lt_of_cell? w _ hx212_1)).trans hx212_1
                                    replace hx212_2 := (HB.out.cell (World.block_lt_of_cell? w _ hx212_2)).trans hx212_2
                                    have HR212_2 := Aside0.mk hi212_2
                                    have HC212_2 := Aside0.mk hl212_2
                                    clear hi212_2 hl212_2
                                    replace p212 := eq_true p212
                                    replace q212 := eq_true q212
                                    refine start_ (n := 14) (S := fun w' => w'.cell? ⟨gb197, 0, none⟩ = some (.string a1_0) ∧ w'.cell? ⟨gb197, 1, none⟩ = some (.int .i64 a1_1) ∧ w'.cell? ⟨gb197, 2, none⟩ = some (.int .i64 a1_2) ∧ w'.cell? ⟨gb197, 3, none⟩ = some (.int .i64 a1_3) ∧ w'.cell? ⟨gb197, 4, none⟩ = some (.bool a1_4) ∧ w'.cell? ⟨gb197, 5, none⟩ = some (.int .i64 a1_5) ∧ w'.cell? (ad212.add ((x9_3).toNat * 3)) = some (.string ((rd_T58 l0 x9_3).f0.f0)) ∧ w'.cell? ⟨(ad212.add ((x9_3).toNat * 3)).block, (ad212.add ((x9_3).toNat * 3)).off + 1, none⟩ = some (.string ((rd_T58 l0 x9_3).f0.f1)) ∧ w'.cell? ⟨(ad212.add ((x9_3).toNat * 3)).block, (ad212.add ((x9_3).toNat * 3)).off + 2, none⟩ = some (.slice A212_2 ((rd_T58 l0 x9_3).f1).length c212_2)) (ds := []) (tf 0 14) (by kernel_rfl) rfl rfl ⟨(blk_cell BK197.out 0).trans rfl, (blk_cell BK197.out 1).trans rfl, (blk_cell BK197.out 2).trans rfl, (blk_cell BK197.out 3).trans rfl, (blk_cell BK197.out 4).trans rfl, (blk_cell BK197.out 5).trans rfl, ((HB.out.cell (World.block_lt_of_cell? w _ hw212_0)).trans hw212_0), ((HB.out.cell (World.block_lt_of_cell? w _ hw212_1)).trans hw212_1), ((HB.out.cell (World.block_lt_of_cell? w _ hw212_2)).trans hw212_2)⟩ (fun hHeld => ?_); refine with_tabW contangolaw50_TearEven.tab20 contangolaw50_TearEven.bits20 (fun HT_ HW_ => ?_)
                                    generalize wr.drew = w47 at HO_5 BK197 HB HR212_2 hx212_0 hx212_1 hx212_2 hHeld ⊢
                                    refine pv_ 0 85 (tf 1 13) HT_ ?_
                                    refine pv_ 1 86 (tf 2 12) HT_ ?_
                                    refine pv_ 2 87 (tf 3 11) HT_ ?_
                                    refine pv_ 3 88 (tf 4 10) HT_ ?_
                                    refine pv_ 5 90 #[true, true, true, true, false, true, false, false, false, false, false, false, false, false] HT_ ?_
                                    refine pv_ 6 91 #[true, true, true, true, false, true, true, false, false, false, false, false, false, false] HT_ ?_
                                    refine pv_ 7 92 #[true, true, true, true, false, true, true, true, false, false, false, false, false, false] HT_ ?_
                                    refine take_ (i := 4) (N := some 89) (v := ?_) (a' := ?_) (tf 8 6) rfl rfl (take_ofW HT_.out HW_.out (by kernel_rfl)) (fun _ _ _ h => h) (Or.inl ⟨by rfl, ?_⟩) hHeld ?_ ?_
                                    rotate_left
                                    · rintro w' ⟨s0, s1, s2, s3, s4, s5, s6, s7, s8⟩
                                      go_simp
                                      with_reducible rfl
                                    rotate_left
                                    · exact ap_
                                    refine take_ (i := 8) (N := some 93) (v := ?_) (a' := ?_) (tf 9 5) rfl rfl (take_ofW HT_.out HW_.out (by kernel_rfl)) (fun _ _ _ h => h) (Or.inl ⟨by rfl, ?_⟩) hHeld ?_ ?_
                                    rotate_left
                                    · rintro w' ⟨s0, s1, s2, s3, s4, s5, s6, s7, s8⟩
                                      go_simp
                                      with_reducible rfl
                                    rotate_left
                                    · exact ap_
                                    refine take_ (i := 9) (N := some 94) (v := ?_) (a' := ?_) (tf 10 4) rfl rfl (take_ofW HT_.out HW_.out (by kernel_rfl)) (fun _ _ _ h => h) (Or.inl ⟨by rfl, ?_⟩) hHeld ?_ ?_
                                    rotate_left
                                    · rintro w' ⟨s0, s1, s2, s3, s4, s5, s6, s7, s8⟩
                                      go_simp
                                      with_reducible rfl
                                    rotate_left
                                    · exact ap_
                                    refine one_ (i := 10) (N := some 95) (tf 11 3) rfl rfl (one_of HT_.out (by kernel_rfl)) (by decide) (fun K hK => ?_)
                                    refine goes_ Try.func22 (by kernel_rfl) rfl #[.agg #[.string ((rd_T58 l0 x9_3).f0.f0), .string ((rd_T58 l0 x9_3).f0.f1), .slice A212_2 ((rd_T58 l0 x9_3).f1).length c212_2], .agg #[.string a1_0, .int .i64 a1_1, .int .i64 a1_2, .int .i64 a1_3, .bool a1_4, .int .i64 a1_5]] (by rfl) rfl rfl pm_ ?_
                                    with_reducible refine (contangolaw50_has.calls k4 ((rd_T58 l0 x9_3).f0.f0) ((rd_T58 l0 x9_3).f0.f1) _ _ ((rd_T58 l0 x9_3).f1) a1_0 a1_1 a1_2 a1_3 a1_4 a1_5 t213 _ ?side1 ?side2 A33.out).mono ?_
                                    (case side1 => repeat (first | exact (Kd.C_below HR212_2.out HB.out) | (with_reducible refine Kd.C_alloc ?_ _) | (with_reducible refine Kd.C_drewN ?_ _) | (with_reducible refine Kd.C_drew ?_)))
                                    (case side2 => exact HC212_2.out)
                                    rintro e w48 ⟨rfl, hb⟩
                                    refine ⟨_, rfl, ?_⟩
                                    have n0_ := Aside0.mk (Kd.R_below (br_ HO_5.out) hb)
                                    have n1_ := Aside0.mk (blk_below (g := gb197) (o := .cells #[.string a1_0, .int .i64 a1_1, .int .i64 a1_2, .int .i64 a1_3, .bool a1_4, .int .i64 a1_5] 26 (0, 0)) (bk_ BK197.out) hb)
                                    have n2_ := Aside0.mk (below_step (bz1 HB.out GE197.out) hb)
                                    clear HO_5
                                    clear BK197
                                    clear HB
                                    have HO_5 := n0_
                                    have BK197 := n1_
                                    have HB := n2_
                                    clear n0_ n1_ n2_
                                    (try clear hb)
                                    (try clear hb2)
                                    (try clear hk)
                                    (try clear hi)
                                    refine hK.out _ _ ⟨(blk_cell BK197.out 0).trans rfl, (blk_cell BK197.out 1).trans rfl, (blk_cell BK197.out 2).trans rfl, (blk_cell BK197.out 3).trans rfl, (blk_cell BK197.out 4).trans rfl, (blk_cell BK197.out 5).trans rfl, ((HB.out.cell (World.block_lt_of_cell? w _ hw212_0)).trans hw212_0), ((HB.out.cell (World.block_lt_of_cell? w _ hw212_1)).trans hw212_1), ((HB.out.cell (World.block_lt_of_cell? w _ hw212_2)).trans hw212_2)⟩ (fun hHeld => ?_)
                                    clear hK K
                                    refine norm_ (a' := ?_) ?_ ?_
                                    rotate_left
                                    · show Act.put _ (some 95) _ = _
                                      simp only [Act.put, List.setIfInBounds_toArray, List.set_cons_zero, List.set_cons_succ, i64_w, i32_w]
                                      rfl
                                    refine pv_ 11 96 (tf 12 2) HT_ ?_
                                    refine pv_ 12 97 (tf 13 1) HT_ ?_
                                    refine pv_ 13 12 (tf 14 0) HT_ ?_
                                    refine done_ (done_of HT_.out (by kernel_rfl)) ?_
                                    try go_wp2
                                    have n0_ := Aside0.mk (Kd.R_drew HO_5.out)
                                    have n1_ := Aside0.mk (blk_drew BK197.out)
                                    have n2_ := Aside0.mk (below_drew1 HB.out)
                                    clear HO_5
                                    clear BK197
                                    clear HB
                                    have HO_5 := n0_
                                    have BK197 := n1_
                                    have HB := n2_
                                    clear n0_ n1_ n2_
                                    have p216 : 0 ≤ (x9_3 : Int) := od_
                                    have q216 : x9_3 < (l0.length : Int) := od_
                                    obtain ⟨ad216, A216_2, c216_2, e216, hx216_0, hx216_1, hx216_2, hl216_2, hi216_2⟩ := at_T58 HR0.out x9_3 p216 q216
                                    have hw216_2 := hx216_2
                                    have hw216_1 := hx216_1
                                    have hw216_0 := hx216_0
                                    obtain rfl : ad212 = ad216 := (by injection e216)
                                    replace hx216_0 := (HB.out.cell (World.block_lt_of_cell? w _ hx216_0)).trans hx216_0
                                    replace hx216_1 := (HB.out.cell (World.block_lt_of_cell? w _ hx216_1)).trans hx216_1
                                    replace hx216_2 := (HB.out.cell (World.block_lt_of_cell? w _ hx216_2)).trans hx216_2
                                    have HR216_2 := Aside0.mk hi216_2
                                    have HC216_2 := Aside0.mk hl216_2
                                    clear hi216_2 hl216_2
                                    replace p216 := eq_true p216
                                    replace q216 := eq_true q216
                                    refine start_ (n := 23) (S := fun w' => w'.cell? ⟨gb197, 0, none⟩ = some (.string a1_0) ∧ w'.cell? ⟨gb197, 1, none⟩ = some (.int .i64 a1_1) ∧ w'.cell? ⟨gb197, 2, none⟩ = some (.int .i64 a1_2) ∧ w'.cell? ⟨gb197, 3, none⟩ = some (.int .i64 a1_3) ∧ w'.cell? ⟨gb197, 4, none⟩ = some (.bool a1_4) ∧ w'.cell? ⟨gb197, 5, none⟩ = some (.int .i64 a1_5) ∧ w'.cell? (ad212.add ((x9_3).toNat * 3)) = some (.string ((rd_T58 l0 x9_3).f0.f0)) ∧ w'.cell? ⟨(ad212.add ((x9_3).toNat * 3)).block, (ad212.add ((x9_3).toNat * 3)).off + 1, none⟩ = some (.string ((rd_T58 l0 x9_3).f0.f1)) ∧ w'.cell? ⟨(ad212.add ((x9_3).toNat * 3)).block, (ad212.add ((x9_3).toNat * 3)).off + 2, none⟩ = some (.slice A216_2 ((rd_T58 l0 x9_3).f1).length c216_2)) (ds := []) (tf 0 23) (by kernel_rfl) rfl rfl ⟨(blk_cell BK197.out 0).trans rfl, (blk_cell BK197.out 1).trans rfl, (blk_cell BK197.out 2).trans rfl, (blk_cell BK197.out 3).trans rfl, (blk_cell BK197.out 4).trans rfl, (blk_cell BK197.out 5).trans rfl, ((HB.out.cell (World.block_lt_of_cell? w _ hw216_0)).trans hw216_0), ((HB.out.cell (World.block_lt_of_cell? w _ hw216_1)).trans hw216_1), ((HB.out.cell (World.block_lt_of_cell? w _ hw216_2)).trans hw216_2)⟩ (fun hHeld => ?_); refine with_tabW contangolaw50_TearEven.tab21 contangolaw50_TearEven.bits21 (fun HT_ HW_ => ?_)
                                    generalize w48.drew = w49 at HO_5 BK197 HB HR216_2 hx216_0 hx216_1 hx216_2 hHeld ⊢
                                    refine pv_ 0 98 (tf 1 22) HT_ ?_
                                    refine pv_ 1 99 (tf 2 21) HT_ ?_
                                    refine pv_ 2 100 (tf 3 20) HT_ ?_
                                    refine pu_ 3 101 (tf 4 19) HT_ ?_
                                    refine pu_ 4 102 (tf 5 18) HT_ ?_
                                    refine pu_ 5 103 (tf 6 17) HT_ ?_
                                    refine pu_ 6 104 (tf 7 16) HT_ ?_
                                    refine pu_ 7 105 (tf 8 15) HT_ ?_
                                    refine pu_ 8 106 (tf 9 14) HT_ ?_
                                    refine pu_ 9 107 (tf 10 13) HT_ ?_
                                    refine pu_ 10 108 (tf 11 12) HT_ ?_
                                    refine pu_ 11 109 (tf 12 11) HT_ ?_
                                    refine pv_ 12 110 (tf 13 10) HT_ ?_
                                    refine pv_ 13 111 (tf 14 9) HT_ ?_
                                    refine pv_ 14 112 (tf 15 8) HT_ ?_
                                    refine pv_ 15 113 (tf 16 7) HT_ ?_
                                    refine pv_ 16 114 (tf 17 6) HT_ ?_
                                    refine pv_ 17 115 (tf 18 5) HT_ ?_
                                    refine take_ (i := 18) (N := some 116) (v := ?_) (a' := ?_) (tf 19 4) rfl rfl (take_ofW HT_.out HW_.out (by kernel_rfl)) (fun _ _ _ h => h) (Or.inl ⟨by rfl, ?_⟩) hHeld ?_ ?_
                                    rotate_left
                                    · rintro w' ⟨s0, s1, s2, s3, s4, s5, s6, s7, s8⟩
                                      go_simp
                                      with_reducible rfl
                                    rotate_left
                                    · exact ap_
                                    refine take_ (i := 19) (N := some 117) (v := ?_) (a' := ?_) (tf 20 3) rfl rfl (take_ofW HT_.out HW_.out (by kernel_rfl)) (fun _ _ _ h => h) (Or.inl ⟨by rfl, ?_⟩) hHeld ?_ ?_
                                    rotate_left
                                    · rintro w' ⟨s0, s1, s2, s3, s4, s5, s6, s7, s8⟩
                                      go_simp
                                      with_reducible rfl
                                    rotate_left
                                    · exact ap_
                                    refine one_ (i := 20) (N := some 118) (tf 21 2) rfl rfl (one_of HT_.out (by kernel_rfl)) (by decide) (fun K hK => ?_)
                                    refine goes_ Try.func22 (by kernel_rfl) rfl #[.agg #[.string ((rd_T58 l0 x9_3).f0.f0), .string ((rd_T58 l0 x9_3).f0.f1), .slice A216_2 ((rd_T58 l0 x9_3).f1).length c216_2], .agg #[.string a1_0, .int .i64 a1_1, .int .i64 a1_2, .int .i64 a1_3, .bool a1_4, .int .i64 a1_5]] (by rfl) rfl rfl pm_ ?_
                                    with_reducible refine (contangolaw50_has.calls k4 ((rd_T58 l0 x9_3).f0.f0) ((rd_T58 l0 x9_3).f0.f1) _ _ ((rd_T58 l0 x9_3).f1) a1_0 a1_1 a1_2 a1_3 a1_4 a1_5 t217 _ ?side1 ?side2 A44.out).mono ?_
                                    (case side1 => repeat (first | exact (Kd.C_below HR216_2.out HB.out) | (with_reducible refine Kd.C_alloc ?_ _) | (with_reducible refine Kd.C_drewN ?_ _) | (with_reducible refine Kd.C_drew ?_)))
                                    (case side2 => exact HC216_2.out)
                                    rintro e w50 ⟨rfl, hb⟩
                                    refine ⟨_, rfl, ?_⟩
                                    have n0_ := Aside0.mk (Kd.R_below (br_ HO_5.out) hb)
                                    have n1_ := Aside0.mk (blk_below (g := gb197) (o := .cells #[.string a1_0, .int .i64 a1_1, .int .i64 a1_2, .int .i64 a1_3, .bool a1_4, .int .i64 a1_5] 26 (0, 0)) (bk_ BK197.out) hb)
                                    have n2_ := Aside0.mk (below_step (bz1 HB.out GE197.out) hb)
                                    clear HO_5
                                    clear BK197
                                    clear HB
                                    have HO_5 := n0_
                                    have BK197 := n1_
                                    have HB := n2_
                                    clear n0_ n1_ n2_
                                    (try clear hb)
                                    (try clear hb2)
                                    (try clear hk)
                                    (try clear hi)
                                    refine hK.out _ _ ⟨(blk_cell BK197.out 0).trans rfl, (blk_cell BK197.out 1).trans rfl, (blk_cell BK197.out 2).trans rfl, (blk_cell BK197.out 3).trans rfl, (blk_cell BK197.out 4).trans rfl, (blk_cell BK197.out 5).trans rfl, ((HB.out.cell (World.block_lt_of_cell? w _ hw216_0)).trans hw216_0), ((HB.out.cell (World.block_lt_of_cell? w _ hw216_1)).trans hw216_1), ((HB.out.cell (World.block_lt_of_cell? w _ hw216_2)).trans hw216_2)⟩ (fun hHeld => ?_)
                                    clear hK K
                                    refine norm_ (a' := ?_) ?_ ?_
                                    rotate_left
                                    · show Act.put _ (some 118) _ = _
                                      simp only [Act.put, List.setIfInBounds_toArray, List.set_cons_zero, List.set_cons_succ, i64_w, i32_w]
                                      rfl
                                    refine pv_ 21 119 (tf 22 1) HT_ ?_
                                    refine pv_ 22 120 (tf 23 0) HT_ ?_
                                    refine done_ (done_of HT_.out (by kernel_rfl)) ?_
                                    try go_wp2
                                    go_roundg k4
                                    case measure => have := HJ2.out; have := HK2.out; have := HK3.out; have := HK4.out; omega
                                    case rel => exact ⟨(wrap64 (x9_3 + 1)), rf_, H', ⟨by have := HJ2.out; have := HK2.out; have := HK3.out; have := HK4.out; omega⟩, ⟨by (with_reducible repeat (first | apply Kd.R_alloc | apply Kd.R_drewN | apply Kd.R_drew)); exact HO_5.out⟩, ⟨by (with_reducible repeat (first | refine blk_drewN ?_ _ | refine blk_drew ?_ | refine blk_alloc ?_ _)); exact BK197.out⟩, ⟨bz1 HB.out GE197.out⟩⟩
                              · rw [if_neg c32] at H
                                exact absurd H (by simp)
                            · rw [if_neg c31] at H
                              exact absurd H (by simp)
                    · rw [if_neg c21] at H
                      have c21b0 : decide (x9_3 < (l0.length : Int)) = false := decide_eq_false c21
                      clear c21
                      replace H := Option.bind_eq_some_iff.mp H
                      obtain ⟨t208, A510, H⟩ := H
                      replace H : (some t208) = some r := H
                      have A51 := Aside0.mk A510
                      clear A510
                      obtain rfl := Option.some.inj H
                      go_wp2_with (first | ((with_reducible refine gate_callee (f := 9) rfl ?_); refine goesL_ (some 121) rfl rfl Try.func9 (by kernel_rfl) rfl #[] rfl pm_ ?_; (with_reducible refine (contangolaw50_goes.calls k3  t208 _ A51.out).mono ?_); rintro e w52 ⟨rfl, hb⟩; refine ⟨_, rfl, ?_⟩; have n0_ := Aside0.mk (Kd.R_below (br_ HO_5.out) hb); have n1_ := Aside0.mk (blk_below (g := gb197) (o := .cells #[.string a1_0, .int .i64 a1_1, .int .i64 a1_2, .int .i64 a1_3, .bool a1_4, .int .i64 a1_5] 26 (0, 0)) (bk_ BK197.out) hb); have n2_ := Aside0.mk (below_step (bz1 HB.out GE197.out) hb); clear HO_5; clear BK197; clear HB; have HO_5 := n0_; have BK197 := n1_; have HB := n2_; clear n0_ n1_ n2_; (try clear hb); (try clear hb2); (try clear hk); (try clear hi)))
                      go_ret
                      exact ⟨by first | rfl | (simp [errW_none, errW_some] <;> rfl) | (simp [*, errW_none, errW_some] <;> rfl), bz1 HB.out GE197.out⟩
        · rw [if_neg c13] at H
          have c13b0 : (t204 == 0) = false := beq_eq_false_iff_ne.mpr c13
          have c13b1 : (t204 != 0) = true := bne_iff_ne.mpr c13
          replace H := Option.bind_eq_some_iff.mp H
          obtain ⟨t205, A530, H⟩ := H
          replace H : (some t205) = some r := H
          have A53 := Aside0.mk A530
          clear A530
          obtain rfl := Option.some.inj H
          have hcz54_0 : wc.cell? ⟨gb197, 0, none⟩ = some (.string a1_0) := (blk_cell BK197.out 0).trans rfl
          have hcz54_1 : wc.cell? ⟨gb197, 1, none⟩ = some (.int .i64 a1_1) := (blk_cell BK197.out 1).trans rfl
          have hcz54_2 : wc.cell? ⟨gb197, 2, none⟩ = some (.int .i64 a1_2) := (blk_cell BK197.out 2).trans rfl
          have hcz54_3 : wc.cell? ⟨gb197, 3, none⟩ = some (.int .i64 a1_3) := (blk_cell BK197.out 3).trans rfl
          have hcz54_4 : wc.cell? ⟨gb197, 4, none⟩ = some (.bool a1_4) := (blk_cell BK197.out 4).trans rfl
          have hcz54_5 : wc.cell? ⟨gb197, 5, none⟩ = some (.int .i64 a1_5) := (blk_cell BK197.out 5).trans rfl
          have hfz54_0 := blk_frozen BK197.out 0
          have hfz54_1 := blk_frozen BK197.out 1
          have hfz54_2 := blk_frozen BK197.out 2
          have hfz54_3 := blk_frozen BK197.out 3
          have hfz54_4 := blk_frozen BK197.out 4
          have hfz54_5 := blk_frozen BK197.out 5
          go_wp2_with (first | ((with_reducible refine gate_callee (f := 10) rfl ?_); refine goesL_ (some 35) rfl rfl Try.func10 (by kernel_rfl) rfl #[.slice A0 l0.length c0, .agg #[.string a1_0, .int .i64 a1_1, .int .i64 a1_2, .int .i64 a1_3], .bool a1_4, .int .i64 a1_5] rfl pm_ ?_; (with_reducible refine (tear_Parts.calls kj2 _ _ l0 a1_0 a1_1 a1_2 a1_3 a1_4 a1_5 t201 t204 _ ?side1 ?side2 A12.out).mono ?_); (case side1 => repeat (first | exact (Kd.C_below HR0.out HB.out) | (with_reducible refine Kd.C_alloc ?_ _) | (with_reducible refine Kd.C_drewN ?_ _) | (with_reducible refine Kd.C_drew ?_))); (case side2 => exact HC0.out); rintro e w55 ⟨v202, rfl, ho0, hb⟩; refine ⟨_, rfl, ?_⟩; have n0_ := Aside0.mk (Kd.R_lower ho0 (below_size (bz1 HB.out GE197.out))); have n1_ := Aside0.mk (blk_below (g := gb197) (o := .cells #[.string a1_0, .int .i64 a1_1, .int .i64 a1_2, .int .i64 a1_3, .bool a1_4, .int .i64 a1_5] 26 (0, 0)) (bk_ BK197.out) hb); have n2_ := Aside0.mk (below_step (bz1 HB.out GE197.out) hb); clear BK197; clear HB; have HO203 := n0_; have BK197 := n1_; have HB := n2_; clear n0_ n1_ n2_; (try clear hb); (try clear hb2); (try clear hk); (try clear hi); (try clear ho0)) | ((with_reducible refine gate_callee (f := 9) rfl ?_); refine goesL_ (some 40) rfl rfl Try.func9 (by kernel_rfl) rfl #[] rfl pm_ ?_; (with_reducible refine (contangolaw50_goes.calls kj2  t205 _ A53.out).mono ?_); rintro e w56 ⟨rfl, hb⟩; refine ⟨_, rfl, ?_⟩; have n0_ := Aside0.mk (Kd.R_below (br_ HO203.out) hb); have n1_ := Aside0.mk (blk_below (g := gb197) (o := .cells #[.string a1_0, .int .i64 a1_1, .int .i64 a1_2, .int .i64 a1_3, .bool a1_4, .int .i64 a1_5] 26 (0, 0)) (bk_ BK197.out) hb); have n2_ := Aside0.mk (below_step (bz1 HB.out GE197.out) hb); clear HO203; clear BK197; clear HB; have HO203 := n0_; have BK197 := n1_; have HB := n2_; clear n0_ n1_ n2_; (try clear hb); (try clear hb2); (try clear hk); (try clear hi)))
          go_ret
          exact ⟨by first | rfl | (simp [errW_none, errW_some] <;> rfl) | (simp [*, errW_none, errW_some] <;> rfl), bz1 HB.out GE197.out⟩

end Go.Proofs.Ytjmkdmbgldcleaa.PTearEven
