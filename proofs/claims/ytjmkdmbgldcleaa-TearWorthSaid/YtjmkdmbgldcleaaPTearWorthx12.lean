import Derived.Test.YtjmkdmbgldcleaaPTearWorthx0
import Derived.Test.YtjmkdmbgldcleaaPTearWorthx10
import Derived.Test.YtjmkdmbgldcleaaPTearWorthx11
namespace Go.Proofs.Ytjmkdmbgldcleaa.PTearWorth
open Go.RowKit Go.Proofs.YtjmkdmbgldcleaaW.PrintWords Go.Proofs.YtjmkdmbgldcleaaW.PrintLast Go.Proofs.YtjmkdmbgldcleaaW.PrintMore
attribute [local go_sem] max2_int min2_int max_two min_two max_three min_three max_four min_four Go.Proofs.YtjmkdmbgldcleaaHand.run_leq_str Go.Proofs.YtjmkdmbgldcleaaHand.run_gtr_str Go.Proofs.YtjmkdmbgldcleaaHand.run_geq_str   -- for this text's walks alone
set_option linter.unusedVariables false
set_option linter.unusedSimpArgs false

/-! ### contangolaw50_TearWorth: function 5 -/
-- KINDS
structure S45 where
  f0 : Int
  f1 : Int
  f2 : Int
def k45 : Kd S45 := Kd.iso (Kd.pair (Kd.int .i64) (Kd.pair (Kd.int .i64) (Kd.int .i64))) (fun x : S45 => (x.f0, x.f1, x.f2))
theorem k45_open {w : World} {x : S45} {cs : List Value} (h : k45.K w x cs) : cs = [.int .i64 x.f0, .int .i64 x.f1, .int .i64 x.f2] := by
  obtain ⟨_, _, rfl, rfl, ⟨_, _, rfl, rfl, rfl⟩⟩ := h
  exact rfl
theorem boxes2 {w w1 : World} {B0 B1 : Obj} (hb : Below ((w.alloc B0).alloc B1).heap.size ((w.alloc B0).alloc B1) w1) :
    w1.heap[w.heap.size]? = some B0 ∧ w1.heap[w.heap.size + 1]? = some B1 ∧ Below w.heap.size w w1 ∧ w.heap.size + 1 < w1.heap.size := by
  have h1 := blk_below (blk_new (w.alloc B0) B1) hb
  rw [World.size_alloc] at h1
  exact ⟨blk_below (blk_alloc (blk_new w B0) B1) hb, h1, below_step (below_alloc (below_alloc (Below.refl _ _) _) _) hb, blk_lt h1⟩
/-- What the law comes to. -/
def contangolaw50_TearWorth.f (k : Nat) (a0_0 : ByteArray) (a0_1 : Int) (a0_2 : Int) (a0_3 : Int) (a0_4 : Int) (a0_5 : Int) (a0_6 : Bool) (q0 : Int) (q1 : Int) (q2 : Int) (long : Bool) : Option Bool :=
  (tear_Worth.f k a0_0 a0_1 a0_2 a0_3 a0_4 a0_5 a0_6 q0 q1 long q2).bind fun x => (contangoref50_Worth.f k a0_0 a0_1 a0_2 a0_3 a0_4 a0_5 a0_6 q0 q1 long q2).bind fun y => (tear_Worth.f k a0_0 a0_1 a0_2 a0_3 a0_4 a0_5 a0_6 q0 q1 (!long) q2).bind fun z =>
    if x.1 = y.1 ∧ x.2 = y.2 ∧ z.2 = x.2 ∧ z.1 = wrap64 (-x.1) then contangolaw50_goes.f k else some false
set_option maxHeartbeats 3200000 in
set_option maxRecDepth 100000 in
theorem contangolaw50_TearWorth.calls (k : Nat) (a0_0 : ByteArray) (a0_1 : Int) (a0_2 : Int) (a0_3 : Int) (a0_4 : Int) (a0_5 : Int) (a0_6 : Bool) (q0 : Int) (q1 : Int) (q2 : Int) (long : Bool) (r : Bool) (hrt : r = true) (w : World) (h : contangolaw50_TearWorth.f k a0_0 a0_1 a0_2 a0_3 a0_4 a0_5 a0_6 q0 q1 q2 long = some r) :
    Calls Try.prog 5 #[.agg #[.string a0_0, .int .i64 a0_1, .int .i64 a0_2, .int .i64 a0_3, .int .i64 a0_4, .int .i64 a0_5, .bool a0_6], .agg #[.int .i64 q0, .int .i64 q1, .int .i64 q2], .bool long] w fun e w' => e = .returned (.bool r) ∧ Below w.heap.size w w' := by
  subst hrt
  obtain ⟨⟨n, e⟩, h1, ha⟩ := Option.bind_eq_some_iff.mp h
  obtain ⟨⟨n', e'⟩, h2, hb⟩ := Option.bind_eq_some_iff.mp ha
  obtain ⟨⟨c, g⟩, h3, hd⟩ := Option.bind_eq_some_iff.mp hb
  clear h ha hb
  by_cases hc : n = n' ∧ e = e' ∧ g = e ∧ c = wrap64 (-n)
  case neg => rw [if_neg hc] at hd; cases hd
  rw [if_pos hc] at hd
  obtain ⟨rfl, rfl, rfl, rfl⟩ := hc
  have H1 := Aside0.mk h1
  have H2 := Aside0.mk h2
  have H3 := Aside0.mk h3
  have H5 := Aside0.mk hd
  clear h1 h2 h3 hd
  go_enter Try.func5, Try.ntmps5
  go_wp2_with (first | (have hB2_ := HB2; go_at_call 16; refine (tear_Worth.calls k a0_0 a0_1 a0_2 a0_3 a0_4 a0_5 a0_6 q0 q1 (!long) q2 (wrap64 (-n)) g _ H3.out).mono ?_; rintro _ w3 ⟨rfl, hb⟩; have HB3 := Aside0.mk (below_step HB2.out hb); clear hb) | (go_at_call 16; refine (tear_Worth.calls k a0_0 a0_1 a0_2 a0_3 a0_4 a0_5 a0_6 q0 q1 long q2 n g _ H1.out).mono ?_; rintro _ w1 ⟨rfl, hb⟩; obtain ⟨b0, b1, hb1, hlt1⟩ := boxes2 hb; have p0 : w1.cell? ⟨w.heap.size, 0, none⟩ = some (.string a0_0) := (blk_cell b0 0).trans rfl; have p1 : w1.cell? ⟨w.heap.size, 1, none⟩ = some (.int .i64 a0_1) := (blk_cell b0 1).trans rfl; have p2 : w1.cell? ⟨w.heap.size, 2, none⟩ = some (.int .i64 a0_2) := (blk_cell b0 2).trans rfl; have p3 : w1.cell? ⟨w.heap.size, 3, none⟩ = some (.int .i64 a0_3) := (blk_cell b0 3).trans rfl; have p4 : w1.cell? ⟨w.heap.size, 4, none⟩ = some (.int .i64 a0_4) := (blk_cell b0 4).trans rfl; have p5 : w1.cell? ⟨w.heap.size, 5, none⟩ = some (.int .i64 a0_5) := (blk_cell b0 5).trans rfl; have p6 : w1.cell? ⟨w.heap.size, 6, none⟩ = some (.bool a0_6) := (blk_cell b0 6).trans rfl; have q_0 : w1.cell? ⟨w.heap.size + 1, 0, none⟩ = some (.int .i64 q0) := (blk_cell b1 0).trans rfl; have q_1 : w1.cell? ⟨w.heap.size + 1, 1, none⟩ = some (.int .i64 q1) := (blk_cell b1 1).trans rfl; have q_2 : w1.cell? ⟨w.heap.size + 1, 2, none⟩ = some (.int .i64 q2) := (blk_cell b1 2).trans rfl; have B0 := Aside0.mk b0; have B1 := Aside0.mk b1; have HB1 := Aside0.mk hb1; clear hb hb1 b0 b1) | (go_at_call 17; refine (contangoref50_Worth.calls k a0_0 a0_1 a0_2 a0_3 a0_4 a0_5 a0_6 q0 q1 long q2 n g _ H2.out).mono ?_; rintro _ w2 ⟨rfl, hb⟩; have b0 := blk_below B0.out hb; have b1 := blk_below B1.out hb; have s0 : w2.cell? ⟨w.heap.size, 0, none⟩ = some (.string a0_0) := (blk_cell b0 0).trans rfl; have s1 : w2.cell? ⟨w.heap.size, 1, none⟩ = some (.int .i64 a0_1) := (blk_cell b0 1).trans rfl; have s2 : w2.cell? ⟨w.heap.size, 2, none⟩ = some (.int .i64 a0_2) := (blk_cell b0 2).trans rfl; have s3 : w2.cell? ⟨w.heap.size, 3, none⟩ = some (.int .i64 a0_3) := (blk_cell b0 3).trans rfl; have s4 : w2.cell? ⟨w.heap.size, 4, none⟩ = some (.int .i64 a0_4) := (blk_cell b0 4).trans rfl; have s5 : w2.cell? ⟨w.heap.size, 5, none⟩ = some (.int .i64 a0_5) := (blk_cell b0 5).trans rfl; have s6 : w2.cell? ⟨w.heap.size, 6, none⟩ = some (.bool a0_6) := (blk_cell b0 6).trans rfl; have t_0 : w2.cell? ⟨w.heap.size + 1, 0, none⟩ = some (.int .i64 q0) := (blk_cell b1 0).trans rfl; have t_1 : w2.cell? ⟨w.heap.size + 1, 1, none⟩ = some (.int .i64 q1) := (blk_cell b1 1).trans rfl; have t_2 : w2.cell? ⟨w.heap.size + 1, 2, none⟩ = some (.int .i64 q2) := (blk_cell b1 2).trans rfl; have HB2 := Aside0.mk (below_step HB1.out hb); have hlt2 := blk_lt b1; clear hb b0 b1) | (go_at_call 9; refine (contangolaw50_goes.calls k true _ H5.out).mono ?_; rintro _ w5 ⟨rfl, hb⟩; have HB5 := Aside0.mk (below_step HB3.out hb); clear hb))
  repeat (go_quiet (first | (go_at_call 9; refine (contangolaw50_goes.calls k true _ H5.out).mono ?_; rintro _ w5 ⟨rfl, hb⟩; have HB5 := Aside0.mk (below_step HB3.out hb); clear hb) | fail); try go_wp2)
  go_ret
  exact ⟨rfl, HB5.out⟩

end Go.Proofs.Ytjmkdmbgldcleaa.PTearWorth
