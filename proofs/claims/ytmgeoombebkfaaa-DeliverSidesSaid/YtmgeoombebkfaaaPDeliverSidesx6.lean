-- Written by a program of this session's (a turned copy of the kit's print, with functions proved by hand).
import Derived.Test.YtmgeoombebkfaaaPDeliverSidesx0
namespace Go.Proofs.Ytmgeoombebkfaaa.PDeliverSides
open Go.RowKit Go.Proofs.YtmgeoombebkfaaaW.PrintWords Go.Proofs.YtmgeoombebkfaaaW.PrintLast Go.Proofs.YtmgeoombebkfaaaW.PrintMore
attribute [local go_sem] max2_int min2_int max_two min_two max_three min_three max_four min_four Go.Proofs.YtmgeoombebkfaaaHand.run_leq_str Go.Proofs.YtmgeoombebkfaaaHand.run_gtr_str Go.Proofs.YtmgeoombebkfaaaHand.run_geq_str   -- for this text's walks alone
set_option linter.unusedVariables false
set_option linter.unusedSimpArgs false

/-! ### deliver_lots: function 29 -/
def deliver_lots.l0 : Nat → Int → List (S60) → Int → Int → Option (Int × Int)
  | 0, _, _, _, _ => none
  | k + 1, x2, x6, x7, x8 => if x8 < x7 then (if 0 ≤ x8 then (if x8 < (x6.length : Int) then (if ((rd_T60 x6 x8).f1) < 1 then (some (0, 18)) else (if ((rd_T60 x6 x8).f1) > 1048576 then (some (0, 18)) else (deliver_lots.l0 k (wrap64 (x2 + ((rd_T60 x6 x8).f1))) x6 x7 (wrap64 (x8 + 1))))) else (none)) else (none)) else (some (x2, 0))
def deliver_lots.f (k : Nat) (l0 : List (S60)) : Option (Int × Int) := deliver_lots.l0 k 0 l0 (l0.length : Int) 0
theorem deliver_lots.mono_l : ∀ k, (∀ y0 y1 y2 y3, LeO (deliver_lots.l0 k y0 y1 y2 y3) (deliver_lots.l0 (k + 1) y0 y1 y2 y3))
  | 0 => fun _ _ _ _ r h => by simp [deliver_lots.l0] at h
  | k + 1 => by
    have ih0 := deliver_lots.mono_l k
    · intro y0 y1 y2 y3
      unfold deliver_lots.l0
      repeat' first
      | (with_reducible exact ih0 _ _ _ _)
      | (with_reducible exact LeO.refl _)
      | (with_reducible exact LeO.none _)
      | (with_reducible refine LeO.ite ?_ ?_)
      | (with_reducible refine LeO.bind ?_ (fun _ => ?_))
      | exact ih0 _ _ _ _
      | exact LeO.none _
      | refine LeO.ite ?_ ?_
      | refine LeO.bind ?_ (fun _ => ?_)
theorem deliver_lots.mono : ∀ a0 k, LeO (deliver_lots.f k a0) (deliver_lots.f (k + 1) a0) := by
  intro a0 k
  have ih0 := deliver_lots.mono_l k
  unfold deliver_lots.f
  repeat' first
      | (with_reducible exact ih0 _ _ _ _)
      | (with_reducible exact LeO.refl _)
      | (with_reducible exact LeO.none _)
      | (with_reducible refine LeO.ite ?_ ?_)
      | (with_reducible refine LeO.bind ?_ (fun _ => ?_))
      | exact ih0 _ _ _ _
      | exact LeO.none _
      | refine LeO.ite ?_ ?_
      | refine LeO.bind ?_ (fun _ => ?_)
set_option maxHeartbeats 8000000 in
set_option maxRecDepth 100000 in
theorem deliver_lots.calls (k : Nat) (A0 : Option Addr) (c0 : Nat) (l0 : List (S60)) (r1 : Int) (r2 : Int) (w : World) (hr0 : Kd.C k60 w A0 l0.length l0) (hc0 : l0.length ≤ c0) (h : deliver_lots.f k l0 = some (r1, r2)) :
    Calls Try.prog 29 #[.slice A0 l0.length c0] w fun e w' => e = .returned (.tuple #[.int .i64 r1, .int .i64 r2]) ∧ Below w.heap.size w w' := by
  have hu60 := Try.underlying60
  have HR0 := Aside0.mk hr0
  have HC0 := Aside0.mk hc0
  clear hr0 hc0
  have HB := Aside0.mk (Below.refl w.heap.size w)
  have H : (deliver_lots.l0 k 0 l0 (l0.length : Int) 0) = some (r1, r2) := h
  clear h
  have H' := Aside0.mk H
  clear H
  go_enter Try.func29, Try.ntmps29
  go_wp2
  go_loopg [2, 8] k (fun kq v2 v8 w' => ∃ (x2_1 : Int) (x8_1 : Int), v2 = .int .i64 x2_1 ∧ v8 = .int .i64 x8_1 ∧ Aside0 (deliver_lots.l0 kq x2_1 l0 (l0.length : Int) x8_1 = some (r1, r2)) ∧ Aside0 (kq ≤ k) ∧ Aside0 (Below w.heap.size w w'))
  case atStart => exact ⟨(0), (0), (by first | rfl | (simp; done) | (simp [*]; done)), (by first | rfl | (simp; done) | (simp [*]; done)), H', ⟨Nat.le_refl _⟩, ⟨by repeat (first | (with_reducible first | exact HB.out | apply below_alloc | apply pw_below_drewN | apply below_drew1) | exact HB.out)⟩⟩
  case round =>
    clear H'
    obtain ⟨x2_1, x8_1, rfl, rfl, HA, HK1, HB⟩ := hrel
    cases gk with
    | zero => exact absurd HA.out (by simp [deliver_lots.l0])
    | succ k1 =>
      have H := HA.out
      clear HA
      simp only [deliver_lots.l0] at H
      by_cases c2 : x8_1 < (l0.length : Int)
      · rw [if_pos c2] at H
        have c2b0 : decide (x8_1 < (l0.length : Int)) = true := decide_eq_true c2
        clear c2
        by_cases c3 : 0 ≤ x8_1
        · rw [if_pos c3] at H
          have c3b0 : decide (0 ≤ x8_1) = true := decide_eq_true c3
          clear c3
          by_cases c4 : x8_1 < (l0.length : Int)
          · rw [if_pos c4] at H
            have c4b0 : decide (x8_1 < (l0.length : Int)) = true := decide_eq_true c4
            clear c4
            by_cases c5 : ((rd_T60 l0 x8_1).f1) < 1
            · rw [if_pos c5] at H
              have c5b0 : decide (((rd_T60 l0 x8_1).f1) < 1) = true := decide_eq_true c5
              clear c5
              simp only [Option.some.injEq, Prod.mk.injEq] at H
              obtain ⟨rfl, rfl⟩ := H
              have p101 : 0 ≤ (x8_1 : Int) := of_decide_eq_true (by first | (with_reducible assumption) | assumption)
              have q101 : x8_1 < (l0.length : Int) := of_decide_eq_true (by first | (with_reducible assumption) | assumption)
              obtain ⟨ad101, e101, hx101_0, hx101_1, hx101_2⟩ := at_T60 HR0.out x8_1 p101 q101
              cases e101
              replace hx101_0 := (HB.out.cell (World.block_lt_of_cell? w _ hx101_0)).trans hx101_0
              replace hx101_1 := (HB.out.cell (World.block_lt_of_cell? w _ hx101_1)).trans hx101_1
              replace hx101_2 := (HB.out.cell (World.block_lt_of_cell? w _ hx101_2)).trans hx101_2
              replace p101 := eq_true p101
              replace q101 := eq_true q101
              go_wp2_with (first | ((with_reducible refine gate_dst (N := 5) rfl ?_); refine box_event ?hg (N := 5) ?hd (cs := #[.string (⟨#[]⟩ : ByteArray), .string (⟨#[]⟩ : ByteArray), .int .i64 0]) (t := 60) ?hr ?_; (case hd => rfl); (case hg => rfl); (case hr => first | (go_simp; done) | (go_simp; rfl)); intro gb102 hg w6 hbox hb; have n0_ := Aside0.mk (below_step (by repeat (first | (with_reducible first | exact HB.out | apply below_alloc | apply pw_below_drewN | apply below_drew1) | exact HB.out)) hb); have n1_ := Aside0.mk (hbox); have n2_ := Aside0.mk ((by rw [hg]; exact (below_size (by repeat (first | (with_reducible first | exact HB.out | apply below_alloc | apply pw_below_drewN | apply below_drew1) | exact HB.out))) : w.heap.size ≤ gb102)); have n3_ := Aside0.mk ((by rw [hg]; exact (below_size (by repeat (first | (with_reducible first | exact HB.out | apply below_alloc | apply pw_below_drewN | apply below_drew1) | exact HB.out))) : w.heap.size ≤ gb102)); clear HB; have HB := n0_; have BK102 := n1_; have GW102 := n2_; have GE102 := n3_; clear n0_ n1_ n2_ n3_; clear hb hbox hg; have hcz7_0 : w6.cell? ⟨gb102, 0, none⟩ = some (.string (⟨#[]⟩ : ByteArray)) := (blk_cell BK102.out 0).trans rfl; have hcz7_1 : w6.cell? ⟨gb102, 1, none⟩ = some (.string (⟨#[]⟩ : ByteArray)) := (blk_cell BK102.out 1).trans rfl; have hcz7_2 : w6.cell? ⟨gb102, 2, none⟩ = some (.int .i64 0) := (blk_cell BK102.out 2).trans rfl; have hfz7_0 := blk_frozen BK102.out 0; have hfz7_1 := blk_frozen BK102.out 1; have hfz7_2 := blk_frozen BK102.out 2))
              go_ret2
              exact ⟨by first | rfl | (simp [errW_none, errW_some] <;> rfl) | (simp [*, errW_none, errW_some] <;> rfl), by repeat (first | (with_reducible first | exact HB.out | apply below_alloc | apply pw_below_drewN | apply below_drew1 | refine below_set ?_ GE102.out) | exact HB.out)⟩
            · rw [if_neg c5] at H
              have c5b0 : decide (((rd_T60 l0 x8_1).f1) < 1) = false := decide_eq_false c5
              clear c5
              by_cases c8 : ((rd_T60 l0 x8_1).f1) > 1048576
              · rw [if_pos c8] at H
                have c8b0 : decide (1048576 < ((rd_T60 l0 x8_1).f1)) = true := decide_eq_true c8
                clear c8
                simp only [Option.some.injEq, Prod.mk.injEq] at H
                obtain ⟨rfl, rfl⟩ := H
                have p101 : 0 ≤ (x8_1 : Int) := of_decide_eq_true (by first | (with_reducible assumption) | assumption)
                have q101 : x8_1 < (l0.length : Int) := of_decide_eq_true (by first | (with_reducible assumption) | assumption)
                obtain ⟨ad101, e101, hx101_0, hx101_1, hx101_2⟩ := at_T60 HR0.out x8_1 p101 q101
                cases e101
                replace hx101_0 := (HB.out.cell (World.block_lt_of_cell? w _ hx101_0)).trans hx101_0
                replace hx101_1 := (HB.out.cell (World.block_lt_of_cell? w _ hx101_1)).trans hx101_1
                replace hx101_2 := (HB.out.cell (World.block_lt_of_cell? w _ hx101_2)).trans hx101_2
                replace p101 := eq_true p101
                replace q101 := eq_true q101
                go_wp2_with (first | ((with_reducible refine gate_dst (N := 5) rfl ?_); refine box_event ?hg (N := 5) ?hd (cs := #[.string (⟨#[]⟩ : ByteArray), .string (⟨#[]⟩ : ByteArray), .int .i64 0]) (t := 60) ?hr ?_; (case hd => rfl); (case hg => rfl); (case hr => first | (go_simp; done) | (go_simp; rfl)); intro gb102 hg w9 hbox hb; have n0_ := Aside0.mk (below_step (by repeat (first | (with_reducible first | exact HB.out | apply below_alloc | apply pw_below_drewN | apply below_drew1) | exact HB.out)) hb); have n1_ := Aside0.mk (hbox); have n2_ := Aside0.mk ((by rw [hg]; exact (below_size (by repeat (first | (with_reducible first | exact HB.out | apply below_alloc | apply pw_below_drewN | apply below_drew1) | exact HB.out))) : w.heap.size ≤ gb102)); have n3_ := Aside0.mk ((by rw [hg]; exact (below_size (by repeat (first | (with_reducible first | exact HB.out | apply below_alloc | apply pw_below_drewN | apply below_drew1) | exact HB.out))) : w.heap.size ≤ gb102)); clear HB; have HB := n0_; have BK102 := n1_; have GW102 := n2_; have GE102 := n3_; clear n0_ n1_ n2_ n3_; clear hb hbox hg; have hcz10_0 : w9.cell? ⟨gb102, 0, none⟩ = some (.string (⟨#[]⟩ : ByteArray)) := (blk_cell BK102.out 0).trans rfl; have hcz10_1 : w9.cell? ⟨gb102, 1, none⟩ = some (.string (⟨#[]⟩ : ByteArray)) := (blk_cell BK102.out 1).trans rfl; have hcz10_2 : w9.cell? ⟨gb102, 2, none⟩ = some (.int .i64 0) := (blk_cell BK102.out 2).trans rfl; have hfz10_0 := blk_frozen BK102.out 0; have hfz10_1 := blk_frozen BK102.out 1; have hfz10_2 := blk_frozen BK102.out 2))
                go_ret2
                exact ⟨by first | rfl | (simp [errW_none, errW_some] <;> rfl) | (simp [*, errW_none, errW_some] <;> rfl), by repeat (first | (with_reducible first | exact HB.out | apply below_alloc | apply pw_below_drewN | apply below_drew1 | refine below_set ?_ GE102.out) | exact HB.out)⟩
              · rw [if_neg c8] at H
                have c8b0 : decide (1048576 < ((rd_T60 l0 x8_1).f1)) = false := decide_eq_false c8
                clear c8
                have H' := Aside0.mk H
                clear H
                have p101 : 0 ≤ (x8_1 : Int) := of_decide_eq_true (by first | (with_reducible assumption) | assumption)
                have q101 : x8_1 < (l0.length : Int) := of_decide_eq_true (by first | (with_reducible assumption) | assumption)
                obtain ⟨ad101, e101, hx101_0, hx101_1, hx101_2⟩ := at_T60 HR0.out x8_1 p101 q101
                cases e101
                replace hx101_0 := (HB.out.cell (World.block_lt_of_cell? w _ hx101_0)).trans hx101_0
                replace hx101_1 := (HB.out.cell (World.block_lt_of_cell? w _ hx101_1)).trans hx101_1
                replace hx101_2 := (HB.out.cell (World.block_lt_of_cell? w _ hx101_2)).trans hx101_2
                replace p101 := eq_true p101
                replace q101 := eq_true q101
                go_wp2_with (first | ((with_reducible refine gate_dst (N := 5) rfl ?_); refine box_event ?hg (N := 5) ?hd (cs := #[.string (⟨#[]⟩ : ByteArray), .string (⟨#[]⟩ : ByteArray), .int .i64 0]) (t := 60) ?hr ?_; (case hd => rfl); (case hg => rfl); (case hr => first | (go_simp; done) | (go_simp; rfl)); intro gb102 hg w11 hbox hb; have n0_ := Aside0.mk (below_step (by repeat (first | (with_reducible first | exact HB.out | apply below_alloc | apply pw_below_drewN | apply below_drew1) | exact HB.out)) hb); have n1_ := Aside0.mk (hbox); have n2_ := Aside0.mk ((by rw [hg]; exact (below_size (by repeat (first | (with_reducible first | exact HB.out | apply below_alloc | apply pw_below_drewN | apply below_drew1) | exact HB.out))) : w.heap.size ≤ gb102)); have n3_ := Aside0.mk ((by rw [hg]; exact (below_size (by repeat (first | (with_reducible first | exact HB.out | apply below_alloc | apply pw_below_drewN | apply below_drew1) | exact HB.out))) : w.heap.size ≤ gb102)); clear HB; have HB := n0_; have BK102 := n1_; have GW102 := n2_; have GE102 := n3_; clear n0_ n1_ n2_ n3_; clear hb hbox hg; have hcz12_0 : w11.cell? ⟨gb102, 0, none⟩ = some (.string (⟨#[]⟩ : ByteArray)) := (blk_cell BK102.out 0).trans rfl; have hcz12_1 : w11.cell? ⟨gb102, 1, none⟩ = some (.string (⟨#[]⟩ : ByteArray)) := (blk_cell BK102.out 1).trans rfl; have hcz12_2 : w11.cell? ⟨gb102, 2, none⟩ = some (.int .i64 0) := (blk_cell BK102.out 2).trans rfl; have hfz12_0 := blk_frozen BK102.out 0; have hfz12_1 := blk_frozen BK102.out 1; have hfz12_2 := blk_frozen BK102.out 2))
                go_roundg k1
                case measure => have := HK1.out; omega
                case rel => exact ⟨(wrap64 (x2_1 + ((rd_T60 l0 x8_1).f1))), (wrap64 (x8_1 + 1)), (by first | rfl | (simp; done) | (simp [i64_w]; done) | (simp [*]; done)), (by first | rfl | (simp; done) | (simp [i64_w]; done) | (simp [*]; done)), H', ⟨by have := HK1.out; omega⟩, ⟨by repeat (first | (with_reducible first | exact HB.out | apply below_alloc | apply pw_below_drewN | apply below_drew1 | refine below_set ?_ GE102.out) | exact HB.out)⟩⟩
          · rw [if_neg c4] at H
            exact absurd H (by simp)
        · rw [if_neg c3] at H
          exact absurd H (by simp)
      · rw [if_neg c2] at H
        have c2b0 : decide (x8_1 < (l0.length : Int)) = false := decide_eq_false c2
        clear c2
        simp only [Option.some.injEq, Prod.mk.injEq] at H
        obtain ⟨rfl, rfl⟩ := H
        go_wp2
        go_ret2
        exact ⟨by first | rfl | (simp [errW_none, errW_some] <;> rfl) | (simp [*, errW_none, errW_some] <;> rfl), by repeat (first | (with_reducible first | exact HB.out | apply below_alloc | apply pw_below_drewN | apply below_drew1) | exact HB.out)⟩

/-! ### deliver_Pairs: function 9 -/
attribute [local go_sem] Oper.semAt_some
/-- A block of cells stays, where only blocks that are no cells turn. -/
theorem cells_own {β : Type} (B : Nat) (o : Obj) (ho : o.isCells = true) : Own (fun (_ : β) (W : World) => W.heap[B]? = some o) := by
  intro s X Y row hv hg hrow
  refine (hg.block B (blk_lt hv) (fun e' => ?_)).trans hv
  obtain ⟨o', ho', hc'⟩ := hrow B e'.symm
  rw [hv] at ho'; cases ho'; rw [ho] at hc'; cases hc'
/-- A box that holds a row of one's own speaks of cells alone. -/
theorem R_own {β α : Type} (d : Kd α) (e base B T : Nat) (f : β → List α) : Own (fun (s : β) (W : World) => ∃ v, Boxed W B T v ∧ d.R e W base (fun _ => True) v (f s)) := by
  rintro s X Y row ⟨v, hv, hr⟩ hg hrow
  have hne : ∀ (k : Nat) (o : Obj), X.heap[k]? = some o → o.isCells = true → some k ≠ row := fun k o ho hc e' => by
    obtain ⟨o', ho', hc'⟩ := hrow k e'.symm
    rw [ho] at ho'; cases ho'; rw [hc] at hc'; cases hc'
  refine ⟨v, hv.kept hg (hne B _ hv rfl), Kd.R_mono (Kd.R_move (Kd.R_bound hr) (fun k hk => ?_)) (fun _ _ => trivial)⟩
  obtain ⟨_, _, hlt, q, _, cells, hc⟩ := hk
  exact hg.block k hlt (hne k _ hc rfl)
theorem R_putObj {α : Type} {d : Kd α} {e base : Nat} {W : World} {v : Value} {xs : List α} {l : Nat} {o : Obj} (o' : Obj) (hr : d.R e W base (fun _ => True) v xs) (hl : W.heap[l]? = some o) (ho : o.isCells = false) : d.R e (W.putObj l o') base (fun _ => True) v xs := by
  refine Kd.R_mono (Kd.R_move (Kd.R_bound hr) (fun k hk => ?_)) (fun _ _ => trivial)
  obtain ⟨_, _, hlt, q, _, cells, hc⟩ := hk
  exact (grownBy_putObj' W l o').block k hlt (fun e' => by cases e'; rw [hl] at hc; cases hc; cases ho)
section
variable {F : Fence} {n : Nat} {P : Program} {ops : Array Oper} {rest : List Oper} {o : Oper} {a : Act} {Q : Exit → Act → World → Prop} {α : Type}
/-- append(v, x) in a round. -/
theorem wpListIn_R_append (d : Kd α) {W : World} (base : Nat) (hgd : o.guard = none) (s x : Operand) (t e : TypeId) (z : Value) (bytes : Nat)
    (ho : o.op = .call { callee := .builtin .append, args := #[s, x], argTypes := #[t, t] })
    (ht : P.underlying t = some (.slice e)) (hinfo : (P.info? e).map (fun i => (i.zero, i.size, i.bytes)) = some (some z, d.sz, bytes)) (hz : z.cells.size = d.sz) (hs0 : 0 < d.sz) (hb0 : 0 < bytes)
    (v : Value) (xs : List α) (p : α) (cs : List Value) (ok okp : Nat → Prop) (hs : a.eval s = v) (hx : a.eval x = .slice (some ⟨W.heap.size, 0, none⟩) 1 1) (hp : d.M W base okp p cs) (hokp : ∀ k, okp k → ok k ∧ some k ≠ v.ownBlock) (hfresh : ∀ k, W.heap.size ≤ k → ok k)
    (HO : d.R e W base ok v xs) (hbase : base ≤ W.heap.size) (hl : (xs.length + 1) * bytes ≤ 140737488355328)
    (h : ∀ v1 w1, d.R e w1 base ok v1 (xs ++ [p]) → W.grownBy w1 v.ownBlock → (v1.ownBlock = v.ownBlock ∨ ∃ b, v1.ownBlock = some b ∧ W.heap.size ≤ b) → wpListIn F n P ops Q rest (a.put o.dst v1) w1) :
    wpListIn F n P ops Q (o :: rest) a (W.alloc (.cells cs.toArray e)) := by
  obtain ⟨h0, inner, hown, hr⟩ := HO
  obtain ⟨i0, hi, hzz⟩ := Option.map_eq_some_iff.1 hinfo
  simp only [Prod.mk.injEq] at hzz
  obtain ⟨hz0, hz1, hz2⟩ := hzz
  have hlen : xs.length + 1 ≤ 140737488355328 := Nat.le_trans (Nat.le_mul_of_pos_right _ hb0) hl
  have hcl := d.K_len (d.K_of_M hp)
  refine wpListIn_plain hgd fun K hK' => ?_
  obtain ⟨v', w', hrun, r1, r2, _, hat⟩ := run_append_own_at (P := P) (W.alloc (.cells cs.toArray e)) base t o.type e i0 z d.sz bytes ht hi hz0 hz1 hz2 hz hs0 v xs.length inner (hown.alloc _) ⟨W.heap.size, 0, none⟩ 1 1 cs (by rw [hcl]; simp)
    (by simpa using World.news_of_block (cs := cs.toArray) (t := e) (fr := (0, 0)) (heap_alloc_new W (.cells cs.toArray e))) (d.K_one (d.K_of_M hp)) (by simp only [maxLen]; omega) hl (by simp; omega)
  unfold Oper.wpIn
  refine ⟨?_, ?_⟩
  · simp [Oper.about, ho, resolve, Target.leads, Sem.run_pure]
  · rw [Oper.semAt_plain F _ _ (by rw [ho]; intro c hc'; cases hc')]
    simp [execOp, ho, resolve, invoke, builtin, hs, hx, hrun, Result.andThen]
    have hg : W.grownBy w' v.ownBlock := World.grownBy.trans (World.grownBy_alloc W _ _) r2
    have hat' : v'.ownBlock = v.ownBlock ∨ ∃ b, v'.ownBlock = some b ∧ W.heap.size ≤ b := by
      rcases hat with hat | hat
      · exact .inl hat
      · exact .inr ⟨_, hat, by simp⟩
    exact hK' _ _ (h v' w' (Kd.R_appended h0 hr hp hokp hfresh r1 hg hat') hg hat')
end
section
variable {P : Program} {ops : Array Oper} {Q : Exit → Act → World → Prop}
/-- A call of a function value in a region that draws its order. -/
theorem goesV_ {oi : Oper} {N : Option Tmp} {a : Act} {w : World} {K : Act → World → Prop} {g : Nat} {lb : Array Value} {t : Operand} {bs : Array Operand} {ts : Array TypeId} (eg : ∀ args w, (callFunc g args).run P w = .ok (.enter g args) w) (args : Array Value)
    (hw : Region.wanted oi (yielded ops a.tmps) = true) (hN : oi.dst = N) (hop : oi.op = .call { callee := .value t, args := bs, argTypes := ts }) (hv : a.eval t = .func (.func g) #[] lb) (hargs : bs.map a.eval = args)
    (h : Calls P g (args ++ lb) w fun e w' => ∃ v, e = .returned v ∧ K (a.put N v) w') : if Region.wanted oi (yielded ops a.tmps) = true then Oper.wp P oi a w K Q else K (a.put N undef) w := by
  refine call_ g (args ++ lb) hw hN ?_ h
  unfold execOp
  simp [hop, resolve, Deferred.ofValue, invoke, hv, hargs, eg]
end

/-- What the pairs of one who delivers are, and where the others then stand. -/
def pairs_in (L : List S60) (a : S54) : Nat → Int → Nat → Int → Option (List S56 × Nat × Int)
  | 0, _, _, _ => none
  | k + 1, left, n, room => if left > 0 then
      (if room = 0 then (if n < L.length then some (n + 1, (rd_T60 L (n : Int)).f1) else none) else some (n, room)).bind fun y =>
        if 0 < y.1 then (pairs_in L a k (wrap64 (left - (if y.2 < left then y.2 else left))) y.1 (wrap64 (y.2 - (if y.2 < left then y.2 else left)))).bind fun z => some (⟨a, (rd_T60 L ((y.1 - 1 : Nat) : Int)).f0, (if y.2 < left then y.2 else left)⟩ :: z.1, z.2) else none
    else some ([], n, room)
/-- All pairs, one behind the other. -/
def pairs_go (k : Nat) (L : List S60) : List S60 → Nat → Int → Option (List S56)
  | [], _, _ => some []
  | s :: r, n, room => (pairs_in L s.f0 k s.f1 n room).bind fun x => (pairs_go k L r x.2.1 x.2.2).bind fun t => some (x.1 ++ t)
theorem pairs_in_mono (L : List S60) (a : S54) : ∀ k left n room, LeO (pairs_in L a k left n room) (pairs_in L a (k + 1) left n room)
  | 0, _, _, _ => LeO.none _
  | k + 1, left, n, room => by
    rw [pairs_in, pairs_in]
    exact LeO.ite (LeO.bind (LeO.refl _) (fun y => LeO.ite (LeO.bind (pairs_in_mono L a k _ _ _) (fun z => LeO.refl _)) (LeO.refl _))) (LeO.refl _)
theorem pairs_go_mono (L : List S60) (l : List S60) : ∀ k n room, LeO (pairs_go k L l n room) (pairs_go (k + 1) L l n room) := by
  induction l with
  | nil => intro k n room; exact LeO.refl _
  | cons s r ih =>
    intro k n room
    rw [pairs_go, pairs_go]
    exact LeO.bind (pairs_in_mono L s.f0 k _ _ _) (fun x => LeO.bind (ih k _ _) (fun t => LeO.refl _))
theorem pairs_in_at (L : List S60) (a : S54) : ∀ k left n room y, n ≤ L.length → pairs_in L a k left n room = some y → y.2.1 ≤ L.length
  | 0, _, _, _, _, _, h => by cases h
  | k + 1, left, n, room, y, hn, h => by
    rw [pairs_in] at h
    split at h
    · obtain ⟨u, hu, h⟩ := Option.bind_eq_some_iff.mp h
      split at h
      · obtain ⟨z, hz, h⟩ := Option.bind_eq_some_iff.mp h
        cases Option.some.inj h
        refine pairs_in_at L a k _ _ _ z ?_ hz
        split at hu
        · split at hu
          · cases Option.some.inj hu; show n + 1 ≤ _; omega
          · cases hu
        · cases Option.some.inj hu; exact hn
      · cases h
    · cases Option.some.inj h; exact hn
/-- What a round keeps: what lay there before, each part's own block, and the boxes of rows of parts. -/
def PartsKeep (n0 : Nat) (X Y : World) : Prop := Below n0 X Y ∧ (∀ (j : Nat) (cs : Array Value), X.heap[j]? = some (Obj.cells cs 60 (0, 0)) → Y.heap[j]? = some (Obj.cells cs 60 (0, 0))) ∧ ∀ (j : Nat) (cs : Array Value), X.heap[j]? = some (Obj.cells cs 22 (0, 0)) → Y.heap[j]? = some (Obj.cells cs 22 (0, 0))
theorem partsKeep_t {n0 : Nat} {A B C : World} (h : PartsKeep n0 A B) (k : PartsKeep n0 B C) : PartsKeep n0 A C := ⟨h.1.trans k.1, fun j cs e => k.2.1 j cs (h.2.1 j cs e), fun j cs e => k.2.2 j cs (h.2.2 j cs e)⟩
theorem partsKeep_b {n0 : Nat} {w : World} (hn : n0 ≤ w.heap.size) (W : World) (l : Nat) (o o' : Obj) (hl : w.heap.size ≤ l) (h : W.heap[l]? = some o) (hc : o.isCells = false) (hw : o.isWalk = false) : PartsKeep n0 W (W.putObj l o') := by
  have key : ∀ (j : Nat) (cs : Array Value) (T : TypeId), W.heap[j]? = some (Obj.cells cs T (0, 0)) → (W.putObj l o').heap[j]? = some (Obj.cells cs T (0, 0)) := fun j cs T e => by
    refine ((grownBy_putObj' W l o').block j (blk_lt e) (fun e' => ?_)).trans e
    cases e'
    rw [h] at e
    cases e
    cases hc
  exact ⟨belowK_b hn W l o o' hl h hc hw, fun j cs e => key j cs _ e, fun j cs e => key j cs _ e⟩
theorem PartsKeep.alloc {n0 : Nat} {X Y : World} (h : PartsKeep n0 X Y) (hn : n0 ≤ Y.heap.size) (o : Obj) : PartsKeep n0 X (Y.alloc o) := ⟨h.1.alloc hn o, fun j cs e => blk_alloc (h.2.1 j cs e) o, fun j cs e => blk_alloc (h.2.2 j cs e) o⟩
set_option maxHeartbeats 800000 in
theorem pairs.calls (A0 : Option Addr) (c0 n0 : Nat) (A1 : Option Addr) (c1 n1 : Nat) (w : World) :
    Calls Try.prog 30 #[.slice A0 n0 c0, .slice A1 n1 c1] w fun e w' =>
      e = .returned (.func (.func 46) #[] #[.pointer (some ⟨w.heap.size + 1, 0, none⟩), .pointer (some ⟨w.heap.size, 0, none⟩)]) ∧
      w' = (w.alloc (.cells #[.slice A0 n0 c0] 22)).alloc (.cells #[.slice A1 n1 c1] 22) := by
  go_enter Try.func30, Try.ntmps30
  go_wp2
  go_ret
  exact ⟨rfl, rfl⟩
theorem below_grown {W W' : World} (h : Below W.heap.size W W') : W.grownBy W' none := ⟨h.os, h.tape, h.output, h.size, fun i hi _ => h.block i hi⟩
set_option maxHeartbeats 1600000 in
set_option maxRecDepth 100000 in
theorem pairs_stops (k : Nat) (A0 : Option Addr) (c0 : Nat) (L : List S60) (A1 : Option Addr) (c1 : Nat) (l0 : List S60) (xs : List S56) (w0 w : World) (hb0 : Below w0.heap.size w0 w) (bs bl : Nat)
    (hl : w.heap[bl]? = some (.cells #[.slice A0 L.length c0] 22 (0, 0))) (hs : w.heap[bs]? = some (.cells #[.slice A1 l0.length c1] 22 (0, 0)))
    (hCL : Kd.C k60 w0 A0 L.length L) (hC : Kd.C k60 w0 A1 l0.length l0) (h : pairs_go k L l0 0 0 = some xs) (n : Nat) :
    SeqStopsK Fence.wide n Try.prog 46 #[.pointer (some ⟨bs, 0, none⟩), .pointer (some ⟨bl, 0, none⟩)] (fun x : S56 => #[.agg #[.string x.f0.f0, .string x.f0.f1, .string x.f1.f0, .string x.f1.f1, .int .i64 x.f2]]) (PartsKeep w0.heap.size) (fun ys => ys = xs) (fun _ => True) xs.length w := by
  intro l J Jx W hW hJ hJx hY h0
  refine callsIn_wide.2 ?_
  have HL := Aside0.mk (blk_below hl hW)
  have HS := Aside0.mk (blk_below hs hW)
  have HCW := Aside0.mk hC
  have HCL := Aside0.mk hCL
  have HW : Aside0 (Below w0.heap.size w0 W) := ⟨hb0.trans (hW.mono hb0.size)⟩
  have HJ := Aside0.mk hJ
  have HJX := Aside0.mk hJx
  have HY := Aside0.mk hY
  have HJ0 := Aside0.mk h0
  have HG := Aside0.mk h
  have hl1 := hC.2.1
  have hl2 := hCL.2.1
  have HL1 := Aside0.mk hl1
  have HL2 := Aside0.mk hl2
  have hc0 : W.cell? ⟨bs, 0, none⟩ = some (.slice A1 l0.length c1) := (blk_cell HS.out 0).trans rfl
  clear hl hs hC hCL hW hb0 hJ hJx hY h0 h
  go_enter Try.func46, Try.ntmps46
  go_wp2
  clear hc0
  go_loopg [4, 5, 12] l0.length (fun kq v4 v5 v12 w' => ∃ (x at_ : Nat) (room : Int) (pre rest : List S56), v12 = .int .i64 (x : Int) ∧ v4 = .int .i64 (at_ : Int) ∧ v5 = .int .i64 room ∧ kq + x = l0.length ∧ Aside0 (at_ ≤ L.length) ∧ Aside0 (xs = pre ++ rest) ∧ Aside0 (pairs_go k L (l0.drop x) at_ room = some rest) ∧ Aside0 (J pre w') ∧ Aside0 (Below w0.heap.size w0 w') ∧ Aside0 (W.heap.size ≤ w'.heap.size) ∧ Aside0 (w'.heap[bl]? = some (.cells #[.slice A0 L.length c0] 22 (0, 0))))
  case atStart => exact ⟨0, 0, 0, [], xs, rfl, rfl, rfl, by omega, ⟨Nat.zero_le _⟩, ⟨rfl⟩, HG, HJ0, HW, ⟨Nat.le_refl _⟩, HL⟩
  case round =>
    clear HJ0 HG HL HS
    obtain ⟨x, at_, room, pre, rest, rfl, rfl, rfl, hx, HAT, HX, HA, HJS, HB, HSZ, HBL⟩ := hrel
    by_cases hlt : x < l0.length
    · obtain ⟨ad, ead, h0, h1, h2⟩ := at_T60 (Kd.C_below HCW.out HB.out) (x : Int) (by omega) (by omega)
      cases ead
      simp only [Int.toNat_natCast] at h0 h1 h2
      have hdr : l0.drop x = rd_T60 l0 x :: l0.drop (x + 1) := by
        rw [List.drop_eq_getElem_cons hlt]
        simp [rd_T60, hlt]
      have hA := HA.out
      rw [hdr, pairs_go] at hA
      clear hdr HA
      generalize hq : rd_T60 l0 x = q at *
      clear hq
      obtain ⟨⟨q0, q1⟩, q2⟩ := q
      simp only at h0 h1 h2 hA
      obtain ⟨⟨y, at2, room2⟩, hI, hA⟩ := Option.bind_eq_some_iff.mp hA
      obtain ⟨t, hT, hA⟩ := Option.bind_eq_some_iff.mp hA
      simp only at hT hA
      have HI := Aside0.mk hI
      have HT := Aside0.mk hT
      have HAT2 : Aside0 (at2 ≤ L.length) := ⟨pairs_in_at L _ k _ _ _ _ HAT.out hI⟩
      have HX2 : Aside0 (xs = pre ++ (y ++ t)) := ⟨by rw [HX.out, ← Option.some.inj hA]⟩
      clear hI hT hA HX
      have BP := Aside0.mk (blk_new wr (.cells #[.string q0, .string q1, .int .i64 q2] 60 (0, 0)))
      have HBL1 := Aside0.mk (blk_alloc HBL.out (.cells #[.string q0, .string q1, .int .i64 q2] 60 (0, 0)))
      have HB1 := Aside0.mk (below_alloc HB.out (.cells #[.string q0, .string q1, .int .i64 q2] 60 (0, 0)))
      have HJ1 : Aside0 (J pre (wr.alloc (.cells #[.string q0, .string q1, .int .i64 q2] 60 (0, 0)))) := ⟨HJ.out _ _ _ none HJS.out (below_grown (below_alloc (Below.refl _ wr) _)) (fun r e => by cases e)⟩
      have HWR := Aside0.mk (show W.heap.size ≤ (wr.alloc (.cells #[.string q0, .string q1, .int .i64 q2] 60 (0, 0))).heap.size from Nat.le_trans HSZ.out (by simp))
      go_wp2
      obtain ⟨pb, hpb⟩ : ∃ pb, wr.heap.size = pb := ⟨_, rfl⟩
      obtain ⟨wp, hwp⟩ : ∃ wp, wr.alloc (.cells #[.string q0, .string q1, .int .i64 q2] 60 (0, 0)) = wp := ⟨_, rfl⟩
      rw [hpb] at BP ⊢
      rw [hwp] at BP HB1 HJ1 HWR HBL1 ⊢
      clear hpb hwp h0 h1 h2 HSZ HJS HBL
      go_loopg [4, 5, 8] k (fun kq v4 v5 v8 w' => ∃ (m1 : Nat) (room left : Int) (pre1 y1 : List S56), v4 = .int .i64 (m1 : Int) ∧ v5 = .int .i64 room ∧ v8 = .int .i64 left ∧ Aside0 (m1 ≤ L.length) ∧ Aside0 (xs = pre1 ++ (y1 ++ t)) ∧ Aside0 (pairs_in L ⟨q0, q1⟩ kq left m1 room = some (y1, at2, room2)) ∧ Aside0 (J pre1 w') ∧ Aside0 (Below w0.heap.size w0 w') ∧ Aside0 (W.heap.size ≤ w'.heap.size) ∧ Aside0 (w'.heap[pb]? = some (.cells #[.string q0, .string q1, .int .i64 q2] 60 (0, 0))) ∧ Aside0 (w'.heap[bl]? = some (.cells #[.slice A0 L.length c0] 22 (0, 0))))
      case atStart => exact ⟨at_, room, q2, pre, y, rfl, rfl, rfl, HAT, HX2, HI, HJ1, HB1, HWR, BP, HBL1⟩
      case round =>
        clear HX2 HI HJ1 HB1 HWR BP HAT HBL1
        obtain ⟨m1, room, left, pre1, y1, rfl, rfl, rfl, HN, HX, HI, HJS, HB, HSZ, BP, HBL⟩ := hrel
        have hI := HI.out
        clear HI
        obtain ⟨j, rfl⟩ : ∃ j, gk = j + 1 := by
          cases gk with
          | zero => rw [pairs_in] at hI; cases hI
          | succ j => exact ⟨j, rfl⟩
        rw [pairs_in] at hI
        by_cases hleft : left > 0
        · rw [if_pos hleft] at hI
          have hd : decide (0 < left) = true := decide_eq_true hleft
          obtain ⟨⟨n2, r2⟩, hU, hI⟩ := Option.bind_eq_some_iff.mp hI
          simp only at hI
          by_cases hn2 : 0 < n2
          case neg => rw [if_neg hn2] at hI; cases hI
          rw [if_pos hn2] at hI
          obtain ⟨⟨z1, z2, z3⟩, hZ, hI⟩ := Option.bind_eq_some_iff.mp hI
          have hE := Option.some.inj hI
          simp only [Prod.mk.injEq] at hE
          obtain ⟨hy1, rfl, rfl⟩ := hE
          have HZ := Aside0.mk hZ
          have HY1 := Aside0.mk hy1
          clear hZ hy1 hI hleft
          have e0 : wr.cell? ⟨pb, 0, none⟩ = some (.string q0) := (blk_cell BP.out 0).trans rfl
          have e1 : wr.cell? ⟨pb, 1, none⟩ = some (.string q1) := (blk_cell BP.out 1).trans rfl
          have hbl : wr.cell? ⟨bl, 0, none⟩ = some (.slice A0 L.length c0) := (blk_cell HBL.out 0).trans rfl
          by_cases hr : room = 0
          · rw [if_pos hr] at hU
            by_cases hmL : m1 < L.length
            case neg => rw [if_neg hmL] at hU; cases hU
            rw [if_pos hmL] at hU
            have hU2 := Option.some.inj hU
            simp only [Prod.mk.injEq] at hU2
            obtain ⟨rfl, hr2⟩ := hU2
            have hr0 : (room == 0) = true := beq_iff_eq.mpr hr
            have hw1 : IntKind.i64.wrap ((m1 : Int) + 1) = (m1 : Int) + 1 := by rw [IntKind.wrap_i64]; omega
            have hs1 : IntKind.i64.wrap ((m1 : Int) + 1 - 1) = (m1 : Int) := by rw [IntKind.wrap_i64]; omega
            have hs2 : IntKind.i64.wrap (m1 : Int) = (m1 : Int) := by rw [IntKind.wrap_i64]; omega
            have hi1 : (0 : Int) ≤ (m1 : Int) ∧ (m1 : Int) < (L.length : Int) := by omega
            obtain ⟨adL, eadL, g0, g1, g2⟩ := at_T60 (Kd.C_below HCL.out HB.out) (m1 : Int) (by omega) (by omega)
            cases eadL
            simp only [Int.toNat_natCast] at g0 g1 g2
            generalize hu : rd_T60 L (m1 : Int) = u at *
            obtain ⟨⟨u0, u1⟩, u2⟩ := u
            simp only at g0 g1 g2 hr2
            subst hr2
            clear hU hr
            go_upto_region 10 with (fail)
            obtain ⟨mn, hmn⟩ : ∃ mn, (if u2 < left then u2 else left) = mn := ⟨_, rfl⟩
            rw [hmn]
            have HZ2 := HZ.out
            have HY2 := HY1.out
            simp only [Nat.add_sub_cancel, hu, hmn] at HZ2 HY2
            have HZM := Aside0.mk HZ2
            have HYM := Aside0.mk HY2
            clear HZ2 HY2 HZ HY1 hmn hu
            have HJD : Aside0 (J pre1 wr.drew) := ⟨HJ.out _ _ _ none HJS.out (below_grown (below_drew (Below.refl _ wr))) (fun r e => by cases e)⟩
            obtain ⟨fn_, tmps_, assign_, body_, hy, hRR⟩ := HY.out pre1 ⟨⟨q0, q1⟩, ⟨u0, u1⟩, mn⟩ wr.drew HJD.out (by rw [HX.out, ← HYM.out]; simp)
            dsimp only at hy
            refine (wpIn_wide (n := n)).1 ?_
            have hR2 := hRR.mono (R' := fun e W3 => ∃ b, e = .returned (.bool b) ∧ ((b = true ∧ J (pre1 ++ [⟨⟨q0, q1⟩, ⟨u0, u1⟩, mn⟩]) W3 ∧ PartsKeep w0.heap.size wr.drew W3) ∨ (b = false ∧ Jx (pre1 ++ [⟨⟨q0, q1⟩, ⟨u0, u1⟩, mn⟩]) W3))) (fun e W3 h => by
              rcases h with ⟨rfl, hJ3, hk3⟩ | ⟨rfl, hJx3⟩
              · exact ⟨true, rfl, .inl ⟨rfl, hJ3, hk3⟩⟩
              · exact ⟨false, rfl, .inr ⟨rfl, hJx3⟩⟩)
            clear hRR
            gi_region_with (refine ⟨fun h => (by cases h), ?_⟩; refine hR2.mono ?_; rintro _ W3 ⟨b, rfl, hb⟩; have HBB := Aside0.mk hb; clear hb hR2 hy)
            all_goals
              rcases HBB.out with ⟨rfl, hJ3, hk3⟩ | ⟨rfl, hJx3⟩
              · have HJ3 := Aside0.mk hJ3
                have HB3 : Aside0 (Below w0.heap.size w0 W3) := ⟨(below_drew HB.out).trans hk3.1⟩
                have BP3 : Aside0 (W3.heap[pb]? = some (.cells #[.string q0, .string q1, .int .i64 q2] 60 (0, 0))) := ⟨hk3.2.1 _ _ (blk_drew BP.out)⟩
                have HBL3 : Aside0 (W3.heap[bl]? = some (.cells #[.slice (some adL) L.length c0] 22 (0, 0))) := ⟨hk3.2.2 _ _ (blk_drew HBL.out)⟩
                have HSZ3 : Aside0 (W.heap.size ≤ W3.heap.size) := ⟨Nat.le_trans HSZ.out (Nat.le_trans (Nat.le_of_eq rfl) hk3.1.size)⟩
                clear hJ3 hk3 HBB
                gi_wp2
                go_wp2
                go_roundg j
                case measure => omega
                case rel => exact ⟨m1 + 1, wrap64 (u2 - mn), wrap64 (left - mn), pre1 ++ [⟨⟨q0, q1⟩, ⟨u0, u1⟩, mn⟩], z1, by go_num, by go_num, by go_num, ⟨hmL⟩, ⟨by rw [HX.out, ← HYM.out]; simp⟩, HZM, HJ3, HB3, HSZ3, BP3, HBL3⟩
              · have HJX3 := Aside0.mk hJx3
                clear hJx3 HBB
                gi_wp2
                go_wp2
                refine bodyPost_ret (results_none rfl _ _ _) rfl ?_
                exact ⟨⟨_, rfl⟩, .inr ⟨_, trivial, HJX3.out⟩⟩
          · rw [if_neg hr] at hU
            have hU2 := Option.some.inj hU
            simp only [Prod.mk.injEq] at hU2
            obtain ⟨rfl, rfl⟩ := hU2
            have hr0 : (room == 0) = false := beq_eq_false_iff_ne.mpr hr
            have hmL := HN.out
            have hs1 : IntKind.i64.wrap ((m1 : Int) - 1) = ((m1 - 1 : Nat) : Int) := by rw [IntKind.wrap_i64]; omega
            have hi1 : (0 : Int) ≤ ((m1 - 1 : Nat) : Int) ∧ ((m1 - 1 : Nat) : Int) < (L.length : Int) := by omega
            obtain ⟨adL, eadL, g0, g1, g2⟩ := at_T60 (Kd.C_below HCL.out HB.out) ((m1 - 1 : Nat) : Int) (by omega) (by omega)
            cases eadL
            simp only [Int.toNat_natCast] at g0 g1 g2
            generalize hu : rd_T60 L ((m1 - 1 : Nat) : Int) = u at *
            obtain ⟨⟨u0, u1⟩, u2⟩ := u
            simp only at g0 g1 g2
            clear hU hr
            go_upto_region 10 with (fail)
            obtain ⟨mn, hmn⟩ : ∃ mn, (if room < left then room else left) = mn := ⟨_, rfl⟩
            rw [hmn]
            have HZ2 := HZ.out
            have HY2 := HY1.out
            simp only [hmn, hu] at HZ2 HY2
            have HZM := Aside0.mk HZ2
            have HYM := Aside0.mk HY2
            clear HZ2 HY2 HZ HY1 hmn hu
            have HJD : Aside0 (J pre1 wr.drew) := ⟨HJ.out _ _ _ none HJS.out (below_grown (below_drew (Below.refl _ wr))) (fun r e => by cases e)⟩
            obtain ⟨fn_, tmps_, assign_, body_, hy, hRR⟩ := HY.out pre1 ⟨⟨q0, q1⟩, ⟨u0, u1⟩, mn⟩ wr.drew HJD.out (by rw [HX.out, ← HYM.out]; simp)
            dsimp only at hy
            refine (wpIn_wide (n := n)).1 ?_
            have hR2 := hRR.mono (R' := fun e W3 => ∃ b, e = .returned (.bool b) ∧ ((b = true ∧ J (pre1 ++ [⟨⟨q0, q1⟩, ⟨u0, u1⟩, mn⟩]) W3 ∧ PartsKeep w0.heap.size wr.drew W3) ∨ (b = false ∧ Jx (pre1 ++ [⟨⟨q0, q1⟩, ⟨u0, u1⟩, mn⟩]) W3))) (fun e W3 h => by
              rcases h with ⟨rfl, hJ3, hk3⟩ | ⟨rfl, hJx3⟩
              · exact ⟨true, rfl, .inl ⟨rfl, hJ3, hk3⟩⟩
              · exact ⟨false, rfl, .inr ⟨rfl, hJx3⟩⟩)
            clear hRR
            gi_region_with (refine ⟨fun h => (by cases h), ?_⟩; refine hR2.mono ?_; rintro _ W3 ⟨b, rfl, hb⟩; have HBB := Aside0.mk hb; clear hb hR2 hy)
            all_goals
              rcases HBB.out with ⟨rfl, hJ3, hk3⟩ | ⟨rfl, hJx3⟩
              · have HJ3 := Aside0.mk hJ3
                have HB3 : Aside0 (Below w0.heap.size w0 W3) := ⟨(below_drew HB.out).trans hk3.1⟩
                have BP3 : Aside0 (W3.heap[pb]? = some (.cells #[.string q0, .string q1, .int .i64 q2] 60 (0, 0))) := ⟨hk3.2.1 _ _ (blk_drew BP.out)⟩
                have HBL3 : Aside0 (W3.heap[bl]? = some (.cells #[.slice (some adL) L.length c0] 22 (0, 0))) := ⟨hk3.2.2 _ _ (blk_drew HBL.out)⟩
                have HSZ3 : Aside0 (W.heap.size ≤ W3.heap.size) := ⟨Nat.le_trans HSZ.out (Nat.le_trans (Nat.le_of_eq rfl) hk3.1.size)⟩
                clear hJ3 hk3 HBB
                gi_wp2
                go_wp2
                go_roundg j
                case measure => omega
                case rel => exact ⟨m1, wrap64 (room - mn), wrap64 (left - mn), pre1 ++ [⟨⟨q0, q1⟩, ⟨u0, u1⟩, mn⟩], z1, rfl, by go_num, by go_num, HN, ⟨by rw [HX.out, ← HYM.out]; simp⟩, HZM, HJ3, HB3, HSZ3, BP3, HBL3⟩
              · have HJX3 := Aside0.mk hJx3
                clear hJx3 HBB
                gi_wp2
                go_wp2
                refine bodyPost_ret (results_none rfl _ _ _) rfl ?_
                exact ⟨⟨_, rfl⟩, .inr ⟨_, trivial, HJX3.out⟩⟩
        · rw [if_neg hleft] at hI
          have hI2 := Option.some.inj hI
          simp only [Prod.mk.injEq] at hI2
          obtain ⟨rfl, rfl, rfl⟩ := hI2
          have hd : decide (0 < left) = false := decide_eq_false hleft
          have HX3 : Aside0 (xs = pre1 ++ t) := ⟨by rw [HX.out]; simp⟩
          clear hI hleft HX
          go_wp2
          go_roundg (l0.length - (x + 1))
          case measure => omega
          case rel => exact ⟨x + 1, m1, room, pre1, t, by go_num, rfl, rfl, by omega, HN, HX3, HT, HJS, HB, HSZ, HBL⟩
    · have hA := HA.out
      rw [List.drop_eq_nil_of_le (by omega), pairs_go] at hA
      obtain rfl := Option.some.inj hA
      have hd : decide ((x : Int) < (l0.length : Int)) = false := decide_eq_false (by omega)
      have HX2 : Aside0 (xs = pre) := ⟨by rw [HX.out]; simp⟩
      clear hA HA
      go_wp2
      go_end0
      exact ⟨⟨_, rfl⟩, .inl ⟨pre, HX2.out.symm, HJS.out⟩⟩

def deliver_Pairs.f (k : Nat) (l0 l1 : List S60) : Option (List S56 × Int) :=
  if l0.length > 1024 ∨ l1.length > 1024 then some ([], 8) else ((deliver_lots.f k l0).bind fun a => if a.2 = 0 then ((deliver_lots.f k l1).bind fun b => if b.2 = 0 then (if a.1 = b.1 then ((pairs_go k l0 l1 0 0).bind fun t => if t.length ≤ 1000000 then some (t, 0) else none) else some ([], 31)) else some ([], b.2)) else some ([], a.2))
theorem deliver_Pairs.mono : ∀ a0 a1 k, LeO (deliver_Pairs.f k a0 a1) (deliver_Pairs.f (k + 1) a0 a1) := by
  intro a0 a1 k
  unfold deliver_Pairs.f
  exact LeO.ite (LeO.refl _) (LeO.bind (deliver_lots.mono _ _) (fun a => LeO.ite (LeO.bind (deliver_lots.mono _ _) (fun b => LeO.ite (LeO.ite (LeO.bind (pairs_go_mono _ _ _ _ _) (fun t => LeO.refl _)) (LeO.refl _)) (LeO.refl _))) (LeO.refl _)))
theorem deliver_Pairs.ret {tmps : Array Value} {W : World} {g : Nat} {v u : Value} (h4 : tmps.getD 4 undef = .pointer (some ⟨g, 0, none⟩)) (h5 : tmps.getD 5 undef = u) (hb : W.cell? ⟨g, 0, none⟩ = some v) :
    (results Try.f9 tmps).run Try.prog W = .ok (.tuple #[v, u]) W := by
  rw [results_cell_tmp (p := 4) (u := 5) (ty := 24) rfl, h4, h5]
  have hu := Try.underlying24
  simp [asAddr, loadVar, isAgg, run_underlying hu, hb, Result.andThen]
/-- An append to the pairs, and a store into their box, leave the boxes of parts as they lie. -/
theorem pairs_kept {W w1 : World} {row : Option Nat} {B : Nat} {v : Value} (hg : W.grownBy w1 row) (ht : ∀ j, row = some j → ∃ cells, W.heap[j]? = some (.cells cells 56 (0, 0))) (hb : Boxed w1 B 24 v) (u : Value) :
    (∀ (j : Nat) (cs : Array Value), W.heap[j]? = some (Obj.cells cs 60 (0, 0)) → (w1.setCell ⟨B, 0, none⟩ u).heap[j]? = some (Obj.cells cs 60 (0, 0))) ∧ ∀ (j : Nat) (cs : Array Value), W.heap[j]? = some (Obj.cells cs 22 (0, 0)) → (w1.setCell ⟨B, 0, none⟩ u).heap[j]? = some (Obj.cells cs 22 (0, 0)) := by
  have key : ∀ (T : TypeId), T ≠ 56 → T ≠ 24 → ∀ (j : Nat) (cs : Array Value), W.heap[j]? = some (Obj.cells cs T (0, 0)) → (w1.setCell ⟨B, 0, none⟩ u).heap[j]? = some (Obj.cells cs T (0, 0)) := fun T h1 h2 j cs e => by
    have e1 : w1.heap[j]? = some (Obj.cells cs T (0, 0)) := (hg.block j (blk_lt e) (fun e' => by
      obtain ⟨cells, hc⟩ := ht j e'.symm
      rw [e] at hc
      cases hc
      exact h1 rfl)).trans e
    refine ((grownBy_setCell' w1 B u).block j (blk_lt e1) (fun e' => ?_)).trans e1
    cases e'
    rw [show w1.heap[B]? = _ from hb] at e1
    cases e1
    exact h2 rfl
  exact ⟨key _ (by decide) (by decide), key _ (by decide) (by decide)⟩
theorem boxed_below {W W' : World} {g : Nat} {T : TypeId} {v : Value} (h : Boxed W g T v) (hb : Below W.heap.size W W') : Boxed W' g T v := (hb.block g (blk_lt h)).trans h
set_option maxHeartbeats 3200000 in
set_option maxRecDepth 100000 in
theorem deliver_Pairs.calls (k : Nat) (A0 : Option Addr) (c0 : Nat) (l0 : List (S60)) (A1 : Option Addr) (c1 : Nat) (l1 : List (S60)) (r1 : List S56) (r2 : Int) (w : World) (hr0 : Kd.C k60 w A0 l0.length l0) (hc0 : l0.length ≤ c0) (hr1 : Kd.C k60 w A1 l1.length l1) (hc1 : l1.length ≤ c1) (h : deliver_Pairs.f k l0 l1 = some (r1, r2)) :
    Calls Try.prog 9 #[.slice A0 l0.length c0, .slice A1 l1.length c1] w fun e w' => ∃ v0_ : Value, e = .returned (.tuple #[v0_, .int .i64 r2]) ∧ Kd.R k56 56 w' w.heap.size (fun _ => True) v0_ r1 ∧ Below w.heap.size w w' := by
  have HR0 := Aside0.mk hr0
  have HC0 := Aside0.mk hc0
  have HR1 := Aside0.mk hr1
  have HC1 := Aside0.mk hc1
  have hl0 := hr0.2.1
  have hl1 := hr1.2.1
  have bO := Boxed.new w 24 (.slice none 0 0)
  have BO := Aside0.mk bO
  have cO := bO.cell
  have fO := bO.frozen
  have lO := bO.lt
  have HBA := Aside0.mk (below_alloc (Below.refl _ w) (.cells #[.slice none 0 0] 24 (0, 0)))
  clear hr0 hc0 hr1 hc1 bO
  unfold deliver_Pairs.f at h
  by_cases hg : l0.length > 1024 ∨ l1.length > 1024
  · rw [if_pos hg] at h
    have h2 := Option.some.inj h
    simp only [Prod.mk.injEq] at h2
    obtain ⟨rfl, rfl⟩ := h2
    clear h
    by_cases hg0 : l0.length > 1024
    · have hd0 : decide (1024 < (l0.length : Int)) = true := decide_eq_true (by omega)
      clear hg hg0
      go_enter Try.func9, Try.ntmps9
      go_wp2
      refine bodyPost_ret (deliver_Pairs.ret (v := .slice none 0 0) rfl rfl BO.out.cell) rfl ?_
      exact ⟨_, rfl, Kd.R_nil _ _ _ _ _, HBA.out⟩
    · have hd0 : decide (1024 < (l0.length : Int)) = false := decide_eq_false (by omega)
      have hd1 : decide (1024 < (l1.length : Int)) = true := decide_eq_true (by omega)
      clear hg hg0
      go_enter Try.func9, Try.ntmps9
      go_wp2
      refine bodyPost_ret (deliver_Pairs.ret (v := .slice none 0 0) rfl rfl BO.out.cell) rfl ?_
      exact ⟨_, rfl, Kd.R_nil _ _ _ _ _, HBA.out⟩
  rw [if_neg hg] at h
  have hd0 : decide (1024 < (l0.length : Int)) = false := decide_eq_false (by omega)
  have hd1 : decide (1024 < (l1.length : Int)) = false := decide_eq_false (by omega)
  obtain ⟨⟨n0, e0⟩, hN0, h⟩ := Option.bind_eq_some_iff.mp h
  simp only at h
  have HN0 := Aside0.mk hN0
  clear hg hN0
  by_cases he0 : e0 = 0
  case neg =>
    rw [if_neg he0] at h
    have h2 := Option.some.inj h
    simp only [Prod.mk.injEq] at h2
    obtain ⟨rfl, rfl⟩ := h2
    have h0b : (e0 != 0) = true := bne_iff_ne.mpr he0
    have h1b : (e0 == 0) = false := beq_eq_false_iff_ne.mpr he0
    clear h he0
    go_enter Try.func9, Try.ntmps9
    go_wp2_with ((go_at_call 29; refine (deliver_lots.calls k A0 c0 l0 n0 e0 _ (Kd.C_alloc HR0.out _) HC0.out HN0.out).mono ?_; rintro _ w1 ⟨rfl, hb⟩; have BO1 := Aside0.mk (boxed_below BO.out hb); have HB1 := Aside0.mk (below_step HBA.out hb); clear hb cO fO lO; have cO1 := BO1.out.cell; have fO1 := BO1.out.frozen; have lO1 := BO1.out.lt))
    refine bodyPost_ret (deliver_Pairs.ret (v := .slice none 0 0) rfl rfl (BO1.out.set _).cell) rfl ?_
    exact ⟨_, rfl, Kd.R_nil _ _ _ _ _, HB1.out.setCell (p := ⟨w.heap.size, 0, none⟩) (Nat.le_refl _) _⟩
  subst he0
  rw [if_pos rfl] at h
  obtain ⟨⟨n1, e1⟩, hN1, h⟩ := Option.bind_eq_some_iff.mp h
  simp only at h
  have HN1 := Aside0.mk hN1
  clear hN1
  by_cases he1 : e1 = 0
  case neg =>
    rw [if_neg he1] at h
    have h2 := Option.some.inj h
    simp only [Prod.mk.injEq] at h2
    obtain ⟨rfl, rfl⟩ := h2
    have h0b : (e1 != 0) = true := bne_iff_ne.mpr he1
    have h1b : (e1 == 0) = false := beq_eq_false_iff_ne.mpr he1
    clear h he1
    go_enter Try.func9, Try.ntmps9
    go_wp2_with (first | (go_at_call 29; refine (deliver_lots.calls k A1 c1 l1 n1 e1 _ (Kd.C_below HR1.out HB1.out) HC1.out HN1.out).mono ?_; rintro _ w2 ⟨rfl, hb⟩; have BO2 := Aside0.mk (boxed_below BO1.out hb); have HB2 := Aside0.mk (below_step HB1.out hb); clear hb cO1 fO1 lO1; have cO2 := BO2.out.cell; have fO2 := BO2.out.frozen; have lO2 := BO2.out.lt) | (go_at_call 29; refine (deliver_lots.calls k A0 c0 l0 n0 0 _ (Kd.C_alloc HR0.out _) HC0.out HN0.out).mono ?_; rintro _ w1 ⟨rfl, hb⟩; have BO1 := Aside0.mk (boxed_below BO.out hb); have HB1 := Aside0.mk (below_step HBA.out hb); clear hb cO fO lO; have cO1 := BO1.out.cell; have fO1 := BO1.out.frozen; have lO1 := BO1.out.lt))
    refine bodyPost_ret (deliver_Pairs.ret (v := .slice none 0 0) rfl rfl (BO2.out.set _).cell) rfl ?_
    exact ⟨_, rfl, Kd.R_nil _ _ _ _ _, HB2.out.setCell (p := ⟨w.heap.size, 0, none⟩) (Nat.le_refl _) _⟩
  subst he1
  rw [if_pos rfl] at h
  by_cases hn : n0 = n1
  case neg =>
    rw [if_neg hn] at h
    have h2 := Option.some.inj h
    simp only [Prod.mk.injEq] at h2
    obtain ⟨rfl, rfl⟩ := h2
    have h0b : (n0 != n1) = true := bne_iff_ne.mpr hn
    have h1b : (n0 == n1) = false := beq_eq_false_iff_ne.mpr hn
    clear h hn
    go_enter Try.func9, Try.ntmps9
    go_wp2_with (first | (go_at_call 29; refine (deliver_lots.calls k A1 c1 l1 n1 0 _ (Kd.C_below HR1.out HB1.out) HC1.out HN1.out).mono ?_; rintro _ w2 ⟨rfl, hb⟩; have BO2 := Aside0.mk (boxed_below BO1.out hb); have HB2 := Aside0.mk (below_step HB1.out hb); clear hb cO1 fO1 lO1; have cO2 := BO2.out.cell; have fO2 := BO2.out.frozen; have lO2 := BO2.out.lt) | (go_at_call 29; refine (deliver_lots.calls k A0 c0 l0 n0 0 _ (Kd.C_alloc HR0.out _) HC0.out HN0.out).mono ?_; rintro _ w1 ⟨rfl, hb⟩; have BO1 := Aside0.mk (boxed_below BO.out hb); have HB1 := Aside0.mk (below_step HBA.out hb); clear hb cO fO lO; have cO1 := BO1.out.cell; have fO1 := BO1.out.frozen; have lO1 := BO1.out.lt))
    refine bodyPost_ret (deliver_Pairs.ret (v := .slice none 0 0) rfl rfl (BO2.out.set _).cell) rfl ?_
    exact ⟨_, rfl, Kd.R_nil _ _ _ _ _, HB2.out.setCell (p := ⟨w.heap.size, 0, none⟩) (Nat.le_refl _) _⟩
  subst hn
  rw [if_pos rfl] at h
  obtain ⟨t, hT, h⟩ := Option.bind_eq_some_iff.mp h
  by_cases hln : t.length ≤ 1000000
  case neg => rw [if_neg hln] at h; cases h
  rw [if_pos hln] at h
  have h2 := Option.some.inj h
  simp only [Prod.mk.injEq] at h2
  obtain ⟨rfl, rfl⟩ := h2
  have HT := Aside0.mk hT
  have HLN := Aside0.mk hln
  clear h hT hln
  refine (callsIn_wide (n := 5)).1 ?_
  refine callsIn_of_wp_marks Try.func9 rfl trivial ?_ rfl
  simp only [Try.ntmps9, List.size_toArray, List.length_cons, List.length_nil, Nat.reduceAdd, Nat.reduceSub, Array.replicate_succ, Array.replicate_zero, List.push_toArray, List.append_toArray, List.nil_append, List.cons_append]
  refine wpIn_wide.2 ?_
  go_wp2_with (first | (go_at_call 29; refine (deliver_lots.calls k A1 c1 l1 n0 0 _ (Kd.C_below HR1.out HB1.out) HC1.out HN1.out).mono ?_; rintro _ w2 ⟨rfl, hb⟩; have BO2 := Aside0.mk (boxed_below BO1.out hb); have HB2 := Aside0.mk (below_step HB1.out hb); clear hb cO1 fO1 lO1; have cO2 := BO2.out.cell; have fO2 := BO2.out.frozen; have lO2 := BO2.out.lt) | (go_at_call 29; refine (deliver_lots.calls k A0 c0 l0 n0 0 _ (Kd.C_alloc HR0.out _) HC0.out HN0.out).mono ?_; rintro _ w1 ⟨rfl, hb⟩; have BO1 := Aside0.mk (boxed_below BO.out hb); have HB1 := Aside0.mk (below_step HBA.out hb); clear hb cO fO lO; have cO1 := BO1.out.cell; have fO1 := BO1.out.frozen; have lO1 := BO1.out.lt) | (go_at_call 30; refine (pairs.calls A0 c0 l0.length A1 c1 l1.length _).mono ?_; rintro _ w3 ⟨rfl, rfl⟩))
  obtain ⟨w3, hw3⟩ : ∃ w3, (w2.alloc (.cells #[.slice A0 l0.length c0] 22)).alloc (.cells #[.slice A1 l1.length c1] 22) = w3 := ⟨_, rfl⟩
  have BL3 : w3.heap[w2.heap.size]? = some (.cells #[.slice A0 l0.length c0] 22 (0, 0)) := by rw [← hw3]; exact blk_alloc (blk_new w2 _) _
  have BS3 : w3.heap[w2.heap.size + 1]? = some (.cells #[.slice A1 l1.length c1] 22 (0, 0)) := by
    have := blk_new (w2.alloc (.cells #[.slice A0 l0.length c0] 22)) (.cells #[.slice A1 l1.length c1] 22)
    rw [hw3] at this
    simpa using this
  have bO3 : Boxed w3 w.heap.size 24 (.slice none 0 0) := by rw [← hw3]; exact (BO2.out.alloc _).alloc _
  have hB3 : Below w.heap.size w w3 := by rw [← hw3]; exact below_alloc (below_alloc HB2.out _) _
  rw [hw3]
  clear hw3
  refine (wpIn_wide (n := 5)).1 ?_
  refine wpIn_rangeFunc_ownH rfl (by omega) (gf := 46) (lb := #[.pointer (some ⟨w2.heap.size + 1, 0, none⟩), .pointer (some ⟨w2.heap.size, 0, none⟩)]) rfl trivial (enters_of Try.func46 (by kernel_rfl) rfl)
    (pairs_stops k A0 c0 l0 A1 c1 l1 t w w3 hB3 (w2.heap.size + 1) w2.heap.size BL3 BS3 HR0.out HR1.out HT.out 4) partsKeep_t (partsKeep_b hB3.size) (Below.refl _ _) (fun _ => rfl)
    (fun pre W => (∃ v, Boxed W w.heap.size 24 v ∧ Kd.R k56 56 W w.heap.size (fun _ => True) v pre) ∧ Below w.heap.size w W)
    (fun _ _ _ => False)
    (OwnFrom.and (Own.from (R_own k56 56 w.heap.size w.heap.size 24 (fun pre => pre)) _) (ownFrom_below (Nat.le_refl _) hB3.size))
    (fun _ _ _ _ _ hs _ _ => hs)
    ⟨⟨_, bO3, Kd.R_nil _ _ _ _ _⟩, hB3⟩
    (fun x a' W => ∃ Bx, w.heap.size < Bx ∧ W.heap[Bx]? = some (.cells #[.string x.f0.f0, .string x.f0.f1, .string x.f1.f0, .string x.f1.f1, .int .i64 x.f2] 56 (0, 0)) ∧ a' = { tmps := #[.slice A0 l0.length c0, .slice A1 l1.length c1, undef, undef, .pointer (some ⟨w.heap.size, 0, none⟩), .int .i64 0, .int .i64 n0, .int .i64 n0, .pointer (some ⟨Bx, 0, none⟩), .slice A0 l0.length c0, .int .i64 (l0.length : Int), .bool false, .bool false, .slice A1 l1.length c1, .int .i64 (l1.length : Int), .bool false, .bool false, .tuple #[.int .i64 n0, .int .i64 0], .slice A0 l0.length c0, .tuple #[.int .i64 n0, .int .i64 0], .int .i64 n0, .int .i64 0, .int .i64 0, .bool false, undef, .tuple #[.int .i64 n0, .int .i64 0], .slice A1 l1.length c1, .tuple #[.int .i64 n0, .int .i64 0], .int .i64 n0, .int .i64 0, .int .i64 0, .bool false, undef, .int .i64 n0, .int .i64 n0, .bool false, .slice A0 l0.length c0, .slice A1 l1.length c1, .func (.func 46) #[] #[.pointer (some ⟨w2.heap.size + 1, 0, none⟩), .pointer (some ⟨w2.heap.size, 0, none⟩)], .agg #[.string x.f0.f0, .string x.f0.f1, .string x.f1.f0, .string x.f1.f1, .int .i64 x.f2], undef, undef, undef, undef, undef], defers := [] })
    (fun x a' _ X Y row hs hg hr => by obtain ⟨Bx, h1, h2, h3⟩ := hs; exact ⟨Bx, h1, cells_own Bx _ rfl () X Y row h2 hg (fun r e => (hr r e).2), h3⟩)
    ?assign ?body ?done ?stop
  case assign =>
    rintro l pre x W K ⟨⟨v, bS, hR⟩, hB⟩ hK
    gi_wp2
    exact hK _ _ ((KeepsOthers.alloc _ _).from _) (PartsKeep.alloc ⟨Below.refl _ W, fun _ _ e => e, fun _ _ e => e⟩ hB.size _) ⟨⟨v, bS.alloc _, Kd.R_alloc hR _⟩, hB.alloc hB.size _⟩ ⟨W.heap.size, bS.lt, blk_new _ _, rfl⟩
  case body =>
    rintro l pre x a' W hl _ ⟨⟨v, bS, hR⟩, hB⟩ ⟨Bx, hBx, bX, rfl⟩ hlt
    have HLN2 : Aside0 ((pre.length + 1) * 72 ≤ 140737488355328) := ⟨by have := HLN.out; omega⟩
    have HR := Aside0.mk hR
    have HB := Aside0.mk hB
    have BS := Aside0.mk bS
    have cS := bS.cell
    have fS := bS.frozen
    have hltS := bS.lt
    have hltX := blk_lt bX
    have hx0 : W.cell? ⟨Bx, 0, none⟩ = some (.string x.f0.f0) := (blk_cell bX 0).trans rfl
    have hx1 : W.cell? ⟨Bx, 1, none⟩ = some (.string x.f0.f1) := (blk_cell bX 1).trans rfl
    have hx2 : W.cell? ⟨Bx, 2, none⟩ = some (.string x.f1.f0) := (blk_cell bX 2).trans rfl
    have hx3 : W.cell? ⟨Bx, 3, none⟩ = some (.string x.f1.f1) := (blk_cell bX 3).trans rfl
    have hx4 : W.cell? ⟨Bx, 4, none⟩ = some (.int .i64 x.f2) := (blk_cell bX 4).trans rfl
    clear hR hB bS bX hlt BL3 BS3 bO3 hB3 BO BO1 BO2 HBA HB1 HB2
    gi_wp2_with (gi_at_builtin; refine wpListIn_R_append k56 w.heap.size rfl (.tmp 40) (.tmp 42) 24 56 (.agg #[(.string ⟨#[]⟩), (.string ⟨#[]⟩), (.string ⟨#[]⟩), (.string ⟨#[]⟩), (.int .i64 0)]) 72 rfl Try.underlying24 info56 rfl (by decide) (by decide) v pre x [.string x.f0.f0, .string x.f0.f1, .string x.f1.f0, .string x.f1.f1, .int .i64 x.f2] (fun _ => True) (fun _ => False) rfl ?aX ?aP (fun _ hk => hk.elim) (fun _ _ => trivial) HR.out HB.out.size HLN2.out ?_; (case aX => rfl); (case aP => exact k56_mkM _ _ _ x); intro v1 w1 ho hg _; have bS1 := BS.out.kept hg (Kd.R_ne HR.out BS.out (by decide)); have BS1 := Aside0.mk bS1; have hk1 := KeepsOthers.of_grownBy hg (fun j o ej hj => by obtain ⟨cells, hc⟩ := Kd.R_typed HR.out j ej; rw [hj] at hc; cases hc; rfl); have HK1 := Aside0.mk hk1; have hb1 := (Below.refl w.heap.size W).grown hg HB.out.size (Kd.R_base HR.out); have HB1 := Aside0.mk hb1; have hp1 := pairs_kept hg (Kd.R_typed HR.out) bS1; have HP1 := Aside0.mk hp1; obtain ⟨g1, c1_, e1, _⟩ := Kd.R_form ho (by simp); rw [show (pre ++ [x]).length = pre.length + 1 by simp] at e1; subst e1; have HO := Aside0.mk ho; have cS1 := bS1.cell; have fS1 := bS1.frozen; have hltS1 := bS1.lt; clear bS1 hk1 hb1 hp1 ho hg)
    exact ⟨(HK1.out.trans (KeepsOthers.setCell _ _ _)).from _, ⟨HB1.out.setCell (p := ⟨w.heap.size, 0, none⟩) (Nat.le_refl _) _, (HP1.out _).1, (HP1.out _).2⟩, ⟨_, BS1.out.set _, Kd.R_set HO.out BS1.out (by decide) 0 _⟩, (HB.out.trans HB1.out).setCell (p := ⟨w.heap.size, 0, none⟩) (Nat.le_refl _) _⟩
  case done =>
    rintro D ys W hD rfl ⟨⟨v, bS, hR⟩, hB⟩ hK
    obtain ⟨Av, cv, ev⟩ := Kd.R_slice hR
    subst ev
    have cS := bS.cell
    have fS := bS.frozen
    have hltS := bS.lt
    have HK := Aside0.mk hK
    have HRY := Aside0.mk hR
    have HBY := Aside0.mk hB
    have HBS := Aside0.mk bS
    clear hK hR hB bS
    have hltD : w.heap.size < D := Nat.lt_of_lt_of_le bO3.lt hD
    gi_wp2
    go_wp2
    have hBox := HBS.out.set (.slice Av ys.length cv)
    have hKb : (W.setCell ⟨w.heap.size, 0, none⟩ (.slice Av ys.length cv)).heap[D]? = some (.deferred (some [])) := ((grownBy_setCell' W w.heap.size _).block D (blk_lt HK.out) (fun e => by cases e; omega)).trans HK.out
    refine ⟨by simp, .inl ⟨_, _, rfl, run_takeDeferred hKb, ?_⟩⟩
    refine ⟨_, deliver_Pairs.ret (g := w.heap.size) (v := .slice Av ys.length cv) (u := .int .i64 0) rfl rfl ?_, _, rfl, R_putObj _ (Kd.R_set HRY.out HBS.out (by decide) 0 _) hKb rfl, (HBY.out.setCell (p := ⟨w.heap.size, 0, none⟩) (Nat.le_refl _) _).trans (belowK_b (w := w) (Nat.le_refl _) _ D _ _ (by omega) hKb rfl rfl)⟩
    exact Boxed.cell (t := 24) (((grownBy_putObj' _ D _).block _ hBox.lt (fun e => by cases e; omega)).trans hBox)
  case stop =>
    rintro D c pre W _ _ h _
    exact h.elim

/-! ### product_within: function 48 -/
def product_within.f (a0 : Int) (a1 : Int) : Option (Bool) := if a0 ≥ (wrap64 (-a1)) then (some (decide (a0 ≤ a1))) else (some false)
set_option maxHeartbeats 8000000 in
set_option maxRecDepth 100000 in
theorem product_within.calls (a0 : Int) (a1 : Int) (r : Bool) (w : World) (h : product_within.f a0 a1 = some r) :
    Calls Try.prog 48 #[.int .i64 a0, .int .i64 a1] w fun e w' => e = .returned (.bool r) ∧ Drawn0 w w' := by
  have H : (if a0 ≥ (wrap64 (-a1)) then (some (decide (a0 ≤ a1))) else (some false)) = some r := h
  clear h
  by_cases c3 : a0 ≥ (wrap64 (-a1))
  · rw [if_pos c3] at H
    have c3b0 : decide ((wrap64 (-a1)) ≤ a0) = true := decide_eq_true c3
    clear c3
    obtain rfl := Option.some.inj H
    go_enter Try.func48, Try.ntmps48
    go_wp2
    go_ret
    exact ⟨by first | rfl | (simp; done) | (simp [*]; done), by repeat (first | exact Drawn0.refl _ | apply Drawn0.step)⟩
  · rw [if_neg c3] at H
    have c3b0 : decide ((wrap64 (-a1)) ≤ a0) = false := decide_eq_false c3
    clear c3
    obtain rfl := Option.some.inj H
    go_enter Try.func48, Try.ntmps48
    go_wp2
    go_ret
    exact ⟨by first | rfl | (simp; done) | (simp [*]; done), by repeat (first | exact Drawn0.refl _ | apply Drawn0.step)⟩

/-! ### words_letter: function 90 -/
def words_letter.f (a0 : Int) : Option (Bool) := if 97 ≤ a0 then (some (decide (a0 ≤ 122))) else (some false)
set_option maxHeartbeats 8000000 in
set_option maxRecDepth 100000 in
theorem words_letter.calls (a0 : Int) (r : Bool) (w : World) (h : words_letter.f a0 = some r) :
    Calls Try.prog 90 #[.int .u8 a0] w fun e w' => e = .returned (.bool r) ∧ Drawn0 w w' := by
  have H : (if 97 ≤ a0 then (some (decide (a0 ≤ 122))) else (some false)) = some r := h
  clear h
  by_cases c2 : 97 ≤ a0
  · rw [if_pos c2] at H
    have c2b0 : decide (97 ≤ a0) = true := decide_eq_true c2
    clear c2
    obtain rfl := Option.some.inj H
    go_enter Try.func90, Try.ntmps90
    go_wp2
    go_ret
    exact ⟨by first | rfl | (simp; done) | (simp [*]; done), by repeat (first | exact Drawn0.refl _ | apply Drawn0.step)⟩
  · rw [if_neg c2] at H
    have c2b0 : decide (97 ≤ a0) = false := decide_eq_false c2
    clear c2
    obtain rfl := Option.some.inj H
    go_enter Try.func90, Try.ntmps90
    go_wp2
    go_ret
    exact ⟨by first | rfl | (simp; done) | (simp [*]; done), by repeat (first | exact Drawn0.refl _ | apply Drawn0.step)⟩

/-! ### words_digit: function 91 -/
def words_digit.f (a0 : Int) : Option (Bool) := if 48 ≤ a0 then (some (decide (a0 ≤ 57))) else (some false)
set_option maxHeartbeats 8000000 in
set_option maxRecDepth 100000 in
theorem words_digit.calls (a0 : Int) (r : Bool) (w : World) (h : words_digit.f a0 = some r) :
    Calls Try.prog 91 #[.int .u8 a0] w fun e w' => e = .returned (.bool r) ∧ Drawn0 w w' := by
  have H : (if 48 ≤ a0 then (some (decide (a0 ≤ 57))) else (some false)) = some r := h
  clear h
  by_cases c2 : 48 ≤ a0
  · rw [if_pos c2] at H
    have c2b0 : decide (48 ≤ a0) = true := decide_eq_true c2
    clear c2
    obtain rfl := Option.some.inj H
    go_enter Try.func91, Try.ntmps91
    go_wp2
    go_ret
    exact ⟨by first | rfl | (simp; done) | (simp [*]; done), by repeat (first | exact Drawn0.refl _ | apply Drawn0.step)⟩
  · rw [if_neg c2] at H
    have c2b0 : decide (48 ≤ a0) = false := decide_eq_false c2
    clear c2
    obtain rfl := Option.some.inj H
    go_enter Try.func91, Try.ntmps91
    go_wp2
    go_ret
    exact ⟨by first | rfl | (simp; done) | (simp [*]; done), by repeat (first | exact Drawn0.refl _ | apply Drawn0.step)⟩

end Go.Proofs.Ytmgeoombebkfaaa.PDeliverSides
